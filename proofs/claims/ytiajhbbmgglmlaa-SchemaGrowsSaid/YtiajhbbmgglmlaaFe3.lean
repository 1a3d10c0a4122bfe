/-
  Lemmas for the claim.
-/
import Derived.Test.YtiajhbbmgglmlaaFe2
set_option linter.all false
namespace Go.Proofs.Ytiajhbbmgglmlaa
open Sw
def n_slices_IndexFunc_api_Field_c1 (t0 t1 t8 : Value) (next1 : Value → World → Prop) (R : Ending → World → Prop) (w : World) : Prop :=
 opV Try.prog (Instr.indexAt 48 t0 t8) (panK R) w fun t14 w =>
 opV Try.prog (Instr.loadAt 28 t14) (panK R) w fun t15 w =>
 callV Try.prog t1 #[t15] (panK R) w fun t16 w =>
 condP t16 (
 R (.returned t8) w) (
 opV Try.prog (binS .add 3 true t8 (.int .i64 1)) (panK R) w fun t18 w =>
 next1 t18 w)
def n_slices_IndexFunc_api_Field (t0 t1 : Value) (R : Ending → World → Prop) (w : World) : Prop :=
 opV Try.prog (Builtin.len_ #[48] 3 #[t0]) (panK R) w fun t7 w =>
 loop1 (fun t8 w next1 =>
 opV Try.prog (binS .lss 3 false t8 t7) (panK R) w fun t9 w =>
 condP t9 (
 n_slices_IndexFunc_api_Field_c1 t0 t1 t8 next1 R w) (
 R (.returned (.int .i64 (-1))) w)) (.int .i64 0) w
set_option maxRecDepth 100000 in
set_option maxHeartbeats 4000000 in
theorem n_slices_IndexFunc_api_Field_sound {t0 t1 : Value} {R : Ending → World → Prop} {w : World} (h : n_slices_IndexFunc_api_Field t0 t1 R w) : Calls Try.prog 59 #[t0, t1] w R := by
  refine calls_of_den (args := [t0, t1]) Try.func59 rfl (Nat.le_of_ble_eq_true rfl) ?_
  unfold n_slices_IndexFunc_api_Field at h
  refine zs <| zr <| zm <| zn <| zk <| zs <| zs <| zr <| zm ?_
  refine zx h fun t7 w h => ?_
  refine zm <| zn <| zk <| sim_block ?_
  obtain ⟨I, μ, h0, hr⟩ := h
  refine sim_loop [4, 5, 8, 9, 10, 11, 12, 13, 14, 15, 16, 17, 18] (by kernel_rfl) (fun ρ w => I (ρ 8) w) (fun ρ w => μ (ρ 8) w) h0 (fun σ w hI => ?_)
  have h := hr _ _ hI
  clear hr h0 hI
  refine zs <| zr ?_
  refine zb h fun t9 w h => ?_
  refine zn <| zk <| zs ?_
  refine sim_cond h rfl (fun h => ?_) (fun h => ?_)
  · refine sim_skip <| zk <| zs <| sim_block <| zs <| zr <| zm <| zm <| zn <| zk <| zs <| zr <| zm <| zm <| zm ?_
    refine zv h fun t14 w h => ?_
    refine zv h fun t15 w h => ?_
    refine sim_callV h rfl rfl (fun _ _ h => ⟨rfl, h⟩) ?_; intro t16 w h
    refine zn <| zk ?_
    refine sim_cond h rfl (fun h => ?_) (fun h => ?_)
    · refine zs <| zr <| zm <| zm <| zn <| zk <| sim_ret <| sim_block_ret <| sim_then_ret <| sim_then_ret <| sim_block_ret <| sim_then_ret ?_
      exact body_ret1 rfl rfl h
    · refine sim_skip <| sim_block_normal <| zk <| zr ?_
      refine zb h fun t18 w h => ?_
      refine zm <| zn <| zk ?_
      exact ⟨rfl, h⟩
  · refine sim_exit <| sim_then_exit <| sim_then_exit <| sim_block_hit <| zk <| zs <| zr <| zm <| zn <| zk <| sim_ret ?_
    exact body_ret1 rfl rfl h
def n_slices_Index_string_c1 (t0 t1 t8 : Value) (next1 : Value → World → Prop) (R : Ending → World → Prop) (w : World) : Prop :=
 opV Try.prog (Instr.indexAt 63 t0 t8) (panK R) w fun t14 w =>
 opV Try.prog (Instr.loadAt 9 t14) (panK R) w fun t15 w =>
 opV Try.prog (binS .eql 9 false t1 t15) (panK R) w fun t16 w =>
 condP t16 (
 R (.returned t8) w) (
 opV Try.prog (binS .add 3 true t8 (.int .i64 1)) (panK R) w fun t18 w =>
 next1 t18 w)
def n_slices_Index_string (t0 t1 : Value) (R : Ending → World → Prop) (w : World) : Prop :=
 opV Try.prog (Builtin.len_ #[63] 3 #[t0]) (panK R) w fun t7 w =>
 loop1 (fun t8 w next1 =>
 opV Try.prog (binS .lss 3 false t8 t7) (panK R) w fun t9 w =>
 condP t9 (
 n_slices_Index_string_c1 t0 t1 t8 next1 R w) (
 R (.returned (.int .i64 (-1))) w)) (.int .i64 0) w
set_option maxRecDepth 100000 in
set_option maxHeartbeats 4000000 in
theorem n_slices_Index_string_sound {t0 t1 : Value} {R : Ending → World → Prop} {w : World} (h : n_slices_Index_string t0 t1 R w) : Calls Try.prog 60 #[t0, t1] w R := by
  refine calls_of_den (args := [t0, t1]) Try.func60 rfl (Nat.le_of_ble_eq_true rfl) ?_
  unfold n_slices_Index_string at h
  refine zs <| zr <| zm <| zn <| zk <| zs <| zs <| zr <| zm ?_
  refine zx h fun t7 w h => ?_
  refine zm <| zn <| zk <| sim_block ?_
  obtain ⟨I, μ, h0, hr⟩ := h
  refine sim_loop [4, 5, 8, 9, 10, 11, 12, 13, 14, 15, 16, 17, 18] (by kernel_rfl) (fun ρ w => I (ρ 8) w) (fun ρ w => μ (ρ 8) w) h0 (fun σ w hI => ?_)
  have h := hr _ _ hI
  clear hr h0 hI
  refine zs <| zr ?_
  refine zb h fun t9 w h => ?_
  refine zn <| zk <| zs ?_
  refine sim_cond h rfl (fun h => ?_) (fun h => ?_)
  · refine sim_skip <| zk <| zs <| sim_block <| zs <| zr <| zm <| zm <| zn <| zk <| zs <| zr <| zm <| zm <| zm ?_
    refine zv h fun t14 w h => ?_
    refine zv h fun t15 w h => ?_
    refine zb h fun t16 w h => ?_
    refine zn <| zk ?_
    refine sim_cond h rfl (fun h => ?_) (fun h => ?_)
    · refine zs <| zr <| zm <| zm <| zn <| zk <| sim_ret <| sim_block_ret <| sim_then_ret <| sim_then_ret <| sim_block_ret <| sim_then_ret ?_
      exact body_ret1 rfl rfl h
    · refine sim_skip <| sim_block_normal <| zk <| zr ?_
      refine zb h fun t18 w h => ?_
      refine zm <| zn <| zk ?_
      exact ⟨rfl, h⟩
  · refine sim_exit <| sim_then_exit <| sim_then_exit <| sim_block_hit <| zk <| zs <| zr <| zm <| zn <| zk <| sim_ret ?_
    exact body_ret1 rfl rfl h
def n_schema_examined_1_c1 (t0 t1 t3 : Value) (K1 : World → Prop) (R : Ending → World → Prop) (w : World) : Prop :=
 opV Try.prog (Instr.typeAssert t3 20 68 true) (panK R) w fun t8 w =>
 opV Try.prog (Instr.extract t8 0) (panK R) w fun t9 w =>
 opV Try.prog (Instr.extract t8 1) (panK R) w fun t10 w =>
 opU Try.prog (Instr.storeAt 68 t0 t9) (panK R) w fun w =>
 opU Try.prog (Instr.storeAt 4 t1 t10) (panK R) w fun w =>
 opV Try.prog (Instr.loadAt 4 t1) (panK R) w fun t11 w =>
 opV Try.prog (Op.unary .not t11) (panK R) w fun t12 w =>
 condP t12 (
 opV Try.prog (Instr.panic t3) (panK R) w fun _ w =>
 False) (
 K1 w)
def n_schema_examined_1 (t0 t1 t3 : Value) (R : Ending → World → Prop) (w : World) : Prop :=
 opV Try.prog (binS .neq 20 true t3 .nilIface) (panK R) w fun t5 w =>
 joinK (fun (w : World) =>
 R (.returned (.tuple #[])) w) fun K1 =>
 condP t5 (
 n_schema_examined_1_c1 t0 t1 t3 K1 R w) (
 K1 w)
set_option maxRecDepth 100000 in
set_option maxHeartbeats 4000000 in
theorem n_schema_examined_1_sound {t0 t1 : Value} {u : FrameMode} {R : Ending → FrameMode → World → Prop} {w : World} (h : n_schema_examined_1 t0 t1 (Sw.recM u).1 (fun e w => R e (Sw.recM u).2 w) w) : CallsDIn Fence.wide 0 Try.prog 61 #[t0, t1] u w R := by
  refine calls_of_denR (args := [t0, t1]) (d := 3) Try.func61 rfl (Nat.le_of_ble_eq_true rfl) rfl rfl rfl rfl ?_
  generalize (Sw.recM u).1 = t3 at h ⊢
  generalize hR : (fun e w => R e (Sw.recM u).2 w) = R' at h ⊢
  clear hR
  revert h
  generalize R' = R
  intro h
  unfold n_schema_examined_1 at h
  refine zm <| zn <| zs <| zr <| zm ?_
  refine zb h fun t5 w h => ?_
  refine zn <| zk ?_
  refine joinK_elim h (fun K1 hK h => ?_)
  refine sim_joinQ [6, 7, 8, 9, 10, 11, 12, 13] (fun ρ w => K1 w) (fun _ hkK1 => ?_) (fun σ w h => ?_)
  · refine sim_cond h rfl (fun h => ?_) (fun h => ?_)
    · refine zs <| zr <| zm ?_
      refine zv h fun t8 w h => ?_
      refine zm ?_
      refine zv h fun t9 w h => ?_
      refine zv h fun t10 w h => ?_
      refine zu h fun w h => ?_
      refine zu h fun w h => ?_
      refine zn <| zk <| zs <| zr ?_
      refine zv h fun t11 w h => ?_
      refine zv h fun t12 w h => ?_
      refine zn <| zk ?_
      refine sim_cond h rfl (fun h => ?_) (fun h => ?_)
      · refine zr <| zm ?_
        refine zv h fun _ w h => ?_
        refine zn ?_
        exact h.elim
      · refine sim_skip <| zk ?_
        exact zt hkK1 h
    · refine sim_skip <| zk ?_
      exact zt hkK1 h
  subst hK
  refine body_normal ?_
  exact body_ret0 rfl h
def n_schema_checker_need_c1 (t0 t2 : Value) (C1 : World → Prop) (R : Ending → World → Prop) (w : World) : Prop :=
 qN Try.prog C1 (nilN t0) fun t9 =>
 qV Try.prog C1 (Instr.fieldAt 101 t9 3) fun t10 =>
 qV Try.prog C1 (Instr.loadAt 3 t10) fun t11 =>
 qN Try.prog C1 (nilN t0) fun t13 =>
 qV Try.prog C1 (Instr.fieldAt 101 t13 4) fun t14 =>
 qV Try.prog C1 (Instr.loadAt 3 t14) fun t15 =>
 qV Try.prog C1 (Instr.build 68 #[(0, t11), (1, t15), (2, t2)]) fun t17 =>
 qV Try.prog C1 (Instr.makeInterface 68 t17) fun t18 =>
 opV Try.prog (Instr.panic t18) (panK R) w fun _ w =>
 False
def n_schema_checker_need (t0 t1 t2 : Value) (R : Ending → World → Prop) (w : World) : Prop :=
 opV Try.prog (Op.unary .not t1) (panK R) w fun t7 w =>
 condP t7 (
 drawK w fun C1 w =>
 n_schema_checker_need_c1 t0 t2 C1 R w) (
 R (.returned (.tuple #[])) w)
set_option maxRecDepth 100000 in
set_option maxHeartbeats 4000000 in
theorem n_schema_checker_need_sound {t0 t1 t2 : Value} {R : Ending → World → Prop} {w : World} (h : n_schema_checker_need t0 t1 t2 R w) : Calls Try.prog 62 #[t0, t1, t2] w R := by
  refine calls_of_den (args := [t0, t1, t2]) Try.func62 rfl (Nat.le_of_ble_eq_true rfl) ?_
  unfold n_schema_checker_need at h
  refine zs <| zr <| zm ?_
  refine zv h fun t7 w h => ?_
  refine zn <| zk ?_
  refine sim_cond h rfl (fun h => ?_) (fun h => ?_)
  · obtain ⟨C1, hC, h⟩ := h
    refine sim_draw [8, 9, 10, 11, 12, 13, 14, 15, 16, 17, 18] (by kernel_rfl) (by kernel_rfl) C1 ?_
    refine zw 0 hC ?_
    obtain ⟨t9, hv, h⟩ := h
    refine sim_dsilent 1 hC rfl (by kernel_rfl) (by kernel_rfl) (fun _ _ => rfl) rfl (Sw.qN_run rfl hv) ?_
    refine ze 2 hC h fun t10 h => ?_
    refine ze 3 hC h fun t11 h => ?_
    refine zw 4 hC ?_
    obtain ⟨t13, hv, h⟩ := h
    refine sim_dsilent 5 hC rfl (by kernel_rfl) (by kernel_rfl) (fun _ _ => rfl) rfl (Sw.qN_run rfl hv) ?_
    refine ze 6 hC h fun t14 h => ?_
    refine ze 7 hC h fun t15 h => ?_
    refine zw 8 hC ?_
    obtain ⟨t17, hv, h⟩ := h
    refine sim_dsilent 9 hC rfl (by kernel_rfl) (by kernel_rfl) (fun _ _ => rfl) rfl (Sw.qV_build rfl hv) ?_
    refine ze 10 hC h fun t18 h => ?_
    refine sim_dloud 11 rfl (by kernel_rfl) (fun _ _ => rfl) ?_
    refine sim_val h rfl rfl (fun _ _ h _ _ => ⟨rfl, h⟩) ?_; intro _ w h
    refine zn ?_
    exact h.elim
  · refine sim_skip ?_
    refine body_normal ?_
    exact body_ret0 rfl h
def n_size_Name_c1 (t0 t11 t15 : Value) (R : Ending → World → Prop) (w : World) : Prop :=
 pickK t11 t15 (.bool false) fun t16 =>
 joinK (fun (t22 : Value) (w : World) =>
 pickK t16 t22 (.bool false) fun t23 =>
 R (.returned t23) w) fun K2 =>
 guardP t16 true (
 opV Try.prog (Go.convert 9 121 t0) (panK R) w fun t19 w =>
 callK Try.prog 74 #[t19, (.func (.func 70) #[] #[])] (panK R) w fun t21 w =>
 opV Try.prog (Op.unary .not t21) (panK R) w fun t22 w =>
 K2 t22 w) (
 K2 undef w)
def n_size_Name_c2 (t0 t11 : Value) (R : Ending → World → Prop) (w : World) : Prop :=
 joinK (fun (t15 : Value) (w : World) =>
 n_size_Name_c1 t0 t11 t15 R w) fun K1 =>
 guardP t11 true (
 opV Try.prog (Instr.index 9 t0 (.int .i64 0)) (panK R) w fun t14 w =>
 callK Try.prog 71 #[t14] (panK R) w fun t15 w =>
 K1 t15 w) (
 K1 undef w)
def n_size_Name (t0 : Value) (R : Ending → World → Prop) (w : World) : Prop :=
 opV Try.prog (Builtin.len_ #[9] 3 #[t0]) (panK R) w fun t5 w =>
 opV Try.prog (binS .geq 3 true t5 (.int .i64 1)) (panK R) w fun t6 w =>
 opV Try.prog (Builtin.len_ #[9] 3 #[t0]) (panK R) w fun t8 w =>
 opV Try.prog (binS .leq 3 true t8 (.int .i64 32)) (panK R) w fun t9 w =>
 opV Try.prog (Instr.buildSlice 123 2 #[(0, t6), (1, t9)]) (panK R) w fun t10 w =>
 callK Try.prog 73 #[t10] (panK R) w fun t11 w =>
 n_size_Name_c2 t0 t11 R w
set_option maxRecDepth 100000 in
set_option maxHeartbeats 4000000 in
theorem n_size_Name_sound {t0 : Value} {R : Ending → World → Prop} {w : World} (h : n_size_Name t0 R w) : Calls Try.prog 63 #[t0] w R := by
  refine calls_of_den (args := [t0]) Try.func63 rfl (Nat.le_of_ble_eq_true rfl) ?_
  unfold n_size_Name at h
  refine zs <| zr <| zm <| zn <| zk <| zs <| zr <| zm <| zn <| zk <| zs <| sim_regionG ?_
  refine sim_seg 9 rfl ?_
  refine zm ?_
  refine zx h fun t5 w h => ?_
  refine zb h fun t6 w h => ?_
  refine zm ?_
  refine zx h fun t8 w h => ?_
  refine zb h fun t9 w h => ?_
  refine sim_buildSlice h rfl (fun _ _ h => ⟨rfl, h⟩) ?_; intro t10 w h
  refine zc h c73 fun t11 w h => ?_
  refine zm <| zn ?_
  refine joinK_elim h (fun K1 hK h => ?_)
  refine sim_groupJ 3 8 true [13, 14, 15] (fun ρ w => K1 (ρ 15) w) rfl rfl (fun T hT => guardP_mono h (fun h => ?_) (fun h => ?_)) (fun σ w h => ?_)
  · refine zm ?_
    refine zv h fun t14 w h => ?_
    refine zc h c71 fun t15 w h => ?_
    refine zn ?_
    exact zt hT h
  · exact zt hT h
  subst hK
  refine sim_seg 2 rfl ?_
  refine sim_pick h rfl rfl rfl ?_; intro t16 h
  refine zm <| zn ?_
  refine joinK_elim h (fun K2 hK h => ?_)
  refine sim_groupJ 5 13 true [18, 19, 20, 21, 22] (fun ρ w => K2 (ρ 22) w) rfl rfl (fun T hT => guardP_mono h (fun h => ?_) (fun h => ?_)) (fun σ w h => ?_)
  · refine zm ?_
    refine zv h fun t19 w h => ?_
    refine zm ?_
    refine zc h c74 fun t21 w h => ?_
    refine zv h fun t22 w h => ?_
    refine zn ?_
    exact zt hT h
  · exact zt hT h
  subst hK
  refine sim_seg 2 rfl ?_
  refine sim_pick h rfl rfl rfl ?_; intro t23 h
  refine zm <| zn <| sim_end <| zk <| sim_ret ?_
  exact body_ret1 rfl rfl h
def n_schema_checker_next_c1 (t6 t52 t64 t68 : Value) (next6 : Value → World → Prop) (ds : List Deferred) (R : Ending → World → Prop) (w : World) : Prop :=
 pickK t64 t68 (.bool false) fun t69 =>
 opU Try.prog (Instr.storeAt 4 t6 t69) (outQ Try.prog ds [] R) w fun w =>
 opV Try.prog (binS .add 3 true t52 (.int .i64 1)) (outQ Try.prog ds [] R) w fun t70 w =>
 next6 t70 w
def n_schema_checker_next_c2 (t6 t8 t52 : Value) (next6 : Value → World → Prop) (ds : List Deferred) (R : Ending → World → Prop) (w : World) : Prop :=
 opV Try.prog (Instr.loadAt 4 t6) (outQ Try.prog ds [] R) w fun t64 w =>
 joinK (fun (t68 : Value) (w : World) =>
 n_schema_checker_next_c1 t6 t52 t64 t68 next6 ds R w) fun K7 =>
 guardP t64 true (
 opV Try.prog (Instr.fieldAt 28 t8 4) (outQ Try.prog ds [] R) w fun t66 w =>
 opV Try.prog (Instr.loadAt 4 t66) (outQ Try.prog ds [] R) w fun t67 w =>
 opV Try.prog (Op.unary .not t67) (outQ Try.prog ds [] R) w fun t68 w =>
 K7 t68 w) (
 K7 undef w)
def n_schema_checker_next_c3 (t2 t6 t76 : Value) (Kr8 : World → Prop) (Qr8 : List PanicEntry → World → Prop) (R : Ending → World → Prop) (w : World) : Prop :=
 opV Try.prog (Instr.loadAt 4 t6) Qr8 w fun t85 w =>
 joinK (fun (t92 : Value) (w : World) =>
 pickK t85 t92 (.bool false) fun t93 =>
 opU Try.prog (Instr.storeAt 4 t6 t93) Qr8 w fun w =>
 Kr8 w) fun K11 =>
 guardP t85 true (
 opV Try.prog (Instr.loadAt 93 t2) Qr8 w fun t87 w =>
 opN Try.prog (nilN t87) Qr8 w fun t88 w =>
 opV Try.prog (Instr.fieldAt 101 t88 2) Qr8 w fun t89 w =>
 opV Try.prog (Instr.loadAt 99 t89) Qr8 w fun t90 w =>
 opV Try.prog (Instr.lookup 99 t90 t76 false) Qr8 w fun t92 w =>
 K11 t92 w) (
 K11 undef w)
def n_schema_checker_next_c4 (t2 t6 t9 t76 : Value) (C9 : World → Prop) (Kr8 : World → Prop) (Qr8 : List PanicEntry → World → Prop) (R : Ending → World → Prop) (w : World) : Prop :=
 qV Try.prog C9 (Instr.loadAt 3 t9) fun t77 =>
 qV Try.prog C9 (Instr.loadAt 93 t2) fun t78 =>
 qN Try.prog C9 (nilN t78) fun t79 =>
 qV Try.prog C9 (Instr.fieldAt 101 t79 1) fun t80 =>
 qV Try.prog C9 (Instr.loadAt 98 t80) fun t81 =>
 qV Try.prog C9 (Instr.lookup 98 t81 t76 false) fun t83 =>
 qV Try.prog C9 (Builtin.max_ #[3, 3] 3 #[t77, t83]) fun t84 =>
 opU Try.prog (Instr.storeAt 3 t9 t84) Qr8 w fun w =>
 turnK w fun C10 w =>
 n_schema_checker_next_c3 t2 t6 t76 Kr8 Qr8 R w
def n_schema_checker_next_c5 (t2 t9 : Value) (ds : List Deferred) (R : Ending → World → Prop) (w : World) : Prop :=
 opV Try.prog (Instr.loadAt 93 t2) (outQ Try.prog ds [] R) w fun t113 w =>
 opV Try.prog (Instr.loadAt 3 t9) (outQ Try.prog ds [] R) w fun t114 w =>
 opV Try.prog (binS .lss 3 true t114 (.int .i64 16)) (outQ Try.prog ds [] R) w fun t115 w =>
 callK Try.prog 62 #[t113, t115, (.int .i64 10)] (outQ Try.prog ds [] R) w fun t116 w =>
 outX Try.prog ds [] R w
def n_schema_checker_next_c6 (t2 t9 t103 t108 t111 : Value) (C12 : World → Prop) (ds : List Deferred) (R : Ending → World → Prop) (w : World) : Prop :=
 qV Try.prog C12 (Instr.extract t111 1) fun t112 =>
 opU Try.prog (Instr.entryStore 99 t103 t112 t108) (outQ Try.prog ds [] R) w fun w =>
 turnK w fun C13 w =>
 n_schema_checker_next_c5 t2 t9 ds R w
def n_schema_checker_next_c7 (t2 t9 t97 t103 t105 t107 t108 t109 : Value) (C12 : World → Prop) (ds : List Deferred) (R : Ending → World → Prop) (w : World) : Prop :=
 qV Try.prog C12 (Instr.extract t109 1) fun t110 =>
 opU Try.prog (Instr.entryStore 98 t97 t110 t107) (outQ Try.prog ds [] R) w fun w =>
 C12 w ∧ (
 opV Try.prog (Instr.mapEntry 99 t103 t105) (outQ Try.prog ds [] R) w fun t111 w =>
 C12 w ∧ (
 n_schema_checker_next_c6 t2 t9 t103 t108 t111 C12 ds R w))
def n_schema_checker_next_c8 (t2 t3 t6 t9 : Value) (C12 : World → Prop) (ds : List Deferred) (R : Ending → World → Prop) (w : World) : Prop :=
 qV Try.prog C12 (Instr.loadAt 93 t2) fun t94 =>
 qN Try.prog C12 (nilN t94) fun t95 =>
 qV Try.prog C12 (Instr.fieldAt 101 t95 1) fun t96 =>
 qV Try.prog C12 (Instr.loadAt 98 t96) fun t97 =>
 qV Try.prog C12 (Instr.fieldAt 50 t3 0) fun t98 =>
 qV Try.prog C12 (Instr.loadAt 9 t98) fun t99 =>
 qV Try.prog C12 (Instr.loadAt 93 t2) fun t100 =>
 qN Try.prog C12 (nilN t100) fun t101 =>
 qV Try.prog C12 (Instr.fieldAt 101 t101 2) fun t102 =>
 qV Try.prog C12 (Instr.loadAt 99 t102) fun t103 =>
 qV Try.prog C12 (Instr.fieldAt 50 t3 0) fun t104 =>
 qV Try.prog C12 (Instr.loadAt 9 t104) fun t105 =>
 qV Try.prog C12 (Instr.loadAt 3 t9) fun t106 =>
 qV Try.prog C12 (binS .add 3 true t106 (.int .i64 1)) fun t107 =>
 qV Try.prog C12 (Instr.loadAt 4 t6) fun t108 =>
 opV Try.prog (Instr.mapEntry 98 t97 t99) (outQ Try.prog ds [] R) w fun t109 w =>
 C12 w ∧ (
 n_schema_checker_next_c7 t2 t9 t97 t103 t105 t107 t108 t109 C12 ds R w)
def n_schema_checker_next_c9 (t2 t3 t6 t9 t75 : Value) (ds : List Deferred) (R : Ending → World → Prop) (w : World) : Prop :=
 rangeN Try.prog t75 ds (fun l8 t76 w Kr8 Xr8 Qr8 =>
 busyK l8 w fun w =>
 drawK w fun C9 w =>
 n_schema_checker_next_c4 t2 t6 t9 t76 C9 Kr8 Qr8 R w) (fun ch ds w => outQ Try.prog ds [] R ch w) w (fun ds w =>
 drawK w fun C12 w =>
 n_schema_checker_next_c8 t2 t3 t6 t9 C12 ds R w) []
def n_schema_checker_next_c10 (t2 t3 t6 : Value) (ds : List Deferred) (R : Ending → World → Prop) (w : World) : Prop :=
 opV Try.prog (Instr.loadAt 93 t2) (outQ Try.prog ds [] R) w fun t71 w =>
 opN Try.prog (nilN t71) (outQ Try.prog ds [] R) w fun t72 w =>
 opV Try.prog (Instr.fieldAt 101 t72 4) (outQ Try.prog ds [] R) w fun t73 w =>
 opU Try.prog (Instr.storeAt 3 t73 (.int .i64 (-1))) (outQ Try.prog ds [] R) w fun w =>
 opV Try.prog (Instr.alloc 3 true (.tuple #[])) (outQ Try.prog ds [] R) w fun t9 w =>
 opU Try.prog (Instr.storeAt 3 t9 (.int .i64 0)) (outQ Try.prog ds [] R) w fun w =>
 opV Try.prog (Instr.loadAt 50 t3) (outQ Try.prog ds [] R) w fun t74 w =>
 callK Try.prog 24 #[t74] (outQ Try.prog ds [] R) w fun t75 w =>
 n_schema_checker_next_c9 t2 t3 t6 t9 t75 ds R w
def n_schema_checker_next_c11 (t2 t6 t50 t52 : Value) (next6 : Value → World → Prop) (ds : List Deferred) (R : Ending → World → Prop) (w : World) : Prop :=
 opV Try.prog (Instr.indexAt 48 t50 t52) (outQ Try.prog ds [] R) w fun t55 w =>
 opV Try.prog (Instr.loadAt 28 t55) (outQ Try.prog ds [] R) w fun t56 w =>
 opV Try.prog (Instr.alloc 28 true (.tuple #[])) (outQ Try.prog ds [] R) w fun t8 w =>
 opU Try.prog (Instr.storeAt 28 t8 t56) (outQ Try.prog ds [] R) w fun w =>
 opV Try.prog (Instr.loadAt 93 t2) (outQ Try.prog ds [] R) w fun t57 w =>
 opN Try.prog (nilN t57) (outQ Try.prog ds [] R) w fun t59 w =>
 opV Try.prog (Instr.fieldAt 101 t59 4) (outQ Try.prog ds [] R) w fun t60 w =>
 opU Try.prog (Instr.storeAt 3 t60 t52) (outQ Try.prog ds [] R) w fun w =>
 opV Try.prog (Instr.loadAt 93 t2) (outQ Try.prog ds [] R) w fun t61 w =>
 opV Try.prog (Instr.loadAt 28 t8) (outQ Try.prog ds [] R) w fun t62 w =>
 callK Try.prog 75 #[t61, t62] (outQ Try.prog ds [] R) w fun t63 w =>
 n_schema_checker_next_c2 t6 t8 t52 next6 ds R w
def n_schema_checker_next_c12 (t2 t3 t6 t50 t51 t52 : Value) (next6 : Value → World → Prop) (ds : List Deferred) (R : Ending → World → Prop) (w : World) : Prop :=
 opV Try.prog (binS .lss 3 false t52 t51) (outQ Try.prog ds [] R) w fun t53 w =>
 condP t53 (
 n_schema_checker_next_c11 t2 t6 t50 t52 next6 ds R w) (
 n_schema_checker_next_c10 t2 t3 t6 ds R w)
def n_schema_checker_next_c13 (t2 t3 : Value) (ds : List Deferred) (R : Ending → World → Prop) (w : World) : Prop :=
 opV Try.prog (Instr.alloc 4 true (.tuple #[])) (outQ Try.prog ds [] R) w fun t6 w =>
 opU Try.prog (Instr.storeAt 4 t6 (.bool true)) (outQ Try.prog ds [] R) w fun w =>
 opV Try.prog (Instr.fieldAt 50 t3 1) (outQ Try.prog ds [] R) w fun t49 w =>
 opV Try.prog (Instr.loadAt 48 t49) (outQ Try.prog ds [] R) w fun t50 w =>
 opV Try.prog (Builtin.len_ #[48] 3 #[t50]) (outQ Try.prog ds [] R) w fun t51 w =>
 loop1 (fun t52 w next6 =>
 n_schema_checker_next_c12 t2 t3 t6 t50 t51 t52 next6 ds R w) (.int .i64 0) w
def n_schema_checker_next_c14 (t2 t3 : Value) (ds : List Deferred) (R : Ending → World → Prop) (w : World) : Prop :=
 opV Try.prog (Instr.loadAt 93 t2) (outQ Try.prog ds [] R) w fun t37 w =>
 opV Try.prog (Instr.fieldAt 50 t3 1) (outQ Try.prog ds [] R) w fun t38 w =>
 opV Try.prog (Instr.loadAt 48 t38) (outQ Try.prog ds [] R) w fun t39 w =>
 opV Try.prog (Builtin.len_ #[48] 3 #[t39]) (outQ Try.prog ds [] R) w fun t40 w =>
 opV Try.prog (binS .geq 3 true t40 (.int .i64 1)) (outQ Try.prog ds [] R) w fun t41 w =>
 joinK (fun (t46 : Value) (w : World) =>
 pickK t41 t46 (.bool false) fun t47 =>
 callK Try.prog 62 #[t37, t47, (.int .i64 3)] (outQ Try.prog ds [] R) w fun t48 w =>
 n_schema_checker_next_c13 t2 t3 ds R w) fun K5 =>
 guardP t41 true (
 opV Try.prog (Instr.fieldAt 50 t3 1) (outQ Try.prog ds [] R) w fun t43 w =>
 opV Try.prog (Instr.loadAt 48 t43) (outQ Try.prog ds [] R) w fun t44 w =>
 opV Try.prog (Builtin.len_ #[48] 3 #[t44]) (outQ Try.prog ds [] R) w fun t45 w =>
 opV Try.prog (binS .leq 3 true t45 (.int .i64 40)) (outQ Try.prog ds [] R) w fun t46 w =>
 K5 t46 w) (
 K5 undef w)
def n_schema_checker_next_c15 (t2 t3 : Value) (C4 : World → Prop) (ds : List Deferred) (R : Ending → World → Prop) (w : World) : Prop :=
 qV Try.prog C4 (Instr.loadAt 93 t2) fun t24 =>
 qN Try.prog C4 (nilN t24) fun t25 =>
 qV Try.prog C4 (Instr.fieldAt 101 t25 1) fun t26 =>
 qV Try.prog C4 (Instr.loadAt 98 t26) fun t27 =>
 qV Try.prog C4 (Instr.fieldAt 50 t3 0) fun t28 =>
 qV Try.prog C4 (Instr.loadAt 9 t28) fun t29 =>
 qV Try.prog C4 (Instr.lookup 98 t27 t29 true) fun t30 =>
 qV Try.prog C4 (Instr.extract t30 0) fun t31 =>
 qV Try.prog C4 (Instr.extract t30 1) fun t32 =>
 opV Try.prog (Instr.loadAt 93 t2) (outQ Try.prog ds [] R) w fun t33 w =>
 opV Try.prog (Op.unary .not t32) (outQ Try.prog ds [] R) w fun t35 w =>
 callK Try.prog 62 #[t33, t35, (.int .i64 2)] (outQ Try.prog ds [] R) w fun t36 w =>
 n_schema_checker_next_c14 t2 t3 ds R w
def n_schema_checker_next_c16 (t2 t3 : Value) (C3 : World → Prop) (ds : List Deferred) (R : Ending → World → Prop) (w : World) : Prop :=
 qV Try.prog C3 (Instr.loadAt 93 t2) fun t18 =>
 qV Try.prog C3 (Instr.fieldAt 50 t3 0) fun t19 =>
 qV Try.prog C3 (Instr.loadAt 9 t19) fun t20 =>
 callK Try.prog 63 #[t20] (outQ Try.prog ds [] R) w fun t21 w =>
 C3 w ∧ (
 callK Try.prog 62 #[t18, t21, (.int .i64 1)] (outQ Try.prog ds [] R) w fun t22 w =>
 C3 w ∧ (
 drawK w fun C4 w =>
 n_schema_checker_next_c15 t2 t3 C4 ds R w))
def n_schema_checker_next_c17 (t2 t3 t12 : Value) (C1 : World → Prop) (ds : List Deferred) (R : Ending → World → Prop) (w : World) : Prop :=
 qN Try.prog C1 (nilN t12) fun t16 =>
 qV Try.prog C1 (Instr.fieldAt 101 t16 4) fun t17 =>
 opU Try.prog (Instr.storeAt 3 t17 (.int .i64 (-1))) (outQ Try.prog ds [] R) w fun w =>
 turnK w fun C2 w =>
 drawK w fun C3 w =>
 n_schema_checker_next_c16 t2 t3 C3 ds R w
def n_schema_checker_next_c18 (t2 t3 : Value) (C1 : World → Prop) (ds : List Deferred) (R : Ending → World → Prop) (w : World) : Prop :=
 qV Try.prog C1 (Instr.loadAt 93 t2) fun t11 =>
 qV Try.prog C1 (Instr.loadAt 93 t2) fun t12 =>
 qV Try.prog C1 (Instr.loadAt 50 t3) fun t13 =>
 qN Try.prog C1 (nilN t11) fun t14 =>
 qV Try.prog C1 (Instr.fieldAt 101 t14 5) fun t15 =>
 opU Try.prog (Instr.storeAt 50 t15 t13) (outQ Try.prog ds [] R) w fun w =>
 C1 w ∧ (
 n_schema_checker_next_c17 t2 t3 t12 C1 ds R w)
def n_schema_checker_next (t0 t1 : Value) (R : Ending → World → Prop) (w : World) : Prop :=
 (fun (ds : List Deferred) =>
 opV Try.prog (Instr.box 93 t0) (outQ Try.prog ds [] R) w fun t2 w =>
 opV Try.prog (Instr.box 50 t1) (outQ Try.prog ds [] R) w fun t3 w =>
 drawK w fun C1 w =>
 n_schema_checker_next_c18 t2 t3 C1 ds R w) []
set_option maxRecDepth 100000 in
set_option maxHeartbeats 4000000 in
theorem n_schema_checker_next_sound {t0 t1 : Value} {R : Ending → World → Prop} {w : World} (h : n_schema_checker_next t0 t1 R w) : Calls Try.prog 64 #[t0, t1] w R := by
  refine calls_of_denM (args := [t0, t1]) Try.func64 rfl (Nat.le_of_ble_eq_true rfl) ?_
  unfold n_schema_checker_next at h
  dsimp only at h
  refine zs <| zr ?_
  refine zq h fun t2 w h => ?_
  refine zq h fun t3 w h => ?_
  refine zn <| zk <| zs ?_
  obtain ⟨C1, hC, h⟩ := h
  refine sim_draw [11, 12, 13, 14, 15, 16, 17] (by kernel_rfl) (by kernel_rfl) C1 ?_
  refine ze 0 hC h fun t11 h => ?_
  refine ze 1 hC h fun t12 h => ?_
  refine ze 2 hC h fun t13 h => ?_
  obtain ⟨t14, hv, h⟩ := h
  refine sim_dsilent 3 hC rfl (by kernel_rfl) (by kernel_rfl) (fun _ _ => rfl) rfl (Sw.qN_run rfl hv) ?_
  refine ze 4 hC h fun t15 h => ?_
  refine sim_dloud 5 rfl (by kernel_rfl) (fun _ _ => rfl) ?_
  refine sim_unit h rfl rfl (fun _ _ h => outQ_ofD rfl rfl h) ?_; intro w h
  refine zn ?_
  obtain ⟨hC, h⟩ := h
  refine ⟨hC, ?_⟩
  obtain ⟨t16, hv, h⟩ := h
  refine sim_dsilent 6 hC rfl (by kernel_rfl) (by kernel_rfl) (fun _ _ => rfl) rfl (Sw.qN_run rfl hv) ?_
  refine ze 7 hC h fun t17 h => ?_
  refine sim_dturn 8 2 rfl (by kernel_rfl) (by kernel_rfl) (fun _ _ => rfl) ?_
  refine sim_unit h rfl rfl (fun _ _ h => outQ_ofD rfl rfl h) ?_; intro w h
  refine zn ?_
  obtain ⟨C2, hC, h⟩ := h
  refine ⟨C2, hC, ?_⟩
  refine sim_dend (by kernel_rfl) ?_
  refine zk <| zs ?_
  obtain ⟨C3, hC, h⟩ := h
  refine sim_draw [18, 19, 20, 21, 22] (by kernel_rfl) (by kernel_rfl) C3 ?_
  refine ze 0 hC h fun t18 h => ?_
  refine ze 1 hC h fun t19 h => ?_
  refine ze 2 hC h fun t20 h => ?_
  refine sim_dloud 3 rfl (by kernel_rfl) (fun _ _ => rfl) ?_
  refine sim_call h c63 rfl (fun _ _ h => outQ_ofD rfl rfl h) ?_; intro t21 w h
  refine zn ?_
  obtain ⟨hC, h⟩ := h
  refine ⟨hC, ?_⟩
  refine sim_dloud 4 rfl (by kernel_rfl) (fun _ _ => rfl) ?_
  refine sim_call h c62 rfl (fun _ _ h => outQ_ofD rfl rfl h) ?_; intro t22 w h
  refine zn ?_
  obtain ⟨hC, h⟩ := h
  refine ⟨hC, ?_⟩
  refine sim_dend (by kernel_rfl) ?_
  refine zk <| zs ?_
  obtain ⟨C4, hC, h⟩ := h
  refine sim_draw [4, 5, 23, 24, 25, 26, 27, 28, 29, 30, 31, 32] (by kernel_rfl) (by kernel_rfl) C4 ?_
  refine ze 0 hC h fun t24 h => ?_
  obtain ⟨t25, hv, h⟩ := h
  refine sim_dsilent 1 hC rfl (by kernel_rfl) (by kernel_rfl) (fun _ _ => rfl) rfl (Sw.qN_run rfl hv) ?_
  refine ze 2 hC h fun t26 h => ?_
  refine ze 3 hC h fun t27 h => ?_
  refine ze 4 hC h fun t28 h => ?_
  refine ze 5 hC h fun t29 h => ?_
  refine ze 6 hC h fun t30 h => ?_
  refine zw 7 hC ?_
  refine ze 8 hC h fun t31 h => ?_
  refine ze 9 hC h fun t32 h => ?_
  refine zw 10 hC ?_
  refine zw 11 hC ?_
  refine sim_dend (by kernel_rfl) ?_
  refine zk <| zs <| zr ?_
  refine zq h fun t33 w h => ?_
  refine zm ?_
  refine zq h fun t35 w h => ?_
  refine sim_call h c62 rfl (fun _ _ h => outQ_of rfl h) ?_; intro t36 w h
  refine zn <| zk <| zs <| sim_regionG ?_
  refine sim_seg 6 rfl ?_
  refine zq h fun t37 w h => ?_
  refine zq h fun t38 w h => ?_
  refine zq h fun t39 w h => ?_
  refine sim_builtin h rfl (fun _ _ h => outQ_of rfl h) ?_; intro t40 w h
  refine sim_bin h rfl rfl rfl (fun _ _ h => outQ_of rfl h) ?_; intro t41 w h
  refine zm <| zn ?_
  refine joinK_elim h (fun K5 hK h => ?_)
  refine sim_groupJ 4 5 true [43, 44, 45, 46] (fun ρ w => K5 (ρ 46) w) rfl rfl (fun T hT => guardP_mono h (fun h => ?_) (fun h => ?_)) (fun σ w h => ?_)
  · refine zq h fun t43 w h => ?_
    refine zq h fun t44 w h => ?_
    refine sim_builtin h rfl (fun _ _ h => outQ_of rfl h) ?_; intro t45 w h
    refine sim_bin h rfl rfl rfl (fun _ _ h => outQ_of rfl h) ?_; intro t46 w h
    refine zn ?_
    exact zt hT h
  · exact zt hT h
  subst hK
  refine sim_seg 2 rfl ?_
  refine sim_pick h rfl rfl rfl ?_; intro t47 h
  refine sim_call h c62 rfl (fun _ _ h => outQ_of rfl h) ?_; intro t48 w h
  refine zn <| sim_end <| zk <| zs <| zr ?_
  refine zq h fun t6 w h => ?_
  refine sim_unit h rfl rfl (fun _ _ h => outQ_of rfl h) ?_; intro w h
  refine zn <| zk <| zs <| zs <| zr ?_
  refine zq h fun t49 w h => ?_
  refine zq h fun t50 w h => ?_
  refine sim_builtin h rfl (fun _ _ h => outQ_of rfl h) ?_; intro t51 w h
  refine zm <| zn <| zk <| sim_block ?_
  obtain ⟨I, μ, h0, hr⟩ := h
  refine sim_loop [7, 8, 52, 53, 54, 55, 56, 57, 58, 59, 60, 61, 62, 63, 64, 65, 66, 67, 68, 69, 70] (by kernel_rfl) (fun ρ w => I (ρ 52) w) (fun ρ w => μ (ρ 52) w) h0 (fun σ w hI => ?_)
  have h := hr _ _ hI
  clear hr h0 hI
  refine zs <| zr ?_
  refine sim_bin h rfl rfl rfl (fun _ _ h => outQ_of rfl h) ?_; intro t53 w h
  refine zn <| zk <| zs ?_
  refine sim_cond h rfl (fun h => ?_) (fun h => ?_)
  · refine sim_skip <| zk <| zs <| sim_block <| zs <| zr <| zm ?_
    refine zq h fun t55 w h => ?_
    refine zq h fun t56 w h => ?_
    refine zq h fun t8 w h => ?_
    refine zm ?_
    refine sim_unit h rfl rfl (fun _ _ h => outQ_of rfl h) ?_; intro w h
    refine zn <| zk <| zs <| zr ?_
    refine zq h fun t57 w h => ?_
    refine zm ?_
    refine sim_next h rfl rfl (fun _ _ h => outQ_of rfl h) ?_; intro t59 w h
    refine zq h fun t60 w h => ?_
    refine sim_unit h rfl rfl (fun _ _ h => outQ_of rfl h) ?_; intro w h
    refine zn <| zk <| zs <| zr ?_
    refine zq h fun t61 w h => ?_
    refine zq h fun t62 w h => ?_
    refine sim_call h c75 rfl (fun _ _ h => outQ_of rfl h) ?_; intro t63 w h
    refine zn <| zk <| sim_regionG ?_
    refine sim_seg 2 rfl ?_
    refine zq h fun t64 w h => ?_
    refine zm <| zn ?_
    refine joinK_elim h (fun K7 hK h => ?_)
    refine sim_groupJ 3 1 true [66, 67, 68] (fun ρ w => K7 (ρ 68) w) rfl rfl (fun T hT => guardP_mono h (fun h => ?_) (fun h => ?_)) (fun σ w h => ?_)
    · refine zq h fun t66 w h => ?_
      refine zq h fun t67 w h => ?_
      refine zq h fun t68 w h => ?_
      refine zn ?_
      exact zt hT h
    · exact zt hT h
    subst hK
    refine sim_seg 2 rfl ?_
    refine sim_pick h rfl rfl rfl ?_; intro t69 h
    refine sim_unit h rfl rfl (fun _ _ h => outQ_of rfl h) ?_; intro w h
    refine zn <| sim_end <| sim_block_normal <| zk <| zr ?_
    refine sim_bin h rfl rfl rfl (fun _ _ h => outQ_of rfl h) ?_; intro t70 w h
    refine zm <| zn <| zk ?_
    exact ⟨rfl, h⟩
  · refine sim_exit <| sim_then_exit <| sim_then_exit <| sim_block_hit <| zk <| zs <| zr ?_
    refine zq h fun t71 w h => ?_
    refine sim_next h rfl rfl (fun _ _ h => outQ_of rfl h) ?_; intro t72 w h
    refine zq h fun t73 w h => ?_
    refine sim_unit h rfl rfl (fun _ _ h => outQ_of rfl h) ?_; intro w h
    refine zn <| zk <| zs <| zr ?_
    refine zq h fun t9 w h => ?_
    refine sim_unit h rfl rfl (fun _ _ h => outQ_of rfl h) ?_; intro w h
    refine zn <| zk <| zs <| zs <| zr ?_
    refine zq h fun t74 w h => ?_
    refine sim_call h c24 rfl (fun _ _ h => outQ_of rfl h) ?_; intro t75 w h
    refine zn <| zk <| sim_block ?_
    refine sim_range [] h rfl (fun l8 t76 w Kr8 Xr8 Qr8 h => ?_) (fun ds w h => ?_) (fun c ds w h => ?_) (fun ch ds w h => outQ_of rfl h)
    · refine zr <| zm <| zn <| zk ?_
      obtain ⟨hr, h⟩ := h
      refine ⟨rfl, hr, fun w hb => ?_⟩
      have h := h w hb
      refine sim_block <| zs ?_
      obtain ⟨C9, hC, h⟩ := h
      refine sim_draw [77, 78, 79, 80, 81, 82, 83, 84] (by kernel_rfl) (by kernel_rfl) C9 ?_
      refine ze 0 hC h fun t77 h => ?_
      refine ze 1 hC h fun t78 h => ?_
      obtain ⟨t79, hv, h⟩ := h
      refine sim_dsilent 2 hC rfl (by kernel_rfl) (by kernel_rfl) (fun _ _ => rfl) rfl (Sw.qN_run rfl hv) ?_
      refine ze 3 hC h fun t80 h => ?_
      refine ze 4 hC h fun t81 h => ?_
      refine zw 5 hC ?_
      refine ze 6 hC h fun t83 h => ?_
      obtain ⟨t84, hv, h⟩ := h
      refine sim_dsilent 7 hC rfl (by kernel_rfl) (by kernel_rfl) (fun _ _ => rfl) rfl (Sw.qV_builtin rfl hv) ?_
      refine sim_dturn 8 1 rfl (by kernel_rfl) (by kernel_rfl) (fun _ _ => rfl) ?_
      refine sim_unit h rfl rfl (fun _ _ h _ _ => ⟨rfl, h⟩) ?_; intro w h
      refine zn ?_
      obtain ⟨C10, hC, h⟩ := h
      refine ⟨C10, hC, ?_⟩
      refine sim_dend (by kernel_rfl) ?_
      refine zk <| sim_regionG ?_
      refine sim_seg 2 rfl ?_
      refine zv h fun t85 w h => ?_
      refine zm <| zn ?_
      refine joinK_elim h (fun K11 hK h => ?_)
      refine sim_groupJ 6 1 true [87, 88, 89, 90, 91, 92] (fun ρ w => K11 (ρ 92) w) rfl rfl (fun T hT => guardP_mono h (fun h => ?_) (fun h => ?_)) (fun σ w h => ?_)
      · refine zv h fun t87 w h => ?_
        refine sim_next h rfl rfl (fun _ _ h => ⟨rfl, h⟩) ?_; intro t88 w h
        refine zv h fun t89 w h => ?_
        refine zv h fun t90 w h => ?_
        refine zm ?_
        refine zv h fun t92 w h => ?_
        refine zn ?_
        exact zt hT h
      · exact zt hT h
      subst hK
      refine sim_seg 2 rfl ?_
      refine sim_pick h rfl rfl rfl ?_; intro t93 h
      refine zu h fun w h => ?_
      refine zn <| sim_end <| sim_block_normal ?_
      exact ⟨rfl, h⟩
    · refine sim_block_normal <| zk <| zs ?_
      obtain ⟨C12, hC, h⟩ := h
      refine sim_draw [94, 95, 96, 97, 98, 99, 100, 101, 102, 103, 104, 105, 106, 107, 108, 109, 110, 111, 112] (by kernel_rfl) (by kernel_rfl) C12 ?_
      refine ze 0 hC h fun t94 h => ?_
      obtain ⟨t95, hv, h⟩ := h
      refine sim_dsilent 1 hC rfl (by kernel_rfl) (by kernel_rfl) (fun _ _ => rfl) rfl (Sw.qN_run rfl hv) ?_
      refine ze 2 hC h fun t96 h => ?_
      refine ze 3 hC h fun t97 h => ?_
      refine ze 4 hC h fun t98 h => ?_
      refine ze 5 hC h fun t99 h => ?_
      refine ze 6 hC h fun t100 h => ?_
      obtain ⟨t101, hv, h⟩ := h
      refine sim_dsilent 7 hC rfl (by kernel_rfl) (by kernel_rfl) (fun _ _ => rfl) rfl (Sw.qN_run rfl hv) ?_
      refine ze 8 hC h fun t102 h => ?_
      refine ze 9 hC h fun t103 h => ?_
      refine ze 10 hC h fun t104 h => ?_
      refine ze 11 hC h fun t105 h => ?_
      refine ze 12 hC h fun t106 h => ?_
      obtain ⟨t107, hv, h⟩ := h
      refine sim_dsilent 13 hC rfl (by kernel_rfl) (by kernel_rfl) (fun _ _ => rfl) rfl (Sw.qV_bin rfl rfl rfl hv) ?_
      refine ze 14 hC h fun t108 h => ?_
      refine sim_dloud 15 rfl (by kernel_rfl) (fun _ _ => rfl) ?_
      refine sim_val h rfl rfl (fun _ _ h => outQ_ofD rfl rfl h) ?_; intro t109 w h
      refine zn ?_
      obtain ⟨hC, h⟩ := h
      refine ⟨hC, ?_⟩
      refine ze 16 hC h fun t110 h => ?_
      refine sim_dloud 17 rfl (by kernel_rfl) (fun _ _ => rfl) ?_
      refine sim_unit h rfl rfl (fun _ _ h => outQ_ofD rfl rfl h) ?_; intro w h
      refine zn ?_
      obtain ⟨hC, h⟩ := h
      refine ⟨hC, ?_⟩
      refine sim_dloud 18 rfl (by kernel_rfl) (fun _ _ => rfl) ?_
      refine sim_val h rfl rfl (fun _ _ h => outQ_ofD rfl rfl h) ?_; intro t111 w h
      refine zn ?_
      obtain ⟨hC, h⟩ := h
      refine ⟨hC, ?_⟩
      refine ze 19 hC h fun t112 h => ?_
      refine sim_dturn 20 1 rfl (by kernel_rfl) (by kernel_rfl) (fun _ _ => rfl) ?_
      refine sim_unit h rfl rfl (fun _ _ h => outQ_ofD rfl rfl h) ?_; intro w h
      refine zn ?_
      obtain ⟨C13, hC, h⟩ := h
      refine ⟨C13, hC, ?_⟩
      refine sim_dend (by kernel_rfl) ?_
      refine zk <| zr ?_
      refine zq h fun t113 w h => ?_
      refine zq h fun t114 w h => ?_
      refine sim_bin h rfl rfl rfl (fun _ _ h => outQ_of rfl h) ?_; intro t115 w h
      refine sim_call h c62 rfl (fun _ _ h => outQ_of rfl h) ?_; intro t116 w h
      refine zn ?_
      refine Sw.bodyM_normal ?_
      exact Sw.bodyM_ret rfl h
    · exact h.elim
end Go.Proofs.Ytiajhbbmgglmlaa
namespace Go.Proofs.Ytiajhbbmgglmlaa
open Sw
def n_slices_Contains_bool (t0 t1 : Value) (R : Ending → World → Prop) (w : World) : Prop :=
 callK Try.prog 80 #[t0, t1] (panK R) w fun t7 w =>
 opV Try.prog (binS .geq 3 true t7 (.int .i64 0)) (panK R) w fun t8 w =>
 R (.returned t8) w
set_option maxRecDepth 100000 in
set_option maxHeartbeats 4000000 in
theorem n_slices_Contains_bool_sound {t0 t1 : Value} {R : Ending → World → Prop} {w : World} (h : n_slices_Contains_bool t0 t1 R w) : Calls Try.prog 76 #[t0, t1] w R := by
  refine calls_of_den (args := [t0, t1]) Try.func76 rfl (Nat.le_of_ble_eq_true rfl) ?_
  unfold n_slices_Contains_bool at h
  refine zs <| zr <| zm <| zn <| zk <| zs <| zr <| zm <| zm ?_
  refine zc h c80 fun t7 w h => ?_
  refine zb h fun t8 w h => ?_
  refine zm <| zn <| zk <| sim_ret ?_
  exact body_ret1 rfl rfl h
def n_slices_IndexFunc_byte_c1 (t0 t1 t8 : Value) (next1 : Value → World → Prop) (R : Ending → World → Prop) (w : World) : Prop :=
 opV Try.prog (Instr.indexAt 121 t0 t8) (panK R) w fun t14 w =>
 opV Try.prog (Instr.loadAt 5 t14) (panK R) w fun t15 w =>
 callV Try.prog t1 #[t15] (panK R) w fun t16 w =>
 condP t16 (
 R (.returned t8) w) (
 opV Try.prog (binS .add 3 true t8 (.int .i64 1)) (panK R) w fun t18 w =>
 next1 t18 w)
def n_slices_IndexFunc_byte (t0 t1 : Value) (R : Ending → World → Prop) (w : World) : Prop :=
 opV Try.prog (Builtin.len_ #[121] 3 #[t0]) (panK R) w fun t7 w =>
 loop1 (fun t8 w next1 =>
 opV Try.prog (binS .lss 3 false t8 t7) (panK R) w fun t9 w =>
 condP t9 (
 n_slices_IndexFunc_byte_c1 t0 t1 t8 next1 R w) (
 R (.returned (.int .i64 (-1))) w)) (.int .i64 0) w
set_option maxRecDepth 100000 in
set_option maxHeartbeats 4000000 in
theorem n_slices_IndexFunc_byte_sound {t0 t1 : Value} {R : Ending → World → Prop} {w : World} (h : n_slices_IndexFunc_byte t0 t1 R w) : Calls Try.prog 77 #[t0, t1] w R := by
  refine calls_of_den (args := [t0, t1]) Try.func77 rfl (Nat.le_of_ble_eq_true rfl) ?_
  unfold n_slices_IndexFunc_byte at h
  refine zs <| zr <| zm <| zn <| zk <| zs <| zs <| zr <| zm ?_
  refine zx h fun t7 w h => ?_
  refine zm <| zn <| zk <| sim_block ?_
  obtain ⟨I, μ, h0, hr⟩ := h
  refine sim_loop [4, 5, 8, 9, 10, 11, 12, 13, 14, 15, 16, 17, 18] (by kernel_rfl) (fun ρ w => I (ρ 8) w) (fun ρ w => μ (ρ 8) w) h0 (fun σ w hI => ?_)
  have h := hr _ _ hI
  clear hr h0 hI
  refine zs <| zr ?_
  refine zb h fun t9 w h => ?_
  refine zn <| zk <| zs ?_
  refine sim_cond h rfl (fun h => ?_) (fun h => ?_)
  · refine sim_skip <| zk <| zs <| sim_block <| zs <| zr <| zm <| zm <| zn <| zk <| zs <| zr <| zm <| zm <| zm ?_
    refine zv h fun t14 w h => ?_
    refine zv h fun t15 w h => ?_
    refine sim_callV h rfl rfl (fun _ _ h => ⟨rfl, h⟩) ?_; intro t16 w h
    refine zn <| zk ?_
    refine sim_cond h rfl (fun h => ?_) (fun h => ?_)
    · refine zs <| zr <| zm <| zm <| zn <| zk <| sim_ret <| sim_block_ret <| sim_then_ret <| sim_then_ret <| sim_block_ret <| sim_then_ret ?_
      exact body_ret1 rfl rfl h
    · refine sim_skip <| sim_block_normal <| zk <| zr ?_
      refine zb h fun t18 w h => ?_
      refine zm <| zn <| zk ?_
      exact ⟨rfl, h⟩
  · refine sim_exit <| sim_then_exit <| sim_then_exit <| sim_block_hit <| zk <| zs <| zr <| zm <| zn <| zk <| sim_ret ?_
    exact body_ret1 rfl rfl h
def n_schema_checker_before_c1 (t0 : Value) (C1 : World → Prop) (R : Ending → World → Prop) (w : World) : Prop :=
 qN Try.prog C1 (nilN t0) fun t4 =>
 qV Try.prog C1 (Instr.fieldAt 101 t4 5) fun t5 =>
 qV Try.prog C1 (Instr.fieldAt 50 t5 1) fun t6 =>
 qV Try.prog C1 (Instr.loadAt 48 t6) fun t7 =>
 qN Try.prog C1 (nilN t0) fun t9 =>
 qV Try.prog C1 (Instr.fieldAt 101 t9 4) fun t10 =>
 qV Try.prog C1 (Instr.loadAt 3 t10) fun t11 =>
 qV Try.prog C1 (Instr.sliceAt 48 t7 none (some t11) none) fun t12 =>
 R (.returned t12) w
def n_schema_checker_before (t0 : Value) (R : Ending → World → Prop) (w : World) : Prop :=
 drawK w fun C1 w =>
 n_schema_checker_before_c1 t0 C1 R w
set_option maxRecDepth 100000 in
set_option maxHeartbeats 4000000 in
theorem n_schema_checker_before_sound {t0 : Value} {R : Ending → World → Prop} {w : World} (h : n_schema_checker_before t0 R w) : Calls Try.prog 78 #[t0] w R := by
  refine calls_of_den (args := [t0]) Try.func78 rfl (Nat.le_of_ble_eq_true rfl) ?_
  unfold n_schema_checker_before at h
  refine zs <| zr <| zm <| zn <| zk <| zs ?_
  obtain ⟨C1, hC, h⟩ := h
  refine sim_draw [2, 3, 4, 5, 6, 7, 8, 9, 10, 11, 12] (by kernel_rfl) (by kernel_rfl) C1 ?_
  refine zw 0 hC ?_
  obtain ⟨t4, hv, h⟩ := h
  refine sim_dsilent 1 hC rfl (by kernel_rfl) (by kernel_rfl) (fun _ _ => rfl) rfl (Sw.qN_run rfl hv) ?_
  refine ze 2 hC h fun t5 h => ?_
  refine ze 3 hC h fun t6 h => ?_
  refine ze 4 hC h fun t7 h => ?_
  refine zw 5 hC ?_
  obtain ⟨t9, hv, h⟩ := h
  refine sim_dsilent 6 hC rfl (by kernel_rfl) (by kernel_rfl) (fun _ _ => rfl) rfl (Sw.qN_run rfl hv) ?_
  refine ze 7 hC h fun t10 h => ?_
  refine ze 8 hC h fun t11 h => ?_
  refine ze 9 hC h fun t12 h => ?_
  refine zw 10 hC ?_
  refine sim_dend (by kernel_rfl) ?_
  refine zk <| sim_ret ?_
  exact body_ret1 rfl rfl h
def n_schema_kinds (R : Ending → World → Prop) (w : World) : Prop :=
 opV Try.prog (Instr.makeMap 132 none) (panK R) w fun t1 w =>
 opV Try.prog (Instr.build 130 #[(0, (.func (.func 81) #[] #[])), (1, (.func (.func 82) #[] #[]))]) (panK R) w fun t2 w =>
 opU Try.prog (Instr.mapUpdate 132 t1 (.int .i64 1) t2) (panK R) w fun w =>
 opV Try.prog (Instr.build 130 #[(0, (.func (.func 85) #[] #[])), (1, (.func (.func 86) #[] #[]))]) (panK R) w fun t3 w =>
 opU Try.prog (Instr.mapUpdate 132 t1 (.int .i64 2) t3) (panK R) w fun w =>
 opV Try.prog (Instr.build 130 #[(0, (.func (.func 87) #[] #[])), (1, (.func (.func 88) #[] #[]))]) (panK R) w fun t4 w =>
 opU Try.prog (Instr.mapUpdate 132 t1 (.int .i64 3) t4) (panK R) w fun w =>
 opV Try.prog (Instr.build 130 #[(0, (.func (.func 89) #[] #[])), (1, (.func (.func 90) #[] #[]))]) (panK R) w fun t5 w =>
 opU Try.prog (Instr.mapUpdate 132 t1 (.int .i64 4) t5) (panK R) w fun w =>
 opV Try.prog (Instr.build 130 #[(0, (.func (.func 91) #[] #[])), (1, (.func (.func 92) #[] #[]))]) (panK R) w fun t6 w =>
 opU Try.prog (Instr.mapUpdate 132 t1 (.int .i64 5) t6) (panK R) w fun w =>
 opV Try.prog (Instr.build 130 #[(0, (.func (.func 93) #[] #[])), (1, (.func (.func 94) #[] #[]))]) (panK R) w fun t7 w =>
 opU Try.prog (Instr.mapUpdate 132 t1 (.int .i64 6) t7) (panK R) w fun w =>
 opV Try.prog (Instr.build 130 #[(0, (.func (.func 95) #[] #[])), (1, (.func (.func 96) #[] #[]))]) (panK R) w fun t8 w =>
 opU Try.prog (Instr.mapUpdate 132 t1 (.int .i64 7) t8) (panK R) w fun w =>
 opV Try.prog (Instr.build 130 #[(0, (.func (.func 98) #[] #[])), (1, (.func (.func 99) #[] #[]))]) (panK R) w fun t9 w =>
 opU Try.prog (Instr.mapUpdate 132 t1 (.int .i64 8) t9) (panK R) w fun w =>
 opV Try.prog (Instr.build 130 #[(0, (.func (.func 100) #[] #[])), (1, (.func (.func 101) #[] #[]))]) (panK R) w fun t10 w =>
 opU Try.prog (Instr.mapUpdate 132 t1 (.int .i64 9) t10) (panK R) w fun w =>
 opV Try.prog (Instr.build 130 #[(0, (.func (.func 102) #[] #[])), (1, (.func (.func 103) #[] #[]))]) (panK R) w fun t11 w =>
 opU Try.prog (Instr.mapUpdate 132 t1 (.int .i64 10) t11) (panK R) w fun w =>
 opV Try.prog (Instr.build 130 #[(0, (.func (.func 104) #[] #[])), (1, (.func (.func 105) #[] #[]))]) (panK R) w fun t12 w =>
 opU Try.prog (Instr.mapUpdate 132 t1 (.int .i64 11) t12) (panK R) w fun w =>
 opV Try.prog (Instr.build 130 #[(0, (.func (.func 106) #[] #[])), (1, (.func (.func 107) #[] #[]))]) (panK R) w fun t13 w =>
 opU Try.prog (Instr.mapUpdate 132 t1 (.int .i64 12) t13) (panK R) w fun w =>
 R (.returned t1) w
set_option maxRecDepth 100000 in
set_option maxHeartbeats 4000000 in
theorem n_schema_kinds_sound {R : Ending → World → Prop} {w : World} (h : n_schema_kinds R w) : Calls Try.prog 79 #[] w R := by
  refine calls_of_den (args := []) Try.func79 rfl (Nat.le_of_ble_eq_true rfl) ?_
  unfold n_schema_kinds at h
  refine zs <| zr <| zm <| zn <| zk <| zs <| zr ?_
  refine zv h fun t1 w h => ?_
  refine sim_build h rfl (fun _ _ h => ⟨rfl, h⟩) ?_; intro t2 w h
  refine zu h fun w h => ?_
  refine sim_build h rfl (fun _ _ h => ⟨rfl, h⟩) ?_; intro t3 w h
  refine zu h fun w h => ?_
  refine sim_build h rfl (fun _ _ h => ⟨rfl, h⟩) ?_; intro t4 w h
  refine zu h fun w h => ?_
  refine sim_build h rfl (fun _ _ h => ⟨rfl, h⟩) ?_; intro t5 w h
  refine zu h fun w h => ?_
  refine sim_build h rfl (fun _ _ h => ⟨rfl, h⟩) ?_; intro t6 w h
  refine zu h fun w h => ?_
  refine sim_build h rfl (fun _ _ h => ⟨rfl, h⟩) ?_; intro t7 w h
  refine zu h fun w h => ?_
  refine sim_build h rfl (fun _ _ h => ⟨rfl, h⟩) ?_; intro t8 w h
  refine zu h fun w h => ?_
  refine sim_build h rfl (fun _ _ h => ⟨rfl, h⟩) ?_; intro t9 w h
  refine zu h fun w h => ?_
  refine sim_build h rfl (fun _ _ h => ⟨rfl, h⟩) ?_; intro t10 w h
  refine zu h fun w h => ?_
  refine sim_build h rfl (fun _ _ h => ⟨rfl, h⟩) ?_; intro t11 w h
  refine zu h fun w h => ?_
  refine sim_build h rfl (fun _ _ h => ⟨rfl, h⟩) ?_; intro t12 w h
  refine zu h fun w h => ?_
  refine sim_build h rfl (fun _ _ h => ⟨rfl, h⟩) ?_; intro t13 w h
  refine zu h fun w h => ?_
  refine zm <| zm <| zn <| zk <| sim_ret ?_
  exact body_ret1 rfl rfl h
def n_slices_Index_bool_c1 (t0 t1 t8 : Value) (next1 : Value → World → Prop) (R : Ending → World → Prop) (w : World) : Prop :=
 opV Try.prog (Instr.indexAt 123 t0 t8) (panK R) w fun t14 w =>
 opV Try.prog (Instr.loadAt 4 t14) (panK R) w fun t15 w =>
 opV Try.prog (binS .eql 4 false t1 t15) (panK R) w fun t16 w =>
 condP t16 (
 R (.returned t8) w) (
 opV Try.prog (binS .add 3 true t8 (.int .i64 1)) (panK R) w fun t18 w =>
 next1 t18 w)
def n_slices_Index_bool (t0 t1 : Value) (R : Ending → World → Prop) (w : World) : Prop :=
 opV Try.prog (Builtin.len_ #[123] 3 #[t0]) (panK R) w fun t7 w =>
 loop1 (fun t8 w next1 =>
 opV Try.prog (binS .lss 3 false t8 t7) (panK R) w fun t9 w =>
 condP t9 (
 n_slices_Index_bool_c1 t0 t1 t8 next1 R w) (
 R (.returned (.int .i64 (-1))) w)) (.int .i64 0) w
set_option maxRecDepth 100000 in
set_option maxHeartbeats 4000000 in
theorem n_slices_Index_bool_sound {t0 t1 : Value} {R : Ending → World → Prop} {w : World} (h : n_slices_Index_bool t0 t1 R w) : Calls Try.prog 80 #[t0, t1] w R := by
  refine calls_of_den (args := [t0, t1]) Try.func80 rfl (Nat.le_of_ble_eq_true rfl) ?_
  unfold n_slices_Index_bool at h
  refine zs <| zr <| zm <| zn <| zk <| zs <| zs <| zr <| zm ?_
  refine zx h fun t7 w h => ?_
  refine zm <| zn <| zk <| sim_block ?_
  obtain ⟨I, μ, h0, hr⟩ := h
  refine sim_loop [4, 5, 8, 9, 10, 11, 12, 13, 14, 15, 16, 17, 18] (by kernel_rfl) (fun ρ w => I (ρ 8) w) (fun ρ w => μ (ρ 8) w) h0 (fun σ w hI => ?_)
  have h := hr _ _ hI
  clear hr h0 hI
  refine zs <| zr ?_
  refine zb h fun t9 w h => ?_
  refine zn <| zk <| zs ?_
  refine sim_cond h rfl (fun h => ?_) (fun h => ?_)
  · refine sim_skip <| zk <| zs <| sim_block <| zs <| zr <| zm <| zm <| zn <| zk <| zs <| zr <| zm <| zm <| zm ?_
    refine zv h fun t14 w h => ?_
    refine zv h fun t15 w h => ?_
    refine zb h fun t16 w h => ?_
    refine zn <| zk ?_
    refine sim_cond h rfl (fun h => ?_) (fun h => ?_)
    · refine zs <| zr <| zm <| zm <| zn <| zk <| sim_ret <| sim_block_ret <| sim_then_ret <| sim_then_ret <| sim_block_ret <| sim_then_ret ?_
      exact body_ret1 rfl rfl h
    · refine sim_skip <| sim_block_normal <| zk <| zr ?_
      refine zb h fun t18 w h => ?_
      refine zm <| zn <| zk ?_
      exact ⟨rfl, h⟩
  · refine sim_exit <| sim_then_exit <| sim_then_exit <| sim_block_hit <| zk <| zs <| zr <| zm <| zn <| zk <| sim_ret ?_
    exact body_ret1 rfl rfl h
def n_schema_kinds_1 (t0 : Value) (R : Ending → World → Prop) (w : World) : Prop :=
 opN Try.prog (nilN t0) (panK R) w fun t6 w =>
 opV Try.prog (Instr.fieldAt 28 t6 2) (panK R) w fun t7 w =>
 opU Try.prog (Instr.storeAt 3 t7 (.int .i64 0)) (panK R) w fun w =>
 opN Try.prog (nilN t0) (panK R) w fun t8 w =>
 opV Try.prog (Instr.fieldAt 28 t8 3) (panK R) w fun t9 w =>
 opU Try.prog (Instr.storeAt 4 t9 (.bool false)) (panK R) w fun w =>
 opN Try.prog (nilN t0) (panK R) w fun t10 w =>
 opV Try.prog (Instr.fieldAt 28 t10 5) (panK R) w fun t11 w =>
 opU Try.prog (Instr.storeAt 3 t11 (.int .i64 0)) (panK R) w fun w =>
 opN Try.prog (nilN t0) (panK R) w fun t12 w =>
 opV Try.prog (Instr.fieldAt 28 t12 6) (panK R) w fun t13 w =>
 opU Try.prog (Instr.storeAt 3 t13 (.int .i64 0)) (panK R) w fun w =>
 R (.returned (.tuple #[])) w
set_option maxRecDepth 100000 in
set_option maxHeartbeats 4000000 in
theorem n_schema_kinds_1_sound {t0 : Value} {R : Ending → World → Prop} {w : World} (h : n_schema_kinds_1 t0 R w) : Calls Try.prog 81 #[t0] w R := by
  refine calls_of_den (args := [t0]) Try.func81 rfl (Nat.le_of_ble_eq_true rfl) ?_
  unfold n_schema_kinds_1 at h
  refine zr <| zm <| zm <| zm <| zm ?_
  refine sim_next h rfl rfl (fun _ _ h => ⟨rfl, h⟩) ?_; intro t6 w h
  refine zv h fun t7 w h => ?_
  refine zu h fun w h => ?_
  refine sim_next h rfl rfl (fun _ _ h => ⟨rfl, h⟩) ?_; intro t8 w h
  refine zv h fun t9 w h => ?_
  refine zu h fun w h => ?_
  refine sim_next h rfl rfl (fun _ _ h => ⟨rfl, h⟩) ?_; intro t10 w h
  refine zv h fun t11 w h => ?_
  refine zu h fun w h => ?_
  refine sim_next h rfl rfl (fun _ _ h => ⟨rfl, h⟩) ?_; intro t12 w h
  refine zv h fun t13 w h => ?_
  refine zu h fun w h => ?_
  refine zn ?_
  refine body_normal ?_
  exact body_ret0 rfl h
def n_schema_kinds_2_c1 (t0 t3 : Value) (C1 : World → Prop) (R : Ending → World → Prop) (w : World) : Prop :=
 qV Try.prog C1 (Instr.fieldAt 28 t3 2) fun t8 =>
 qV Try.prog C1 (Instr.loadAt 3 t8) fun t9 =>
 qV Try.prog C1 (binS .shl 3 true (.int .i64 1) t9) fun t10 =>
 qV Try.prog C1 (binS .sub 3 true t10 (.int .i64 1)) fun t11 =>
 qV Try.prog C1 (Instr.fieldAt 28 t3 5) fun t12 =>
 qV Try.prog C1 (Instr.loadAt 3 t12) fun t13 =>
 qV Try.prog C1 (Instr.fieldAt 28 t3 6) fun t14 =>
 qV Try.prog C1 (Instr.loadAt 3 t14) fun t15 =>
 opV Try.prog (Instr.buildSlice 137 2 #[(0, t13), (1, t15)]) (panK R) w fun t16 w =>
 C1 w ∧ (
 callK Try.prog 84 #[t0, (.int .i64 0), t11, t16] (panK R) w fun t17 w =>
 C1 w ∧ (
 R (.returned (.tuple #[])) w))
def n_schema_kinds_2 (t0 t1 : Value) (R : Ending → World → Prop) (w : World) : Prop :=
 opV Try.prog (Instr.box 28 t1) (panK R) w fun t3 w =>
 opV Try.prog (Instr.loadAt 28 t3) (panK R) w fun t5 w =>
 callK Try.prog 83 #[t0, t5] (panK R) w fun t6 w =>
 drawK w fun C1 w =>
 n_schema_kinds_2_c1 t0 t3 C1 R w
set_option maxRecDepth 100000 in
set_option maxHeartbeats 4000000 in
theorem n_schema_kinds_2_sound {t0 t1 : Value} {R : Ending → World → Prop} {w : World} (h : n_schema_kinds_2 t0 t1 R w) : Calls Try.prog 82 #[t0, t1] w R := by
  refine calls_of_den (args := [t0, t1]) Try.func82 rfl (Nat.le_of_ble_eq_true rfl) ?_
  unfold n_schema_kinds_2 at h
  refine zs <| zr ?_
  refine zv h fun t3 w h => ?_
  refine zn <| zk <| zs <| zr <| zm ?_
  refine zv h fun t5 w h => ?_
  refine zc h c83 fun t6 w h => ?_
  refine zn <| zk ?_
  obtain ⟨C1, hC, h⟩ := h
  refine sim_draw [7, 8, 9, 10, 11, 12, 13, 14, 15, 16, 17] (by kernel_rfl) (by kernel_rfl) C1 ?_
  refine zw 0 hC ?_
  refine ze 1 hC h fun t8 h => ?_
  refine ze 2 hC h fun t9 h => ?_
  obtain ⟨t10, hv, h⟩ := h
  refine sim_dsilent 3 hC rfl (by kernel_rfl) (by kernel_rfl) (fun _ _ => rfl) rfl (Sw.qV_bin rfl rfl rfl hv) ?_
  obtain ⟨t11, hv, h⟩ := h
  refine sim_dsilent 4 hC rfl (by kernel_rfl) (by kernel_rfl) (fun _ _ => rfl) rfl (Sw.qV_bin rfl rfl rfl hv) ?_
  refine ze 5 hC h fun t12 h => ?_
  refine ze 6 hC h fun t13 h => ?_
  refine ze 7 hC h fun t14 h => ?_
  refine ze 8 hC h fun t15 h => ?_
  refine sim_dloud 9 rfl (by kernel_rfl) (fun _ _ => rfl) ?_
  refine sim_buildSlice h rfl (fun _ _ h _ _ => ⟨rfl, h⟩) ?_; intro t16 w h
  refine zn ?_
  obtain ⟨hC, h⟩ := h
  refine ⟨hC, ?_⟩
  refine sim_dloud 10 rfl (by kernel_rfl) (fun _ _ => rfl) ?_
  refine sim_call h c84 rfl (fun _ _ h _ _ => ⟨rfl, h⟩) ?_; intro t17 w h
  refine zn ?_
  obtain ⟨hC, h⟩ := h
  refine ⟨hC, ?_⟩
  refine sim_dend (by kernel_rfl) ?_
  refine body_normal ?_
  exact body_ret0 rfl h
def n_schema_checker_bits_c1 (t0 t12 t17 t26 : Value) (R : Ending → World → Prop) (w : World) : Prop :=
 joinK (fun (t27 : Value) (w : World) =>
 pickK t12 t27 (.bool false) fun t28 =>
 callK Try.prog 62 #[t0, t28, (.int .i64 6)] (panK R) w fun t29 w =>
 R (.returned (.tuple #[])) w) fun K6 =>
 guardP t12 true (
 pickK t17 (.bool true) t26 fun t27 =>
 K6 t27 w) (
 K6 undef w)
def n_schema_checker_bits_c2 (t0 t3 t12 t17 t21 : Value) (R : Ending → World → Prop) (w : World) : Prop :=
 joinK (fun (t25 : Value) (w : World) =>
 joinK (fun (t26 : Value) (w : World) =>
 n_schema_checker_bits_c1 t0 t12 t17 t26 R w) fun K5 =>
 guardP t17 false (
 pickK t21 t25 (.bool false) fun t26 =>
 K5 t26 w) (
 K5 undef w)) fun K4 =>
 guardP t21 true (
 opV Try.prog (Instr.fieldAt 28 t3 2) (panK R) w fun t22 w =>
 opV Try.prog (Instr.loadAt 3 t22) (panK R) w fun t23 w =>
 opV Try.prog (binS .rem 3 true t23 (.int .i64 8)) (panK R) w fun t24 w =>
 opV Try.prog (binS .eql 3 true t24 (.int .i64 0)) (panK R) w fun t25 w =>
 K4 t25 w) (
 K4 undef w)
def n_schema_checker_bits_c3 (t0 t3 t12 t17 : Value) (R : Ending → World → Prop) (w : World) : Prop :=
 joinK (fun (t21 : Value) (w : World) =>
 n_schema_checker_bits_c2 t0 t3 t12 t17 t21 R w) fun K3 =>
 guardP t17 false (
 opV Try.prog (Instr.fieldAt 28 t3 2) (panK R) w fun t18 w =>
 opV Try.prog (Instr.loadAt 3 t18) (panK R) w fun t19 w =>
 opV Try.prog (binS .gtr 3 true t19 (.int .i64 8)) (panK R) w fun t20 w =>
 K3 t20 w) (
 K3 undef w)
def n_schema_checker_bits_c4 (t0 t3 t7 t11 : Value) (R : Ending → World → Prop) (w : World) : Prop :=
 pickK t7 t11 (.bool false) fun t12 =>
 joinK (fun (t17 : Value) (w : World) =>
 n_schema_checker_bits_c3 t0 t3 t12 t17 R w) fun K2 =>
 guardP t12 true (
 opV Try.prog (Instr.fieldAt 28 t3 3) (panK R) w fun t14 w =>
 opV Try.prog (Instr.loadAt 4 t14) (panK R) w fun t15 w =>
 opV Try.prog (Op.unary .not t15) (panK R) w fun t16 w =>
 K2 t16 w) (
 K2 undef w)
def n_schema_checker_bits (t0 t1 : Value) (R : Ending → World → Prop) (w : World) : Prop :=
 opV Try.prog (Instr.box 28 t1) (panK R) w fun t3 w =>
 opV Try.prog (Instr.fieldAt 28 t3 2) (panK R) w fun t5 w =>
 opV Try.prog (Instr.loadAt 3 t5) (panK R) w fun t6 w =>
 opV Try.prog (binS .geq 3 true t6 (.int .i64 1)) (panK R) w fun t7 w =>
 joinK (fun (t11 : Value) (w : World) =>
 n_schema_checker_bits_c4 t0 t3 t7 t11 R w) fun K1 =>
 guardP t7 true (
 opV Try.prog (Instr.fieldAt 28 t3 2) (panK R) w fun t9 w =>
 opV Try.prog (Instr.loadAt 3 t9) (panK R) w fun t10 w =>
 opV Try.prog (binS .leq 3 true t10 (.int .i64 32)) (panK R) w fun t11 w =>
 K1 t11 w) (
 K1 undef w)
set_option maxRecDepth 100000 in
set_option maxHeartbeats 4000000 in
theorem n_schema_checker_bits_sound {t0 t1 : Value} {R : Ending → World → Prop} {w : World} (h : n_schema_checker_bits t0 t1 R w) : Calls Try.prog 83 #[t0, t1] w R := by
  refine calls_of_den (args := [t0, t1]) Try.func83 rfl (Nat.le_of_ble_eq_true rfl) ?_
  unfold n_schema_checker_bits at h
  refine zs <| zr ?_
  refine zv h fun t3 w h => ?_
  refine zn <| zk <| sim_regionG ?_
  refine sim_seg 5 rfl ?_
  refine zm ?_
  refine zv h fun t5 w h => ?_
  refine zv h fun t6 w h => ?_
  refine zb h fun t7 w h => ?_
  refine zm <| zn ?_
  refine joinK_elim h (fun K1 hK h => ?_)
  refine sim_groupJ 3 4 true [9, 10, 11] (fun ρ w => K1 (ρ 11) w) rfl rfl (fun T hT => guardP_mono h (fun h => ?_) (fun h => ?_)) (fun σ w h => ?_)
  · refine zv h fun t9 w h => ?_
    refine zv h fun t10 w h => ?_
    refine zb h fun t11 w h => ?_
    refine zn ?_
    exact zt hT h
  · exact zt hT h
  subst hK
  refine sim_seg 2 rfl ?_
  refine sim_pick h rfl rfl rfl ?_; intro t12 h
  refine zm <| zn ?_
  refine joinK_elim h (fun K2 hK h => ?_)
  refine sim_groupJ 4 9 true [14, 15, 16, 17] (fun ρ w => K2 (ρ 17) w) rfl rfl (fun T hT => guardP_mono h (fun h => ?_) (fun h => ?_)) (fun σ w h => ?_)
  · refine zv h fun t14 w h => ?_
    refine zv h fun t15 w h => ?_
    refine zv h fun t16 w h => ?_
    refine zm <| zn ?_
    exact zt hT h
  · exact zt hT h
  subst hK
  refine joinK_elim h (fun K3 hK h => ?_)
  refine sim_groupJ 4 13 false [18, 19, 20, 21] (fun ρ w => K3 (ρ 21) w) rfl rfl (fun T hT => guardP_mono h (fun h => ?_) (fun h => ?_)) (fun σ w h => ?_)
  · refine zv h fun t18 w h => ?_
    refine zv h fun t19 w h => ?_
    refine zb h fun t20 w h => ?_
    refine zm <| zn ?_
    exact zt hT h
  · exact zt hT h
  subst hK
  refine joinK_elim h (fun K4 hK h => ?_)
  refine sim_groupJ 4 17 true [22, 23, 24, 25] (fun ρ w => K4 (ρ 25) w) rfl rfl (fun T hT => guardP_mono h (fun h => ?_) (fun h => ?_)) (fun σ w h => ?_)
  · refine zv h fun t22 w h => ?_
    refine zv h fun t23 w h => ?_
    refine zb h fun t24 w h => ?_
    refine zb h fun t25 w h => ?_
    refine zn ?_
    exact zt hT h
  · exact zt hT h
  subst hK
  refine joinK_elim h (fun K5 hK h => ?_)
  refine sim_groupJ 1 13 false [26] (fun ρ w => K5 (ρ 26) w) rfl rfl (fun T hT => guardP_mono h (fun h => ?_) (fun h => ?_)) (fun σ w h => ?_)
  · refine sim_pick h rfl rfl rfl ?_; intro t26 h
    refine zn ?_
    exact zt hT h
  · exact zt hT h
  subst hK
  refine joinK_elim h (fun K6 hK h => ?_)
  refine sim_groupJ 1 9 true [27] (fun ρ w => K6 (ρ 27) w) rfl rfl (fun T hT => guardP_mono h (fun h => ?_) (fun h => ?_)) (fun σ w h => ?_)
  · refine sim_pick h rfl rfl rfl ?_; intro t27 h
    refine zn ?_
    exact zt hT h
  · exact zt hT h
  subst hK
  refine sim_seg 2 rfl ?_
  refine sim_pick h rfl rfl rfl ?_; intro t28 h
  refine zc h c62 fun t29 w h => ?_
  refine zn <| sim_end ?_
  refine body_normal ?_
  exact body_ret0 rfl h
def n_schema_checker_within_c1 (t0 t12 t15 t19 t23 : Value) (next1 : Value → Value → World → Prop) (R : Ending → World → Prop) (w : World) : Prop :=
 pickK t19 t23 (.bool false) fun t24 =>
 callK Try.prog 62 #[t0, t24, (.int .i64 7)] (panK R) w fun t25 w =>
 opV Try.prog (binS .add 3 true t12 (.int .i64 1)) (panK R) w fun t27 w =>
 next1 t15 t27 w
def n_schema_checker_within_c2 (t0 t1 t2 t3 t12 : Value) (next1 : Value → Value → World → Prop) (R : Ending → World → Prop) (w : World) : Prop :=
 opV Try.prog (Instr.indexAt 137 t3 t12) (panK R) w fun t14 w =>
 opV Try.prog (Instr.loadAt 3 t14) (panK R) w fun t15 w =>
 opV Try.prog (binS .geq 3 false t15 t1) (panK R) w fun t19 w =>
 joinK (fun (t23 : Value) (w : World) =>
 n_schema_checker_within_c1 t0 t12 t15 t19 t23 next1 R w) fun K2 =>
 guardP t19 true (
 opV Try.prog (binS .leq 3 false t15 t2) (panK R) w fun t23 w =>
 K2 t23 w) (
 K2 undef w)
def n_schema_checker_within (t0 t1 t2 t3 : Value) (R : Ending → World → Prop) (w : World) : Prop :=
 opV Try.prog (Builtin.len_ #[137] 3 #[t3]) (panK R) w fun t11 w =>
 loop2 (fun t1 t12 w next1 =>
 opV Try.prog (binS .lss 3 false t12 t11) (panK R) w fun t13 w =>
 condP t13 (
 n_schema_checker_within_c2 t0 t1 t2 t3 t12 next1 R w) (
 R (.returned (.tuple #[])) w)) t1 (.int .i64 0) w
set_option maxRecDepth 100000 in
set_option maxHeartbeats 4000000 in
theorem n_schema_checker_within_sound {t0 t1 t2 t3 : Value} {R : Ending → World → Prop} {w : World} (h : n_schema_checker_within t0 t1 t2 t3 R w) : Calls Try.prog 84 #[t0, t1, t2, t3] w R := by
  refine calls_of_den (args := [t0, t1, t2, t3]) Try.func84 rfl (Nat.le_of_ble_eq_true rfl) ?_
  unfold n_schema_checker_within at h
  refine zs <| zr <| zm ?_
  refine zx h fun t11 w h => ?_
  refine zm <| zn <| zk <| sim_block ?_
  obtain ⟨I, μ, h0, hr⟩ := h
  refine sim_loop [1, 9, 12, 13, 14, 15, 16, 17, 18, 19, 20, 21, 22, 23, 24, 25, 26, 27] (by kernel_rfl) (fun ρ w => I (ρ 1) (ρ 12) w) (fun ρ w => μ (ρ 1) (ρ 12) w) h0 (fun σ w hI => ?_)
  have h := hr _ _ _ hI
  clear hr h0 hI
  refine zs <| zr ?_
  refine zb h fun t13 w h => ?_
  refine zn <| zk <| zs ?_
  refine sim_cond h rfl (fun h => ?_) (fun h => ?_)
  · refine sim_skip <| zk <| zs <| sim_block <| zs <| zr ?_
    refine zv h fun t14 w h => ?_
    refine zv h fun t15 w h => ?_
    refine zm <| zn <| zk <| zs <| sim_regionG ?_
    refine sim_seg 5 rfl ?_
    refine zm <| zm <| zm ?_
    refine zb h fun t19 w h => ?_
    refine zm <| zn ?_
    refine joinK_elim h (fun K2 hK h => ?_)
    refine sim_groupJ 3 4 true [21, 22, 23] (fun ρ w => K2 (ρ 23) w) rfl rfl (fun T hT => guardP_mono h (fun h => ?_) (fun h => ?_)) (fun σ w h => ?_)
    · refine zm <| zm ?_
      refine zb h fun t23 w h => ?_
      refine zn ?_
      exact zt hT h
    · exact zt hT h
    subst hK
    refine sim_seg 2 rfl ?_
    refine sim_pick h rfl rfl rfl ?_; intro t24 h
    refine zc h c62 fun t25 w h => ?_
    refine zn <| sim_end <| zk <| zr <| zm <| zm <| zn <| sim_block_normal <| zk <| zr ?_
    refine zb h fun t27 w h => ?_
    refine zm <| zn <| zk ?_
    exact ⟨rfl, h⟩
  · refine sim_exit <| sim_then_exit <| sim_then_exit <| sim_block_hit ?_
    refine body_normal ?_
    exact body_ret0 rfl h
def n_schema_kinds_3 (t0 : Value) (R : Ending → World → Prop) (w : World) : Prop :=
 opN Try.prog (nilN t0) (panK R) w fun t5 w =>
 opV Try.prog (Instr.fieldAt 28 t5 2) (panK R) w fun t6 w =>
 opU Try.prog (Instr.storeAt 3 t6 (.int .i64 0)) (panK R) w fun w =>
 opN Try.prog (nilN t0) (panK R) w fun t7 w =>
 opV Try.prog (Instr.fieldAt 28 t7 3) (panK R) w fun t8 w =>
 opU Try.prog (Instr.storeAt 4 t8 (.bool false)) (panK R) w fun w =>
 opN Try.prog (nilN t0) (panK R) w fun t9 w =>
 opV Try.prog (Instr.fieldAt 28 t9 5) (panK R) w fun t10 w =>
 opU Try.prog (Instr.storeAt 3 t10 (.int .i64 0)) (panK R) w fun w =>
 R (.returned (.tuple #[])) w
set_option maxRecDepth 100000 in
set_option maxHeartbeats 4000000 in
theorem n_schema_kinds_3_sound {t0 : Value} {R : Ending → World → Prop} {w : World} (h : n_schema_kinds_3 t0 R w) : Calls Try.prog 85 #[t0] w R := by
  refine calls_of_den (args := [t0]) Try.func85 rfl (Nat.le_of_ble_eq_true rfl) ?_
  unfold n_schema_kinds_3 at h
  refine zr <| zm <| zm <| zm ?_
  refine sim_next h rfl rfl (fun _ _ h => ⟨rfl, h⟩) ?_; intro t5 w h
  refine zv h fun t6 w h => ?_
  refine zu h fun w h => ?_
  refine sim_next h rfl rfl (fun _ _ h => ⟨rfl, h⟩) ?_; intro t7 w h
  refine zv h fun t8 w h => ?_
  refine zu h fun w h => ?_
  refine sim_next h rfl rfl (fun _ _ h => ⟨rfl, h⟩) ?_; intro t9 w h
  refine zv h fun t10 w h => ?_
  refine zu h fun w h => ?_
  refine zn ?_
  refine body_normal ?_
  exact body_ret0 rfl h
def n_schema_kinds_4_c1 (t0 t3 : Value) (C1 : World → Prop) (R : Ending → World → Prop) (w : World) : Prop :=
 qV Try.prog C1 (Instr.fieldAt 28 t3 2) fun t8 =>
 qV Try.prog C1 (Instr.loadAt 3 t8) fun t9 =>
 qV Try.prog C1 (binS .shl 3 true (.int .i64 1) t9) fun t10 =>
 qV Try.prog C1 (binS .sub 3 true t10 (.int .i64 1)) fun t11 =>
 qV Try.prog C1 (Instr.fieldAt 28 t3 5) fun t12 =>
 qV Try.prog C1 (Instr.loadAt 3 t12) fun t13 =>
 opV Try.prog (Instr.buildSlice 137 1 #[(0, t13)]) (panK R) w fun t14 w =>
 C1 w ∧ (
 callK Try.prog 84 #[t0, (.int .i64 0), t11, t14] (panK R) w fun t15 w =>
 C1 w ∧ (
 R (.returned (.tuple #[])) w))
def n_schema_kinds_4 (t0 t1 : Value) (R : Ending → World → Prop) (w : World) : Prop :=
 opV Try.prog (Instr.box 28 t1) (panK R) w fun t3 w =>
 opV Try.prog (Instr.loadAt 28 t3) (panK R) w fun t5 w =>
 callK Try.prog 83 #[t0, t5] (panK R) w fun t6 w =>
 drawK w fun C1 w =>
 n_schema_kinds_4_c1 t0 t3 C1 R w
set_option maxRecDepth 100000 in
set_option maxHeartbeats 4000000 in
theorem n_schema_kinds_4_sound {t0 t1 : Value} {R : Ending → World → Prop} {w : World} (h : n_schema_kinds_4 t0 t1 R w) : Calls Try.prog 86 #[t0, t1] w R := by
  refine calls_of_den (args := [t0, t1]) Try.func86 rfl (Nat.le_of_ble_eq_true rfl) ?_
  unfold n_schema_kinds_4 at h
  refine zs <| zr ?_
  refine zv h fun t3 w h => ?_
  refine zn <| zk <| zs <| zr <| zm ?_
  refine zv h fun t5 w h => ?_
  refine zc h c83 fun t6 w h => ?_
  refine zn <| zk ?_
  obtain ⟨C1, hC, h⟩ := h
  refine sim_draw [7, 8, 9, 10, 11, 12, 13, 14, 15] (by kernel_rfl) (by kernel_rfl) C1 ?_
  refine zw 0 hC ?_
  refine ze 1 hC h fun t8 h => ?_
  refine ze 2 hC h fun t9 h => ?_
  obtain ⟨t10, hv, h⟩ := h
  refine sim_dsilent 3 hC rfl (by kernel_rfl) (by kernel_rfl) (fun _ _ => rfl) rfl (Sw.qV_bin rfl rfl rfl hv) ?_
  obtain ⟨t11, hv, h⟩ := h
  refine sim_dsilent 4 hC rfl (by kernel_rfl) (by kernel_rfl) (fun _ _ => rfl) rfl (Sw.qV_bin rfl rfl rfl hv) ?_
  refine ze 5 hC h fun t12 h => ?_
  refine ze 6 hC h fun t13 h => ?_
  refine sim_dloud 7 rfl (by kernel_rfl) (fun _ _ => rfl) ?_
  refine sim_buildSlice h rfl (fun _ _ h _ _ => ⟨rfl, h⟩) ?_; intro t14 w h
  refine zn ?_
  obtain ⟨hC, h⟩ := h
  refine ⟨hC, ?_⟩
  refine sim_dloud 8 rfl (by kernel_rfl) (fun _ _ => rfl) ?_
  refine sim_call h c84 rfl (fun _ _ h _ _ => ⟨rfl, h⟩) ?_; intro t15 w h
  refine zn ?_
  obtain ⟨hC, h⟩ := h
  refine ⟨hC, ?_⟩
  refine sim_dend (by kernel_rfl) ?_
  refine body_normal ?_
  exact body_ret0 rfl h
def n_schema_kinds_5 (t0 : Value) (R : Ending → World → Prop) (w : World) : Prop :=
 opN Try.prog (nilN t0) (panK R) w fun t5 w =>
 opV Try.prog (Instr.fieldAt 28 t5 4) (panK R) w fun t6 w =>
 opU Try.prog (Instr.storeAt 4 t6 (.bool false)) (panK R) w fun w =>
 opN Try.prog (nilN t0) (panK R) w fun t7 w =>
 opV Try.prog (Instr.fieldAt 28 t7 5) (panK R) w fun t8 w =>
 opU Try.prog (Instr.storeAt 3 t8 (.int .i64 0)) (panK R) w fun w =>
 opN Try.prog (nilN t0) (panK R) w fun t9 w =>
 opV Try.prog (Instr.fieldAt 28 t9 6) (panK R) w fun t10 w =>
 opU Try.prog (Instr.storeAt 3 t10 (.int .i64 0)) (panK R) w fun w =>
 R (.returned (.tuple #[])) w
set_option maxRecDepth 100000 in
set_option maxHeartbeats 4000000 in
theorem n_schema_kinds_5_sound {t0 : Value} {R : Ending → World → Prop} {w : World} (h : n_schema_kinds_5 t0 R w) : Calls Try.prog 87 #[t0] w R := by
  refine calls_of_den (args := [t0]) Try.func87 rfl (Nat.le_of_ble_eq_true rfl) ?_
  unfold n_schema_kinds_5 at h
  refine zr <| zm <| zm <| zm ?_
  refine sim_next h rfl rfl (fun _ _ h => ⟨rfl, h⟩) ?_; intro t5 w h
  refine zv h fun t6 w h => ?_
  refine zu h fun w h => ?_
  refine sim_next h rfl rfl (fun _ _ h => ⟨rfl, h⟩) ?_; intro t7 w h
  refine zv h fun t8 w h => ?_
  refine zu h fun w h => ?_
  refine sim_next h rfl rfl (fun _ _ h => ⟨rfl, h⟩) ?_; intro t9 w h
  refine zv h fun t10 w h => ?_
  refine zu h fun w h => ?_
  refine zn ?_
  refine body_normal ?_
  exact body_ret0 rfl h
def n_schema_kinds_6 (t0 t1 : Value) (R : Ending → World → Prop) (w : World) : Prop :=
 opV Try.prog (Instr.box 28 t1) (panK R) w fun t3 w =>
 opV Try.prog (Instr.fieldAt 28 t3 5) (panK R) w fun t5 w =>
 opV Try.prog (Instr.loadAt 3 t5) (panK R) w fun t6 w =>
 opV Try.prog (Instr.fieldAt 28 t3 6) (panK R) w fun t7 w =>
 opV Try.prog (Instr.loadAt 3 t7) (panK R) w fun t8 w =>
 opV Try.prog (Instr.buildSlice 137 2 #[(0, t6), (1, t8)]) (panK R) w fun t9 w =>
 callK Try.prog 84 #[t0, (.int .i64 0), (.int .i64 34359738367), t9] (panK R) w fun t10 w =>
 R (.returned (.tuple #[])) w
set_option maxRecDepth 100000 in
set_option maxHeartbeats 4000000 in
theorem n_schema_kinds_6_sound {t0 t1 : Value} {R : Ending → World → Prop} {w : World} (h : n_schema_kinds_6 t0 t1 R w) : Calls Try.prog 88 #[t0, t1] w R := by
  refine calls_of_den (args := [t0, t1]) Try.func88 rfl (Nat.le_of_ble_eq_true rfl) ?_
  unfold n_schema_kinds_6 at h
  refine zs <| zr ?_
  refine zv h fun t3 w h => ?_
  refine zn <| zk <| zr <| zm ?_
  refine zv h fun t5 w h => ?_
  refine zv h fun t6 w h => ?_
  refine zv h fun t7 w h => ?_
  refine zv h fun t8 w h => ?_
  refine sim_buildSlice h rfl (fun _ _ h => ⟨rfl, h⟩) ?_; intro t9 w h
  refine zc h c84 fun t10 w h => ?_
  refine zn ?_
  refine body_normal ?_
  exact body_ret0 rfl h
def n_schema_kinds_7 (t0 : Value) (R : Ending → World → Prop) (w : World) : Prop :=
 opV Try.prog (Instr.build 25 #[]) (panK R) w fun t3 w =>
 opN Try.prog (nilN t0) (panK R) w fun t4 w =>
 opV Try.prog (Instr.fieldAt 28 t4 7) (panK R) w fun t5 w =>
 opU Try.prog (Instr.storeAt 25 t5 t3) (panK R) w fun w =>
 R (.returned (.tuple #[])) w
set_option maxRecDepth 100000 in
set_option maxHeartbeats 4000000 in
theorem n_schema_kinds_7_sound {t0 : Value} {R : Ending → World → Prop} {w : World} (h : n_schema_kinds_7 t0 R w) : Calls Try.prog 89 #[t0] w R := by
  refine calls_of_den (args := [t0]) Try.func89 rfl (Nat.le_of_ble_eq_true rfl) ?_
  unfold n_schema_kinds_7 at h
  refine zr <| zm ?_
  refine sim_build h rfl (fun _ _ h => ⟨rfl, h⟩) ?_; intro t3 w h
  refine sim_next h rfl rfl (fun _ _ h => ⟨rfl, h⟩) ?_; intro t4 w h
  refine zv h fun t5 w h => ?_
  refine zu h fun w h => ?_
  refine zn ?_
  refine body_normal ?_
  exact body_ret0 rfl h
def n_schema_checker_sized_c1 (t2 t4 t21 : Value) (Kr2 : World → Prop) (Qr2 : List PanicEntry → World → Prop) (R : Ending → World → Prop) (w : World) : Prop :=
 opV Try.prog (Instr.loadAt 53 t4) Qr2 w fun t23 w =>
 opV Try.prog (Instr.lookup 53 t23 t21 true) Qr2 w fun t25 w =>
 opV Try.prog (Instr.extract t25 0) Qr2 w fun t26 w =>
 opV Try.prog (Instr.extract t25 1) Qr2 w fun t27 w =>
 opV Try.prog (Instr.alloc 31 true (.tuple #[])) Qr2 w fun t6 w =>
 opU Try.prog (Instr.storeAt 31 t6 t26) Qr2 w fun w =>
 opV Try.prog (Instr.loadAt 93 t2) Qr2 w fun t28 w =>
 callK Try.prog 62 #[t28, t27, (.int .i64 8)] Qr2 w fun t30 w =>
 Kr2 w
def n_schema_checker_sized_c2 (t8 t38 t40 t44 : Value) (ds : List Deferred) (R : Ending → World → Prop) (w : World) : Prop :=
 pickK t40 t44 (.bool false) fun t45 =>
 joinK (fun (t49 : Value) (w : World) =>
 pickK t45 t49 (.bool false) fun t50 =>
 callK Try.prog 62 #[t38, t50, (.int .i64 9)] (outQ Try.prog ds [] R) w fun t51 w =>
 outX Try.prog ds [] R w) fun K4 =>
 guardP t45 true (
 opV Try.prog (Instr.fieldAt 31 t8 1) (outQ Try.prog ds [] R) w fun t47 w =>
 opV Try.prog (Instr.loadAt 3 t47) (outQ Try.prog ds [] R) w fun t48 w =>
 opV Try.prog (binS .leq 3 true t48 (.int .i64 1048576)) (outQ Try.prog ds [] R) w fun t49 w =>
 K4 t49 w) (
 K4 undef w)
def n_schema_checker_sized_c3 (t2 t35 : Value) (ds : List Deferred) (R : Ending → World → Prop) (w : World) : Prop :=
 opV Try.prog (Instr.extract t35 0) (outQ Try.prog ds [] R) w fun t36 w =>
 opV Try.prog (Instr.extract t35 1) (outQ Try.prog ds [] R) w fun t37 w =>
 opV Try.prog (Instr.alloc 31 true (.tuple #[])) (outQ Try.prog ds [] R) w fun t8 w =>
 opU Try.prog (Instr.storeAt 31 t8 t36) (outQ Try.prog ds [] R) w fun w =>
 opV Try.prog (Instr.loadAt 93 t2) (outQ Try.prog ds [] R) w fun t38 w =>
 opV Try.prog (binS .eql 32 true t37 (.int .i64 0)) (outQ Try.prog ds [] R) w fun t40 w =>
 joinK (fun (t44 : Value) (w : World) =>
 n_schema_checker_sized_c2 t8 t38 t40 t44 ds R w) fun K3 =>
 guardP t40 true (
 opV Try.prog (Instr.fieldAt 31 t8 0) (outQ Try.prog ds [] R) w fun t42 w =>
 opV Try.prog (Instr.loadAt 3 t42) (outQ Try.prog ds [] R) w fun t43 w =>
 opV Try.prog (binS .geq 3 true t43 (.int .i64 0)) (outQ Try.prog ds [] R) w fun t44 w =>
 K3 t44 w) (
 K3 undef w)
def n_schema_checker_sized_c4 (t2 t3 t4 : Value) (ds : List Deferred) (R : Ending → World → Prop) (w : World) : Prop :=
 opV Try.prog (Instr.fieldAt 28 t3 7) (outQ Try.prog ds [] R) w fun t32 w =>
 opV Try.prog (Instr.loadAt 25 t32) (outQ Try.prog ds [] R) w fun t33 w =>
 opV Try.prog (Instr.loadAt 53 t4) (outQ Try.prog ds [] R) w fun t34 w =>
 callK Try.prog 110 #[t33, t34] (outQ Try.prog ds [] R) w fun t35 w =>
 n_schema_checker_sized_c3 t2 t35 ds R w
def n_schema_checker_sized_c5 (t2 t3 t4 t20 : Value) (ds : List Deferred) (R : Ending → World → Prop) (w : World) : Prop :=
 rangeN Try.prog t20 ds (fun l2 t21 w Kr2 Xr2 Qr2 =>
 busyK l2 w fun w =>
 n_schema_checker_sized_c1 t2 t4 t21 Kr2 Qr2 R w) (fun ch ds w => outQ Try.prog ds [] R ch w) w (fun ds w =>
 n_schema_checker_sized_c4 t2 t3 t4 ds R w) []
def n_schema_checker_sized_c6 (t2 t3 t17 : Value) (ds : List Deferred) (R : Ending → World → Prop) (w : World) : Prop :=
 opV Try.prog (Instr.alloc 53 true (.tuple #[])) (outQ Try.prog ds [] R) w fun t4 w =>
 opU Try.prog (Instr.storeAt 53 t4 t17) (outQ Try.prog ds [] R) w fun w =>
 opV Try.prog (Instr.fieldAt 28 t3 7) (outQ Try.prog ds [] R) w fun t18 w =>
 opV Try.prog (Instr.loadAt 25 t18) (outQ Try.prog ds [] R) w fun t19 w =>
 callK Try.prog 109 #[t19] (outQ Try.prog ds [] R) w fun t20 w =>
 n_schema_checker_sized_c5 t2 t3 t4 t20 ds R w
def n_schema_checker_sized_c7 (t2 t3 : Value) (ds : List Deferred) (R : Ending → World → Prop) (w : World) : Prop :=
 opV Try.prog (Instr.loadAt 93 t2) (outQ Try.prog ds [] R) w fun t15 w =>
 callK Try.prog 78 #[t15] (outQ Try.prog ds [] R) w fun t16 w =>
 callK Try.prog 40 #[t16] (outQ Try.prog ds [] R) w fun t17 w =>
 n_schema_checker_sized_c6 t2 t3 t17 ds R w
def n_schema_checker_sized_c8 (t2 t3 : Value) (C1 : World → Prop) (ds : List Deferred) (R : Ending → World → Prop) (w : World) : Prop :=
 qV Try.prog C1 (Instr.loadAt 93 t2) fun t10 =>
 qV Try.prog C1 (Instr.fieldAt 28 t3 7) fun t11 =>
 qV Try.prog C1 (Instr.loadAt 25 t11) fun t12 =>
 callK Try.prog 108 #[t12] (outQ Try.prog ds [] R) w fun t13 w =>
 C1 w ∧ (
 callK Try.prog 62 #[t10, t13, (.int .i64 9)] (outQ Try.prog ds [] R) w fun t14 w =>
 C1 w ∧ (
 n_schema_checker_sized_c7 t2 t3 ds R w))
def n_schema_checker_sized (t0 t1 : Value) (R : Ending → World → Prop) (w : World) : Prop :=
 (fun (ds : List Deferred) =>
 opV Try.prog (Instr.box 93 t0) (outQ Try.prog ds [] R) w fun t2 w =>
 opV Try.prog (Instr.box 28 t1) (outQ Try.prog ds [] R) w fun t3 w =>
 drawK w fun C1 w =>
 n_schema_checker_sized_c8 t2 t3 C1 ds R w) []
set_option maxRecDepth 100000 in
set_option maxHeartbeats 4000000 in
theorem n_schema_checker_sized_sound {t0 t1 : Value} {R : Ending → World → Prop} {w : World} (h : n_schema_checker_sized t0 t1 R w) : Calls Try.prog 90 #[t0, t1] w R := by
  refine calls_of_denM (args := [t0, t1]) Try.func90 rfl (Nat.le_of_ble_eq_true rfl) ?_
  unfold n_schema_checker_sized at h
  dsimp only at h
  refine zs <| zr ?_
  refine zq h fun t2 w h => ?_
  refine zq h fun t3 w h => ?_
  refine zn <| zk <| zs ?_
  obtain ⟨C1, hC, h⟩ := h
  refine sim_draw [10, 11, 12, 13, 14] (by kernel_rfl) (by kernel_rfl) C1 ?_
  refine ze 0 hC h fun t10 h => ?_
  refine ze 1 hC h fun t11 h => ?_
  refine ze 2 hC h fun t12 h => ?_
  refine sim_dloud 3 rfl (by kernel_rfl) (fun _ _ => rfl) ?_
  refine sim_call h c108 rfl (fun _ _ h => outQ_ofD rfl rfl h) ?_; intro t13 w h
  refine zn ?_
  obtain ⟨hC, h⟩ := h
  refine ⟨hC, ?_⟩
  refine sim_dloud 4 rfl (by kernel_rfl) (fun _ _ => rfl) ?_
  refine sim_call h c62 rfl (fun _ _ h => outQ_ofD rfl rfl h) ?_; intro t14 w h
  refine zn ?_
  obtain ⟨hC, h⟩ := h
  refine ⟨hC, ?_⟩
  refine sim_dend (by kernel_rfl) ?_
  refine zk <| zs <| zr ?_
  refine zq h fun t15 w h => ?_
  refine sim_call h c78 rfl (fun _ _ h => outQ_of rfl h) ?_; intro t16 w h
  refine sim_call h c40 rfl (fun _ _ h => outQ_of rfl h) ?_; intro t17 w h
  refine zq h fun t4 w h => ?_
  refine sim_unit h rfl rfl (fun _ _ h => outQ_of rfl h) ?_; intro w h
  refine zn <| zk <| zs <| zs <| zr ?_
  refine zq h fun t18 w h => ?_
  refine zq h fun t19 w h => ?_
  refine sim_call h c109 rfl (fun _ _ h => outQ_of rfl h) ?_; intro t20 w h
  refine zn <| zk <| sim_block ?_
  refine sim_range [] h rfl (fun l2 t21 w Kr2 Xr2 Qr2 h => ?_) (fun ds w h => ?_) (fun c ds w h => ?_) (fun ch ds w h => outQ_of rfl h)
  · refine zr <| zm <| zn <| zk ?_
    obtain ⟨hr, h⟩ := h
    refine ⟨rfl, hr, fun w hb => ?_⟩
    have h := h w hb
    refine sim_block <| zs <| zr ?_
    refine zv h fun t23 w h => ?_
    refine zm ?_
    refine zv h fun t25 w h => ?_
    refine zm ?_
    refine zv h fun t26 w h => ?_
    refine zv h fun t27 w h => ?_
    refine zv h fun t6 w h => ?_
    refine zu h fun w h => ?_
    refine zm <| zn <| zk <| zr ?_
    refine zv h fun t28 w h => ?_
    refine zm ?_
    refine zc h c62 fun t30 w h => ?_
    refine zn <| sim_block_normal ?_
    exact ⟨rfl, h⟩
  · refine sim_block_normal <| zk <| zs <| zr ?_
    refine zq h fun t32 w h => ?_
    refine zq h fun t33 w h => ?_
    refine zq h fun t34 w h => ?_
    refine sim_call h c110 rfl (fun _ _ h => outQ_of rfl h) ?_; intro t35 w h
    refine zm ?_
    refine zq h fun t36 w h => ?_
    refine zq h fun t37 w h => ?_
    refine zq h fun t8 w h => ?_
    refine sim_unit h rfl rfl (fun _ _ h => outQ_of rfl h) ?_; intro w h
    refine zm <| zn <| zk <| sim_regionG ?_
    refine sim_seg 4 rfl ?_
    refine zq h fun t38 w h => ?_
    refine zm ?_
    refine sim_bin h rfl rfl rfl (fun _ _ h => outQ_of rfl h) ?_; intro t40 w h
    refine zm <| zn ?_
    refine joinK_elim h (fun K3 hK h => ?_)
    refine sim_groupJ 3 3 true [42, 43, 44] (fun ρ w => K3 (ρ 44) w) rfl rfl (fun T hT => guardP_mono h (fun h => ?_) (fun h => ?_)) (fun σ w h => ?_)
    · refine zq h fun t42 w h => ?_
      refine zq h fun t43 w h => ?_
      refine sim_bin h rfl rfl rfl (fun _ _ h => outQ_of rfl h) ?_; intro t44 w h
      refine zn ?_
      exact zt hT h
    · exact zt hT h
    subst hK
    refine sim_seg 2 rfl ?_
    refine sim_pick h rfl rfl rfl ?_; intro t45 h
    refine zm <| zn ?_
    refine joinK_elim h (fun K4 hK h => ?_)
    refine sim_groupJ 3 8 true [47, 48, 49] (fun ρ w => K4 (ρ 49) w) rfl rfl (fun T hT => guardP_mono h (fun h => ?_) (fun h => ?_)) (fun σ w h => ?_)
    · refine zq h fun t47 w h => ?_
      refine zq h fun t48 w h => ?_
      refine sim_bin h rfl rfl rfl (fun _ _ h => outQ_of rfl h) ?_; intro t49 w h
      refine zn ?_
      exact zt hT h
    · exact zt hT h
    subst hK
    refine sim_seg 2 rfl ?_
    refine sim_pick h rfl rfl rfl ?_; intro t50 h
    refine sim_call h c62 rfl (fun _ _ h => outQ_of rfl h) ?_; intro t51 w h
    refine zn <| sim_end ?_
    refine Sw.bodyM_normal ?_
    exact Sw.bodyM_ret rfl h
  · exact h.elim
end Go.Proofs.Ytiajhbbmgglmlaa
namespace Go.Proofs.Ytiajhbbmgglmlaa
open Sw
def n_size_Interval_2_1_c1 (t1 t3 : Value) (R : Ending → World → Prop) (w : World) : Prop :=
 opV Try.prog (Instr.loadAt 53 t1) (panK R) w fun t17 w =>
 opV Try.prog (Instr.fieldAt 77 t3 0) (panK R) w fun t18 w =>
 opV Try.prog (Instr.loadAt 9 t18) (panK R) w fun t19 w =>
 opV Try.prog (Instr.lookup 53 t17 t19 false) (panK R) w fun t20 w =>
 opV Try.prog (Instr.field 31 t20 1) (panK R) w fun t21 w =>
 R (.returned t21) w
def n_size_Interval_2_1 (t0 t1 t2 : Value) (R : Ending → World → Prop) (w : World) : Prop :=
 opV Try.prog (Instr.box 77 t0) (panK R) w fun t3 w =>
 opV Try.prog (Instr.loadAt 53 t1) (panK R) w fun t6 w =>
 opV Try.prog (Instr.fieldAt 77 t3 0) (panK R) w fun t7 w =>
 opV Try.prog (Instr.loadAt 9 t7) (panK R) w fun t8 w =>
 opV Try.prog (Instr.lookup 53 t6 t8 false) (panK R) w fun t9 w =>
 opV Try.prog (Instr.alloc 31 true (.tuple #[])) (panK R) w fun t5 w =>
 opU Try.prog (Instr.storeAt 31 t5 t9) (panK R) w fun w =>
 opV Try.prog (Instr.loadAt 4 t2) (panK R) w fun t10 w =>
 opV Try.prog (Instr.fieldAt 77 t3 1) (panK R) w fun t11 w =>
 opV Try.prog (Instr.loadAt 3 t11) (panK R) w fun t12 w =>
 opV Try.prog (binS .gtr 3 true t12 (.int .i64 0)) (panK R) w fun t13 w =>
 opV Try.prog (binS .eql 4 false t10 t13) (panK R) w fun t14 w =>
 condP t14 (
 opV Try.prog (Instr.fieldAt 31 t5 0) (panK R) w fun t15 w =>
 opV Try.prog (Instr.loadAt 3 t15) (panK R) w fun t16 w =>
 R (.returned t16) w) (
 n_size_Interval_2_1_c1 t1 t3 R w)
set_option maxRecDepth 100000 in
set_option maxHeartbeats 4000000 in
theorem n_size_Interval_2_1_sound {t0 t1 t2 : Value} {R : Ending → World → Prop} {w : World} (h : n_size_Interval_2_1 t0 t1 t2 R w) : Calls Try.prog 121 #[t0, t1, t2] w R := by
  refine calls_of_den (args := [t0, t1, t2]) Try.func121 rfl (Nat.le_of_ble_eq_true rfl) ?_
  unfold n_size_Interval_2_1 at h
  refine zs <| zr ?_
  refine zv h fun t3 w h => ?_
  refine zm <| zn <| zk <| zs <| zs <| zr ?_
  refine zv h fun t6 w h => ?_
  refine zv h fun t7 w h => ?_
  refine zv h fun t8 w h => ?_
  refine zv h fun t9 w h => ?_
  refine zv h fun t5 w h => ?_
  refine zu h fun w h => ?_
  refine zn <| zk <| zs <| zr ?_
  refine zv h fun t10 w h => ?_
  refine zv h fun t11 w h => ?_
  refine zv h fun t12 w h => ?_
  refine zb h fun t13 w h => ?_
  refine zb h fun t14 w h => ?_
  refine zn <| zk ?_
  refine sim_cond h rfl (fun h => ?_) (fun h => ?_)
  · refine zs <| zr ?_
    refine zv h fun t15 w h => ?_
    refine zv h fun t16 w h => ?_
    refine zm <| zn <| zk <| sim_ret <| sim_then_ret ?_
    exact body_ret1 rfl rfl h
  · refine sim_skip <| zk <| zs <| zr ?_
    refine zv h fun t17 w h => ?_
    refine zv h fun t18 w h => ?_
    refine zv h fun t19 w h => ?_
    refine zv h fun t20 w h => ?_
    refine zv h fun t21 w h => ?_
    refine zm <| zn <| zk <| sim_ret ?_
    exact body_ret1 rfl rfl h
def n_slices_IndexFunc_api_Term_c1 (t0 t1 t8 : Value) (next1 : Value → World → Prop) (R : Ending → World → Prop) (w : World) : Prop :=
 opV Try.prog (Instr.indexAt 23 t0 t8) (panK R) w fun t14 w =>
 opV Try.prog (Instr.loadAt 77 t14) (panK R) w fun t15 w =>
 callV Try.prog t1 #[t15] (panK R) w fun t16 w =>
 condP t16 (
 R (.returned t8) w) (
 opV Try.prog (binS .add 3 true t8 (.int .i64 1)) (panK R) w fun t18 w =>
 next1 t18 w)
def n_slices_IndexFunc_api_Term (t0 t1 : Value) (R : Ending → World → Prop) (w : World) : Prop :=
 opV Try.prog (Builtin.len_ #[23] 3 #[t0]) (panK R) w fun t7 w =>
 loop1 (fun t8 w next1 =>
 opV Try.prog (binS .lss 3 false t8 t7) (panK R) w fun t9 w =>
 condP t9 (
 n_slices_IndexFunc_api_Term_c1 t0 t1 t8 next1 R w) (
 R (.returned (.int .i64 (-1))) w)) (.int .i64 0) w
set_option maxRecDepth 100000 in
set_option maxHeartbeats 4000000 in
theorem n_slices_IndexFunc_api_Term_sound {t0 t1 : Value} {R : Ending → World → Prop} {w : World} (h : n_slices_IndexFunc_api_Term t0 t1 R w) : Calls Try.prog 122 #[t0, t1] w R := by
  refine calls_of_den (args := [t0, t1]) Try.func122 rfl (Nat.le_of_ble_eq_true rfl) ?_
  unfold n_slices_IndexFunc_api_Term at h
  refine zs <| zr <| zm <| zn <| zk <| zs <| zs <| zr <| zm ?_
  refine zx h fun t7 w h => ?_
  refine zm <| zn <| zk <| sim_block ?_
  obtain ⟨I, μ, h0, hr⟩ := h
  refine sim_loop [4, 5, 8, 9, 10, 11, 12, 13, 14, 15, 16, 17, 18] (by kernel_rfl) (fun ρ w => I (ρ 8) w) (fun ρ w => μ (ρ 8) w) h0 (fun σ w hI => ?_)
  have h := hr _ _ hI
  clear hr h0 hI
  refine zs <| zr ?_
  refine zb h fun t9 w h => ?_
  refine zn <| zk <| zs ?_
  refine sim_cond h rfl (fun h => ?_) (fun h => ?_)
  · refine sim_skip <| zk <| zs <| sim_block <| zs <| zr <| zm <| zm <| zn <| zk <| zs <| zr <| zm <| zm <| zm ?_
    refine zv h fun t14 w h => ?_
    refine zv h fun t15 w h => ?_
    refine sim_callV h rfl rfl (fun _ _ h => ⟨rfl, h⟩) ?_; intro t16 w h
    refine zn <| zk ?_
    refine sim_cond h rfl (fun h => ?_) (fun h => ?_)
    · refine zs <| zr <| zm <| zm <| zn <| zk <| sim_ret <| sim_block_ret <| sim_then_ret <| sim_then_ret <| sim_block_ret <| sim_then_ret ?_
      exact body_ret1 rfl rfl h
    · refine sim_skip <| sim_block_normal <| zk <| zr ?_
      refine zb h fun t18 w h => ?_
      refine zm <| zn <| zk ?_
      exact ⟨rfl, h⟩
  · refine sim_exit <| sim_then_exit <| sim_then_exit <| sim_block_hit <| zk <| zs <| zr <| zm <| zn <| zk <| sim_ret ?_
    exact body_ret1 rfl rfl h
end Go.Proofs.Ytiajhbbmgglmlaa
namespace Go.Proofs.Ytiajhbbmgglmlaa
open Sw
open Go.RowKit (intOf)
set_option maxRecDepth 100000
theorem IndexFunc_Field_ret (w0 : World) (v : Value) (l : List FieldD) (g : FuncId) (caps : Array Value) (p : FieldD → Bool) (hs : FieldsOf w0 v l) (hg : Callable Try.prog g) (hc : Tests w0 FieldVal g caps p l) :
    Ret Try.prog 59 #[v, .func (.func g) #[] caps] w0 fun r w' => r = .int .i64 (idx p l) ∧ Ext w0 w' := by
  obtain ⟨A, c, rfl, hlc, hcm, hlm, hel⟩ := SliceOf.open hs
  refine n_slices_IndexFunc_api_Field_sound (R := retR _) ?_
  unfold n_slices_IndexFunc_api_Field
  simp (disch := first | assumption | (simp only [ONE]; done) | rfl | (simp only [SZ]; done) | omega | (simp only [SZ] at *; omega)) only [↓PR, QR, Int.reduceBEq, Int.reduceBNe, Int.reduceLT, Int.reduceLE, Int.reduceGT, Int.reduceGE, Int.reduceNeg]
  refine loop1_intro (fun i w => ∃ k : Nat, i = .int .i64 k ∧ k ≤ l.length ∧ Ext w0 w ∧ ∀ (j : Nat) y, j < k → l[j]? = some y → p y = false) (fun i _ => l.length - (intOf i).toNat) ⟨0, rfl, by omega, Ext.refl _, fun j y h => by omega⟩ ?_
  rintro i w ⟨k, rfl, hk, e, hb⟩
  by_cases hlt : k < l.length
  · obtain ⟨x, hx⟩ := getElem?_lt hlt
    obtain ⟨b, o, cs, rfl, hl, hA, hE⟩ := hel k x hx
    have hd : decide ((k : Int) < (l.length : Int)) = true := by simp; omega
    simp (disch := first | assumption | (simp only [ONE]; done) | rfl | (simp only [SZ]; done) | omega | (simp only [SZ] at *; omega)) only [↓PR, QR, Int.reduceBEq, Int.reduceBNe, Int.reduceLT, Int.reduceLE, Int.reduceGT, Int.reduceGE, Int.reduceNeg, hd]
    unfold n_slices_IndexFunc_api_Field_c1
    simp (disch := first | assumption | (simp only [ONE]; done) | rfl | (simp only [SZ]; done) | omega | (simp only [SZ] at *; omega)) only [↓PR, QR, Int.reduceBEq, Int.reduceBNe, Int.reduceLT, Int.reduceLE, Int.reduceGT, Int.reduceGE, Int.reduceNeg]
    unfold EField at hE
    obtain ⟨tv, cv, hcs, hT, hC⟩ := hE
    subst hcs
    have hV : FieldVal w0 (.agg (fieldCells x tv cv).toArray) x := ⟨tv, cv, rfl, hT, hC⟩
    simp (disch := first | assumption | (simp only [ONE]; done) | rfl | (simp only [SZ]; done) | omega | (simp only [SZ] at *; omega)) only [↓PR, QR, Int.reduceBEq, Int.reduceBNe, Int.reduceLT, Int.reduceLE, Int.reduceGT, Int.reduceGE, Int.reduceNeg, hA.c15]
    rw [callV_func hg]
    simp only [Array.empty_append]
    refine callK_ret (hc w _ x (List.mem_of_getElem? hx) e (hV.ext e)) ?_
    rintro r w' ⟨rfl, e'⟩
    cases hp : p x with
    | true => 
      simp (disch := first | assumption | (simp only [ONE]; done) | rfl | (simp only [SZ]; done) | omega | (simp only [SZ] at *; omega)) only [↓PR, QR, Int.reduceBEq, Int.reduceBNe, Int.reduceLT, Int.reduceLE, Int.reduceGT, Int.reduceGE, Int.reduceNeg]
      exact ⟨by rw [idx_here hx hp hb], e.trans e'⟩
    | false =>
      simp (disch := first | assumption | (simp only [ONE]; done) | rfl | (simp only [SZ]; done) | omega | (simp only [SZ] at *; omega)) only [↓PR, QR, Int.reduceBEq, Int.reduceBNe, Int.reduceLT, Int.reduceLE, Int.reduceGT, Int.reduceGE, Int.reduceNeg]
      refine ⟨⟨k + 1, rfl, by omega, e.trans e', fun j y hj hy => ?_⟩, by simp [intOf]; omega⟩
      by_cases hjk : j = k
      · subst hjk; rw [hx] at hy; injection hy with hy; subst hy; exact hp
      · exact hb j y (by omega) hy
  · have hd : decide ((k : Int) < (l.length : Int)) = false := by simp; omega
    simp (disch := first | assumption | (simp only [ONE]; done) | rfl | (simp only [SZ]; done) | omega | (simp only [SZ] at *; omega)) only [↓PR, QR, Int.reduceBEq, Int.reduceBNe, Int.reduceLT, Int.reduceLE, Int.reduceGT, Int.reduceGE, Int.reduceNeg, hd]
    exact ⟨by rw [idx_none fun j y hy => hb j y (by have := (List.getElem?_eq_some_iff.1 hy).1; omega) hy], e⟩
theorem IndexFunc_Message_ret (w0 : World) (v : Value) (l : List MsgD) (g : FuncId) (caps : Array Value) (p : MsgD → Bool) (hs : MsgsOf w0 v l) (hg : Callable Try.prog g) (hc : Tests w0 MsgVal g caps p l) :
    Ret Try.prog 58 #[v, .func (.func g) #[] caps] w0 fun r w' => r = .int .i64 (idx p l) ∧ Ext w0 w' := by
  obtain ⟨A, c, rfl, hlc, hcm, hlm, hel⟩ := SliceOf.open hs
  refine n_slices_IndexFunc_api_Message_sound (R := retR _) ?_
  unfold n_slices_IndexFunc_api_Message
  simp (disch := first | assumption | (simp only [ONE]; done) | rfl | (simp only [SZ]; done) | omega | (simp only [SZ] at *; omega)) only [↓PR, QR, Int.reduceBEq, Int.reduceBNe, Int.reduceLT, Int.reduceLE, Int.reduceGT, Int.reduceGE, Int.reduceNeg]
  refine loop1_intro (fun i w => ∃ k : Nat, i = .int .i64 k ∧ k ≤ l.length ∧ Ext w0 w ∧ ∀ (j : Nat) y, j < k → l[j]? = some y → p y = false) (fun i _ => l.length - (intOf i).toNat) ⟨0, rfl, by omega, Ext.refl _, fun j y h => by omega⟩ ?_
  rintro i w ⟨k, rfl, hk, e, hb⟩
  by_cases hlt : k < l.length
  · obtain ⟨x, hx⟩ := getElem?_lt hlt
    obtain ⟨b, o, cs, rfl, hl, hA, hE⟩ := hel k x hx
    have hd : decide ((k : Int) < (l.length : Int)) = true := by simp; omega
    simp (disch := first | assumption | (simp only [ONE]; done) | rfl | (simp only [SZ]; done) | omega | (simp only [SZ] at *; omega)) only [↓PR, QR, Int.reduceBEq, Int.reduceBNe, Int.reduceLT, Int.reduceLE, Int.reduceGT, Int.reduceGE, Int.reduceNeg, hd]
    unfold n_slices_IndexFunc_api_Message_c1
    simp (disch := first | assumption | (simp only [ONE]; done) | rfl | (simp only [SZ]; done) | omega | (simp only [SZ] at *; omega)) only [↓PR, QR, Int.reduceBEq, Int.reduceBNe, Int.reduceLT, Int.reduceLE, Int.reduceGT, Int.reduceGE, Int.reduceNeg]
    unfold EMsg at hE
    obtain ⟨fv, hcs, hF⟩ := hE
    subst hcs
    have hV : MsgVal w0 (.agg (msgCells x fv).toArray) x := ⟨fv, rfl, hF⟩
    simp (disch := first | assumption | (simp only [ONE]; done) | rfl | (simp only [SZ]; done) | omega | (simp only [SZ] at *; omega)) only [↓PR, QR, Int.reduceBEq, Int.reduceBNe, Int.reduceLT, Int.reduceLE, Int.reduceGT, Int.reduceGE, Int.reduceNeg, hA.c2]
    rw [callV_func hg]
    simp only [Array.empty_append]
    refine callK_ret (hc w _ x (List.mem_of_getElem? hx) e (hV.ext e)) ?_
    rintro r w' ⟨rfl, e'⟩
    cases hp : p x with
    | true => 
      simp (disch := first | assumption | (simp only [ONE]; done) | rfl | (simp only [SZ]; done) | omega | (simp only [SZ] at *; omega)) only [↓PR, QR, Int.reduceBEq, Int.reduceBNe, Int.reduceLT, Int.reduceLE, Int.reduceGT, Int.reduceGE, Int.reduceNeg]
      exact ⟨by rw [idx_here hx hp hb], e.trans e'⟩
    | false =>
      simp (disch := first | assumption | (simp only [ONE]; done) | rfl | (simp only [SZ]; done) | omega | (simp only [SZ] at *; omega)) only [↓PR, QR, Int.reduceBEq, Int.reduceBNe, Int.reduceLT, Int.reduceLE, Int.reduceGT, Int.reduceGE, Int.reduceNeg]
      refine ⟨⟨k + 1, rfl, by omega, e.trans e', fun j y hj hy => ?_⟩, by simp [intOf]; omega⟩
      by_cases hjk : j = k
      · subst hjk; rw [hx] at hy; injection hy with hy; subst hy; exact hp
      · exact hb j y (by omega) hy
  · have hd : decide ((k : Int) < (l.length : Int)) = false := by simp; omega
    simp (disch := first | assumption | (simp only [ONE]; done) | rfl | (simp only [SZ]; done) | omega | (simp only [SZ] at *; omega)) only [↓PR, QR, Int.reduceBEq, Int.reduceBNe, Int.reduceLT, Int.reduceLE, Int.reduceGT, Int.reduceGE, Int.reduceNeg, hd]
    exact ⟨by rw [idx_none fun j y hy => hb j y (by have := (List.getElem?_eq_some_iff.1 hy).1; omega) hy], e⟩
theorem IndexFunc_byte_ret (w0 : World) (v : Value) (l : List UInt8) (g : FuncId) (caps : Array Value) (p : UInt8 → Bool) (hs : (fun w v l => SliceOf w 1 EByte v l) w0 v l) (hg : Callable Try.prog g) (hc : Tests w0 (fun _ v x => v = .int .u8 (x.toNat : Int)) g caps p l) :
    Ret Try.prog 77 #[v, .func (.func g) #[] caps] w0 fun r w' => r = .int .i64 (idx p l) ∧ Ext w0 w' := by
  obtain ⟨A, c, rfl, hlc, hcm, hlm, hel⟩ := SliceOf.open hs
  refine n_slices_IndexFunc_byte_sound (R := retR _) ?_
  unfold n_slices_IndexFunc_byte
  simp (disch := first | assumption | (simp only [ONE]; done) | rfl | (simp only [SZ]; done) | omega | (simp only [SZ] at *; omega)) only [↓PR, QR, Int.reduceBEq, Int.reduceBNe, Int.reduceLT, Int.reduceLE, Int.reduceGT, Int.reduceGE, Int.reduceNeg]
  refine loop1_intro (fun i w => ∃ k : Nat, i = .int .i64 k ∧ k ≤ l.length ∧ Ext w0 w ∧ ∀ (j : Nat) y, j < k → l[j]? = some y → p y = false) (fun i _ => l.length - (intOf i).toNat) ⟨0, rfl, by omega, Ext.refl _, fun j y h => by omega⟩ ?_
  rintro i w ⟨k, rfl, hk, e, hb⟩
  by_cases hlt : k < l.length
  · obtain ⟨x, hx⟩ := getElem?_lt hlt
    obtain ⟨b, o, cs, rfl, hl, hA, hE⟩ := hel k x hx
    have hd : decide ((k : Int) < (l.length : Int)) = true := by simp; omega
    simp (disch := first | assumption | (simp only [ONE]; done) | rfl | (simp only [SZ]; done) | omega | (simp only [SZ] at *; omega)) only [↓PR, QR, Int.reduceBEq, Int.reduceBNe, Int.reduceLT, Int.reduceLE, Int.reduceGT, Int.reduceGE, Int.reduceNeg, hd]
    unfold n_slices_IndexFunc_byte_c1
    simp (disch := first | assumption | (simp only [ONE]; done) | rfl | (simp only [SZ]; done) | omega | (simp only [SZ] at *; omega)) only [↓PR, QR, Int.reduceBEq, Int.reduceBNe, Int.reduceLT, Int.reduceLE, Int.reduceGT, Int.reduceGE, Int.reduceNeg]
    obtain rfl := hE
    have hV : (.int .u8 (x.toNat : Int) : Value) = .int .u8 (x.toNat : Int) := rfl
    simp (disch := first | assumption | (simp only [ONE]; done) | rfl | (simp only [SZ]; done) | omega | (simp only [SZ] at *; omega)) only [↓PR, QR, Int.reduceBEq, Int.reduceBNe, Int.reduceLT, Int.reduceLE, Int.reduceGT, Int.reduceGE, Int.reduceNeg, hA.c1]
    rw [callV_func hg]
    simp only [Array.empty_append]
    refine callK_ret (hc w _ x (List.mem_of_getElem? hx) e (hV)) ?_
    rintro r w' ⟨rfl, e'⟩
    cases hp : p x with
    | true => 
      simp (disch := first | assumption | (simp only [ONE]; done) | rfl | (simp only [SZ]; done) | omega | (simp only [SZ] at *; omega)) only [↓PR, QR, Int.reduceBEq, Int.reduceBNe, Int.reduceLT, Int.reduceLE, Int.reduceGT, Int.reduceGE, Int.reduceNeg]
      exact ⟨by rw [idx_here hx hp hb], e.trans e'⟩
    | false =>
      simp (disch := first | assumption | (simp only [ONE]; done) | rfl | (simp only [SZ]; done) | omega | (simp only [SZ] at *; omega)) only [↓PR, QR, Int.reduceBEq, Int.reduceBNe, Int.reduceLT, Int.reduceLE, Int.reduceGT, Int.reduceGE, Int.reduceNeg]
      refine ⟨⟨k + 1, rfl, by omega, e.trans e', fun j y hj hy => ?_⟩, by simp [intOf]; omega⟩
      by_cases hjk : j = k
      · subst hjk; rw [hx] at hy; injection hy with hy; subst hy; exact hp
      · exact hb j y (by omega) hy
  · have hd : decide ((k : Int) < (l.length : Int)) = false := by simp; omega
    simp (disch := first | assumption | (simp only [ONE]; done) | rfl | (simp only [SZ]; done) | omega | (simp only [SZ] at *; omega)) only [↓PR, QR, Int.reduceBEq, Int.reduceBNe, Int.reduceLT, Int.reduceLE, Int.reduceGT, Int.reduceGE, Int.reduceNeg, hd]
    exact ⟨by rw [idx_none fun j y hy => hb j y (by have := (List.getElem?_eq_some_iff.1 hy).1; omega) hy], e⟩
theorem IndexFunc_Term_st (w0 w1 : World) (v : Value) (l : List TermD) (g : FuncId) (caps : Array Value) (p : Nat → Bool) (J : Nat → World → Prop) (hs : TermsOf w0 v l) (hg : Callable Try.prog g) (hJ : ∀ k w, J k w → Ext w0 w) (h0 : J 0 w1)
    (hc : ∀ k x w u, l[k]? = some x → J k w → (fun _ v x => v = termVal x) w u x → Ret Try.prog g (#[u] ++ caps) w fun r w' => r = .bool (p k) ∧ J (k + 1) w') :
    Ret Try.prog 122 #[v, .func (.func g) #[] caps] w1 fun r w' => r = .int .i64 (idx p (List.range l.length)) ∧ ∃ k, J k w' := by
  obtain ⟨A, c, rfl, hlc, hcm, hlm, hel⟩ := SliceOf.open hs
  refine n_slices_IndexFunc_api_Term_sound (R := retR _) ?_
  unfold n_slices_IndexFunc_api_Term
  simp (disch := first | assumption | (simp only [ONE]; done) | rfl | (simp only [SZ]; done) | omega | (simp only [SZ] at *; omega)) only [↓PR, QR, Int.reduceBEq, Int.reduceBNe, Int.reduceLT, Int.reduceLE, Int.reduceGT, Int.reduceGE, Int.reduceNeg]
  refine loop1_intro (fun i w => ∃ k : Nat, i = .int .i64 k ∧ k ≤ l.length ∧ J k w ∧ ∀ (j : Nat) y, j < k → (List.range l.length)[j]? = some y → p y = false) (fun i _ => l.length - (intOf i).toNat) ⟨0, rfl, by omega, h0, fun j y h => by omega⟩ ?_
  rintro i w ⟨k, rfl, hk, hj, hb⟩
  have e := hJ _ _ hj
  by_cases hlt : k < l.length
  · obtain ⟨x, hx⟩ := getElem?_lt hlt
    have hr : (List.range l.length)[k]? = some k := by simp [hlt]
    obtain ⟨b, o, cs, rfl, hl, hA, hE⟩ := hel k x hx
    have hd : decide ((k : Int) < (l.length : Int)) = true := by simp; omega
    simp (disch := first | assumption | (simp only [ONE]; done) | rfl | (simp only [SZ]; done) | omega | (simp only [SZ] at *; omega)) only [↓PR, QR, Int.reduceBEq, Int.reduceBNe, Int.reduceLT, Int.reduceLE, Int.reduceGT, Int.reduceGE, Int.reduceNeg, hd]
    unfold n_slices_IndexFunc_api_Term_c1
    simp (disch := first | assumption | (simp only [ONE]; done) | rfl | (simp only [SZ]; done) | omega | (simp only [SZ] at *; omega)) only [↓PR, QR, Int.reduceBEq, Int.reduceBNe, Int.reduceLT, Int.reduceLE, Int.reduceGT, Int.reduceGE, Int.reduceNeg]
    obtain rfl := hE
    have hV : (.agg (termCells x).toArray : Value) = termVal x := rfl
    simp (disch := first | assumption | (simp only [ONE]; done) | rfl | (simp only [SZ]; done) | omega | (simp only [SZ] at *; omega)) only [↓PR, QR, Int.reduceBEq, Int.reduceBNe, Int.reduceLT, Int.reduceLE, Int.reduceGT, Int.reduceGE, Int.reduceNeg, hA.c2]
    rw [callV_func hg]
    simp only [Array.empty_append]
    refine callK_ret (hc k x w _ hx hj hV) ?_
    rintro r w' ⟨rfl, hj'⟩
    cases hp : p k with
    | true => 
      simp (disch := first | assumption | (simp only [ONE]; done) | rfl | (simp only [SZ]; done) | omega | (simp only [SZ] at *; omega)) only [↓PR, QR, Int.reduceBEq, Int.reduceBNe, Int.reduceLT, Int.reduceLE, Int.reduceGT, Int.reduceGE, Int.reduceNeg]
      exact ⟨by rw [idx_here hr hp hb], _, hj'⟩
    | false =>
      simp (disch := first | assumption | (simp only [ONE]; done) | rfl | (simp only [SZ]; done) | omega | (simp only [SZ] at *; omega)) only [↓PR, QR, Int.reduceBEq, Int.reduceBNe, Int.reduceLT, Int.reduceLE, Int.reduceGT, Int.reduceGE, Int.reduceNeg]
      exact ⟨⟨k + 1, rfl, by omega, hj', before_succ hb hr hp⟩, by simp [intOf]; omega⟩
  · have hd : decide ((k : Int) < (l.length : Int)) = false := by simp; omega
    simp (disch := first | assumption | (simp only [ONE]; done) | rfl | (simp only [SZ]; done) | omega | (simp only [SZ] at *; omega)) only [↓PR, QR, Int.reduceBEq, Int.reduceBNe, Int.reduceLT, Int.reduceLE, Int.reduceGT, Int.reduceGE, Int.reduceNeg, hd]
    exact ⟨by rw [idx_none fun j y hy => hb j y (by have := (List.getElem?_eq_some_iff.1 hy).1; simp at this; omega) hy], _, hj⟩
end Go.Proofs.Ytiajhbbmgglmlaa
namespace Go.Proofs.Ytiajhbbmgglmlaa
open Sw
def n_schema_parts (t0 : Value) (R : Ending → World → Prop) (w : World) : Prop :=
 opV Try.prog (Instr.box 28 t0) (panK R) w fun t1 w =>
 opV Try.prog (Instr.alloc 116 true (.tuple #[])) (panK R) w fun t2 w =>
 opV Try.prog (Instr.fieldAt 28 t1 0) (panK R) w fun t3 w =>
 opV Try.prog (Instr.loadAt 9 t3) (panK R) w fun t4 w =>
 opV Try.prog (Instr.fieldAt 28 t1 8) (panK R) w fun t5 w =>
 opV Try.prog (Instr.loadAt 9 t5) (panK R) w fun t6 w =>
 opV Try.prog (Instr.fieldAt 28 t1 9) (panK R) w fun t7 w =>
 opV Try.prog (Instr.loadAt 9 t7) (panK R) w fun t8 w =>
 opV Try.prog (Instr.fieldAt 28 t1 10) (panK R) w fun t9 w =>
 opV Try.prog (Instr.loadAt 9 t9) (panK R) w fun t10 w =>
 opV Try.prog (Instr.fieldAt 28 t1 1) (panK R) w fun t11 w =>
 opV Try.prog (Instr.loadAt 22 t11) (panK R) w fun t12 w =>
 opV Try.prog (Instr.fieldAt 28 t1 2) (panK R) w fun t13 w =>
 opV Try.prog (Instr.loadAt 3 t13) (panK R) w fun t14 w =>
 opV Try.prog (Instr.fieldAt 28 t1 5) (panK R) w fun t15 w =>
 opV Try.prog (Instr.loadAt 3 t15) (panK R) w fun t16 w =>
 opV Try.prog (Instr.fieldAt 28 t1 6) (panK R) w fun t17 w =>
 opV Try.prog (Instr.loadAt 3 t17) (panK R) w fun t18 w =>
 opV Try.prog (Instr.fieldAt 28 t1 7) (panK R) w fun t19 w =>
 opV Try.prog (Instr.fieldAt 25 t19 0) (panK R) w fun t20 w =>
 opV Try.prog (Instr.loadAt 3 t20) (panK R) w fun t21 w =>
 opV Try.prog (Instr.fieldAt 28 t1 12) (panK R) w fun t22 w =>
 opV Try.prog (Instr.loadAt 3 t22) (panK R) w fun t23 w =>
 opV Try.prog (Instr.fieldAt 28 t1 13) (panK R) w fun t24 w =>
 opV Try.prog (Instr.loadAt 3 t24) (panK R) w fun t25 w =>
 opV Try.prog (Instr.fieldAt 28 t1 3) (panK R) w fun t26 w =>
 opV Try.prog (Instr.loadAt 4 t26) (panK R) w fun t27 w =>
 opV Try.prog (Instr.fieldAt 28 t1 4) (panK R) w fun t28 w =>
 opV Try.prog (Instr.loadAt 4 t28) (panK R) w fun t29 w =>
 opV Try.prog (Instr.build 116 #[(0, t4), (1, t6), (2, t8), (3, t10), (4, t12), (5, t14), (6, t16), (7, t18), (8, t21), (9, t23), (10, t25), (11, t27), (12, t29)]) (panK R) w fun t30 w =>
 opU Try.prog (Instr.storeAt 116 t2 t30) (panK R) w fun w =>
 qW Try.prog 116 t2 w fun r0 =>
 R (.returned r0) w
set_option maxRecDepth 100000 in
set_option maxHeartbeats 4000000 in
theorem n_schema_parts_sound {t0 : Value} {R : Ending → World → Prop} {w : World} (h : n_schema_parts t0 R w) : Calls Try.prog 67 #[t0] w R := by
  refine calls_of_den (args := [t0]) Try.func67 rfl (Nat.le_of_ble_eq_true rfl) ?_
  unfold n_schema_parts at h
  refine zs <| zr ?_
  refine zv h fun t1 w h => ?_
  refine zv h fun t2 w h => ?_
  refine zn <| zk <| zs <| zr ?_
  refine zv h fun t3 w h => ?_
  refine zv h fun t4 w h => ?_
  refine zv h fun t5 w h => ?_
  refine zv h fun t6 w h => ?_
  refine zv h fun t7 w h => ?_
  refine zv h fun t8 w h => ?_
  refine zv h fun t9 w h => ?_
  refine zv h fun t10 w h => ?_
  refine zv h fun t11 w h => ?_
  refine zv h fun t12 w h => ?_
  refine zv h fun t13 w h => ?_
  refine zv h fun t14 w h => ?_
  refine zv h fun t15 w h => ?_
  refine zv h fun t16 w h => ?_
  refine zv h fun t17 w h => ?_
  refine zv h fun t18 w h => ?_
  refine zv h fun t19 w h => ?_
  refine zv h fun t20 w h => ?_
  refine zv h fun t21 w h => ?_
  refine zv h fun t22 w h => ?_
  refine zv h fun t23 w h => ?_
  refine zv h fun t24 w h => ?_
  refine zv h fun t25 w h => ?_
  refine zv h fun t26 w h => ?_
  refine zv h fun t27 w h => ?_
  refine zv h fun t28 w h => ?_
  refine zv h fun t29 w h => ?_
  refine sim_build h rfl (fun _ _ h => ⟨rfl, h⟩) ?_; intro t30 w h
  refine zu h fun w h => ?_
  refine zn <| zk <| sim_ret ?_
  exact body_retC rfl rfl h
def n_slices_Equal_api_Term_c1 (t0 t1 t13 : Value) (C2 : World → Prop) (next1 : Value → World → Prop) (R : Ending → World → Prop) (w : World) : Prop :=
 qV Try.prog C2 (Instr.indexAt 23 t0 t13) fun t18 =>
 qV Try.prog C2 (Instr.loadAt 77 t18) fun t19 =>
 qV Try.prog C2 (Instr.indexAt 23 t1 t13) fun t22 =>
 qV Try.prog C2 (Instr.loadAt 77 t22) fun t23 =>
 qV Try.prog C2 (binS .neq 77 false t19 t23) fun t24 =>
 condP t24 (
 R (.returned (.bool false)) w) (
 opV Try.prog (binS .add 3 true t13 (.int .i64 1)) (panK R) w fun t25 w =>
 next1 t25 w)
def n_slices_Equal_api_Term_c2 (t0 t1 : Value) (R : Ending → World → Prop) (w : World) : Prop :=
 opV Try.prog (Builtin.len_ #[23] 3 #[t0]) (panK R) w fun t12 w =>
 loop1 (fun t13 w next1 =>
 opV Try.prog (binS .lss 3 false t13 t12) (panK R) w fun t14 w =>
 condP t14 (
 drawK w fun C2 w =>
 n_slices_Equal_api_Term_c1 t0 t1 t13 C2 next1 R w) (
 R (.returned (.bool true)) w)) (.int .i64 0) w
def n_slices_Equal_api_Term (t0 t1 : Value) (R : Ending → World → Prop) (w : World) : Prop :=
 opV Try.prog (Builtin.len_ #[23] 3 #[t0]) (panK R) w fun t7 w =>
 opV Try.prog (Builtin.len_ #[23] 3 #[t1]) (panK R) w fun t9 w =>
 opV Try.prog (binS .neq 3 false t7 t9) (panK R) w fun t10 w =>
 condP t10 (
 R (.returned (.bool false)) w) (
 n_slices_Equal_api_Term_c2 t0 t1 R w)
set_option maxRecDepth 100000 in
set_option maxHeartbeats 4000000 in
theorem n_slices_Equal_api_Term_sound {t0 t1 : Value} {R : Ending → World → Prop} {w : World} (h : n_slices_Equal_api_Term t0 t1 R w) : Calls Try.prog 68 #[t0, t1] w R := by
  refine calls_of_den (args := [t0, t1]) Try.func68 rfl (Nat.le_of_ble_eq_true rfl) ?_
  unfold n_slices_Equal_api_Term at h
  refine zs <| zr <| zm <| zn <| zk <| zs <| zs <| zr <| zm ?_
  refine zx h fun t7 w h => ?_
  refine zm ?_
  refine zx h fun t9 w h => ?_
  refine zb h fun t10 w h => ?_
  refine zn <| zk ?_
  refine sim_cond h rfl (fun h => ?_) (fun h => ?_)
  · refine zs <| zr <| zm <| zn <| zk <| sim_ret <| sim_then_ret ?_
    exact body_ret1 rfl rfl h
  · refine sim_skip <| zk <| zs <| zs <| zr <| zm ?_
    refine zx h fun t12 w h => ?_
    refine zm <| zn <| zk <| sim_block ?_
    obtain ⟨I, μ, h0, hr⟩ := h
    refine sim_loop [4, 5, 13, 14, 15, 16, 17, 18, 19, 20, 21, 22, 23, 24, 25] (by kernel_rfl) (fun ρ w => I (ρ 13) w) (fun ρ w => μ (ρ 13) w) h0 (fun σ w hI => ?_)
    have h := hr _ _ hI
    clear hr h0 hI
    refine zs <| zr ?_
    refine zb h fun t14 w h => ?_
    refine zn <| zk <| zs ?_
    refine sim_cond h rfl (fun h => ?_) (fun h => ?_)
    · refine sim_skip <| zk <| zs <| sim_block <| zs <| zr <| zm <| zm <| zn <| zk <| zs ?_
      obtain ⟨C2, hC, h⟩ := h
      refine sim_draw [16, 17, 18, 19, 20, 21, 22, 23, 24] (by kernel_rfl) (by kernel_rfl) C2 ?_
      refine zw 0 hC ?_
      refine zw 1 hC ?_
      refine ze 2 hC h fun t18 h => ?_
      refine ze 3 hC h fun t19 h => ?_
      refine zw 4 hC ?_
      refine zw 5 hC ?_
      refine ze 6 hC h fun t22 h => ?_
      refine ze 7 hC h fun t23 h => ?_
      obtain ⟨t24, hv, h⟩ := h
      refine sim_dsilent 8 hC rfl (by kernel_rfl) (by kernel_rfl) (fun _ _ => rfl) rfl (Sw.qV_bin rfl rfl rfl hv) ?_
      refine sim_dend (by kernel_rfl) ?_
      refine zk ?_
      refine sim_cond h rfl (fun h => ?_) (fun h => ?_)
      · refine zs <| zr <| zm <| zn <| zk <| sim_ret <| sim_block_ret <| sim_then_ret <| sim_then_ret <| sim_block_ret <| sim_then_ret ?_
        exact body_ret1 rfl rfl h
      · refine sim_skip <| sim_block_normal <| zk <| zr ?_
        refine zb h fun t25 w h => ?_
        refine zm <| zn <| zk ?_
        exact ⟨rfl, h⟩
    · refine sim_exit <| sim_then_exit <| sim_then_exit <| sim_block_hit <| zk <| zs <| zr <| zm <| zn <| zk <| sim_ret ?_
      exact body_ret1 rfl rfl h
def n_slices_Equal_api_Case_c1 (t0 t1 t13 : Value) (C2 : World → Prop) (next1 : Value → World → Prop) (R : Ending → World → Prop) (w : World) : Prop :=
 qV Try.prog C2 (Instr.indexAt 26 t0 t13) fun t18 =>
 qV Try.prog C2 (Instr.loadAt 62 t18) fun t19 =>
 qV Try.prog C2 (Instr.indexAt 26 t1 t13) fun t22 =>
 qV Try.prog C2 (Instr.loadAt 62 t22) fun t23 =>
 qV Try.prog C2 (binS .neq 62 false t19 t23) fun t24 =>
 condP t24 (
 R (.returned (.bool false)) w) (
 opV Try.prog (binS .add 3 true t13 (.int .i64 1)) (panK R) w fun t25 w =>
 next1 t25 w)
def n_slices_Equal_api_Case_c2 (t0 t1 : Value) (R : Ending → World → Prop) (w : World) : Prop :=
 opV Try.prog (Builtin.len_ #[26] 3 #[t0]) (panK R) w fun t12 w =>
 loop1 (fun t13 w next1 =>
 opV Try.prog (binS .lss 3 false t13 t12) (panK R) w fun t14 w =>
 condP t14 (
 drawK w fun C2 w =>
 n_slices_Equal_api_Case_c1 t0 t1 t13 C2 next1 R w) (
 R (.returned (.bool true)) w)) (.int .i64 0) w
def n_slices_Equal_api_Case (t0 t1 : Value) (R : Ending → World → Prop) (w : World) : Prop :=
 opV Try.prog (Builtin.len_ #[26] 3 #[t0]) (panK R) w fun t7 w =>
 opV Try.prog (Builtin.len_ #[26] 3 #[t1]) (panK R) w fun t9 w =>
 opV Try.prog (binS .neq 3 false t7 t9) (panK R) w fun t10 w =>
 condP t10 (
 R (.returned (.bool false)) w) (
 n_slices_Equal_api_Case_c2 t0 t1 R w)
set_option maxRecDepth 100000 in
set_option maxHeartbeats 4000000 in
theorem n_slices_Equal_api_Case_sound {t0 t1 : Value} {R : Ending → World → Prop} {w : World} (h : n_slices_Equal_api_Case t0 t1 R w) : Calls Try.prog 69 #[t0, t1] w R := by
  refine calls_of_den (args := [t0, t1]) Try.func69 rfl (Nat.le_of_ble_eq_true rfl) ?_
  unfold n_slices_Equal_api_Case at h
  refine zs <| zr <| zm <| zn <| zk <| zs <| zs <| zr <| zm ?_
  refine zx h fun t7 w h => ?_
  refine zm ?_
  refine zx h fun t9 w h => ?_
  refine zb h fun t10 w h => ?_
  refine zn <| zk ?_
  refine sim_cond h rfl (fun h => ?_) (fun h => ?_)
  · refine zs <| zr <| zm <| zn <| zk <| sim_ret <| sim_then_ret ?_
    exact body_ret1 rfl rfl h
  · refine sim_skip <| zk <| zs <| zs <| zr <| zm ?_
    refine zx h fun t12 w h => ?_
    refine zm <| zn <| zk <| sim_block ?_
    obtain ⟨I, μ, h0, hr⟩ := h
    refine sim_loop [4, 5, 13, 14, 15, 16, 17, 18, 19, 20, 21, 22, 23, 24, 25] (by kernel_rfl) (fun ρ w => I (ρ 13) w) (fun ρ w => μ (ρ 13) w) h0 (fun σ w hI => ?_)
    have h := hr _ _ hI
    clear hr h0 hI
    refine zs <| zr ?_
    refine zb h fun t14 w h => ?_
    refine zn <| zk <| zs ?_
    refine sim_cond h rfl (fun h => ?_) (fun h => ?_)
    · refine sim_skip <| zk <| zs <| sim_block <| zs <| zr <| zm <| zm <| zn <| zk <| zs ?_
      obtain ⟨C2, hC, h⟩ := h
      refine sim_draw [16, 17, 18, 19, 20, 21, 22, 23, 24] (by kernel_rfl) (by kernel_rfl) C2 ?_
      refine zw 0 hC ?_
      refine zw 1 hC ?_
      refine ze 2 hC h fun t18 h => ?_
      refine ze 3 hC h fun t19 h => ?_
      refine zw 4 hC ?_
      refine zw 5 hC ?_
      refine ze 6 hC h fun t22 h => ?_
      refine ze 7 hC h fun t23 h => ?_
      obtain ⟨t24, hv, h⟩ := h
      refine sim_dsilent 8 hC rfl (by kernel_rfl) (by kernel_rfl) (fun _ _ => rfl) rfl (Sw.qV_bin rfl rfl rfl hv) ?_
      refine sim_dend (by kernel_rfl) ?_
      refine zk ?_
      refine sim_cond h rfl (fun h => ?_) (fun h => ?_)
      · refine zs <| zr <| zm <| zn <| zk <| sim_ret <| sim_block_ret <| sim_then_ret <| sim_then_ret <| sim_block_ret <| sim_then_ret ?_
        exact body_ret1 rfl rfl h
      · refine sim_skip <| sim_block_normal <| zk <| zr ?_
        refine zb h fun t25 w h => ?_
        refine zm <| zn <| zk ?_
        exact ⟨rfl, h⟩
    · refine sim_exit <| sim_then_exit <| sim_then_exit <| sim_block_hit <| zk <| zs <| zr <| zm <| zn <| zk <| sim_ret ?_
      exact body_ret1 rfl rfl h
def n_size_Name_1_c1 (t0 t5 t9 : Value) (R : Ending → World → Prop) (w : World) : Prop :=
 pickK t5 t9 (.bool false) fun t10 =>
 joinK (fun (t13 : Value) (w : World) =>
 pickK t10 t13 (.bool false) fun t14 =>
 R (.returned t14) w) fun K2 =>
 guardP t10 true (
 opV Try.prog (binS .neq 5 true t0 (.int .u8 95)) (panK R) w fun t13 w =>
 K2 t13 w) (
 K2 undef w)
def n_size_Name_1_c2 (t0 t4 : Value) (R : Ending → World → Prop) (w : World) : Prop :=
 opV Try.prog (Op.unary .not t4) (panK R) w fun t5 w =>
 joinK (fun (t9 : Value) (w : World) =>
 n_size_Name_1_c1 t0 t5 t9 R w) fun K1 =>
 guardP t5 true (
 callK Try.prog 72 #[t0] (panK R) w fun t8 w =>
 opV Try.prog (Op.unary .not t8) (panK R) w fun t9 w =>
 K1 t9 w) (
 K1 undef w)
def n_size_Name_1 (t0 : Value) (R : Ending → World → Prop) (w : World) : Prop :=
 callK Try.prog 71 #[t0] (panK R) w fun t4 w =>
 n_size_Name_1_c2 t0 t4 R w
set_option maxRecDepth 100000 in
set_option maxHeartbeats 4000000 in
theorem n_size_Name_1_sound {t0 : Value} {R : Ending → World → Prop} {w : World} (h : n_size_Name_1 t0 R w) : Calls Try.prog 70 #[t0] w R := by
  refine calls_of_den (args := [t0]) Try.func70 rfl (Nat.le_of_ble_eq_true rfl) ?_
  unfold n_size_Name_1 at h
  refine zs <| zr <| zm <| zn <| zk <| zs <| sim_regionG ?_
  refine sim_seg 4 rfl ?_
  refine zm ?_
  refine zc h c71 fun t4 w h => ?_
  refine zv h fun t5 w h => ?_
  refine zm <| zn ?_
  refine joinK_elim h (fun K1 hK h => ?_)
  refine sim_groupJ 3 3 true [7, 8, 9] (fun ρ w => K1 (ρ 9) w) rfl rfl (fun T hT => guardP_mono h (fun h => ?_) (fun h => ?_)) (fun σ w h => ?_)
  · refine zm ?_
    refine zc h c72 fun t8 w h => ?_
    refine zv h fun t9 w h => ?_
    refine zn ?_
    exact zt hT h
  · exact zt hT h
  subst hK
  refine sim_seg 2 rfl ?_
  refine sim_pick h rfl rfl rfl ?_; intro t10 h
  refine zm <| zn ?_
  refine joinK_elim h (fun K2 hK h => ?_)
  refine sim_groupJ 2 8 true [12, 13] (fun ρ w => K2 (ρ 13) w) rfl rfl (fun T hT => guardP_mono h (fun h => ?_) (fun h => ?_)) (fun σ w h => ?_)
  · refine zm ?_
    refine zb h fun t13 w h => ?_
    refine zn ?_
    exact zt hT h
  · exact zt hT h
  subst hK
  refine sim_seg 2 rfl ?_
  refine sim_pick h rfl rfl rfl ?_; intro t14 h
  refine zm <| zn <| sim_end <| zk <| sim_ret ?_
  exact body_ret1 rfl rfl h
def n_size_letter_c1 (t0 t8 t12 : Value) (R : Ending → World → Prop) (w : World) : Prop :=
 joinK (fun (t14 : Value) (w : World) =>
 joinK (fun (t15 : Value) (w : World) =>
 pickK t8 (.bool true) t15 fun t16 =>
 R (.returned t16) w) fun K4 =>
 guardP t8 false (
 pickK t12 t14 (.bool false) fun t15 =>
 K4 t15 w) (
 K4 undef w)) fun K3 =>
 guardP t12 true (
 opV Try.prog (binS .leq 5 true t0 (.int .u8 122)) (panK R) w fun t14 w =>
 K3 t14 w) (
 K3 undef w)
def n_size_letter_c2 (t0 t4 t7 : Value) (R : Ending → World → Prop) (w : World) : Prop :=
 pickK t4 t7 (.bool false) fun t8 =>
 joinK (fun (t12 : Value) (w : World) =>
 n_size_letter_c1 t0 t8 t12 R w) fun K2 =>
 guardP t8 false (
 opV Try.prog (binS .geq 5 true t0 (.int .u8 97)) (panK R) w fun t11 w =>
 K2 t11 w) (
 K2 undef w)
def n_size_letter (t0 : Value) (R : Ending → World → Prop) (w : World) : Prop :=
 opV Try.prog (binS .geq 5 true t0 (.int .u8 65)) (panK R) w fun t4 w =>
 joinK (fun (t7 : Value) (w : World) =>
 n_size_letter_c2 t0 t4 t7 R w) fun K1 =>
 guardP t4 true (
 opV Try.prog (binS .leq 5 true t0 (.int .u8 90)) (panK R) w fun t7 w =>
 K1 t7 w) (
 K1 undef w)
set_option maxRecDepth 100000 in
set_option maxHeartbeats 4000000 in
theorem n_size_letter_sound {t0 : Value} {R : Ending → World → Prop} {w : World} (h : n_size_letter t0 R w) : Calls Try.prog 71 #[t0] w R := by
  refine calls_of_den (args := [t0]) Try.func71 rfl (Nat.le_of_ble_eq_true rfl) ?_
  unfold n_size_letter at h
  refine zs <| zr <| zm <| zn <| zk <| zs <| sim_regionG ?_
  refine sim_seg 3 rfl ?_
  refine zm ?_
  refine zb h fun t4 w h => ?_
  refine zm <| zn ?_
  refine joinK_elim h (fun K1 hK h => ?_)
  refine sim_groupJ 2 2 true [6, 7] (fun ρ w => K1 (ρ 7) w) rfl rfl (fun T hT => guardP_mono h (fun h => ?_) (fun h => ?_)) (fun σ w h => ?_)
  · refine zm ?_
    refine zb h fun t7 w h => ?_
    refine zn ?_
    exact zt hT h
  · exact zt hT h
  subst hK
  refine sim_seg 2 rfl ?_
  refine sim_pick h rfl rfl rfl ?_; intro t8 h
  refine zm <| zn ?_
  refine joinK_elim h (fun K2 hK h => ?_)
  refine sim_groupJ 3 6 false [10, 11, 12] (fun ρ w => K2 (ρ 12) w) rfl rfl (fun T hT => guardP_mono h (fun h => ?_) (fun h => ?_)) (fun σ w h => ?_)
  · refine zm ?_
    refine zb h fun t11 w h => ?_
    refine zm <| zn ?_
    exact zt hT h
  · exact zt hT h
  subst hK
  refine joinK_elim h (fun K3 hK h => ?_)
  refine sim_groupJ 2 9 true [13, 14] (fun ρ w => K3 (ρ 14) w) rfl rfl (fun T hT => guardP_mono h (fun h => ?_) (fun h => ?_)) (fun σ w h => ?_)
  · refine zm ?_
    refine zb h fun t14 w h => ?_
    refine zn ?_
    exact zt hT h
  · exact zt hT h
  subst hK
  refine joinK_elim h (fun K4 hK h => ?_)
  refine sim_groupJ 1 6 false [15] (fun ρ w => K4 (ρ 15) w) rfl rfl (fun T hT => guardP_mono h (fun h => ?_) (fun h => ?_)) (fun σ w h => ?_)
  · refine sim_pick h rfl rfl rfl ?_; intro t15 h
    refine zn ?_
    exact zt hT h
  · exact zt hT h
  subst hK
  refine sim_seg 2 rfl ?_
  refine sim_pick h rfl rfl rfl ?_; intro t16 h
  refine zm <| zn <| sim_end <| zk <| sim_ret ?_
  exact body_ret1 rfl rfl h
def n_size_digit (t0 : Value) (R : Ending → World → Prop) (w : World) : Prop :=
 opV Try.prog (binS .geq 5 true t0 (.int .u8 48)) (panK R) w fun t4 w =>
 joinK (fun (t7 : Value) (w : World) =>
 pickK t4 t7 (.bool false) fun t8 =>
 R (.returned t8) w) fun K1 =>
 guardP t4 true (
 opV Try.prog (binS .leq 5 true t0 (.int .u8 57)) (panK R) w fun t7 w =>
 K1 t7 w) (
 K1 undef w)
set_option maxRecDepth 100000 in
set_option maxHeartbeats 4000000 in
theorem n_size_digit_sound {t0 : Value} {R : Ending → World → Prop} {w : World} (h : n_size_digit t0 R w) : Calls Try.prog 72 #[t0] w R := by
  refine calls_of_den (args := [t0]) Try.func72 rfl (Nat.le_of_ble_eq_true rfl) ?_
  unfold n_size_digit at h
  refine zs <| zr <| zm <| zn <| zk <| zs <| sim_regionG ?_
  refine sim_seg 3 rfl ?_
  refine zm ?_
  refine zb h fun t4 w h => ?_
  refine zm <| zn ?_
  refine joinK_elim h (fun K1 hK h => ?_)
  refine sim_groupJ 2 2 true [6, 7] (fun ρ w => K1 (ρ 7) w) rfl rfl (fun T hT => guardP_mono h (fun h => ?_) (fun h => ?_)) (fun σ w h => ?_)
  · refine zm ?_
    refine zb h fun t7 w h => ?_
    refine zn ?_
    exact zt hT h
  · exact zt hT h
  subst hK
  refine sim_seg 2 rfl ?_
  refine sim_pick h rfl rfl rfl ?_; intro t8 h
  refine zm <| zn <| sim_end <| zk <| sim_ret ?_
  exact body_ret1 rfl rfl h
def n_size_all (t0 : Value) (R : Ending → World → Prop) (w : World) : Prop :=
 callK Try.prog 76 #[t0, (.bool false)] (panK R) w fun t4 w =>
 opV Try.prog (Op.unary .not t4) (panK R) w fun t5 w =>
 R (.returned t5) w
set_option maxRecDepth 100000 in
set_option maxHeartbeats 4000000 in
theorem n_size_all_sound {t0 : Value} {R : Ending → World → Prop} {w : World} (h : n_size_all t0 R w) : Calls Try.prog 73 #[t0] w R := by
  refine calls_of_den (args := [t0]) Try.func73 rfl (Nat.le_of_ble_eq_true rfl) ?_
  unfold n_size_all at h
  refine zs <| zr <| zm <| zn <| zk <| zs <| zr <| zm ?_
  refine zc h c76 fun t4 w h => ?_
  refine zv h fun t5 w h => ?_
  refine zm <| zn <| zk <| sim_ret ?_
  exact body_ret1 rfl rfl h
def n_slices_ContainsFunc_byte (t0 t1 : Value) (R : Ending → World → Prop) (w : World) : Prop :=
 callK Try.prog 77 #[t0, t1] (panK R) w fun t7 w =>
 opV Try.prog (binS .geq 3 true t7 (.int .i64 0)) (panK R) w fun t8 w =>
 R (.returned t8) w
set_option maxRecDepth 100000 in
set_option maxHeartbeats 4000000 in
theorem n_slices_ContainsFunc_byte_sound {t0 t1 : Value} {R : Ending → World → Prop} {w : World} (h : n_slices_ContainsFunc_byte t0 t1 R w) : Calls Try.prog 74 #[t0, t1] w R := by
  refine calls_of_den (args := [t0, t1]) Try.func74 rfl (Nat.le_of_ble_eq_true rfl) ?_
  unfold n_slices_ContainsFunc_byte at h
  refine zs <| zr <| zm <| zn <| zk <| zs <| zr <| zm <| zm ?_
  refine zc h c77 fun t7 w h => ?_
  refine zb h fun t8 w h => ?_
  refine zm <| zn <| zk <| sim_ret ?_
  exact body_ret1 rfl rfl h
def n_schema_checker_examine_c1 (t0 t3 t6 : Value) (R : Ending → World → Prop) (w : World) : Prop :=
 opV Try.prog (Instr.fieldAt 130 t6 1) (panK R) w fun t49 w =>
 opV Try.prog (Instr.loadAt 128 t49) (panK R) w fun t50 w =>
 opV Try.prog (Instr.loadAt 28 t3) (panK R) w fun t52 w =>
 callV Try.prog t50 #[t0, t52] (panK R) w fun t53 w =>
 R (.returned (.tuple #[])) w
def n_schema_checker_examine_c2 (t0 t3 t6 t7 : Value) (R : Ending → World → Prop) (w : World) : Prop :=
 opV Try.prog (Instr.loadAt 28 t7) (panK R) w fun t41 w =>
 opV Try.prog (Instr.fieldAt 28 t3 0) (panK R) w fun t42 w =>
 opV Try.prog (Instr.loadAt 9 t42) (panK R) w fun t43 w =>
 opV Try.prog (Instr.fieldAt 28 t3 1) (panK R) w fun t44 w =>
 opV Try.prog (Instr.loadAt 22 t44) (panK R) w fun t45 w =>
 opV Try.prog (Instr.build 28 #[(0, t43), (1, t45)]) (panK R) w fun t46 w =>
 callK Try.prog 56 #[t41, t46] (panK R) w fun t47 w =>
 callK Try.prog 62 #[t0, t47, (.int .i64 5)] (panK R) w fun t48 w =>
 n_schema_checker_examine_c1 t0 t3 t6 R w
def n_schema_checker_examine_c3 (t0 t3 t6 : Value) (R : Ending → World → Prop) (w : World) : Prop :=
 opV Try.prog (Instr.loadAt 28 t3) (panK R) w fun t36 w =>
 opV Try.prog (Instr.alloc 28 true (.tuple #[])) (panK R) w fun t7 w =>
 opU Try.prog (Instr.storeAt 28 t7 t36) (panK R) w fun w =>
 opV Try.prog (Instr.fieldAt 130 t6 0) (panK R) w fun t37 w =>
 opV Try.prog (Instr.loadAt 127 t37) (panK R) w fun t38 w =>
 callV Try.prog t38 #[t7] (panK R) w fun t39 w =>
 n_schema_checker_examine_c2 t0 t3 t6 t7 R w
def n_schema_checker_examine_c4 (t27 t29 : Value) (C4 : World → Prop) (K3 : Value → Value → World → Prop) (R : Ending → World → Prop) (w : World) : Prop :=
 qV Try.prog C4 (Instr.lookup 132 t27 t29 true) fun t30 =>
 qV Try.prog C4 (Instr.extract t30 0) fun t31 =>
 qV Try.prog C4 (Instr.extract t30 1) fun t32 =>
 opV Try.prog (Instr.alloc 130 true (.tuple #[])) (panK R) w fun t6 w =>
 C4 w ∧ (
 opU Try.prog (Instr.storeAt 130 t6 t31) (panK R) w fun w =>
 C4 w ∧ (
 K3 t32 t6 w))
def n_schema_checker_examine_c5 (t6 t27 t29 : Value) (C5 : World → Prop) (K3 : Value → Value → World → Prop) (R : Ending → World → Prop) (w : World) : Prop :=
 qV Try.prog C5 (Instr.lookup 132 t27 t29 true) fun t30 =>
 qV Try.prog C5 (Instr.extract t30 0) fun t31 =>
 qV Try.prog C5 (Instr.extract t30 1) fun t32 =>
 opU Try.prog (Instr.storeAt 130 t6 t31) (panK R) w fun w =>
 C5 w ∧ (
 K3 t32 t6 w)
def n_schema_checker_examine_c6 (t0 t3 : Value) (C2 : World → Prop) (R : Ending → World → Prop) (w : World) : Prop :=
 qV Try.prog C2 (Instr.fieldAt 28 t3 1) fun t28 =>
 qV Try.prog C2 (Instr.loadAt 22 t28) fun t29 =>
 joinK (fun (t5 : Value) (t6 : Value) (w : World) =>
 callK Try.prog 62 #[t0, t5, (.int .i64 4)] (panK R) w fun t35 w =>
 n_schema_checker_examine_c3 t0 t3 t6 R w) fun K3 =>
 (
 callK Try.prog 79 #[] (panK R) w fun t27 w =>
 narrowK C2 w fun C4 w =>
 n_schema_checker_examine_c4 t27 t29 C4 K3 R w) ∧ (
 opV Try.prog (Instr.alloc 130 true (.tuple #[])) (panK R) w fun t6 w =>
 C2 w ∧ (
 callK Try.prog 79 #[] (panK R) w fun t27 w =>
 narrowK C2 w fun C5 w =>
 n_schema_checker_examine_c5 t6 t27 t29 C5 K3 R w))
def n_schema_checker_examine_c7 (t0 t3 t19 : Value) (C1 : World → Prop) (R : Ending → World → Prop) (w : World) : Prop :=
 qV Try.prog C1 (Instr.extract t19 0) fun t20 =>
 qV Try.prog C1 (Instr.extract t19 1) fun t21 =>
 opV Try.prog (Op.unary .not t21) (panK R) w fun t24 w =>
 callK Try.prog 62 #[t0, t24, (.int .i64 2)] (panK R) w fun t25 w =>
 drawK w fun C2 w =>
 n_schema_checker_examine_c6 t0 t3 C2 R w
def n_schema_checker_examine_c8 (t0 t3 : Value) (C1 : World → Prop) (R : Ending → World → Prop) (w : World) : Prop :=
 qV Try.prog C1 (Instr.fieldAt 28 t3 0) fun t17 =>
 qV Try.prog C1 (Instr.loadAt 9 t17) fun t18 =>
 callK Try.prog 78 #[t0] (panK R) w fun t15 w =>
 C1 w ∧ (
 qV Try.prog C1 (Instr.build 50 #[(1, t15)]) fun t16 =>
 callK Try.prog 20 #[t16, t18] (panK R) w fun t19 w =>
 C1 w ∧ (
 n_schema_checker_examine_c7 t0 t3 t19 C1 R w))
def n_schema_checker_examine (t0 t1 : Value) (R : Ending → World → Prop) (w : World) : Prop :=
 opV Try.prog (Instr.box 28 t1) (panK R) w fun t3 w =>
 opV Try.prog (Instr.fieldAt 28 t3 0) (panK R) w fun t9 w =>
 opV Try.prog (Instr.loadAt 9 t9) (panK R) w fun t10 w =>
 callK Try.prog 63 #[t10] (panK R) w fun t11 w =>
 callK Try.prog 62 #[t0, t11, (.int .i64 1)] (panK R) w fun t12 w =>
 drawK w fun C1 w =>
 n_schema_checker_examine_c8 t0 t3 C1 R w
set_option maxRecDepth 100000 in
set_option maxHeartbeats 4000000 in
theorem n_schema_checker_examine_sound {t0 t1 : Value} {R : Ending → World → Prop} {w : World} (h : n_schema_checker_examine t0 t1 R w) : Calls Try.prog 75 #[t0, t1] w R := by
  refine calls_of_den (args := [t0, t1]) Try.func75 rfl (Nat.le_of_ble_eq_true rfl) ?_
  unfold n_schema_checker_examine at h
  refine zs <| zr ?_
  refine zv h fun t3 w h => ?_
  refine zn <| zk <| zs <| zr <| zm ?_
  refine zv h fun t9 w h => ?_
  refine zv h fun t10 w h => ?_
  refine zc h c63 fun t11 w h => ?_
  refine zc h c62 fun t12 w h => ?_
  refine zn <| zk <| zs ?_
  obtain ⟨C1, hC, h⟩ := h
  refine sim_draw [4, 5, 13, 14, 15, 16, 17, 18, 19, 20, 21] (by kernel_rfl) (by kernel_rfl) C1 ?_
  refine zw 0 hC ?_
  refine ze 3 hC h fun t17 h => ?_
  refine ze 4 hC h fun t18 h => ?_
  refine sim_dloud 1 rfl (by kernel_rfl) (fun _ _ => rfl) ?_
  refine sim_call h c78 rfl (fun _ _ h _ _ => ⟨rfl, h⟩) ?_; intro t15 w h
  refine zn ?_
  obtain ⟨hC, h⟩ := h
  refine ⟨hC, ?_⟩
  obtain ⟨t16, hv, h⟩ := h
  refine sim_dsilent 2 hC rfl (by kernel_rfl) (by kernel_rfl) (fun _ _ => rfl) rfl (Sw.qV_build rfl hv) ?_
  refine sim_dloud 5 rfl (by kernel_rfl) (fun _ _ => rfl) ?_
  refine sim_call h c20 rfl (fun _ _ h _ _ => ⟨rfl, h⟩) ?_; intro t19 w h
  refine zn ?_
  obtain ⟨hC, h⟩ := h
  refine ⟨hC, ?_⟩
  refine zw 6 hC ?_
  refine ze 7 hC h fun t20 h => ?_
  refine ze 8 hC h fun t21 h => ?_
  refine zw 9 hC ?_
  refine zw 10 hC ?_
  refine sim_dend (by kernel_rfl) ?_
  refine zk <| zs <| zr <| zm <| zm ?_
  refine zv h fun t24 w h => ?_
  refine zc h c62 fun t25 w h => ?_
  refine zn <| zk <| zs ?_
  obtain ⟨C2, hC, h⟩ := h
  refine sim_draw [5, 6, 26, 27, 28, 29, 30, 31, 32] (by kernel_rfl) (by kernel_rfl) C2 ?_
  refine ze 1 hC h fun t28 h => ?_
  refine ze 2 hC h fun t29 h => ?_
  refine joinK_elim h (fun K3 hK h => ?_)
  refine sim_dmeet [5, 6, 26, 27, 30, 31, 32] (fun ρ w => K3 (ρ 5) (ρ 6) w) (fun T hT => ?_) (fun σ w h => ?_)
  · obtain ⟨h0, h1⟩ := h
    refine sim_dloud2 0 7 rfl rfl (by kernel_rfl) (fun _ _ => rfl) (fun _ _ => rfl) ?_ ?_
    · have h := h0
      refine sim_call h c79 rfl (fun _ _ h _ _ => ⟨rfl, h⟩) ?_; intro t27 w h
      refine zn ?_
      obtain ⟨C4, hs, hC, h⟩ := h
      refine ⟨C4, hs, hC, ?_⟩
      refine ze 3 hC h fun t30 h => ?_
      refine zw 4 hC ?_
      refine ze 5 hC h fun t31 h => ?_
      refine ze 6 hC h fun t32 h => ?_
      refine sim_dloud 7 rfl (by kernel_rfl) (fun _ _ => rfl) ?_
      refine sim_val h rfl rfl (fun _ _ h _ _ => ⟨rfl, h⟩) ?_; intro t6 w h
      refine zn ?_
      obtain ⟨hC, h⟩ := h
      refine ⟨hC, ?_⟩
      refine sim_dloud 8 rfl (by kernel_rfl) (fun _ _ => rfl) ?_
      refine sim_unit h rfl rfl (fun _ _ h _ _ => ⟨rfl, h⟩) ?_; intro w h
      refine zn ?_
      obtain ⟨hC, h⟩ := h
      refine ⟨hC, ?_⟩
      refine zw 9 hC ?_
      refine sim_dend (by kernel_rfl) ?_
      exact zt hT h
    · have h := h1
      refine sim_val h rfl rfl (fun _ _ h _ _ => ⟨rfl, h⟩) ?_; intro t6 w h
      refine zn ?_
      obtain ⟨hC, h⟩ := h
      refine ⟨_, fun _ h => h, hC, ?_⟩
      refine sim_dnarrow 0 rfl (by kernel_rfl) (fun _ _ => rfl) ?_
      refine sim_call h c79 rfl (fun _ _ h _ _ => ⟨rfl, h⟩) ?_; intro t27 w h
      refine zn ?_
      obtain ⟨C5, hs, hC, h⟩ := h
      refine ⟨C5, hs, hC, ?_⟩
      refine ze 3 hC h fun t30 h => ?_
      refine zw 4 hC ?_
      refine ze 5 hC h fun t31 h => ?_
      refine ze 6 hC h fun t32 h => ?_
      refine sim_dloud 8 rfl (by kernel_rfl) (fun _ _ => rfl) ?_
      refine sim_unit h rfl rfl (fun _ _ h _ _ => ⟨rfl, h⟩) ?_; intro w h
      refine zn ?_
      obtain ⟨hC, h⟩ := h
      refine ⟨hC, ?_⟩
      refine zw 9 hC ?_
      refine sim_dend (by kernel_rfl) ?_
      exact zt hT h
  subst hK
  refine zk <| zs <| zr <| zm <| zm ?_
  refine zc h c62 fun t35 w h => ?_
  refine zn <| zk <| zs <| zr ?_
  refine zv h fun t36 w h => ?_
  refine zv h fun t7 w h => ?_
  refine zu h fun w h => ?_
  refine zn <| zk <| zs <| zr ?_
  refine zv h fun t37 w h => ?_
  refine zv h fun t38 w h => ?_
  refine sim_callV h rfl rfl (fun _ _ h => ⟨rfl, h⟩) ?_; intro t39 w h
  refine zn <| zk <| zs <| zr <| zm ?_
  refine zv h fun t41 w h => ?_
  refine zv h fun t42 w h => ?_
  refine zv h fun t43 w h => ?_
  refine zv h fun t44 w h => ?_
  refine zv h fun t45 w h => ?_
  refine sim_build h rfl (fun _ _ h => ⟨rfl, h⟩) ?_; intro t46 w h
  refine zc h c56 fun t47 w h => ?_
  refine zc h c62 fun t48 w h => ?_
  refine zn <| zk <| zr ?_
  refine zv h fun t49 w h => ?_
  refine zv h fun t50 w h => ?_
  refine zm ?_
  refine zv h fun t52 w h => ?_
  refine sim_callV h rfl rfl (fun _ _ h => ⟨rfl, h⟩) ?_; intro t53 w h
  refine zn ?_
  refine body_normal ?_
  exact body_ret0 rfl h
end Go.Proofs.Ytiajhbbmgglmlaa
namespace Go.Proofs.Ytiajhbbmgglmlaa
open Sw
def n_size_Valid_c1 (t1 t6 t15 : Value) (C1 : World → Prop) (R : Ending → World → Prop) (w : World) : Prop :=
 joinK (fun (t21 : Value) (w : World) =>
 pickK t15 t21 (.bool false) fun t22 =>
 R (.returned t22) w) fun K2 =>
 guardP t15 true (
 qV Try.prog C1 (Instr.fieldAt 25 t1 1) fun t17 =>
 qV Try.prog C1 (Instr.loadAt 23 t17) fun t18 =>
 callK Try.prog 115 #[t18, t6] (panK R) w fun t20 w =>
 C1 w ∧ (
 qV Try.prog C1 (Op.unary .not t20) fun t21 =>
 K2 t21 w)) (
 K2 undef w)
def n_size_Valid_c2 (t1 t6 t9 t13 : Value) (C1 : World → Prop) (R : Ending → World → Prop) (w : World) : Prop :=
 C1 w ∧ (
 opV Try.prog (Instr.buildSlice 123 2 #[(0, t9), (1, t13)]) (panK R) w fun t14 w =>
 C1 w ∧ (
 callK Try.prog 73 #[t14] (panK R) w fun t15 w =>
 C1 w ∧ (
 n_size_Valid_c1 t1 t6 t15 C1 R w)))
def n_size_Valid_c3 (t1 t6 : Value) (C1 : World → Prop) (R : Ending → World → Prop) (w : World) : Prop :=
 qV Try.prog C1 (Instr.fieldAt 25 t1 0) fun t7 =>
 qV Try.prog C1 (Instr.loadAt 3 t7) fun t8 =>
 qV Try.prog C1 (Instr.fieldAt 25 t1 1) fun t10 =>
 qV Try.prog C1 (Instr.loadAt 23 t10) fun t11 =>
 qV Try.prog C1 (Builtin.len_ #[23] 3 #[t11]) fun t12 =>
 qV Try.prog C1 (binS .leq 3 true t12 (.int .i64 4)) fun t13 =>
 callK Try.prog 114 #[t8] (panK R) w fun t9 w =>
 n_size_Valid_c2 t1 t6 t9 t13 C1 R w
def n_size_Valid (t0 : Value) (R : Ending → World → Prop) (w : World) : Prop :=
 opV Try.prog (Instr.box 25 t0) (panK R) w fun t1 w =>
 opV Try.prog (Instr.makeMap 99 none) (panK R) w fun t5 w =>
 opV Try.prog (Instr.alloc 99 true (.tuple #[])) (panK R) w fun t3 w =>
 opU Try.prog (Instr.storeAt 99 t3 t5) (panK R) w fun w =>
 opV Try.prog (Instr.makeFunc (.func 113) #[] #[t3]) (panK R) w fun t6 w =>
 drawK w fun C1 w =>
 n_size_Valid_c3 t1 t6 C1 R w
set_option maxRecDepth 100000 in
set_option maxHeartbeats 4000000 in
theorem n_size_Valid_sound {t0 : Value} {R : Ending → World → Prop} {w : World} (h : n_size_Valid t0 R w) : Calls Try.prog 108 #[t0] w R := by
  refine calls_of_den (args := [t0]) Try.func108 rfl (Nat.le_of_ble_eq_true rfl) ?_
  unfold n_size_Valid at h
  refine zs <| zr ?_
  refine zv h fun t1 w h => ?_
  refine zm <| zn <| zk <| zs <| zr ?_
  refine zv h fun t5 w h => ?_
  refine zv h fun t3 w h => ?_
  refine zu h fun w h => ?_
  refine zn <| zk <| zs <| zr ?_
  refine sim_makeFunc h rfl rfl (fun _ _ h => ⟨rfl, h⟩) ?_; intro t6 w h
  refine zm <| zn <| zk <| zs ?_
  obtain ⟨C1, hC, h⟩ := h
  refine sim_draw [2, 7, 8, 9, 10, 11, 12, 13, 14, 15, 16, 17, 18, 19, 20, 21, 22] (by kernel_rfl) (by kernel_rfl) C1 ?_
  refine ze 0 hC h fun t7 h => ?_
  refine ze 1 hC h fun t8 h => ?_
  refine ze 3 hC h fun t10 h => ?_
  refine ze 4 hC h fun t11 h => ?_
  obtain ⟨t12, hv, h⟩ := h
  refine sim_dsilent 5 hC rfl (by kernel_rfl) (by kernel_rfl) (fun _ _ => rfl) rfl (Sw.qV_builtin rfl hv) ?_
  obtain ⟨t13, hv, h⟩ := h
  refine sim_dsilent 6 hC rfl (by kernel_rfl) (by kernel_rfl) (fun _ _ => rfl) rfl (Sw.qV_bin rfl rfl rfl hv) ?_
  refine sim_dloud 2 rfl (by kernel_rfl) (fun _ _ => rfl) ?_
  refine sim_call h c114 rfl (fun _ _ h _ _ => ⟨rfl, h⟩) ?_; intro t9 w h
  refine zn ?_
  obtain ⟨hC, h⟩ := h
  refine ⟨hC, ?_⟩
  refine sim_dloud 7 rfl (by kernel_rfl) (fun _ _ => rfl) ?_
  refine sim_buildSlice h rfl (fun _ _ h _ _ => ⟨rfl, h⟩) ?_; intro t14 w h
  refine zn ?_
  obtain ⟨hC, h⟩ := h
  refine ⟨hC, ?_⟩
  refine sim_dloud 8 rfl (by kernel_rfl) (fun _ _ => rfl) ?_
  refine sim_call h c73 rfl (fun _ _ h _ _ => ⟨rfl, h⟩) ?_; intro t15 w h
  refine zn ?_
  obtain ⟨hC, h⟩ := h
  refine ⟨hC, ?_⟩
  refine zw 9 hC ?_
  refine joinK_elim h (fun K2 hK h => ?_)
  refine sim_djoin 2 [14, 13, 12, 11, 10, 9, 8, 7, 2, 6, 5, 4, 3, 1, 0] [17, 18, 19, 20, 21] (fun ρ w => K2 (ρ 21) w) (fun _ hT => ?_) (fun σ w hC h => ?_)
  · rcases Sw.guardP_cases h with ⟨hb, h⟩ | ⟨hb, h⟩
    · obtain ⟨t17, hv, h⟩ := h
      refine sim_dsilent 10 hC rfl (by kernel_rfl) (by kernel_rfl) (fun _ _ => Sw.guardP_true hb) rfl (Sw.qV_run rfl hv) ?_
      obtain ⟨t18, hv, h⟩ := h
      refine sim_dsilent 11 hC rfl (by kernel_rfl) (by kernel_rfl) (fun _ _ => Sw.guardP_true hb) rfl (Sw.qV_run rfl hv) ?_
      refine sim_dsilent 12 hC rfl (by kernel_rfl) (by kernel_rfl) (fun _ _ => Sw.guardP_true hb) rfl (Sw.move_run rfl) ?_
      refine sim_dloud 13 rfl (by kernel_rfl) (fun _ _ => Sw.guardP_true hb) ?_
      refine sim_call h c115 rfl (fun _ _ h _ _ => ⟨rfl, h⟩) ?_; intro t20 w h
      refine zn ?_
      obtain ⟨hC, h⟩ := h
      refine ⟨hC, ?_⟩
      obtain ⟨t21, hv, h⟩ := h
      refine sim_dsilent 14 hC rfl (by kernel_rfl) (by kernel_rfl) (fun _ _ => Sw.guardP_true hb) rfl (Sw.qV_run rfl hv) ?_
      exact hT _ _ (by repeat (first | exact Sw.Fr.refl _ _ | refine Sw.Fr.put rfl ?_ | refine Sw.Fr.put_none ?_ | refine Sw.Fr.mix rfl ?_ | refine Sw.Fr.skipAll rfl ?_)) hC h
    · refine sim_dskip 10 hC rfl (by kernel_rfl) (by kernel_rfl) (fun _ _ => Sw.guardP_false hb) ?_
      refine sim_dskip 11 hC rfl (by kernel_rfl) (by kernel_rfl) (fun _ _ => Sw.guardP_false hb) ?_
      refine sim_dskip 12 hC rfl (by kernel_rfl) (by kernel_rfl) (fun _ _ => Sw.guardP_false hb) ?_
      refine sim_dskip 13 hC rfl (by kernel_rfl) (by kernel_rfl) (fun _ _ => Sw.guardP_false hb) ?_
      refine sim_dskip 14 hC rfl (by kernel_rfl) (by kernel_rfl) (fun _ _ => Sw.guardP_false hb) ?_
      exact hT _ _ (by repeat (first | exact Sw.Fr.refl _ _ | refine Sw.Fr.put rfl ?_ | refine Sw.Fr.put_none ?_ | refine Sw.Fr.mix rfl ?_ | refine Sw.Fr.skipAll rfl ?_)) hC h
  subst hK
  obtain ⟨b22, hb22, h⟩ := Sw.pickK_elim h
  refine sim_dsilent 15 hC rfl (by kernel_rfl) (by kernel_rfl) (fun _ _ => rfl) rfl (Sw.pick_run hb22 rfl rfl) ?_
  refine zw 16 hC ?_
  refine sim_dend (by kernel_rfl) ?_
  refine zk <| sim_ret ?_
  exact body_ret1 rfl rfl h
def n_size_Names_c1 (t1 t3 : Value) (K1 : World → Prop) (R : Ending → World → Prop) (w : World) : Prop :=
 opV Try.prog (Instr.fieldAt 25 t1 1) (panK R) w fun t6 w =>
 opV Try.prog (Instr.loadAt 23 t6) (panK R) w fun t7 w =>
 callK Try.prog 43 #[t7] (panK R) w fun t8 w =>
 opU Try.prog (Instr.storeAt 23 t3 t8) (panK R) w fun w =>
 K1 w
def n_size_Names (t0 : Value) (R : Ending → World → Prop) (w : World) : Prop :=
 opV Try.prog (Instr.box 25 t0) (panK R) w fun t1 w =>
 opV Try.prog (Instr.alloc 23 true (.tuple #[])) (panK R) w fun t3 w =>
 opV Try.prog (Instr.loadAt 25 t1) (panK R) w fun t4 w =>
 callK Try.prog 108 #[t4] (panK R) w fun t5 w =>
 joinK (fun (w : World) =>
 opV Try.prog (Instr.makeFunc (.func 116) #[] #[t3]) (panK R) w fun t9 w =>
 R (.returned t9) w) fun K1 =>
 condP t5 (
 n_size_Names_c1 t1 t3 K1 R w) (
 K1 w)
set_option maxRecDepth 100000 in
set_option maxHeartbeats 4000000 in
theorem n_size_Names_sound {t0 : Value} {R : Ending → World → Prop} {w : World} (h : n_size_Names t0 R w) : Calls Try.prog 109 #[t0] w R := by
  refine calls_of_den (args := [t0]) Try.func109 rfl (Nat.le_of_ble_eq_true rfl) ?_
  unfold n_size_Names at h
  refine zs <| zr ?_
  refine zv h fun t1 w h => ?_
  refine zm <| zn <| zk <| zs <| zr ?_
  refine zv h fun t3 w h => ?_
  refine zn <| zk <| zs <| zs <| zr ?_
  refine zv h fun t4 w h => ?_
  refine zc h c108 fun t5 w h => ?_
  refine zn <| zk ?_
  refine joinK_elim h (fun K1 hK h => ?_)
  refine sim_joinQ [6, 7, 8] (fun ρ w => K1 w) (fun _ hkK1 => ?_) (fun σ w h => ?_)
  · refine sim_cond h rfl (fun h => ?_) (fun h => ?_)
    · refine zr ?_
      refine zv h fun t6 w h => ?_
      refine zv h fun t7 w h => ?_
      refine zc h c43 fun t8 w h => ?_
      refine zu h fun w h => ?_
      refine zn <| zk ?_
      exact zt hkK1 h
    · refine sim_skip <| zk ?_
      exact zt hkK1 h
  subst hK
  refine zk <| zs <| zr ?_
  refine sim_makeFunc h rfl rfl (fun _ _ h => ⟨rfl, h⟩) ?_; intro t9 w h
  refine zm <| zn <| zk <| sim_ret ?_
  exact body_ret1 rfl rfl h
def n_size_Interval_c1 (t4 t19 t21 : Value) (R : Ending → World → Prop) (w : World) : Prop :=
 opV Try.prog (Instr.build 31 #[(0, t19), (1, t21)]) (panK R) w fun t22 w =>
 opU Try.prog (Instr.storeAt 31 t4 t22) (panK R) w fun w =>
 qW Try.prog 31 t4 w fun r0 =>
 R (.returned (.tuple #[r0, (.int .i64 0)])) w
def n_size_Interval_c2 (t2 t3 t4 : Value) (R : Ending → World → Prop) (w : World) : Prop :=
 opV Try.prog (Instr.makeFunc (.func 119) #[] #[t2, t3]) (panK R) w fun t17 w =>
 callV Try.prog t17 #[(.bool true)] (panK R) w fun t19 w =>
 callV Try.prog t17 #[(.bool false)] (panK R) w fun t21 w =>
 n_size_Interval_c1 t4 t19 t21 R w
def n_size_Interval_c3 (t2 t3 t4 t12 : Value) (R : Ending → World → Prop) (w : World) : Prop :=
 opV Try.prog (binS .neq 32 true t12 (.int .i64 0)) (panK R) w fun t14 w =>
 condP t14 (
 opV Try.prog (Instr.build 31 #[]) (panK R) w fun t15 w =>
 opU Try.prog (Instr.storeAt 31 t4 t15) (panK R) w fun w =>
 qW Try.prog 31 t4 w fun r0 =>
 R (.returned (.tuple #[r0, t12])) w) (
 n_size_Interval_c2 t2 t3 t4 R w)
def n_size_Interval (t0 t1 : Value) (R : Ending → World → Prop) (w : World) : Prop :=
 opV Try.prog (Instr.box 25 t0) (panK R) w fun t2 w =>
 opV Try.prog (Instr.box 53 t1) (panK R) w fun t3 w =>
 opV Try.prog (Instr.alloc 31 true (.tuple #[])) (panK R) w fun t4 w =>
 opV Try.prog (Instr.loadAt 25 t2) (panK R) w fun t9 w =>
 opV Try.prog (Instr.loadAt 53 t3) (panK R) w fun t10 w =>
 callK Try.prog 118 #[t9, (.string { data := #[] }), t10, (.func (.func 117) #[] #[])] (panK R) w fun t12 w =>
 n_size_Interval_c3 t2 t3 t4 t12 R w
set_option maxRecDepth 100000 in
set_option maxHeartbeats 4000000 in
theorem n_size_Interval_sound {t0 t1 : Value} {R : Ending → World → Prop} {w : World} (h : n_size_Interval t0 t1 R w) : Calls Try.prog 110 #[t0, t1] w R := by
  refine calls_of_den (args := [t0, t1]) Try.func110 rfl (Nat.le_of_ble_eq_true rfl) ?_
  unfold n_size_Interval at h
  refine zs <| zr ?_
  refine zv h fun t2 w h => ?_
  refine zv h fun t3 w h => ?_
  refine zv h fun t4 w h => ?_
  refine zm <| zn <| zk <| zs <| zr <| zm <| zn <| zk <| zs <| zs <| zr ?_
  refine zv h fun t9 w h => ?_
  refine zv h fun t10 w h => ?_
  refine zm ?_
  refine zc h c118 fun t12 w h => ?_
  refine zm <| zn <| zk <| zs <| zr <| zm ?_
  refine zb h fun t14 w h => ?_
  refine zn <| zk ?_
  refine sim_cond h rfl (fun h => ?_) (fun h => ?_)
  · refine zs <| zr ?_
    refine sim_build h rfl (fun _ _ h => ⟨rfl, h⟩) ?_; intro t15 w h
    refine zm ?_
    refine zu h fun w h => ?_
    refine zm <| zn <| zk <| sim_ret <| sim_then_ret ?_
    exact body_retCT rfl rfl rfl h
  · refine sim_skip <| zk <| zs <| zr ?_
    refine sim_makeFunc h rfl rfl (fun _ _ h => ⟨rfl, h⟩) ?_; intro t17 w h
    refine zm <| zn <| zk <| zs <| zr <| zm ?_
    refine sim_callV h rfl rfl (fun _ _ h => ⟨rfl, h⟩) ?_; intro t19 w h
    refine zm ?_
    refine sim_callV h rfl rfl (fun _ _ h => ⟨rfl, h⟩) ?_; intro t21 w h
    refine sim_build h rfl (fun _ _ h => ⟨rfl, h⟩) ?_; intro t22 w h
    refine zu h fun w h => ?_
    refine zm <| zn <| zk <| sim_ret ?_
    exact body_retCT rfl rfl rfl h
def n_slices_ContainsFunc_api_Field (t0 t1 : Value) (R : Ending → World → Prop) (w : World) : Prop :=
 callK Try.prog 59 #[t0, t1] (panK R) w fun t7 w =>
 opV Try.prog (binS .geq 3 true t7 (.int .i64 0)) (panK R) w fun t8 w =>
 R (.returned t8) w
set_option maxRecDepth 100000 in
set_option maxHeartbeats 4000000 in
theorem n_slices_ContainsFunc_api_Field_sound {t0 t1 : Value} {R : Ending → World → Prop} {w : World} (h : n_slices_ContainsFunc_api_Field t0 t1 R w) : Calls Try.prog 111 #[t0, t1] w R := by
  refine calls_of_den (args := [t0, t1]) Try.func111 rfl (Nat.le_of_ble_eq_true rfl) ?_
  unfold n_slices_ContainsFunc_api_Field at h
  refine zs <| zr <| zm <| zn <| zk <| zs <| zr <| zm <| zm ?_
  refine zc h c59 fun t7 w h => ?_
  refine zb h fun t8 w h => ?_
  refine zm <| zn <| zk <| sim_ret ?_
  exact body_ret1 rfl rfl h
def n_schema_checker_cases_1 (t0 t1 : Value) (R : Ending → World → Prop) (w : World) : Prop :=
 opV Try.prog (Instr.box 28 t0) (panK R) w fun t2 w =>
 opV Try.prog (Instr.fieldAt 28 t2 1) (panK R) w fun t4 w =>
 opV Try.prog (Instr.loadAt 22 t4) (panK R) w fun t5 w =>
 opV Try.prog (binS .eql 22 true t5 (.int .i64 9)) (panK R) w fun t6 w =>
 joinK (fun (t12 : Value) (w : World) =>
 pickK t6 t12 (.bool false) fun t13 =>
 R (.returned t13) w) fun K1 =>
 guardP t6 true (
 opV Try.prog (Instr.fieldAt 28 t2 9) (panK R) w fun t8 w =>
 opV Try.prog (Instr.loadAt 9 t8) (panK R) w fun t9 w =>
 opV Try.prog (Instr.fieldAt 28 t1 9) (panK R) w fun t10 w =>
 opV Try.prog (Instr.loadAt 9 t10) (panK R) w fun t11 w =>
 opV Try.prog (binS .eql 9 false t9 t11) (panK R) w fun t12 w =>
 K1 t12 w) (
 K1 undef w)
set_option maxRecDepth 100000 in
set_option maxHeartbeats 4000000 in
theorem n_schema_checker_cases_1_sound {t0 t1 : Value} {R : Ending → World → Prop} {w : World} (h : n_schema_checker_cases_1 t0 t1 R w) : Calls Try.prog 112 #[t0, t1] w R := by
  refine calls_of_den (args := [t0, t1]) Try.func112 rfl (Nat.le_of_ble_eq_true rfl) ?_
  unfold n_schema_checker_cases_1 at h
  refine zs <| zr ?_
  refine zv h fun t2 w h => ?_
  refine zm <| zn <| zk <| zs <| sim_regionG ?_
  refine sim_seg 4 rfl ?_
  refine zv h fun t4 w h => ?_
  refine zv h fun t5 w h => ?_
  refine zb h fun t6 w h => ?_
  refine zm <| zn ?_
  refine joinK_elim h (fun K1 hK h => ?_)
  refine sim_groupJ 5 3 true [8, 9, 10, 11, 12] (fun ρ w => K1 (ρ 12) w) rfl rfl (fun T hT => guardP_mono h (fun h => ?_) (fun h => ?_)) (fun σ w h => ?_)
  · refine zv h fun t8 w h => ?_
    refine zv h fun t9 w h => ?_
    refine zv h fun t10 w h => ?_
    refine zv h fun t11 w h => ?_
    refine zb h fun t12 w h => ?_
    refine zn ?_
    exact zt hT h
  · exact zt hT h
  subst hK
  refine sim_seg 2 rfl ?_
  refine sim_pick h rfl rfl rfl ?_; intro t13 h
  refine zm <| zn <| sim_end <| zk <| sim_ret ?_
  exact body_ret1 rfl rfl h
def n_size_Valid_1_c1 (t16 t19 t22 : Value) (C1 : World → Prop) (K2 : Value → World → Prop) (R : Ending → World → Prop) (w : World) : Prop :=
 opV Try.prog (Instr.buildSlice 123 3 #[(0, t16), (1, t19), (2, t22)]) (panK R) w fun t23 w =>
 C1 w ∧ (
 callK Try.prog 73 #[t23] (panK R) w fun t24 w =>
 C1 w ∧ (
 qV Try.prog C1 (Op.unary .not t24) fun t25 =>
 K2 t25 w))
def n_size_Valid_1_c2 (t2 : Value) (C1 : World → Prop) (K2 : Value → World → Prop) (R : Ending → World → Prop) (w : World) : Prop :=
 qV Try.prog C1 (Instr.fieldAt 77 t2 0) fun t14 =>
 qV Try.prog C1 (Instr.loadAt 9 t14) fun t15 =>
 qV Try.prog C1 (Instr.fieldAt 77 t2 1) fun t17 =>
 qV Try.prog C1 (Instr.loadAt 3 t17) fun t18 =>
 qV Try.prog C1 (binS .neq 3 true t18 (.int .i64 0)) fun t19 =>
 qV Try.prog C1 (Instr.fieldAt 77 t2 1) fun t20 =>
 qV Try.prog C1 (Instr.loadAt 3 t20) fun t21 =>
 callK Try.prog 63 #[t15] (panK R) w fun t16 w =>
 C1 w ∧ (
 callK Try.prog 114 #[t21] (panK R) w fun t22 w =>
 C1 w ∧ (
 n_size_Valid_1_c1 t16 t19 t22 C1 K2 R w))
def n_size_Valid_1 (t0 t1 : Value) (R : Ending → World → Prop) (w : World) : Prop :=
 opV Try.prog (Instr.box 77 t0) (panK R) w fun t2 w =>
 opV Try.prog (Instr.loadAt 99 t1) (panK R) w fun t5 w =>
 opV Try.prog (Instr.fieldAt 77 t2 0) (panK R) w fun t6 w =>
 opV Try.prog (Instr.loadAt 9 t6) (panK R) w fun t7 w =>
 opV Try.prog (Instr.lookup 99 t5 t7 false) (panK R) w fun t8 w =>
 opV Try.prog (Instr.loadAt 99 t1) (panK R) w fun t9 w =>
 opV Try.prog (Instr.fieldAt 77 t2 0) (panK R) w fun t10 w =>
 opV Try.prog (Instr.loadAt 9 t10) (panK R) w fun t11 w =>
 opU Try.prog (Instr.mapUpdate 99 t9 t11 (.bool true)) (panK R) w fun w =>
 drawK w fun C1 w =>
 joinK (fun (t25 : Value) (w : World) =>
 pickK t8 (.bool true) t25 fun t26 =>
 R (.returned t26) w) fun K2 =>
 guardP t8 false (
 n_size_Valid_1_c2 t2 C1 K2 R w) (
 K2 undef w)
set_option maxRecDepth 100000 in
set_option maxHeartbeats 4000000 in
theorem n_size_Valid_1_sound {t0 t1 : Value} {R : Ending → World → Prop} {w : World} (h : n_size_Valid_1 t0 t1 R w) : Calls Try.prog 113 #[t0, t1] w R := by
  refine calls_of_den (args := [t0, t1]) Try.func113 rfl (Nat.le_of_ble_eq_true rfl) ?_
  unfold n_size_Valid_1 at h
  refine zs <| zr ?_
  refine zv h fun t2 w h => ?_
  refine zm <| zn <| zk <| zs <| zr ?_
  refine zv h fun t5 w h => ?_
  refine zv h fun t6 w h => ?_
  refine zv h fun t7 w h => ?_
  refine zv h fun t8 w h => ?_
  refine zm <| zn <| zk <| zs <| zr ?_
  refine zv h fun t9 w h => ?_
  refine zv h fun t10 w h => ?_
  refine zv h fun t11 w h => ?_
  refine zu h fun w h => ?_
  refine zn <| zk <| zs ?_
  obtain ⟨C1, hC, h⟩ := h
  refine sim_draw [3, 12, 13, 14, 15, 16, 17, 18, 19, 20, 21, 22, 23, 24, 25, 26] (by kernel_rfl) (by kernel_rfl) C1 ?_
  refine zw 0 hC ?_
  refine zw 1 hC ?_
  refine joinK_elim h (fun K2 hK h => ?_)
  refine sim_djoin 2 [13, 12, 11, 10, 4, 9, 8, 7, 6, 5, 3, 2, 1, 0] [14, 15, 16, 17, 18, 19, 20, 21, 22, 23, 24, 25] (fun ρ w => K2 (ρ 25) w) (fun _ hT => ?_) (fun σ w hC h => ?_)
  · rcases Sw.guardP_cases h with ⟨hb, h⟩ | ⟨hb, h⟩
    · obtain ⟨t14, hv, h⟩ := h
      refine sim_dsilent 2 hC rfl (by kernel_rfl) (by kernel_rfl) (fun _ _ => Sw.guardP_true hb) rfl (Sw.qV_run rfl hv) ?_
      obtain ⟨t15, hv, h⟩ := h
      refine sim_dsilent 3 hC rfl (by kernel_rfl) (by kernel_rfl) (fun _ _ => Sw.guardP_true hb) rfl (Sw.qV_run rfl hv) ?_
      obtain ⟨t17, hv, h⟩ := h
      refine sim_dsilent 5 hC rfl (by kernel_rfl) (by kernel_rfl) (fun _ _ => Sw.guardP_true hb) rfl (Sw.qV_run rfl hv) ?_
      obtain ⟨t18, hv, h⟩ := h
      refine sim_dsilent 6 hC rfl (by kernel_rfl) (by kernel_rfl) (fun _ _ => Sw.guardP_true hb) rfl (Sw.qV_run rfl hv) ?_
      obtain ⟨t19, hv, h⟩ := h
      refine sim_dsilent 7 hC rfl (by kernel_rfl) (by kernel_rfl) (fun _ _ => Sw.guardP_true hb) rfl (Sw.qV_bin rfl rfl rfl hv) ?_
      obtain ⟨t20, hv, h⟩ := h
      refine sim_dsilent 8 hC rfl (by kernel_rfl) (by kernel_rfl) (fun _ _ => Sw.guardP_true hb) rfl (Sw.qV_run rfl hv) ?_
      obtain ⟨t21, hv, h⟩ := h
      refine sim_dsilent 9 hC rfl (by kernel_rfl) (by kernel_rfl) (fun _ _ => Sw.guardP_true hb) rfl (Sw.qV_run rfl hv) ?_
      refine sim_dloud 4 rfl (by kernel_rfl) (fun _ _ => Sw.guardP_true hb) ?_
      refine sim_call h c63 rfl (fun _ _ h _ _ => ⟨rfl, h⟩) ?_; intro t16 w h
      refine zn ?_
      obtain ⟨hC, h⟩ := h
      refine ⟨hC, ?_⟩
      refine sim_dloud 10 rfl (by kernel_rfl) (fun _ _ => Sw.guardP_true hb) ?_
      refine sim_call h c114 rfl (fun _ _ h _ _ => ⟨rfl, h⟩) ?_; intro t22 w h
      refine zn ?_
      obtain ⟨hC, h⟩ := h
      refine ⟨hC, ?_⟩
      refine sim_dloud 11 rfl (by kernel_rfl) (fun _ _ => Sw.guardP_true hb) ?_
      refine sim_buildSlice h rfl (fun _ _ h _ _ => ⟨rfl, h⟩) ?_; intro t23 w h
      refine zn ?_
      obtain ⟨hC, h⟩ := h
      refine ⟨hC, ?_⟩
      refine sim_dloud 12 rfl (by kernel_rfl) (fun _ _ => Sw.guardP_true hb) ?_
      refine sim_call h c73 rfl (fun _ _ h _ _ => ⟨rfl, h⟩) ?_; intro t24 w h
      refine zn ?_
      obtain ⟨hC, h⟩ := h
      refine ⟨hC, ?_⟩
      obtain ⟨t25, hv, h⟩ := h
      refine sim_dsilent 13 hC rfl (by kernel_rfl) (by kernel_rfl) (fun _ _ => Sw.guardP_true hb) rfl (Sw.qV_run rfl hv) ?_
      exact hT _ _ (by repeat (first | exact Sw.Fr.refl _ _ | refine Sw.Fr.put rfl ?_ | refine Sw.Fr.put_none ?_ | refine Sw.Fr.mix rfl ?_ | refine Sw.Fr.skipAll rfl ?_)) hC h
    · refine sim_dskip 2 hC rfl (by kernel_rfl) (by kernel_rfl) (fun _ _ => Sw.guardP_false hb) ?_
      refine sim_dskip 3 hC rfl (by kernel_rfl) (by kernel_rfl) (fun _ _ => Sw.guardP_false hb) ?_
      refine sim_dskip 5 hC rfl (by kernel_rfl) (by kernel_rfl) (fun _ _ => Sw.guardP_false hb) ?_
      refine sim_dskip 6 hC rfl (by kernel_rfl) (by kernel_rfl) (fun _ _ => Sw.guardP_false hb) ?_
      refine sim_dskip 7 hC rfl (by kernel_rfl) (by kernel_rfl) (fun _ _ => Sw.guardP_false hb) ?_
      refine sim_dskip 8 hC rfl (by kernel_rfl) (by kernel_rfl) (fun _ _ => Sw.guardP_false hb) ?_
      refine sim_dskip 9 hC rfl (by kernel_rfl) (by kernel_rfl) (fun _ _ => Sw.guardP_false hb) ?_
      refine sim_dskip 4 hC rfl (by kernel_rfl) (by kernel_rfl) (fun _ _ => Sw.guardP_false hb) ?_
      refine sim_dskip 10 hC rfl (by kernel_rfl) (by kernel_rfl) (fun _ _ => Sw.guardP_false hb) ?_
      refine sim_dskip 11 hC rfl (by kernel_rfl) (by kernel_rfl) (fun _ _ => Sw.guardP_false hb) ?_
      refine sim_dskip 12 hC rfl (by kernel_rfl) (by kernel_rfl) (fun _ _ => Sw.guardP_false hb) ?_
      refine sim_dskip 13 hC rfl (by kernel_rfl) (by kernel_rfl) (fun _ _ => Sw.guardP_false hb) ?_
      exact hT _ _ (by repeat (first | exact Sw.Fr.refl _ _ | refine Sw.Fr.put rfl ?_ | refine Sw.Fr.put_none ?_ | refine Sw.Fr.mix rfl ?_ | refine Sw.Fr.skipAll rfl ?_)) hC h
  subst hK
  obtain ⟨b26, hb26, h⟩ := Sw.pickK_elim h
  refine sim_dsilent 14 hC rfl (by kernel_rfl) (by kernel_rfl) (fun _ _ => rfl) rfl (Sw.pick_run hb26 rfl rfl) ?_
  refine zw 15 hC ?_
  refine sim_dend (by kernel_rfl) ?_
  refine zk <| sim_ret ?_
  exact body_ret1 rfl rfl h
def n_size_small (t0 : Value) (R : Ending → World → Prop) (w : World) : Prop :=
 opV Try.prog (binS .geq 3 true t0 (.int .i64 (-1048576))) (panK R) w fun t4 w =>
 joinK (fun (t7 : Value) (w : World) =>
 pickK t4 t7 (.bool false) fun t8 =>
 R (.returned t8) w) fun K1 =>
 guardP t4 true (
 opV Try.prog (binS .leq 3 true t0 (.int .i64 1048576)) (panK R) w fun t7 w =>
 K1 t7 w) (
 K1 undef w)
set_option maxRecDepth 100000 in
set_option maxHeartbeats 4000000 in
theorem n_size_small_sound {t0 : Value} {R : Ending → World → Prop} {w : World} (h : n_size_small t0 R w) : Calls Try.prog 114 #[t0] w R := by
  refine calls_of_den (args := [t0]) Try.func114 rfl (Nat.le_of_ble_eq_true rfl) ?_
  unfold n_size_small at h
  refine zs <| zr <| zm <| zn <| zk <| zs <| sim_regionG ?_
  refine sim_seg 3 rfl ?_
  refine zm ?_
  refine zb h fun t4 w h => ?_
  refine zm <| zn ?_
  refine joinK_elim h (fun K1 hK h => ?_)
  refine sim_groupJ 2 2 true [6, 7] (fun ρ w => K1 (ρ 7) w) rfl rfl (fun T hT => guardP_mono h (fun h => ?_) (fun h => ?_)) (fun σ w h => ?_)
  · refine zm ?_
    refine zb h fun t7 w h => ?_
    refine zn ?_
    exact zt hT h
  · exact zt hT h
  subst hK
  refine sim_seg 2 rfl ?_
  refine sim_pick h rfl rfl rfl ?_; intro t8 h
  refine zm <| zn <| sim_end <| zk <| sim_ret ?_
  exact body_ret1 rfl rfl h
def n_slices_ContainsFunc_api_Term (t0 t1 : Value) (R : Ending → World → Prop) (w : World) : Prop :=
 callK Try.prog 122 #[t0, t1] (panK R) w fun t7 w =>
 opV Try.prog (binS .geq 3 true t7 (.int .i64 0)) (panK R) w fun t8 w =>
 R (.returned t8) w
set_option maxRecDepth 100000 in
set_option maxHeartbeats 4000000 in
theorem n_slices_ContainsFunc_api_Term_sound {t0 t1 : Value} {R : Ending → World → Prop} {w : World} (h : n_slices_ContainsFunc_api_Term t0 t1 R w) : Calls Try.prog 115 #[t0, t1] w R := by
  refine calls_of_den (args := [t0, t1]) Try.func115 rfl (Nat.le_of_ble_eq_true rfl) ?_
  unfold n_slices_ContainsFunc_api_Term at h
  refine zs <| zr <| zm <| zn <| zk <| zs <| zr <| zm <| zm ?_
  refine zc h c122 fun t7 w h => ?_
  refine zb h fun t8 w h => ?_
  refine zm <| zn <| zk <| sim_ret ?_
  exact body_ret1 rfl rfl h
def n_size_Names_1_c1 (t7 t14 : Value) (next1 : Value → World → Prop) (R : Ending → World → Prop) (w : World) : Prop :=
 opV Try.prog (Op.unary .not t14) (panK R) w fun t15 w =>
 condP t15 (
 R (.returned (.tuple #[])) w) (
 opV Try.prog (binS .add 3 true t7 (.int .i64 1)) (panK R) w fun t16 w =>
 next1 t16 w)
def n_size_Names_1_c2 (t0 t5 t7 : Value) (next1 : Value → World → Prop) (R : Ending → World → Prop) (w : World) : Prop :=
 opV Try.prog (Instr.indexAt 23 t5 t7) (panK R) w fun t9 w =>
 opV Try.prog (Instr.loadAt 77 t9) (panK R) w fun t10 w =>
 opV Try.prog (Instr.alloc 77 true (.tuple #[])) (panK R) w fun t4 w =>
 opU Try.prog (Instr.storeAt 77 t4 t10) (panK R) w fun w =>
 opV Try.prog (Instr.fieldAt 77 t4 0) (panK R) w fun t12 w =>
 opV Try.prog (Instr.loadAt 9 t12) (panK R) w fun t13 w =>
 callV Try.prog t0 #[t13] (panK R) w fun t14 w =>
 n_size_Names_1_c1 t7 t14 next1 R w
def n_size_Names_1 (t0 t1 : Value) (R : Ending → World → Prop) (w : World) : Prop :=
 opV Try.prog (Instr.loadAt 23 t1) (panK R) w fun t5 w =>
 opV Try.prog (Builtin.len_ #[23] 3 #[t5]) (panK R) w fun t6 w =>
 loop1 (fun t7 w next1 =>
 opV Try.prog (binS .lss 3 false t7 t6) (panK R) w fun t8 w =>
 condP t8 (
 n_size_Names_1_c2 t0 t5 t7 next1 R w) (
 R (.returned (.tuple #[])) w)) (.int .i64 0) w
set_option maxRecDepth 100000 in
set_option maxHeartbeats 4000000 in
theorem n_size_Names_1_sound {t0 t1 : Value} {R : Ending → World → Prop} {w : World} (h : n_size_Names_1 t0 t1 R w) : Calls Try.prog 116 #[t0, t1] w R := by
  refine calls_of_den (args := [t0, t1]) Try.func116 rfl (Nat.le_of_ble_eq_true rfl) ?_
  unfold n_size_Names_1 at h
  refine zs <| zr ?_
  refine zv h fun t5 w h => ?_
  refine zx h fun t6 w h => ?_
  refine zm <| zn <| zk <| sim_block ?_
  obtain ⟨I, μ, h0, hr⟩ := h
  refine sim_loop [4, 7, 8, 9, 10, 11, 12, 13, 14, 15, 16] (by kernel_rfl) (fun ρ w => I (ρ 7) w) (fun ρ w => μ (ρ 7) w) h0 (fun σ w hI => ?_)
  have h := hr _ _ hI
  clear hr h0 hI
  refine zs <| zr ?_
  refine zb h fun t8 w h => ?_
  refine zn <| zk <| zs ?_
  refine sim_cond h rfl (fun h => ?_) (fun h => ?_)
  · refine sim_skip <| zk <| zs <| sim_block <| zs <| zr ?_
    refine zv h fun t9 w h => ?_
    refine zv h fun t10 w h => ?_
    refine zv h fun t4 w h => ?_
    refine zu h fun w h => ?_
    refine zn <| zk <| zs <| zr <| zm ?_
    refine zv h fun t12 w h => ?_
    refine zv h fun t13 w h => ?_
    refine sim_callV h rfl rfl (fun _ _ h => ⟨rfl, h⟩) ?_; intro t14 w h
    refine zv h fun t15 w h => ?_
    refine zn <| zk ?_
    refine sim_cond h rfl (fun h => ?_) (fun h => ?_)
    · refine sim_ret <| sim_block_ret <| sim_then_ret <| sim_then_ret <| sim_block_ret ?_
      exact body_ret0 rfl h
    · refine sim_skip <| sim_block_normal <| zk <| zr ?_
      refine zb h fun t16 w h => ?_
      refine zm <| zn <| zk ?_
      exact ⟨rfl, h⟩
  · refine sim_exit <| sim_then_exit <| sim_then_exit <| sim_block_hit ?_
    refine body_normal ?_
    exact body_ret0 rfl h
def n_size_Interval_1 (t0 : Value) (R : Ending → World → Prop) (w : World) : Prop :=
 opV Try.prog (Instr.box 31 t0) (panK R) w fun t1 w =>
 opV Try.prog (Instr.fieldAt 31 t1 0) (panK R) w fun t3 w =>
 opV Try.prog (Instr.loadAt 3 t3) (panK R) w fun t4 w =>
 opV Try.prog (binS .geq 3 true t4 (.int .i64 0)) (panK R) w fun t5 w =>
 opV Try.prog (Instr.fieldAt 31 t1 0) (panK R) w fun t6 w =>
 opV Try.prog (Instr.loadAt 3 t6) (panK R) w fun t7 w =>
 opV Try.prog (Instr.fieldAt 31 t1 1) (panK R) w fun t8 w =>
 opV Try.prog (Instr.loadAt 3 t8) (panK R) w fun t9 w =>
 opV Try.prog (binS .leq 3 false t7 t9) (panK R) w fun t10 w =>
 opV Try.prog (Instr.fieldAt 31 t1 1) (panK R) w fun t11 w =>
 opV Try.prog (Instr.loadAt 3 t11) (panK R) w fun t12 w =>
 opV Try.prog (binS .lss 3 true t12 (.int .i64 34359738368)) (panK R) w fun t13 w =>
 opV Try.prog (Instr.buildSlice 123 3 #[(0, t5), (1, t10), (2, t13)]) (panK R) w fun t14 w =>
 callK Try.prog 73 #[t14] (panK R) w fun t15 w =>
 R (.returned t15) w
set_option maxRecDepth 100000 in
set_option maxHeartbeats 4000000 in
theorem n_size_Interval_1_sound {t0 : Value} {R : Ending → World → Prop} {w : World} (h : n_size_Interval_1 t0 R w) : Calls Try.prog 117 #[t0] w R := by
  refine calls_of_den (args := [t0]) Try.func117 rfl (Nat.le_of_ble_eq_true rfl) ?_
  unfold n_size_Interval_1 at h
  refine zs <| zr ?_
  refine zv h fun t1 w h => ?_
  refine zm <| zn <| zk <| zs <| zr ?_
  refine zv h fun t3 w h => ?_
  refine zv h fun t4 w h => ?_
  refine zb h fun t5 w h => ?_
  refine zv h fun t6 w h => ?_
  refine zv h fun t7 w h => ?_
  refine zv h fun t8 w h => ?_
  refine zv h fun t9 w h => ?_
  refine zb h fun t10 w h => ?_
  refine zv h fun t11 w h => ?_
  refine zv h fun t12 w h => ?_
  refine zb h fun t13 w h => ?_
  refine sim_buildSlice h rfl (fun _ _ h => ⟨rfl, h⟩) ?_; intro t14 w h
  refine zc h c73 fun t15 w h => ?_
  refine zm <| zn <| zk <| sim_ret ?_
  exact body_ret1 rfl rfl h
def n_size_checked_api_Range_c1 (t7 t8 t11 : Value) (K2 : World → Prop) (Qr1 : List PanicEntry → World → Prop) (Xr1 : Nat → World → Prop) (R : Ending → World → Prop) (w : World) : Prop :=
 opV Try.prog (Instr.loadAt 145 t7) Qr1 w fun t33 w =>
 opV Try.prog (Instr.loadAt 31 t11) Qr1 w fun t34 w =>
 callV Try.prog t33 #[t34] Qr1 w fun t35 w =>
 opV Try.prog (Op.unary .not t35) Qr1 w fun t36 w =>
 condP t36 (
 opU Try.prog (Instr.storeAt 32 t8 (.int .i64 2)) Qr1 w fun w =>
 Xr1 0 w) (
 K2 w)
def n_size_checked_api_Range_c2 (t5 t6 t7 t8 t9 t18 : Value) (Kr1 : World → Prop) (Qr1 : List PanicEntry → World → Prop) (Xr1 : Nat → World → Prop) (R : Ending → World → Prop) (w : World) : Prop :=
 opV Try.prog (Instr.loadAt 53 t6) Qr1 w fun t20 w =>
 opV Try.prog (Instr.lookup 53 t20 t18 true) Qr1 w fun t22 w =>
 opV Try.prog (Instr.extract t22 0) Qr1 w fun t23 w =>
 opV Try.prog (Instr.extract t22 1) Qr1 w fun t24 w =>
 opV Try.prog (Instr.alloc 31 true (.tuple #[])) Qr1 w fun t11 w =>
 opU Try.prog (Instr.storeAt 31 t11 t23) Qr1 w fun w =>
 opV Try.prog (Instr.loadAt 9 t5) Qr1 w fun t27 w =>
 opV Try.prog (binS .eql 9 false t18 t27) Qr1 w fun t28 w =>
 joinK (fun (w : World) =>
 Kr1 w) fun K2 =>
 condP t28 (
 K2 w) (
 opV Try.prog (Op.unary .not t24) Qr1 w fun t31 w =>
 condP t31 (
 opU Try.prog (Instr.storeAt 4 t9 (.bool true)) Qr1 w fun w =>
 K2 w) (
 n_size_checked_api_Range_c1 t7 t8 t11 K2 Qr1 Xr1 R w))
def n_size_checked_api_Range_c3 (t8 t9 : Value) (ds : List Deferred) (R : Ending → World → Prop) (w : World) : Prop :=
 opV Try.prog (Instr.loadAt 4 t9) (outQ Try.prog ds [(some 32, t8)] R) w fun t37 w =>
 condP t37 (
 opU Try.prog (Instr.storeAt 32 t8 (.int .i64 9)) (outQ Try.prog ds [(some 32, t8)] R) w fun w =>
 outX Try.prog ds [(some 32, t8)] R w) (
 opU Try.prog (Instr.storeAt 32 t8 (.int .i64 0)) (outQ Try.prog ds [(some 32, t8)] R) w fun w =>
 outX Try.prog ds [(some 32, t8)] R w)
def n_size_checked_api_Range_c4 (t5 t6 t7 t8 t9 t17 : Value) (ds : List Deferred) (R : Ending → World → Prop) (w : World) : Prop :=
 rangeN Try.prog t17 ds (fun l1 t18 w Kr1 Xr1 Qr1 =>
 busyK l1 w fun w =>
 n_size_checked_api_Range_c2 t5 t6 t7 t8 t9 t18 Kr1 Qr1 Xr1 R w) (fun ch ds w => outQ Try.prog ds [(some 32, t8)] R ch w) w (fun ds w =>
 n_size_checked_api_Range_c3 t8 t9 ds R w) [fun ds w =>
 outX Try.prog ds [(some 32, t8)] R w]
def n_size_checked_api_Range_c5 (t4 t5 t6 t7 t8 : Value) (ds : List Deferred) (R : Ending → World → Prop) (w : World) : Prop :=
 opV Try.prog (Instr.alloc 4 true (.tuple #[])) (outQ Try.prog ds [(some 32, t8)] R) w fun t9 w =>
 opU Try.prog (Instr.storeAt 4 t9 (.bool false)) (outQ Try.prog ds [(some 32, t8)] R) w fun w =>
 opV Try.prog (Instr.loadAt 25 t4) (outQ Try.prog ds [(some 32, t8)] R) w fun t16 w =>
 callK Try.prog 109 #[t16] (outQ Try.prog ds [(some 32, t8)] R) w fun t17 w =>
 n_size_checked_api_Range_c4 t5 t6 t7 t8 t9 t17 ds R w
def n_size_checked_api_Range_c6 (t4 t5 t6 t7 t8 t14 : Value) (ds : List Deferred) (R : Ending → World → Prop) (w : World) : Prop :=
 opV Try.prog (Op.unary .not t14) (outQ Try.prog ds [(some 32, t8)] R) w fun t15 w =>
 condP t15 (
 opU Try.prog (Instr.storeAt 32 t8 (.int .i64 2)) (outQ Try.prog ds [(some 32, t8)] R) w fun w =>
 outX Try.prog ds [(some 32, t8)] R w) (
 n_size_checked_api_Range_c5 t4 t5 t6 t7 t8 ds R w)
def n_size_checked_api_Range (t0 t1 t2 t3 : Value) (R : Ending → World → Prop) (w : World) : Prop :=
 (fun (ds : List Deferred) =>
 opV Try.prog (Instr.box 25 t0) (outQ Try.prog ds [(some 32, undef)] R) w fun t4 w =>
 opV Try.prog (Instr.box 9 t1) (outQ Try.prog ds [(some 32, undef)] R) w fun t5 w =>
 opV Try.prog (Instr.box 53 t2) (outQ Try.prog ds [(some 32, undef)] R) w fun t6 w =>
 opV Try.prog (Instr.box 145 t3) (outQ Try.prog ds [(some 32, undef)] R) w fun t7 w =>
 opV Try.prog (Instr.alloc 32 true (.tuple #[])) (outQ Try.prog ds [(some 32, undef)] R) w fun t8 w =>
 opV Try.prog (Instr.loadAt 25 t4) (outQ Try.prog ds [(some 32, t8)] R) w fun t13 w =>
 callK Try.prog 108 #[t13] (outQ Try.prog ds [(some 32, t8)] R) w fun t14 w =>
 n_size_checked_api_Range_c6 t4 t5 t6 t7 t8 t14 ds R w) []
set_option maxRecDepth 100000 in
set_option maxHeartbeats 4000000 in
theorem n_size_checked_api_Range_sound {t0 t1 t2 t3 : Value} {R : Ending → World → Prop} {w : World} (h : n_size_checked_api_Range t0 t1 t2 t3 R w) : Calls Try.prog 118 #[t0, t1, t2, t3] w R := by
  refine calls_of_denM (args := [t0, t1, t2, t3]) Try.func118 rfl (Nat.le_of_ble_eq_true rfl) ?_
  unfold n_size_checked_api_Range at h
  dsimp only at h
  refine zs <| zr ?_
  refine zq h fun t4 w h => ?_
  refine zq h fun t5 w h => ?_
  refine zq h fun t6 w h => ?_
  refine zq h fun t7 w h => ?_
  refine zq h fun t8 w h => ?_
  refine zn <| zk <| zs <| zs <| zr ?_
  refine zq h fun t13 w h => ?_
  refine sim_call h c108 rfl (fun _ _ h => outQ_of rfl h) ?_; intro t14 w h
  refine zq h fun t15 w h => ?_
  refine zn <| zk ?_
  refine sim_cond h rfl (fun h => ?_) (fun h => ?_)
  · refine zs <| zr ?_
    refine sim_unit h rfl rfl (fun _ _ h => outQ_of rfl h) ?_; intro w h
    refine zn <| zk <| sim_ret <| sim_then_ret ?_
    exact Sw.bodyM_ret rfl h
  · refine sim_skip <| zk <| zs <| zr ?_
    refine zq h fun t9 w h => ?_
    refine sim_unit h rfl rfl (fun _ _ h => outQ_of rfl h) ?_; intro w h
    refine zn <| zk <| zs <| zs <| zr ?_
    refine zq h fun t16 w h => ?_
    refine sim_call h c109 rfl (fun _ _ h => outQ_of rfl h) ?_; intro t17 w h
    refine zn <| zk <| sim_block ?_
    refine sim_range [.ret] h rfl (fun l1 t18 w Kr1 Xr1 Qr1 h => ?_) (fun ds w h => ?_) (fun c ds w h => ?_) (fun ch ds w h => outQ_of rfl h)
    · refine zr <| zm <| zn <| zk ?_
      obtain ⟨hr, h⟩ := h
      refine ⟨rfl, hr, fun w hb => ?_⟩
      have h := h w hb
      refine sim_block <| zs <| zr ?_
      refine zv h fun t20 w h => ?_
      refine zm ?_
      refine zv h fun t22 w h => ?_
      refine zm ?_
      refine zv h fun t23 w h => ?_
      refine zv h fun t24 w h => ?_
      refine zv h fun t11 w h => ?_
      refine zu h fun w h => ?_
      refine zm <| zn <| zk <| sim_block <| zs <| zr <| zm ?_
      refine zv h fun t27 w h => ?_
      refine zb h fun t28 w h => ?_
      refine zm <| zn <| zk ?_
      refine joinK_elim h (fun K2 hK h => ?_)
      refine sim_joinQ [29, 30, 31, 32, 33, 34, 35, 36] (fun ρ w => K2 w) (fun _ hkK2 => ?_) (fun σ w h => ?_)
      · refine sim_cond h rfl (fun h => ?_) (fun h => ?_)
        · refine sim_skip <| zk ?_
          exact zt hkK2 h
        · refine zs <| zr <| zm ?_
          refine zv h fun t31 w h => ?_
          refine zm <| zn <| zk ?_
          refine sim_cond h rfl (fun h => ?_) (fun h => ?_)
          · refine zr ?_
            refine zu h fun w h => ?_
            refine zn <| zk ?_
            exact zt hkK2 h
          · refine zs <| zr ?_
            refine zv h fun t33 w h => ?_
            refine zv h fun t34 w h => ?_
            refine sim_callV h rfl rfl (fun _ _ h => ⟨rfl, h⟩) ?_; intro t35 w h
            refine zv h fun t36 w h => ?_
            refine zm <| zn <| zk ?_
            refine sim_cond h rfl (fun h => ?_) (fun h => ?_)
            · refine zs <| zr ?_
              refine zu h fun w h => ?_
              refine zn <| zk <| sim_ret <| sim_then_ret <| sim_block_ret <| sim_block_ret ?_
              exact ⟨rfl, 0, rfl, h⟩
            · refine sim_skip <| zk ?_
              exact zt hkK2 h
      subst hK
      refine sim_block_normal <| sim_block_normal ?_
      exact ⟨rfl, h⟩
    · refine sim_block_normal <| zk <| zs <| zs <| zr ?_
      refine zq h fun t37 w h => ?_
      refine zn <| zk ?_
      refine sim_cond h rfl (fun h => ?_) (fun h => ?_)
      · refine zs <| zr ?_
        refine sim_unit h rfl rfl (fun _ _ h => outQ_of rfl h) ?_; intro w h
        refine zn <| zk <| sim_ret <| sim_then_ret ?_
        exact Sw.bodyM_ret rfl h
      · refine sim_skip <| zk <| zs <| zr ?_
        refine sim_unit h rfl rfl (fun _ _ h => outQ_of rfl h) ?_; intro w h
        refine zn <| zk <| sim_ret ?_
        exact Sw.bodyM_ret rfl h
    · rcases c with _ | c
      · refine ⟨_, rfl, .inl ⟨rfl, ?_⟩⟩
        refine sim_block_ret <| sim_then_ret ?_
        exact Sw.bodyM_ret rfl h
      exact h.elim
def n_size_Interval_2 (t0 t1 t2 : Value) (R : Ending → World → Prop) (w : World) : Prop :=
 opV Try.prog (Instr.box 4 t0) (panK R) w fun t3 w =>
 opV Try.prog (Instr.loadAt 25 t1) (panK R) w fun t5 w =>
 opV Try.prog (Instr.makeFunc (.func 121) #[] #[t2, t3]) (panK R) w fun t6 w =>
 callK Try.prog 120 #[t5, t6] (panK R) w fun t7 w =>
 R (.returned t7) w
set_option maxRecDepth 100000 in
set_option maxHeartbeats 4000000 in
theorem n_size_Interval_2_sound {t0 t1 t2 : Value} {R : Ending → World → Prop} {w : World} (h : n_size_Interval_2 t0 t1 t2 R w) : Calls Try.prog 119 #[t0, t1, t2] w R := by
  refine calls_of_den (args := [t0, t1, t2]) Try.func119 rfl (Nat.le_of_ble_eq_true rfl) ?_
  unfold n_size_Interval_2 at h
  refine zs <| zr ?_
  refine zv h fun t3 w h => ?_
  refine zm <| zn <| zk <| zs <| zr ?_
  refine zv h fun t5 w h => ?_
  refine sim_makeFunc h rfl rfl (fun _ _ h => ⟨rfl, h⟩) ?_; intro t6 w h
  refine zc h c120 fun t7 w h => ?_
  refine zm <| zn <| zk <| sim_ret ?_
  exact body_ret1 rfl rfl h
def n_size_number_c1 (t5 t13 t19 t22 : Value) (C2 : World → Prop) (next1 : Value → Value → World → Prop) (R : Ending → World → Prop) (w : World) : Prop :=
 qV Try.prog C2 (binS .mul 3 false t19 t22) fun t23 =>
 qV Try.prog C2 (binS .add 3 false t5 t23) fun t24 =>
 opV Try.prog (binS .add 3 true t13 (.int .i64 1)) (panK R) w fun t25 w =>
 next1 t24 t25 w
def n_size_number_c2 (t1 t5 t7 t13 : Value) (C2 : World → Prop) (next1 : Value → Value → World → Prop) (R : Ending → World → Prop) (w : World) : Prop :=
 qV Try.prog C2 (Instr.fieldAt 77 t7 1) fun t18 =>
 qV Try.prog C2 (Instr.loadAt 3 t18) fun t19 =>
 qV Try.prog C2 (Instr.loadAt 77 t7) fun t21 =>
 callV Try.prog t1 #[t21] (panK R) w fun t22 w =>
 C2 w ∧ (
 n_size_number_c1 t5 t13 t19 t22 C2 next1 R w)
def n_size_number_c3 (t1 t5 t11 t13 : Value) (next1 : Value → Value → World → Prop) (R : Ending → World → Prop) (w : World) : Prop :=
 opV Try.prog (Instr.indexAt 23 t11 t13) (panK R) w fun t15 w =>
 opV Try.prog (Instr.loadAt 77 t15) (panK R) w fun t16 w =>
 opV Try.prog (Instr.alloc 77 true (.tuple #[])) (panK R) w fun t7 w =>
 opU Try.prog (Instr.storeAt 77 t7 t16) (panK R) w fun w =>
 drawK w fun C2 w =>
 n_size_number_c2 t1 t5 t7 t13 C2 next1 R w
def n_size_number (t0 t1 : Value) (R : Ending → World → Prop) (w : World) : Prop :=
 opV Try.prog (Instr.box 25 t0) (panK R) w fun t2 w =>
 opV Try.prog (Instr.fieldAt 25 t2 0) (panK R) w fun t8 w =>
 opV Try.prog (Instr.loadAt 3 t8) (panK R) w fun t9 w =>
 opV Try.prog (Instr.fieldAt 25 t2 1) (panK R) w fun t10 w =>
 opV Try.prog (Instr.loadAt 23 t10) (panK R) w fun t11 w =>
 opV Try.prog (Builtin.len_ #[23] 3 #[t11]) (panK R) w fun t12 w =>
 loop2 (fun t5 t13 w next1 =>
 opV Try.prog (binS .lss 3 false t13 t12) (panK R) w fun t14 w =>
 condP t14 (
 n_size_number_c3 t1 t5 t11 t13 next1 R w) (
 R (.returned t5) w)) t9 (.int .i64 0) w
set_option maxRecDepth 100000 in
set_option maxHeartbeats 4000000 in
theorem n_size_number_sound {t0 t1 : Value} {R : Ending → World → Prop} {w : World} (h : n_size_number t0 t1 R w) : Calls Try.prog 120 #[t0, t1] w R := by
  refine calls_of_den (args := [t0, t1]) Try.func120 rfl (Nat.le_of_ble_eq_true rfl) ?_
  unfold n_size_number at h
  refine zs <| zr ?_
  refine zv h fun t2 w h => ?_
  refine zm <| zn <| zk <| zs <| zr ?_
  refine zv h fun t8 w h => ?_
  refine zv h fun t9 w h => ?_
  refine zm <| zn <| zk <| zs <| zs <| zr ?_
  refine zv h fun t10 w h => ?_
  refine zv h fun t11 w h => ?_
  refine zx h fun t12 w h => ?_
  refine zm <| zn <| zk <| sim_block ?_
  obtain ⟨I, μ, h0, hr⟩ := h
  refine sim_loop [5, 7, 13, 14, 15, 16, 17, 18, 19, 20, 21, 22, 23, 24, 25] (by kernel_rfl) (fun ρ w => I (ρ 5) (ρ 13) w) (fun ρ w => μ (ρ 5) (ρ 13) w) h0 (fun σ w hI => ?_)
  have h := hr _ _ _ hI
  clear hr h0 hI
  refine zs <| zr ?_
  refine zb h fun t14 w h => ?_
  refine zn <| zk <| zs ?_
  refine sim_cond h rfl (fun h => ?_) (fun h => ?_)
  · refine sim_skip <| zk <| zs <| sim_block <| zs <| zr ?_
    refine zv h fun t15 w h => ?_
    refine zv h fun t16 w h => ?_
    refine zv h fun t7 w h => ?_
    refine zu h fun w h => ?_
    refine zn <| zk ?_
    obtain ⟨C2, hC, h⟩ := h
    refine sim_draw [5, 17, 18, 19, 20, 21, 22, 23, 24] (by kernel_rfl) (by kernel_rfl) C2 ?_
    refine zw 0 hC ?_
    refine ze 1 hC h fun t18 h => ?_
    refine ze 2 hC h fun t19 h => ?_
    refine zw 3 hC ?_
    refine ze 4 hC h fun t21 h => ?_
    refine sim_dloud 5 rfl (by kernel_rfl) (fun _ _ => rfl) ?_
    refine sim_callV h rfl rfl (fun _ _ h _ _ => ⟨rfl, h⟩) ?_; intro t22 w h
    refine zn ?_
    obtain ⟨hC, h⟩ := h
    refine ⟨hC, ?_⟩
    obtain ⟨t23, hv, h⟩ := h
    refine sim_dsilent 6 hC rfl (by kernel_rfl) (by kernel_rfl) (fun _ _ => rfl) rfl (Sw.qV_bin rfl rfl rfl hv) ?_
    obtain ⟨t24, hv, h⟩ := h
    refine sim_dsilent 7 hC rfl (by kernel_rfl) (by kernel_rfl) (fun _ _ => rfl) rfl (Sw.qV_bin rfl rfl rfl hv) ?_
    refine zw 8 hC ?_
    refine sim_dend (by kernel_rfl) ?_
    refine sim_block_normal <| zk <| zr ?_
    refine zb h fun t25 w h => ?_
    refine zm <| zn <| zk ?_
    exact ⟨rfl, h⟩
  · refine sim_exit <| sim_then_exit <| sim_then_exit <| sim_block_hit <| zk <| zs <| zr <| zm <| zm <| zn <| zk <| sim_ret ?_
    exact body_ret1 rfl rfl h
end Go.Proofs.Ytiajhbbmgglmlaa
namespace Go.Proofs.Ytiajhbbmgglmlaa
open Sw
def n_slices_Clone_api_Case (t0 : Value) (R : Ending → World → Prop) (w : World) : Prop :=
 opV Try.prog (binS .eql 26 true t0 (Value.slice none 0 0)) (panK R) w fun t4 w =>
 condP t4 (
 R (.returned (Value.slice none 0 0)) w) (
 opV Try.prog (Instr.buildSlice 26 0 #[]) (panK R) w fun t5 w =>
 opV Try.prog (Builtin.append_ #[26, 26] 26 #[t5, t0]) (panK R) w fun t7 w =>
 R (.returned t7) w)
set_option maxRecDepth 100000 in
set_option maxHeartbeats 4000000 in
theorem n_slices_Clone_api_Case_sound {t0 : Value} {R : Ending → World → Prop} {w : World} (h : n_slices_Clone_api_Case t0 R w) : Calls Try.prog 44 #[t0] w R := by
  refine calls_of_den (args := [t0]) Try.func44 rfl (Nat.le_of_ble_eq_true rfl) ?_
  unfold n_slices_Clone_api_Case at h
  refine zs <| zr <| zm <| zn <| zk <| zs <| zs <| zr <| zm ?_
  refine zb h fun t4 w h => ?_
  refine zn <| zk ?_
  refine sim_cond h rfl (fun h => ?_) (fun h => ?_)
  · refine zs <| zr <| zm <| zn <| zk <| sim_ret <| sim_then_ret ?_
    exact body_ret1 rfl rfl h
  · refine sim_skip <| zk <| zs <| zr ?_
    refine sim_buildSlice h rfl (fun _ _ h => ⟨rfl, h⟩) ?_; intro t5 w h
    refine zm ?_
    refine zx h fun t7 w h => ?_
    refine zm <| zn <| zk <| sim_ret ?_
    exact body_ret1 rfl rfl h
def n_schema_Refers_1_c1 (t0 t7 t11 t16 : Value) (next1 : Value → World → Prop) (R : Ending → World → Prop) (w : World) : Prop :=
 opV Try.prog (Op.unary .not t16) (panK R) w fun t17 w =>
 joinK (fun (t22 : Value) (w : World) =>
 pickK t17 t22 (.bool false) fun t23 =>
 condP t23 (
 R (.returned (.tuple #[])) w) (
 opV Try.prog (binS .add 3 true t7 (.int .i64 1)) (panK R) w fun t24 w =>
 next1 t24 w)) fun K2 =>
 guardP t17 true (
 callV Try.prog t0 #[t11] (panK R) w fun t21 w =>
 opV Try.prog (Op.unary .not t21) (panK R) w fun t22 w =>
 K2 t22 w) (
 K2 undef w)
def n_schema_Refers_1_c2 (t0 t1 t5 t7 : Value) (next1 : Value → World → Prop) (R : Ending → World → Prop) (w : World) : Prop :=
 opV Try.prog (Instr.indexAt 63 t5 t7) (panK R) w fun t10 w =>
 opV Try.prog (Instr.loadAt 9 t10) (panK R) w fun t11 w =>
 opV Try.prog (Instr.loadAt 63 t1) (panK R) w fun t12 w =>
 opV Try.prog (Instr.sliceAt 63 t12 none (some t7) none) (panK R) w fun t14 w =>
 callK Try.prog 46 #[t14, t11] (panK R) w fun t16 w =>
 n_schema_Refers_1_c1 t0 t7 t11 t16 next1 R w
def n_schema_Refers_1 (t0 t1 : Value) (R : Ending → World → Prop) (w : World) : Prop :=
 opV Try.prog (Instr.loadAt 63 t1) (panK R) w fun t5 w =>
 opV Try.prog (Builtin.len_ #[63] 3 #[t5]) (panK R) w fun t6 w =>
 loop1 (fun t7 w next1 =>
 opV Try.prog (binS .lss 3 false t7 t6) (panK R) w fun t8 w =>
 condP t8 (
 n_schema_Refers_1_c2 t0 t1 t5 t7 next1 R w) (
 R (.returned (.tuple #[])) w)) (.int .i64 0) w
set_option maxRecDepth 100000 in
set_option maxHeartbeats 4000000 in
theorem n_schema_Refers_1_sound {t0 t1 : Value} {R : Ending → World → Prop} {w : World} (h : n_schema_Refers_1 t0 t1 R w) : Calls Try.prog 45 #[t0, t1] w R := by
  refine calls_of_den (args := [t0, t1]) Try.func45 rfl (Nat.le_of_ble_eq_true rfl) ?_
  unfold n_schema_Refers_1 at h
  refine zs <| zr ?_
  refine zv h fun t5 w h => ?_
  refine zx h fun t6 w h => ?_
  refine zm <| zn <| zk <| sim_block ?_
  obtain ⟨I, μ, h0, hr⟩ := h
  refine sim_loop [3, 4, 7, 8, 9, 10, 11, 12, 13, 14, 15, 16, 17, 18, 19, 20, 21, 22, 23, 24] (by kernel_rfl) (fun ρ w => I (ρ 7) w) (fun ρ w => μ (ρ 7) w) h0 (fun σ w hI => ?_)
  have h := hr _ _ hI
  clear hr h0 hI
  refine zs <| zr ?_
  refine zb h fun t8 w h => ?_
  refine zn <| zk <| zs ?_
  refine sim_cond h rfl (fun h => ?_) (fun h => ?_)
  · refine sim_skip <| zk <| zs <| sim_block <| zs <| zr <| zm ?_
    refine zv h fun t10 w h => ?_
    refine zv h fun t11 w h => ?_
    refine zm <| zm <| zn <| zk <| zs <| sim_regionG ?_
    refine sim_seg 7 rfl ?_
    refine zv h fun t12 w h => ?_
    refine zm ?_
    refine zv h fun t14 w h => ?_
    refine zm ?_
    refine zc h c46 fun t16 w h => ?_
    refine zv h fun t17 w h => ?_
    refine zm <| zn ?_
    refine joinK_elim h (fun K2 hK h => ?_)
    refine sim_groupJ 4 6 true [19, 20, 21, 22] (fun ρ w => K2 (ρ 22) w) rfl rfl (fun T hT => guardP_mono h (fun h => ?_) (fun h => ?_)) (fun σ w h => ?_)
    · refine zm <| zm ?_
      refine sim_callV h rfl rfl (fun _ _ h => ⟨rfl, h⟩) ?_; intro t21 w h
      refine zv h fun t22 w h => ?_
      refine zn ?_
      exact zt hT h
    · exact zt hT h
    subst hK
    refine sim_seg 1 rfl ?_
    refine sim_pick h rfl rfl rfl ?_; intro t23 h
    refine zn <| sim_end <| zk ?_
    refine sim_cond h rfl (fun h => ?_) (fun h => ?_)
    · refine sim_ret <| sim_block_ret <| sim_then_ret <| sim_then_ret <| sim_block_ret ?_
      exact body_ret0 rfl h
    · refine sim_skip <| sim_block_normal <| zk <| zr ?_
      refine zb h fun t24 w h => ?_
      refine zm <| zn <| zk ?_
      exact ⟨rfl, h⟩
  · refine sim_exit <| sim_then_exit <| sim_then_exit <| sim_block_hit ?_
    refine body_normal ?_
    exact body_ret0 rfl h
def n_slices_Contains_string (t0 t1 : Value) (R : Ending → World → Prop) (w : World) : Prop :=
 callK Try.prog 60 #[t0, t1] (panK R) w fun t7 w =>
 opV Try.prog (binS .geq 3 true t7 (.int .i64 0)) (panK R) w fun t8 w =>
 R (.returned t8) w
set_option maxRecDepth 100000 in
set_option maxHeartbeats 4000000 in
theorem n_slices_Contains_string_sound {t0 t1 : Value} {R : Ending → World → Prop} {w : World} (h : n_slices_Contains_string t0 t1 R w) : Calls Try.prog 46 #[t0, t1] w R := by
  refine calls_of_den (args := [t0, t1]) Try.func46 rfl (Nat.le_of_ble_eq_true rfl) ?_
  unfold n_slices_Contains_string at h
  refine zs <| zr <| zm <| zn <| zk <| zs <| zr <| zm <| zm ?_
  refine zc h c60 fun t7 w h => ?_
  refine zb h fun t8 w h => ?_
  refine zm <| zn <| zk <| sim_ret ?_
  exact body_ret1 rfl rfl h
def n_schema_examined_c1 (t3 t4 t13 : Value) (ds : List Deferred) (R : Ending → World → Prop) (w : World) : Prop :=
 opV Try.prog (Instr.build 68 #[]) (outQ Try.prog ds [(none, t13), (some 68, t3), (some 4, t4)] R) w fun t65 w =>
 opU Try.prog (Instr.storeAt 68 t3 t65) (outQ Try.prog ds [(none, t13), (some 68, t3), (some 4, t4)] R) w fun w =>
 opU Try.prog (Instr.storeAt 4 t4 (.bool false)) (outQ Try.prog ds [(none, t13), (some 68, t3), (some 4, t4)] R) w fun w =>
 outX Try.prog ds [(none, t13), (some 68, t3), (some 4, t4)] R w
def n_schema_examined_c2 (t1 t3 t4 t13 : Value) (C3 : World → Prop) (ds : List Deferred) (R : Ending → World → Prop) (w : World) : Prop :=
 qN Try.prog C3 (nilN t13) fun t53 =>
 qV Try.prog C3 (Instr.fieldAt 101 t53 1) fun t54 =>
 qV Try.prog C3 (Instr.loadAt 98 t54) fun t55 =>
 qV Try.prog C3 (Instr.fieldAt 44 t1 2) fun t56 =>
 qV Try.prog C3 (Instr.loadAt 9 t56) fun t57 =>
 qV Try.prog C3 (Instr.lookup 98 t55 t57 true) fun t58 =>
 qV Try.prog C3 (Instr.extract t58 0) fun t59 =>
 qV Try.prog C3 (Instr.extract t58 1) fun t60 =>
 callK Try.prog 62 #[t13, t60, (.int .i64 11)] (outQ Try.prog ds [(none, t13), (some 68, t3), (some 4, t4)] R) w fun t63 w =>
 n_schema_examined_c1 t3 t4 t13 ds R w
def n_schema_examined_c3 (t1 t3 t4 t13 : Value) (ds : List Deferred) (R : Ending → World → Prop) (w : World) : Prop :=
 opN Try.prog (nilN t13) (outQ Try.prog ds [(none, t13), (some 68, t3), (some 4, t4)] R) w fun t49 w =>
 opV Try.prog (Instr.fieldAt 101 t49 3) (outQ Try.prog ds [(none, t13), (some 68, t3), (some 4, t4)] R) w fun t50 w =>
 opU Try.prog (Instr.storeAt 3 t50 (.int .i64 (-1))) (outQ Try.prog ds [(none, t13), (some 68, t3), (some 4, t4)] R) w fun w =>
 drawK w fun C3 w =>
 n_schema_examined_c2 t1 t3 t4 t13 C3 ds R w
def n_schema_examined_c4 (t3 t4 t13 t33 t35 : Value) (next2 : Value → World → Prop) (ds : List Deferred) (R : Ending → World → Prop) (w : World) : Prop :=
 opV Try.prog (Instr.indexAt 42 t33 t35) (outQ Try.prog ds [(none, t13), (some 68, t3), (some 4, t4)] R) w fun t38 w =>
 opV Try.prog (Instr.loadAt 50 t38) (outQ Try.prog ds [(none, t13), (some 68, t3), (some 4, t4)] R) w fun t39 w =>
 opV Try.prog (Instr.alloc 50 true (.tuple #[])) (outQ Try.prog ds [(none, t13), (some 68, t3), (some 4, t4)] R) w fun t6 w =>
 opU Try.prog (Instr.storeAt 50 t6 t39) (outQ Try.prog ds [(none, t13), (some 68, t3), (some 4, t4)] R) w fun w =>
 opN Try.prog (nilN t13) (outQ Try.prog ds [(none, t13), (some 68, t3), (some 4, t4)] R) w fun t42 w =>
 opV Try.prog (Instr.fieldAt 101 t42 3) (outQ Try.prog ds [(none, t13), (some 68, t3), (some 4, t4)] R) w fun t43 w =>
 opU Try.prog (Instr.storeAt 3 t43 t35) (outQ Try.prog ds [(none, t13), (some 68, t3), (some 4, t4)] R) w fun w =>
 opV Try.prog (Instr.loadAt 50 t6) (outQ Try.prog ds [(none, t13), (some 68, t3), (some 4, t4)] R) w fun t45 w =>
 callK Try.prog 64 #[t13, t45] (outQ Try.prog ds [(none, t13), (some 68, t3), (some 4, t4)] R) w fun t46 w =>
 opV Try.prog (binS .add 3 true t35 (.int .i64 1)) (outQ Try.prog ds [(none, t13), (some 68, t3), (some 4, t4)] R) w fun t47 w =>
 next2 t47 w
def n_schema_examined_c5 (t1 t3 t4 t13 t33 t34 t35 : Value) (next2 : Value → World → Prop) (ds : List Deferred) (R : Ending → World → Prop) (w : World) : Prop :=
 opV Try.prog (binS .lss 3 false t35 t34) (outQ Try.prog ds [(none, t13), (some 68, t3), (some 4, t4)] R) w fun t36 w =>
 condP t36 (
 n_schema_examined_c4 t3 t4 t13 t33 t35 next2 ds R w) (
 n_schema_examined_c3 t1 t3 t4 t13 ds R w)
def n_schema_examined_c6 (t1 t3 t4 t13 : Value) (ds : List Deferred) (R : Ending → World → Prop) (w : World) : Prop :=
 opV Try.prog (Instr.fieldAt 44 t1 1) (outQ Try.prog ds [(none, t13), (some 68, t3), (some 4, t4)] R) w fun t32 w =>
 opV Try.prog (Instr.loadAt 42 t32) (outQ Try.prog ds [(none, t13), (some 68, t3), (some 4, t4)] R) w fun t33 w =>
 opV Try.prog (Builtin.len_ #[42] 3 #[t33]) (outQ Try.prog ds [(none, t13), (some 68, t3), (some 4, t4)] R) w fun t34 w =>
 loop1 (fun t35 w next2 =>
 n_schema_examined_c5 t1 t3 t4 t13 t33 t34 t35 next2 ds R w) (.int .i64 0) w
def n_schema_examined_c7 (t1 t3 t4 t13 t24 t29 : Value) (ds : List Deferred) (R : Ending → World → Prop) (w : World) : Prop :=
 pickK t24 t29 (.bool false) fun t30 =>
 callK Try.prog 62 #[t13, t30, (.int .i64 3)] (outQ Try.prog ds [(none, t13), (some 68, t3), (some 4, t4)] R) w fun t31 w =>
 n_schema_examined_c6 t1 t3 t4 t13 ds R w
def n_schema_examined_c8 (t1 t3 t4 t13 : Value) (K1 : Value → World → Prop) (ds : List Deferred) (R : Ending → World → Prop) (w : World) : Prop :=
 opV Try.prog (Instr.fieldAt 44 t1 1) (outQ Try.prog ds [(none, t13), (some 68, t3), (some 4, t4)] R) w fun t26 w =>
 opV Try.prog (Instr.loadAt 42 t26) (outQ Try.prog ds [(none, t13), (some 68, t3), (some 4, t4)] R) w fun t27 w =>
 opV Try.prog (Builtin.len_ #[42] 3 #[t27]) (outQ Try.prog ds [(none, t13), (some 68, t3), (some 4, t4)] R) w fun t28 w =>
 opV Try.prog (binS .leq 3 true t28 (.int .i64 60)) (outQ Try.prog ds [(none, t13), (some 68, t3), (some 4, t4)] R) w fun t29 w =>
 K1 t29 w
def n_schema_examined_c9 (t1 t3 t4 t13 : Value) (ds : List Deferred) (R : Ending → World → Prop) (w : World) : Prop :=
 opV Try.prog (Instr.fieldAt 44 t1 1) (outQ Try.prog ds [(none, t13), (some 68, t3), (some 4, t4)] R) w fun t21 w =>
 opV Try.prog (Instr.loadAt 42 t21) (outQ Try.prog ds [(none, t13), (some 68, t3), (some 4, t4)] R) w fun t22 w =>
 opV Try.prog (Builtin.len_ #[42] 3 #[t22]) (outQ Try.prog ds [(none, t13), (some 68, t3), (some 4, t4)] R) w fun t23 w =>
 opV Try.prog (binS .geq 3 true t23 (.int .i64 1)) (outQ Try.prog ds [(none, t13), (some 68, t3), (some 4, t4)] R) w fun t24 w =>
 joinK (fun (t29 : Value) (w : World) =>
 n_schema_examined_c7 t1 t3 t4 t13 t24 t29 ds R w) fun K1 =>
 guardP t24 true (
 n_schema_examined_c8 t1 t3 t4 t13 K1 ds R w) (
 K1 undef w)
def n_schema_examined (t0 : Value) (R : Ending → World → Prop) (w : World) : Prop :=
 (fun (ds : List Deferred) =>
 opV Try.prog (Instr.box 44 t0) (outQ Try.prog ds [(none, undef), (some 68, undef), (some 4, undef)] R) w fun t1 w =>
 opV Try.prog (Instr.alloc 68 true (.tuple #[])) (outQ Try.prog ds [(none, (Value.pointer none)), (some 68, undef), (some 4, undef)] R) w fun t3 w =>
 opV Try.prog (Instr.alloc 4 true (.tuple #[])) (outQ Try.prog ds [(none, (Value.pointer none)), (some 68, t3), (some 4, undef)] R) w fun t4 w =>
 opV Try.prog (Instr.loadAt 44 t1) (outQ Try.prog ds [(none, (Value.pointer none)), (some 68, t3), (some 4, t4)] R) w fun t9 w =>
 opV Try.prog (Instr.makeMap 98 none) (outQ Try.prog ds [(none, (Value.pointer none)), (some 68, t3), (some 4, t4)] R) w fun t10 w =>
 opV Try.prog (Instr.makeMap 99 none) (outQ Try.prog ds [(none, (Value.pointer none)), (some 68, t3), (some 4, t4)] R) w fun t11 w =>
 opV Try.prog (Instr.build 101 #[(0, t9), (1, t10), (2, t11), (3, (.int .i64 (-1))), (4, (.int .i64 (-1)))]) (outQ Try.prog ds [(none, (Value.pointer none)), (some 68, t3), (some 4, t4)] R) w fun t12 w =>
 opV Try.prog (Instr.box 101 t12) (outQ Try.prog ds [(none, (Value.pointer none)), (some 68, t3), (some 4, t4)] R) w fun t13 w =>
 opV Try.prog (Instr.makeFunc (.func 61) #[] #[t3, t4]) (outQ Try.prog ds [(none, t13), (some 68, t3), (some 4, t4)] R) w fun t14 w =>
 defK Try.prog t14 #[] ds w fun ds w =>
 opV Try.prog (Instr.fieldAt 44 t1 0) (outQ Try.prog ds [(none, t13), (some 68, t3), (some 4, t4)] R) w fun t16 w =>
 opV Try.prog (Instr.loadAt 9 t16) (outQ Try.prog ds [(none, t13), (some 68, t3), (some 4, t4)] R) w fun t17 w =>
 callK Try.prog 63 #[t17] (outQ Try.prog ds [(none, t13), (some 68, t3), (some 4, t4)] R) w fun t18 w =>
 callK Try.prog 62 #[t13, t18, (.int .i64 1)] (outQ Try.prog ds [(none, t13), (some 68, t3), (some 4, t4)] R) w fun t19 w =>
 n_schema_examined_c9 t1 t3 t4 t13 ds R w) []
set_option maxRecDepth 100000 in
set_option maxHeartbeats 4000000 in
theorem n_schema_examined_sound {t0 : Value} {R : Ending → World → Prop} {w : World} (h : n_schema_examined t0 R w) : Calls Try.prog 47 #[t0] w R := by
  refine calls_of_denM (args := [t0]) Try.func47 rfl (Nat.le_of_ble_eq_true rfl) ?_
  unfold n_schema_examined at h
  dsimp only at h
  refine zs <| zr ?_
  refine zq h fun t1 w h => ?_
  refine zm ?_
  refine zq h fun t3 w h => ?_
  refine zq h fun t4 w h => ?_
  refine zn <| zk <| zs <| zr ?_
  refine zq h fun t9 w h => ?_
  refine zq h fun t10 w h => ?_
  refine zq h fun t11 w h => ?_
  refine sim_build h rfl (fun _ _ h => outQ_of rfl h) ?_; intro t12 w h
  refine zq h fun t13 w h => ?_
  refine zm <| zn <| zk <| zs <| zr ?_
  refine sim_makeFunc h rfl rfl (fun _ _ h => outQ_of rfl h) ?_; intro t14 w h
  refine sim_defer h rfl rfl ?_; intro ds w h
  refine zn <| zk <| zs <| zr <| zm ?_
  refine zq h fun t16 w h => ?_
  refine zq h fun t17 w h => ?_
  refine sim_call h c63 rfl (fun _ _ h => outQ_of rfl h) ?_; intro t18 w h
  refine sim_call h c62 rfl (fun _ _ h => outQ_of rfl h) ?_; intro t19 w h
  refine zn <| zk <| zs <| sim_regionG ?_
  refine sim_seg 6 rfl ?_
  refine zm ?_
  refine zq h fun t21 w h => ?_
  refine zq h fun t22 w h => ?_
  refine sim_builtin h rfl (fun _ _ h => outQ_of rfl h) ?_; intro t23 w h
  refine sim_bin h rfl rfl rfl (fun _ _ h => outQ_of rfl h) ?_; intro t24 w h
  refine zm <| zn ?_
  refine joinK_elim h (fun K1 hK h => ?_)
  refine sim_groupJ 4 5 true [26, 27, 28, 29] (fun ρ w => K1 (ρ 29) w) rfl rfl (fun T hT => guardP_mono h (fun h => ?_) (fun h => ?_)) (fun σ w h => ?_)
  · refine zq h fun t26 w h => ?_
    refine zq h fun t27 w h => ?_
    refine sim_builtin h rfl (fun _ _ h => outQ_of rfl h) ?_; intro t28 w h
    refine sim_bin h rfl rfl rfl (fun _ _ h => outQ_of rfl h) ?_; intro t29 w h
    refine zn ?_
    exact zt hT h
  · exact zt hT h
  subst hK
  refine sim_seg 2 rfl ?_
  refine sim_pick h rfl rfl rfl ?_; intro t30 h
  refine sim_call h c62 rfl (fun _ _ h => outQ_of rfl h) ?_; intro t31 w h
  refine zn <| sim_end <| zk <| zs <| zs <| zr ?_
  refine zq h fun t32 w h => ?_
  refine zq h fun t33 w h => ?_
  refine sim_builtin h rfl (fun _ _ h => outQ_of rfl h) ?_; intro t34 w h
  refine zm <| zn <| zk <| sim_block ?_
  obtain ⟨I, μ, h0, hr⟩ := h
  refine sim_loop [5, 6, 35, 36, 37, 38, 39, 40, 41, 42, 43, 44, 45, 46, 47] (by kernel_rfl) (fun ρ w => I (ρ 35) w) (fun ρ w => μ (ρ 35) w) h0 (fun σ w hI => ?_)
  have h := hr _ _ hI
  clear hr h0 hI
  refine zs <| zr ?_
  refine sim_bin h rfl rfl rfl (fun _ _ h => outQ_of rfl h) ?_; intro t36 w h
  refine zn <| zk <| zs ?_
  refine sim_cond h rfl (fun h => ?_) (fun h => ?_)
  · refine sim_skip <| zk <| zs <| sim_block <| zs <| zr <| zm ?_
    refine zq h fun t38 w h => ?_
    refine zq h fun t39 w h => ?_
    refine zq h fun t6 w h => ?_
    refine zm ?_
    refine sim_unit h rfl rfl (fun _ _ h => outQ_of rfl h) ?_; intro w h
    refine zn <| zk <| zs <| zr <| zm <| zm ?_
    refine sim_next h rfl rfl (fun _ _ h => outQ_of rfl h) ?_; intro t42 w h
    refine zq h fun t43 w h => ?_
    refine sim_unit h rfl rfl (fun _ _ h => outQ_of rfl h) ?_; intro w h
    refine zn <| zk <| zr <| zm ?_
    refine zq h fun t45 w h => ?_
    refine sim_call h c64 rfl (fun _ _ h => outQ_of rfl h) ?_; intro t46 w h
    refine zn <| sim_block_normal <| zk <| zr ?_
    refine sim_bin h rfl rfl rfl (fun _ _ h => outQ_of rfl h) ?_; intro t47 w h
    refine zm <| zn <| zk ?_
    exact ⟨rfl, h⟩
  · refine sim_exit <| sim_then_exit <| sim_then_exit <| sim_block_hit <| zk <| zs <| zr <| zm ?_
    refine sim_next h rfl rfl (fun _ _ h => outQ_of rfl h) ?_; intro t49 w h
    refine zq h fun t50 w h => ?_
    refine sim_unit h rfl rfl (fun _ _ h => outQ_of rfl h) ?_; intro w h
    refine zn <| zk <| zs ?_
    obtain ⟨C3, hC, h⟩ := h
    refine sim_draw [7, 8, 51, 52, 53, 54, 55, 56, 57, 58, 59, 60] (by kernel_rfl) (by kernel_rfl) C3 ?_
    refine zw 0 hC ?_
    obtain ⟨t53, hv, h⟩ := h
    refine sim_dsilent 1 hC rfl (by kernel_rfl) (by kernel_rfl) (fun _ _ => rfl) rfl (Sw.qN_run rfl hv) ?_
    refine ze 2 hC h fun t54 h => ?_
    refine ze 3 hC h fun t55 h => ?_
    refine ze 4 hC h fun t56 h => ?_
    refine ze 5 hC h fun t57 h => ?_
    refine ze 6 hC h fun t58 h => ?_
    refine zw 7 hC ?_
    refine ze 8 hC h fun t59 h => ?_
    refine ze 9 hC h fun t60 h => ?_
    refine zw 10 hC ?_
    refine zw 11 hC ?_
    refine sim_dend (by kernel_rfl) ?_
    refine zk <| zs <| zr <| zm <| zm ?_
    refine sim_call h c62 rfl (fun _ _ h => outQ_of rfl h) ?_; intro t63 w h
    refine zn <| zk <| zs <| zr <| zm ?_
    refine sim_build h rfl (fun _ _ h => outQ_of rfl h) ?_; intro t65 w h
    refine zm ?_
    refine sim_unit h rfl rfl (fun _ _ h => outQ_of rfl h) ?_; intro w h
    refine sim_unit h rfl rfl (fun _ _ h => outQ_of rfl h) ?_; intro w h
    refine zn <| zk <| sim_ret ?_
    exact Sw.bodyM_ret rfl h
def n_phrasebookref04_letter_c1 (t0 t8 t12 : Value) (R : Ending → World → Prop) (w : World) : Prop :=
 joinK (fun (t14 : Value) (w : World) =>
 joinK (fun (t15 : Value) (w : World) =>
 pickK t8 (.bool true) t15 fun t16 =>
 R (.returned t16) w) fun K4 =>
 guardP t8 false (
 pickK t12 t14 (.bool false) fun t15 =>
 K4 t15 w) (
 K4 undef w)) fun K3 =>
 guardP t12 true (
 opV Try.prog (binS .leq 5 true t0 (.int .u8 122)) (panK R) w fun t14 w =>
 K3 t14 w) (
 K3 undef w)
def n_phrasebookref04_letter_c2 (t0 t4 t7 : Value) (R : Ending → World → Prop) (w : World) : Prop :=
 pickK t4 t7 (.bool false) fun t8 =>
 joinK (fun (t12 : Value) (w : World) =>
 n_phrasebookref04_letter_c1 t0 t8 t12 R w) fun K2 =>
 guardP t8 false (
 opV Try.prog (binS .geq 5 true t0 (.int .u8 97)) (panK R) w fun t11 w =>
 K2 t11 w) (
 K2 undef w)
def n_phrasebookref04_letter (t0 : Value) (R : Ending → World → Prop) (w : World) : Prop :=
 opV Try.prog (binS .geq 5 true t0 (.int .u8 65)) (panK R) w fun t4 w =>
 joinK (fun (t7 : Value) (w : World) =>
 n_phrasebookref04_letter_c2 t0 t4 t7 R w) fun K1 =>
 guardP t4 true (
 opV Try.prog (binS .leq 5 true t0 (.int .u8 90)) (panK R) w fun t7 w =>
 K1 t7 w) (
 K1 undef w)
set_option maxRecDepth 100000 in
set_option maxHeartbeats 4000000 in
theorem n_phrasebookref04_letter_sound {t0 : Value} {R : Ending → World → Prop} {w : World} (h : n_phrasebookref04_letter t0 R w) : Calls Try.prog 48 #[t0] w R := by
  refine calls_of_den (args := [t0]) Try.func48 rfl (Nat.le_of_ble_eq_true rfl) ?_
  unfold n_phrasebookref04_letter at h
  refine zs <| zr <| zm <| zn <| zk <| zs <| sim_regionG ?_
  refine sim_seg 3 rfl ?_
  refine zm ?_
  refine zb h fun t4 w h => ?_
  refine zm <| zn ?_
  refine joinK_elim h (fun K1 hK h => ?_)
  refine sim_groupJ 2 2 true [6, 7] (fun ρ w => K1 (ρ 7) w) rfl rfl (fun T hT => guardP_mono h (fun h => ?_) (fun h => ?_)) (fun σ w h => ?_)
  · refine zm ?_
    refine zb h fun t7 w h => ?_
    refine zn ?_
    exact zt hT h
  · exact zt hT h
  subst hK
  refine sim_seg 2 rfl ?_
  refine sim_pick h rfl rfl rfl ?_; intro t8 h
  refine zm <| zn ?_
  refine joinK_elim h (fun K2 hK h => ?_)
  refine sim_groupJ 3 6 false [10, 11, 12] (fun ρ w => K2 (ρ 12) w) rfl rfl (fun T hT => guardP_mono h (fun h => ?_) (fun h => ?_)) (fun σ w h => ?_)
  · refine zm ?_
    refine zb h fun t11 w h => ?_
    refine zm <| zn ?_
    exact zt hT h
  · exact zt hT h
  subst hK
  refine joinK_elim h (fun K3 hK h => ?_)
  refine sim_groupJ 2 9 true [13, 14] (fun ρ w => K3 (ρ 14) w) rfl rfl (fun T hT => guardP_mono h (fun h => ?_) (fun h => ?_)) (fun σ w h => ?_)
  · refine zm ?_
    refine zb h fun t14 w h => ?_
    refine zn ?_
    exact zt hT h
  · exact zt hT h
  subst hK
  refine joinK_elim h (fun K4 hK h => ?_)
  refine sim_groupJ 1 6 false [15] (fun ρ w => K4 (ρ 15) w) rfl rfl (fun T hT => guardP_mono h (fun h => ?_) (fun h => ?_)) (fun σ w h => ?_)
  · refine sim_pick h rfl rfl rfl ?_; intro t15 h
    refine zn ?_
    exact zt hT h
  · exact zt hT h
  subst hK
  refine sim_seg 2 rfl ?_
  refine sim_pick h rfl rfl rfl ?_; intro t16 h
  refine zm <| zn <| sim_end <| zk <| sim_ret ?_
  exact body_ret1 rfl rfl h
def n_phrasebookref04_digit (t0 : Value) (R : Ending → World → Prop) (w : World) : Prop :=
 opV Try.prog (binS .geq 5 true t0 (.int .u8 48)) (panK R) w fun t4 w =>
 joinK (fun (t7 : Value) (w : World) =>
 pickK t4 t7 (.bool false) fun t8 =>
 R (.returned t8) w) fun K1 =>
 guardP t4 true (
 opV Try.prog (binS .leq 5 true t0 (.int .u8 57)) (panK R) w fun t7 w =>
 K1 t7 w) (
 K1 undef w)
set_option maxRecDepth 100000 in
set_option maxHeartbeats 4000000 in
theorem n_phrasebookref04_digit_sound {t0 : Value} {R : Ending → World → Prop} {w : World} (h : n_phrasebookref04_digit t0 R w) : Calls Try.prog 49 #[t0] w R := by
  refine calls_of_den (args := [t0]) Try.func49 rfl (Nat.le_of_ble_eq_true rfl) ?_
  unfold n_phrasebookref04_digit at h
  refine zs <| zr <| zm <| zn <| zk <| zs <| sim_regionG ?_
  refine sim_seg 3 rfl ?_
  refine zm ?_
  refine zb h fun t4 w h => ?_
  refine zm <| zn ?_
  refine joinK_elim h (fun K1 hK h => ?_)
  refine sim_groupJ 2 2 true [6, 7] (fun ρ w => K1 (ρ 7) w) rfl rfl (fun T hT => guardP_mono h (fun h => ?_) (fun h => ?_)) (fun σ w h => ?_)
  · refine zm ?_
    refine zb h fun t7 w h => ?_
    refine zn ?_
    exact zt hT h
  · exact zt hT h
  subst hK
  refine sim_seg 2 rfl ?_
  refine sim_pick h rfl rfl rfl ?_; intro t8 h
  refine zm <| zn <| sim_end <| zk <| sim_ret ?_
  exact body_ret1 rfl rfl h
def n_schema_of_int_c1 (t1 t2 t3 t14 : Value) (C2 : World → Prop) (R : Ending → World → Prop) (w : World) : Prop :=
 qV Try.prog C2 (Instr.fieldAt 44 t3 1) fun t34 =>
 qV Try.prog C2 (Instr.loadAt 42 t34) fun t35 =>
 qV Try.prog C2 (Instr.indexAt 42 t35 t1) fun t37 =>
 qV Try.prog C2 (Instr.fieldAt 50 t37 0) fun t38 =>
 qV Try.prog C2 (Instr.loadAt 9 t38) fun t39 =>
 callV Try.prog t2 #[t14] (panK R) w fun t33 w =>
 narrowK C2 w fun C3 w =>
 qV Try.prog C3 (Instr.lookup 98 t33 t39 false) fun t40 =>
 R (.returned (.tuple #[t40, (.int .i64 0)])) w
def n_schema_of_int_c2 (t1 t2 t3 t14 : Value) (R : Ending → World → Prop) (w : World) : Prop :=
 opV Try.prog (binS .lss 3 true t1 (.int .i64 0)) (panK R) w fun t22 w =>
 joinK (fun (t28 : Value) (w : World) =>
 pickK t22 (.bool true) t28 fun t29 =>
 condP t29 (
 R (.returned (.tuple #[(.int .i64 0), (.int .i64 3)])) w) (
 drawK w fun C2 w =>
 n_schema_of_int_c1 t1 t2 t3 t14 C2 R w)) fun K1 =>
 guardP t22 false (
 opV Try.prog (Instr.fieldAt 44 t3 1) (panK R) w fun t25 w =>
 opV Try.prog (Instr.loadAt 42 t25) (panK R) w fun t26 w =>
 opV Try.prog (Builtin.len_ #[42] 3 #[t26]) (panK R) w fun t27 w =>
 opV Try.prog (binS .geq 3 false t1 t27) (panK R) w fun t28 w =>
 K1 t28 w) (
 K1 undef w)
def n_schema_of_int_c3 (t1 t2 t3 t13 : Value) (R : Ending → World → Prop) (w : World) : Prop :=
 opV Try.prog (Instr.extract t13 0) (panK R) w fun t14 w =>
 opV Try.prog (Instr.extract t13 1) (panK R) w fun t15 w =>
 opV Try.prog (Instr.extract t13 2) (panK R) w fun t16 w =>
 opV Try.prog (Instr.alloc 68 true (.tuple #[])) (panK R) w fun t9 w =>
 opU Try.prog (Instr.storeAt 68 t9 t15) (panK R) w fun w =>
 condP t16 (
 R (.returned (.tuple #[(.int .i64 0), (.int .i64 2)])) w) (
 n_schema_of_int_c2 t1 t2 t3 t14 R w)
def n_schema_of_int (t0 t1 t2 : Value) (R : Ending → World → Prop) (w : World) : Prop :=
 opV Try.prog (Instr.box 44 t0) (panK R) w fun t3 w =>
 opV Try.prog (Instr.loadAt 44 t3) (panK R) w fun t12 w =>
 callK Try.prog 47 #[t12] (panK R) w fun t13 w =>
 n_schema_of_int_c3 t1 t2 t3 t13 R w
set_option maxRecDepth 100000 in
set_option maxHeartbeats 4000000 in
theorem n_schema_of_int_sound {t0 t1 t2 : Value} {R : Ending → World → Prop} {w : World} (h : n_schema_of_int t0 t1 t2 R w) : Calls Try.prog 50 #[t0, t1, t2] w R := by
  refine calls_of_den (args := [t0, t1, t2]) Try.func50 rfl (Nat.le_of_ble_eq_true rfl) ?_
  unfold n_schema_of_int at h
  refine zs <| zr ?_
  refine zv h fun t3 w h => ?_
  refine zm <| zm <| zn <| zk <| zs <| zr ?_
  refine zv h fun t12 w h => ?_
  refine zc h c47 fun t13 w h => ?_
  refine zm ?_
  refine zv h fun t14 w h => ?_
  refine zv h fun t15 w h => ?_
  refine zv h fun t16 w h => ?_
  refine zv h fun t9 w h => ?_
  refine zm ?_
  refine zu h fun w h => ?_
  refine zm <| zn <| zk <| zs <| sim_block <| zs <| zr <| zm <| zm <| zn <| zk ?_
  refine sim_cond h rfl (fun h => ?_) (fun h => ?_)
  · refine zs <| zr <| zm <| zm <| zm <| zn <| zk <| sim_ret <| sim_block_ret <| sim_then_ret ?_
    exact body_ret2 rfl rfl rfl h
  · refine zs <| sim_regionG ?_
    refine sim_seg 3 rfl ?_
    refine zm ?_
    refine zb h fun t22 w h => ?_
    refine zm <| zn ?_
    refine joinK_elim h (fun K1 hK h => ?_)
    refine sim_groupJ 5 2 false [24, 25, 26, 27, 28] (fun ρ w => K1 (ρ 28) w) rfl rfl (fun T hT => guardP_mono h (fun h => ?_) (fun h => ?_)) (fun σ w h => ?_)
    · refine zm ?_
      refine zv h fun t25 w h => ?_
      refine zv h fun t26 w h => ?_
      refine zx h fun t27 w h => ?_
      refine zb h fun t28 w h => ?_
      refine zn ?_
      exact zt hT h
    · exact zt hT h
    subst hK
    refine sim_seg 2 rfl ?_
    refine sim_pick h rfl rfl rfl ?_; intro t29 h
    refine zm <| zn <| sim_end <| zk ?_
    refine sim_cond h rfl (fun h => ?_) (fun h => ?_)
    · refine zs <| zr <| zm <| zm <| zm <| zn <| zk <| sim_ret <| sim_block_ret <| sim_then_ret ?_
      exact body_ret2 rfl rfl rfl h
    · refine sim_skip <| sim_block_normal <| zk <| zs ?_
      obtain ⟨C2, hC, h⟩ := h
      refine sim_draw [6, 7, 31, 32, 33, 34, 35, 36, 37, 38, 39, 40] (by kernel_rfl) (by kernel_rfl) C2 ?_
      refine zw 0 hC ?_
      refine zw 1 hC ?_
      refine ze 3 hC h fun t34 h => ?_
      refine ze 4 hC h fun t35 h => ?_
      refine zw 5 hC ?_
      refine ze 6 hC h fun t37 h => ?_
      refine ze 7 hC h fun t38 h => ?_
      refine ze 8 hC h fun t39 h => ?_
      refine sim_dnarrow 2 rfl (by kernel_rfl) (fun _ _ => rfl) ?_
      refine sim_callV h rfl rfl (fun _ _ h _ _ => ⟨rfl, h⟩) ?_; intro t33 w h
      refine zn ?_
      obtain ⟨C3, hs, hC, h⟩ := h
      refine ⟨C3, hs, hC, ?_⟩
      refine ze 9 hC h fun t40 h => ?_
      refine zw 10 hC ?_
      refine zw 11 hC ?_
      refine sim_dend (by kernel_rfl) ?_
      refine zk <| sim_ret ?_
      exact body_ret2 rfl rfl rfl h
def n_schema_Depth_1 (t0 : Value) (R : Ending → World → Prop) (w : World) : Prop :=
 opN Try.prog (nilN t0) (panK R) w fun t4 w =>
 opV Try.prog (Instr.fieldAt 101 t4 1) (panK R) w fun t5 w =>
 opV Try.prog (Instr.loadAt 98 t5) (panK R) w fun t6 w =>
 R (.returned t6) w
set_option maxRecDepth 100000 in
set_option maxHeartbeats 4000000 in
theorem n_schema_Depth_1_sound {t0 : Value} {R : Ending → World → Prop} {w : World} (h : n_schema_Depth_1 t0 R w) : Calls Try.prog 51 #[t0] w R := by
  refine calls_of_den (args := [t0]) Try.func51 rfl (Nat.le_of_ble_eq_true rfl) ?_
  unfold n_schema_Depth_1 at h
  refine zs <| zr <| zm <| zn <| zk <| zs <| zr <| zm ?_
  refine sim_next h rfl rfl (fun _ _ h => ⟨rfl, h⟩) ?_; intro t4 w h
  refine zv h fun t5 w h => ?_
  refine zv h fun t6 w h => ?_
  refine zm <| zn <| zk <| sim_ret ?_
  exact body_ret1 rfl rfl h
end Go.Proofs.Ytiajhbbmgglmlaa
namespace Go.Proofs.Ytiajhbbmgglmlaa
open Sw
open Go.RowKit (intOf)
set_option maxRecDepth 100000
def letterB (c : UInt8) : Bool := (decide (65 ≤ (c.toNat : Int)) && decide ((c.toNat : Int) ≤ 90)) || (decide (97 ≤ (c.toNat : Int)) && decide ((c.toNat : Int) ≤ 122))
def digitB (c : UInt8) : Bool := decide (48 ≤ (c.toNat : Int)) && decide ((c.toNat : Int) ≤ 57)
def wordB (c : UInt8) : Bool := letterB c || digitB c || ((c.toNat : Int) == 95)
def smallB (v : Int) : Bool := decide (-1048576 ≤ v) && decide (v ≤ 1048576)
def nameB (s : ByteArray) : Bool := decide (1 ≤ (s.size : Int)) && decide ((s.size : Int) ≤ 32) && (match s.data.toList with | [] => false | c :: _ => letterB c) && s.data.toList.all wordB
theorem letter_ret (w0 : World) (c : UInt8) : Ret Try.prog 71 #[.int .u8 c.toNat] w0 fun r w' => r = .bool (letterB c) ∧ Ext w0 w' := by
  refine n_size_letter_sound (R := retR _) ?_; unfold n_size_letter
  simp (disch := first | assumption | (simp only [ONE]; done) | rfl | (simp only [SZ]; done) | omega | (simp only [SZ] at *; omega)) only [↓PR, QR, Int.reduceBEq, Int.reduceBNe, Int.reduceLT, Int.reduceLE, Int.reduceGT, Int.reduceGE, Int.reduceNeg, ↓n_size_letter_c1, ↓n_size_letter_c2]
  unfold letterB
  have e := Ext.refl w0
  generalize decide (65 ≤ (c.toNat : Int)) = b1
  generalize decide ((c.toNat : Int) ≤ 90) = b2
  generalize decide (97 ≤ (c.toNat : Int)) = b3
  generalize decide ((c.toNat : Int) ≤ 122) = b4
  cases b1 <;> cases b2 <;> cases b3 <;> cases b4 <;> simp (disch := first | assumption | (simp only [ONE]; done) | rfl | (simp only [SZ]; done) | omega | (simp only [SZ] at *; omega)) only [↓PR, QR, Int.reduceBEq, Int.reduceBNe, Int.reduceLT, Int.reduceLE, Int.reduceGT, Int.reduceGE, Int.reduceNeg, ↓n_size_letter_c1, ↓n_size_letter_c2] <;> exact ⟨by trivial, e⟩
theorem rletter_ret (w0 : World) (c : UInt8) : Ret Try.prog 48 #[.int .u8 c.toNat] w0 fun r w' => r = .bool (letterB c) ∧ Ext w0 w' := by
  refine n_phrasebookref04_letter_sound (R := retR _) ?_; unfold n_phrasebookref04_letter
  simp (disch := first | assumption | (simp only [ONE]; done) | rfl | (simp only [SZ]; done) | omega | (simp only [SZ] at *; omega)) only [↓PR, QR, Int.reduceBEq, Int.reduceBNe, Int.reduceLT, Int.reduceLE, Int.reduceGT, Int.reduceGE, Int.reduceNeg, ↓n_phrasebookref04_letter_c1, ↓n_phrasebookref04_letter_c2]
  unfold letterB
  have e := Ext.refl w0
  generalize decide (65 ≤ (c.toNat : Int)) = b1
  generalize decide ((c.toNat : Int) ≤ 90) = b2
  generalize decide (97 ≤ (c.toNat : Int)) = b3
  generalize decide ((c.toNat : Int) ≤ 122) = b4
  cases b1 <;> cases b2 <;> cases b3 <;> cases b4 <;> simp (disch := first | assumption | (simp only [ONE]; done) | rfl | (simp only [SZ]; done) | omega | (simp only [SZ] at *; omega)) only [↓PR, QR, Int.reduceBEq, Int.reduceBNe, Int.reduceLT, Int.reduceLE, Int.reduceGT, Int.reduceGE, Int.reduceNeg, ↓n_phrasebookref04_letter_c1, ↓n_phrasebookref04_letter_c2] <;> exact ⟨by trivial, e⟩
theorem digit_ret (w0 : World) (c : UInt8) : Ret Try.prog 72 #[.int .u8 c.toNat] w0 fun r w' => r = .bool (digitB c) ∧ Ext w0 w' := by
  refine n_size_digit_sound (R := retR _) ?_; unfold n_size_digit
  simp (disch := first | assumption | (simp only [ONE]; done) | rfl | (simp only [SZ]; done) | omega | (simp only [SZ] at *; omega)) only [↓PR, QR, Int.reduceBEq, Int.reduceBNe, Int.reduceLT, Int.reduceLE, Int.reduceGT, Int.reduceGE, Int.reduceNeg, Sw.joinK_eq]
  unfold digitB
  have e := Ext.refl w0
  generalize decide (48 ≤ (c.toNat : Int)) = b1
  generalize decide ((c.toNat : Int) ≤ 57) = b2
  cases b1 <;> cases b2 <;> simp (disch := first | assumption | (simp only [ONE]; done) | rfl | (simp only [SZ]; done) | omega | (simp only [SZ] at *; omega)) only [↓PR, QR, Int.reduceBEq, Int.reduceBNe, Int.reduceLT, Int.reduceLE, Int.reduceGT, Int.reduceGE, Int.reduceNeg, Sw.joinK_eq] <;> exact ⟨by trivial, e⟩
theorem rdigit_ret (w0 : World) (c : UInt8) : Ret Try.prog 49 #[.int .u8 c.toNat] w0 fun r w' => r = .bool (digitB c) ∧ Ext w0 w' := by
  refine n_phrasebookref04_digit_sound (R := retR _) ?_; unfold n_phrasebookref04_digit
  simp (disch := first | assumption | (simp only [ONE]; done) | rfl | (simp only [SZ]; done) | omega | (simp only [SZ] at *; omega)) only [↓PR, QR, Int.reduceBEq, Int.reduceBNe, Int.reduceLT, Int.reduceLE, Int.reduceGT, Int.reduceGE, Int.reduceNeg, Sw.joinK_eq]
  unfold digitB
  have e := Ext.refl w0
  generalize decide (48 ≤ (c.toNat : Int)) = b1
  generalize decide ((c.toNat : Int) ≤ 57) = b2
  cases b1 <;> cases b2 <;> simp (disch := first | assumption | (simp only [ONE]; done) | rfl | (simp only [SZ]; done) | omega | (simp only [SZ] at *; omega)) only [↓PR, QR, Int.reduceBEq, Int.reduceBNe, Int.reduceLT, Int.reduceLE, Int.reduceGT, Int.reduceGE, Int.reduceNeg, Sw.joinK_eq] <;> exact ⟨by trivial, e⟩
theorem small_ret (w0 : World) (v : Int) : Ret Try.prog 114 #[.int .i64 v] w0 fun r w' => r = .bool (smallB v) ∧ Ext w0 w' := by
  refine n_size_small_sound (R := retR _) ?_; unfold n_size_small
  simp (disch := first | assumption | (simp only [ONE]; done) | rfl | (simp only [SZ]; done) | omega | (simp only [SZ] at *; omega)) only [↓PR, QR, Int.reduceBEq, Int.reduceBNe, Int.reduceLT, Int.reduceLE, Int.reduceGT, Int.reduceGE, Int.reduceNeg, Sw.joinK_eq]
  unfold smallB
  have e := Ext.refl w0
  generalize decide (-1048576 ≤ v) = b1
  generalize decide (v ≤ 1048576) = b2
  cases b1 <;> cases b2 <;> simp (disch := first | assumption | (simp only [ONE]; done) | rfl | (simp only [SZ]; done) | omega | (simp only [SZ] at *; omega)) only [↓PR, QR, Int.reduceBEq, Int.reduceBNe, Int.reduceLT, Int.reduceLE, Int.reduceGT, Int.reduceGE, Int.reduceNeg, Sw.joinK_eq] <;> exact ⟨by trivial, e⟩
def BoolsOf (w : World) (v : Value) (l : List Bool) : Prop := SliceOf w 1 EBool v l
theorem Index_bool_ret (w0 : World) (v : Value) (l : List Bool) (x : Bool) (hs : BoolsOf w0 v l) :
    Ret Try.prog 80 #[v, .bool x] w0 fun r w' => r = .int .i64 (idx (x == ·) l) ∧ Ext w0 w' := by
  obtain ⟨A, c, rfl, hlc, hcm, hlm, hel⟩ := SliceOf.open hs
  refine n_slices_Index_bool_sound (R := retR _) ?_; unfold n_slices_Index_bool
  simp (disch := first | assumption | (simp only [ONE]; done) | rfl | (simp only [SZ]; done) | omega | (simp only [SZ] at *; omega)) only [↓PR, QR, Int.reduceBEq, Int.reduceBNe, Int.reduceLT, Int.reduceLE, Int.reduceGT, Int.reduceGE, Int.reduceNeg]
  refine loop1_intro (fun i w => ∃ k : Nat, i = .int .i64 k ∧ k ≤ l.length ∧ Ext w0 w ∧ ∀ (j : Nat) y, j < k → l[j]? = some y → (x == y) = false) (fun i _ => l.length - (intOf i).toNat) ⟨0, rfl, by omega, Ext.refl _, fun j y h => by omega⟩ ?_
  rintro i w ⟨k, rfl, hk, e, hb⟩
  by_cases hlt : k < l.length
  · obtain ⟨y, hy⟩ := getElem?_lt hlt
    obtain ⟨b, o, cs, rfl, hl, hA, rfl⟩ := hel k y hy
    have hd : decide ((k : Int) < (l.length : Int)) = true := by simp; omega
    have hc : w.cell? ⟨b, o + k * 1, none⟩ = some (.bool y) := (hA.ext e).cell 0 rfl
    simp (disch := first | assumption | (simp only [ONE]; done) | rfl | (simp only [SZ]; done) | omega | (simp only [SZ] at *; omega)) only [↓PR, QR, Int.reduceBEq, Int.reduceBNe, Int.reduceLT, Int.reduceLE, Int.reduceGT, Int.reduceGE, Int.reduceNeg, hd, hc, ↓n_slices_Index_bool_c1]
    cases hp : (x == y) with
    | true =>
      simp (disch := first | assumption | (simp only [ONE]; done) | rfl | (simp only [SZ]; done) | omega | (simp only [SZ] at *; omega)) only [↓PR, QR, Int.reduceBEq, Int.reduceBNe, Int.reduceLT, Int.reduceLE, Int.reduceGT, Int.reduceGE, Int.reduceNeg]
      exact ⟨by rw [idx_here hy hp hb], e⟩
    | false =>
      simp (disch := first | assumption | (simp only [ONE]; done) | rfl | (simp only [SZ]; done) | omega | (simp only [SZ] at *; omega)) only [↓PR, QR, Int.reduceBEq, Int.reduceBNe, Int.reduceLT, Int.reduceLE, Int.reduceGT, Int.reduceGE, Int.reduceNeg]
      exact ⟨⟨k + 1, rfl, by omega, e, before_succ hb hy hp⟩, by simp [intOf]; omega⟩
  · have hd : decide ((k : Int) < (l.length : Int)) = false := by simp; omega
    simp (disch := first | assumption | (simp only [ONE]; done) | rfl | (simp only [SZ]; done) | omega | (simp only [SZ] at *; omega)) only [↓PR, QR, Int.reduceBEq, Int.reduceBNe, Int.reduceLT, Int.reduceLE, Int.reduceGT, Int.reduceGE, Int.reduceNeg, hd, ↓n_slices_Index_bool_c1]
    exact ⟨by rw [idx_none fun j y hy => hb j y (by have := (List.getElem?_eq_some_iff.1 hy).1; omega) hy], e⟩
theorem Contains_bool_ret (w0 : World) (v : Value) (l : List Bool) (x : Bool) (hs : BoolsOf w0 v l) :
    Ret Try.prog 76 #[v, .bool x] w0 fun r w' => r = .bool (l.any (x == ·)) ∧ Ext w0 w' := by
  refine n_slices_Contains_bool_sound (R := retR _) ?_; unfold n_slices_Contains_bool
  refine callK_ret (Index_bool_ret _ _ l x hs) ?_
  rintro r w' ⟨rfl, e⟩
  simp (disch := first | assumption | (simp only [ONE]; done) | rfl | (simp only [SZ]; done) | omega | (simp only [SZ] at *; omega)) only [↓PR, QR, Int.reduceBEq, Int.reduceBNe, Int.reduceLT, Int.reduceLE, Int.reduceGT, Int.reduceGE, Int.reduceNeg, Sw.joinK_eq]
  exact ⟨by rw [idx_neg], e⟩
theorem all_ret (w0 : World) (v : Value) (l : List Bool) (hs : BoolsOf w0 v l) :
    Ret Try.prog 73 #[v] w0 fun r w' => r = .bool (l.all id) ∧ Ext w0 w' := by
  refine n_size_all_sound (R := retR _) ?_; unfold n_size_all
  refine callK_ret (Contains_bool_ret _ _ l false hs) ?_
  rintro r w' ⟨rfl, e⟩
  simp (disch := first | assumption | (simp only [ONE]; done) | rfl | (simp only [SZ]; done) | omega | (simp only [SZ] at *; omega)) only [↓PR, QR, Int.reduceBEq, Int.reduceBNe, Int.reduceLT, Int.reduceLE, Int.reduceGT, Int.reduceGE, Int.reduceNeg, Sw.joinK_eq]
  refine ⟨?_, e⟩
  congr 1
  clear hs
  induction l with
  | nil => rfl
  | cons a l ih => cases a <;> simp_all
theorem NameS1_ret (w0 : World) (c : UInt8) : Ret Try.prog 70 #[.int .u8 c.toNat] w0 fun r w' => r = .bool (!wordB c) ∧ Ext w0 w' := by
  refine n_size_Name_1_sound (R := retR _) ?_; unfold n_size_Name_1
  refine callK_ret (letter_ret _ c) ?_
  rintro r w' ⟨rfl, e⟩
  simp (disch := first | assumption | (simp only [ONE]; done) | rfl | (simp only [SZ]; done) | omega | (simp only [SZ] at *; omega)) only [↓PR, QR, Int.reduceBEq, Int.reduceBNe, Int.reduceLT, Int.reduceLE, Int.reduceGT, Int.reduceGE, Int.reduceNeg, ↓n_size_Name_1_c1, ↓n_size_Name_1_c2]
  unfold wordB
  cases letterB c with
  | true => simp (disch := first | assumption | (simp only [ONE]; done) | rfl | (simp only [SZ]; done) | omega | (simp only [SZ] at *; omega)) only [↓PR, QR, Int.reduceBEq, Int.reduceBNe, Int.reduceLT, Int.reduceLE, Int.reduceGT, Int.reduceGE, Int.reduceNeg, ↓n_size_Name_1_c1, ↓n_size_Name_1_c2]; exact ⟨by trivial, e⟩
  | false =>
    simp (disch := first | assumption | (simp only [ONE]; done) | rfl | (simp only [SZ]; done) | omega | (simp only [SZ] at *; omega)) only [↓PR, QR, Int.reduceBEq, Int.reduceBNe, Int.reduceLT, Int.reduceLE, Int.reduceGT, Int.reduceGE, Int.reduceNeg, ↓n_size_Name_1_c1, ↓n_size_Name_1_c2]
    refine callK_ret (digit_ret _ c) ?_
    rintro r w2 ⟨rfl, e2⟩
    have e3 := e.trans e2
    cases digitB c with
    | true => simp (disch := first | assumption | (simp only [ONE]; done) | rfl | (simp only [SZ]; done) | omega | (simp only [SZ] at *; omega)) only [↓PR, QR, Int.reduceBEq, Int.reduceBNe, Int.reduceLT, Int.reduceLE, Int.reduceGT, Int.reduceGE, Int.reduceNeg, ↓n_size_Name_1_c1, ↓n_size_Name_1_c2]; exact ⟨by trivial, e3⟩
    | false => simp (disch := first | assumption | (simp only [ONE]; done) | rfl | (simp only [SZ]; done) | omega | (simp only [SZ] at *; omega)) only [↓PR, QR, Int.reduceBEq, Int.reduceBNe, Int.reduceLT, Int.reduceLE, Int.reduceGT, Int.reduceGE, Int.reduceNeg, ↓n_size_Name_1_c1, ↓n_size_Name_1_c2]; exact ⟨by trivial, e3⟩
def BytesOf (w : World) (v : Value) (l : List UInt8) : Prop := SliceOf w 1 EByte v l
theorem ContainsFunc_byte_ret (w0 : World) (v : Value) (l : List UInt8) (g : FuncId) (caps : Array Value) (p : UInt8 → Bool) (hs : BytesOf w0 v l) (hg : Callable Try.prog g) (hc : Tests w0 (fun _ v x => v = .int .u8 (x.toNat : Int)) g caps p l) :
    Ret Try.prog 74 #[v, .func (.func g) #[] caps] w0 fun r w' => r = .bool (l.any p) ∧ Ext w0 w' := by
  refine n_slices_ContainsFunc_byte_sound (R := retR _) ?_; unfold n_slices_ContainsFunc_byte
  refine callK_ret (IndexFunc_byte_ret _ _ l g caps p hs hg hc) ?_
  rintro r w' ⟨rfl, e⟩
  simp (disch := first | assumption | (simp only [ONE]; done) | rfl | (simp only [SZ]; done) | omega | (simp only [SZ] at *; omega)) only [↓PR, QR, Int.reduceBEq, Int.reduceBNe, Int.reduceLT, Int.reduceLE, Int.reduceGT, Int.reduceGE, Int.reduceNeg, Sw.joinK_eq]
  exact ⟨by rw [idx_neg], e⟩
theorem boolsNew (w : World) (l : List Bool) (T : TypeId) (hl : l.length ≤ 9223372036854775807) : BoolsOf (w.alloc (.cells (l.map Value.bool).toArray T)) (.slice (some ⟨w.heap.size, 0, none⟩) l.length l.length) l := SliceOf.new1 _ (fun _ _ => rfl) w l T hl
theorem all2_ret {w : World} {p : Nat} (hp : p = w.heap.size) (a b : Bool) (T : TypeId) : Ret Try.prog 73 #[.slice (some ⟨p, 0, none⟩) 2 2] (w.alloc (.cells #[.bool a, .bool b] T)) fun r w' => r = .bool (a && b) ∧ Ext (w.alloc (.cells #[.bool a, .bool b] T)) w' := by
  subst hp
  have h := all_ret _ _ [a, b] (boolsNew w [a, b] T (by simp))
  simpa using h
theorem all3_ret {w : World} {p : Nat} (hp : p = w.heap.size) (a b c : Bool) (T : TypeId) : Ret Try.prog 73 #[.slice (some ⟨p, 0, none⟩) 3 3] (w.alloc (.cells #[.bool a, .bool b, .bool c] T)) fun r w' => r = .bool (a && b && c) ∧ Ext (w.alloc (.cells #[.bool a, .bool b, .bool c] T)) w' := by
  subst hp
  have h := all_ret _ _ [a, b, c] (boolsNew w [a, b, c] T (by simp))
  simpa [Bool.and_assoc] using h
theorem Name_ret (w0 : World) (s : ByteArray) : Ret Try.prog 63 #[.string s] w0 fun r w' => r = .bool (nameB s) ∧ Ext w0 w' := by
  refine n_size_Name_sound (R := retR _) ?_; unfold n_size_Name
  simp (disch := first | assumption | (simp only [ONE]; done) | rfl | (simp only [SZ]; done) | omega | (simp only [SZ] at *; omega)) only [↓PR, QR, Int.reduceBEq, Int.reduceBNe, Int.reduceLT, Int.reduceLE, Int.reduceGT, Int.reduceGE, Int.reduceNeg, ↓n_size_Name_c1, ↓n_size_Name_c2]
  have e1 : Ext w0 (w0.alloc (.cells #[.bool (decide (1 ≤ (s.size : Int))), .bool (decide ((s.size : Int) ≤ 32))] 4)) := (Ext.refl w0).alloc _
  refine callK_ret (all_ret _ _ [decide (1 ≤ (s.size : Int)), decide ((s.size : Int) ≤ 32)] (boolsNew w0 [decide (1 ≤ (s.size : Int)), decide ((s.size : Int) ≤ 32)] 4 (by simp))) ?_
  rintro r w1 ⟨rfl, e2⟩
  have e := e1.trans e2
  have hall : [decide (1 ≤ (s.size : Int)), decide ((s.size : Int) ≤ 32)].all id = (decide (1 ≤ (s.size : Int)) && decide ((s.size : Int) ≤ 32)) := by simp
  rw [hall]
  unfold nameB
  cases h1 : (decide (1 ≤ (s.size : Int)) && decide ((s.size : Int) ≤ 32)) with
  | false => simp (disch := first | assumption | (simp only [ONE]; done) | rfl | (simp only [SZ]; done) | omega | (simp only [SZ] at *; omega)) only [↓PR, QR, Int.reduceBEq, Int.reduceBNe, Int.reduceLT, Int.reduceLE, Int.reduceGT, Int.reduceGE, Int.reduceNeg, ↓n_size_Name_c1, ↓n_size_Name_c2]; exact ⟨by trivial, e⟩
  | true =>
    simp (disch := first | assumption | (simp only [ONE]; done) | rfl | (simp only [SZ]; done) | omega | (simp only [SZ] at *; omega)) only [↓PR, QR, Int.reduceBEq, Int.reduceBNe, Int.reduceLT, Int.reduceLE, Int.reduceGT, Int.reduceGE, Int.reduceNeg, ↓n_size_Name_c1, ↓n_size_Name_c2]
    have hlen : s.size ≤ 9223372036854775807 := by simp only [Bool.and_eq_true, decide_eq_true_eq] at h1; omega
    obtain ⟨c, cs, hcs⟩ : ∃ c cs, s.data.toList = c :: cs := by
      simp only [Bool.and_eq_true, decide_eq_true_eq] at h1
      cases hd : s.data.toList with
      | nil => have : s.data.size = 0 := by rw [← Array.length_toList, hd]; rfl
               have h0 : s.size = s.data.size := rfl
               omega
      | cons c cs => exact ⟨c, cs, rfl⟩
    rw [op_indexS0 Try.underlying9 s .i64 (b := c) (by rw [hcs]; rfl)]
    refine callK_ret (letter_ret _ c) ?_
    rintro r w2 ⟨rfl, e3⟩
    have e := e.trans e3
    rw [hcs]
    cases hl : letterB c with
    | false => simp (disch := first | assumption | (simp only [ONE]; done) | rfl | (simp only [SZ]; done) | omega | (simp only [SZ] at *; omega)) only [↓PR, QR, Int.reduceBEq, Int.reduceBNe, Int.reduceLT, Int.reduceLE, Int.reduceGT, Int.reduceGE, Int.reduceNeg, ↓n_size_Name_c1, ↓n_size_Name_c2]; exact ⟨by rw [hl]; rfl, e⟩
    | true =>
      simp (disch := first | assumption | (simp only [ONE]; done) | rfl | (simp only [SZ]; done) | omega | (simp only [SZ] at *; omega)) only [↓PR, QR, Int.reduceBEq, Int.reduceBNe, Int.reduceLT, Int.reduceLE, Int.reduceGT, Int.reduceGE, Int.reduceNeg, ↓n_size_Name_c1, ↓n_size_Name_c2]
      refine op_bytes Try.underlying9 Try.underlying121 Try.underlying5 s hlen ?_
      rintro v w3 e4 ⟨A, cp, rfl, hc1, hc2, b, rfl, hcell⟩
      have hsz : s.data.toList.length = s.size := by rw [Array.length_toList]; rfl
      have hB : BytesOf w3 (.slice (some ⟨b, 0, none⟩) s.size cp) s.data.toList := by
        rw [← hsz]
        refine ⟨_, _, rfl, by omega, hc2, fun _ => ⟨_, _, rfl, fun k x hx => ⟨[.int .u8 x.toNat], rfl, fun j v hv => ?_, rfl⟩⟩⟩
        cases j with
        | zero => injection hv with hv; subst hv; simpa using hcell k x hx
        | succ j => cases hv
      have e := e.trans e4
      refine callK_ret (ContainsFunc_byte_ret _ _ s.data.toList _ _ (fun x => !wordB x) hB c70 ?_) ?_
      · rintro w v x _ _ rfl
        exact NameS1_ret w x
      · rintro r w4 ⟨rfl, e5⟩
        simp (disch := first | assumption | (simp only [ONE]; done) | rfl | (simp only [SZ]; done) | omega | (simp only [SZ] at *; omega)) only [↓PR, QR, Int.reduceBEq, Int.reduceBNe, Int.reduceLT, Int.reduceLE, Int.reduceGT, Int.reduceGE, Int.reduceNeg, ↓n_size_Name_c1, ↓n_size_Name_c2]
        refine ⟨?_, e.trans e5⟩
        rw [hcs, hl]
        congr 1
        generalize c :: cs = l
        clear hall
        induction l with
        | nil => rfl
        | cons a l ih => simp only [List.any_cons, List.all_cons, Bool.not_or, Bool.not_not, Bool.true_and] at *; rw [ih]
def termB (t : TermD) : Bool := nameB t.field && (t.factor != 0) && smallB t.factor
theorem ValidS1_ret (w : World) (t : TermD) (pb r : Nat) (names : List ByteArray) (hcell : w.cell? ⟨pb, 0, none⟩ = some (.map (some r))) (hm : SetOf w r names) :
    Ret Try.prog 113 #[termVal t, .pointer (some ⟨pb, 0, none⟩)] w fun v w' => v = .bool (memB names t.field || !termB t) ∧ SetOf w' r (names ++ [t.field]) ∧ w'.cell? ⟨pb, 0, none⟩ = some (.map (some r)) ∧
      ∀ w0, Ext w0 w → w0.heap.size ≤ r → Ext w0 w' := by
  have hpb : pb < w.heap.size := World.block_lt_of_cell? w _ hcell
  obtain ⟨L, c, hM, hl⟩ := hm
  refine n_size_Valid_1_sound (R := retR _) ?_; unfold n_size_Valid_1
  unfold termVal
  simp (disch := first | assumption | (simp only [ONE]; done) | rfl | (simp only [SZ]; done) | omega | (simp only [SZ] at *; omega)) only [↓PR, QR, Int.reduceBEq, Int.reduceBNe, Int.reduceLT, Int.reduceLE, Int.reduceGT, Int.reduceGE, Int.reduceNeg, hcell]
  have e1 : Ext w (w.alloc (.cells #[.string t.field, .int .i64 t.factor] 77)) := (Ext.refl w).alloc _
  rw [op_lookup1S Try.underlying99 Try.underlying9 ty4 (hM.ext e1)]
  simp (disch := first | assumption | (simp only [ONE]; done) | rfl | (simp only [SZ]; done) | omega | (simp only [SZ] at *; omega)) only [↓PR, QR, Int.reduceBEq, Int.reduceBNe, Int.reduceLT, Int.reduceLE, Int.reduceGT, Int.reduceGE, Int.reduceNeg, hcell]
  rw [op_mapUpdateS Try.underlying99 Try.underlying9 (hM.ext e1)]
  obtain ⟨W, hW⟩ : ∃ W, ((w.alloc (.cells #[.string t.field, .int .i64 t.factor] 77)).putObj r (mapObjS (putL L c t.field (.bool true)) (putC L c t.field))) = W := ⟨_, rfl⟩
  have hS : SetOf W r (names ++ [t.field]) := by rw [← hW]; exact SetOf.put (hM.ext e1) hl _
  have hC : W.cell? ⟨pb, 0, none⟩ = some (.map (some r)) := by rw [← hW, cell_putMap (hM.ext e1)]; exact e1.cell hcell
  have hE : ∀ w0, Ext w0 w → w0.heap.size ≤ r → Ext w0 W := fun w0 h0 hr => by rw [← hW]; exact (h0.trans e1).putObj hr _
  have hA0 : W.cell? ⟨w.heap.size, 0, none⟩ = some (.string t.field) := by rw [← hW, cell_putMap (hM.ext e1), cell_new]; rfl
  have hA1 : W.cell? ⟨w.heap.size, 1, none⟩ = some (.int .i64 t.factor) := by rw [← hW, cell_putMap (hM.ext e1), cell_new]; rfl
  rw [hW]
  refine drawK_intro ?_
  have ht8 : (Sw.look L t.field).getD (.bool false) = .bool (memB names t.field) := by rw [hl]; cases memB names t.field <;> rfl
  rw [ht8]
  have fin : ∀ b w', Ext W w' → b = (memB names t.field || !termB t) → (Value.bool b = .bool (memB names t.field || !termB t) ∧ SetOf w' r (names ++ [t.field]) ∧ w'.cell? ⟨pb, 0, none⟩ = some (.map (some r)) ∧ ∀ w0, Ext w0 w → w0.heap.size ≤ r → Ext w0 w') :=
    fun b w' e hb => ⟨by rw [hb], hS.ext e, e.cell hC, fun w0 h0 hr => (hE w0 h0 hr).trans e⟩
  cases hmem : memB names t.field with
  | true =>
    simp (disch := first | assumption | (simp only [ONE]; done) | rfl | (simp only [SZ]; done) | omega | (simp only [SZ] at *; omega)) only [↓PR, QR, Int.reduceBEq, Int.reduceBNe, Int.reduceLT, Int.reduceLE, Int.reduceGT, Int.reduceGE, Int.reduceNeg, ↓n_size_Valid_1_c1, ↓n_size_Valid_1_c2]
    exact ⟨trivial, (fin (true || !termB t) _ (Ext.refl _).wdrew (by rw [hmem])).2⟩
  | false =>
    simp (disch := first | assumption | (simp only [ONE]; done) | rfl | (simp only [SZ]; done) | omega | (simp only [SZ] at *; omega)) only [↓PR, QR, Int.reduceBEq, Int.reduceBNe, Int.reduceLT, Int.reduceLE, Int.reduceGT, Int.reduceGE, Int.reduceNeg, ↓n_size_Valid_1_c1, ↓n_size_Valid_1_c2, hA0, hA1]
    refine callK_ret (Name_ret _ t.field) ?_
    rintro _ w1 ⟨rfl, e2⟩
    refine ⟨e2, ?_⟩
    refine callK_ret (small_ret _ t.factor) ?_
    rintro _ w2 ⟨rfl, e3⟩
    refine ⟨e2.trans e3, ?_⟩
    simp (disch := first | assumption | (simp only [ONE]; done) | rfl | (simp only [SZ]; done) | omega | (simp only [SZ] at *; omega)) only [↓PR, QR, Int.reduceBEq, Int.reduceBNe, Int.reduceLT, Int.reduceLE, Int.reduceGT, Int.reduceGE, Int.reduceNeg, ↓n_size_Valid_1_c1, ↓n_size_Valid_1_c2]
    have e := e2.trans e3
    refine ⟨e.alloc _, ?_⟩
    refine callK_ret (all3_ret rfl _ _ _ _) ?_
    rintro _ w3 ⟨rfl, e4⟩
    refine ⟨(e.alloc _).trans e4, ?_⟩
    simp (disch := first | assumption | (simp only [ONE]; done) | rfl | (simp only [SZ]; done) | omega | (simp only [SZ] at *; omega)) only [↓PR, QR, Int.reduceBEq, Int.reduceBNe, Int.reduceLT, Int.reduceLE, Int.reduceGT, Int.reduceGE, Int.reduceNeg, ↓n_size_Valid_1_c1, ↓n_size_Valid_1_c2]
    exact ⟨rfl, (fin (!termB t) w3 (((Ext.refl _).wdrew).trans ((e.alloc _).trans e4)) (by rw [hmem]; rfl)).2⟩
def termsB : List ByteArray → List TermD → Bool
  | _, [] => true
  | seen, t :: ts => !(memB seen t.field) && termB t && termsB (seen ++ [t.field]) ts
theorem termsB_iff : ∀ (ts : List TermD) (seen : List ByteArray), termsB seen ts = true ↔ ∀ k x, ts[k]? = some x → (memB (seen ++ (ts.take k).map (·.field)) x.field || !termB x) = false
  | [], seen => by simp [termsB]
  | t :: ts, seen => by
    simp only [termsB, Bool.and_eq_true, termsB_iff ts]
    constructor
    · rintro ⟨⟨h1, h2⟩, h3⟩ k x hx
      cases k with
      | zero => simp at hx; subst hx; simpa using ⟨by simpa using h1, h2⟩
      | succ k => have := h3 k x (by simpa using hx); simpa using this
    · intro h
      refine ⟨?_, fun k x hx => by simpa using h (k + 1) x (by simpa using hx)⟩
      have := h 0 t rfl
      simp at this
      exact ⟨by rw [this.1]; rfl, this.2⟩
theorem ContainsFunc_Term_st (w0 w1 : World) (v : Value) (l : List TermD) (g : FuncId) (caps : Array Value) (p : Nat → Bool) (J : Nat → World → Prop) (hs : TermsOf w0 v l) (hg : Callable Try.prog g) (hJ : ∀ k w, J k w → Ext w0 w) (h0 : J 0 w1)
    (hc : ∀ k x w u, l[k]? = some x → J k w → (fun _ v x => v = termVal x) w u x → Ret Try.prog g (#[u] ++ caps) w fun r w' => r = .bool (p k) ∧ J (k + 1) w') :
    Ret Try.prog 115 #[v, .func (.func g) #[] caps] w1 fun r w' => r = .bool ((List.range l.length).any p) ∧ ∃ k, J k w' := by
  refine n_slices_ContainsFunc_api_Term_sound (R := retR _) ?_; unfold n_slices_ContainsFunc_api_Term
  refine callK_ret (IndexFunc_Term_st w0 _ _ l g caps p J hs hg hJ h0 hc) ?_
  rintro r w' ⟨rfl, e⟩
  simp (disch := first | assumption | (simp only [ONE]; done) | rfl | (simp only [SZ]; done) | omega | (simp only [SZ] at *; omega)) only [↓PR, QR, Int.reduceBEq, Int.reduceBNe, Int.reduceLT, Int.reduceLE, Int.reduceGT, Int.reduceGE, Int.reduceNeg, Sw.joinK_eq]
  exact ⟨by rw [idx_neg], e⟩
def sizeB (base : Int) (ts : List TermD) : Bool := smallB base && decide (ts.length ≤ 4) && termsB [] ts
theorem Valid_ret (w0 : World) (v : Value) (base : Int) (ts : List TermD) (hs : SizeVal w0 v base ts) :
    Ret Try.prog 108 #[v] w0 fun r w' => r = .bool (sizeB base ts) ∧ Ext w0 w' := by
  obtain ⟨tv, rfl, hT⟩ := hs
  refine n_size_Valid_sound (R := retR _) ?_; unfold n_size_Valid
  simp (disch := first | assumption | (simp only [ONE]; done) | rfl | (simp only [SZ]; done) | omega | (simp only [SZ] at *; omega)) only [↓PR, QR, Int.reduceBEq, Int.reduceBNe, Int.reduceLT, Int.reduceLE, Int.reduceGT, Int.reduceGE, Int.reduceNeg]
  obtain ⟨A, c, rfl, hlc, hcm, hlm, hel⟩ := SliceOf.open hT
  obtain ⟨W1, hW1⟩ : ∃ W1, w0.alloc (.cells #[.int .i64 base, .slice A ts.length c] 25) = W1 := ⟨_, rfl⟩
  have e0 : Ext w0 W1 := by rw [← hW1]; exact (Ext.refl w0).alloc _
  have hc0 : W1.cell? ⟨w0.heap.size, 0, none⟩ = some (.int .i64 base) := by rw [← hW1]; simp (disch := first | assumption | (simp only [ONE]; done) | rfl | (simp only [SZ]; done) | omega | (simp only [SZ] at *; omega)) only [↓PR, QR, Int.reduceBEq, Int.reduceBNe, Int.reduceLT, Int.reduceLE, Int.reduceGT, Int.reduceGE, Int.reduceNeg]
  have hc1 : W1.cell? ⟨w0.heap.size, 1, none⟩ = some (.slice A ts.length c) := by rw [← hW1]; simp (disch := first | assumption | (simp only [ONE]; done) | rfl | (simp only [SZ]; done) | omega | (simp only [SZ] at *; omega)) only [↓PR, QR, Int.reduceBEq, Int.reduceBNe, Int.reduceLT, Int.reduceLE, Int.reduceGT, Int.reduceGE, Int.reduceNeg]
  have hsz : w0.heap.size + 1 = W1.heap.size := by rw [← hW1]; simp (disch := first | assumption | (simp only [ONE]; done) | rfl | (simp only [SZ]; done) | omega | (simp only [SZ] at *; omega)) only [↓PR, QR, Int.reduceBEq, Int.reduceBNe, Int.reduceLT, Int.reduceLE, Int.reduceGT, Int.reduceGE, Int.reduceNeg]
  simp only [hW1, hsz]
  refine drawK_introE (w1 := W1) (((Ext.refl W1).alloc _).alloc _) ?_
  simp (disch := first | assumption | (simp only [ONE]; done) | rfl | (simp only [SZ]; done) | omega | (simp only [SZ] at *; omega)) only [↓PR, QR, Int.reduceBEq, Int.reduceBNe, Int.reduceLT, Int.reduceLE, Int.reduceGT, Int.reduceGE, Int.reduceNeg, ↓n_size_Valid_c1, ↓n_size_Valid_c2, ↓n_size_Valid_c3, hc0, hc1]
  generalize hW : (World.drew _) = W
  have e1 : Ext W1 W := by rw [← hW]; exact (((Ext.refl W1).alloc _).alloc _).wdrew
  have hpb : W.cell? ⟨W1.heap.size + 1, 0, none⟩ = some (.map (some W1.heap.size)) := by rw [← hW]; simp (disch := first | assumption | (simp only [ONE]; done) | rfl | (simp only [SZ]; done) | omega | (simp only [SZ] at *; omega)) only [↓PR, QR, Int.reduceBEq, Int.reduceBNe, Int.reduceLT, Int.reduceLE, Int.reduceGT, Int.reduceGE, Int.reduceNeg]
  have hset : SetOf W W1.heap.size [] := by
    rw [← hW]
    have h := (MapS.new W1).ext (((Ext.refl _).alloc (Obj.cells (#[Value.map none].setIfInBounds 0 (Value.map (some W1.heap.size))) 99)).wdrew)
    exact ⟨[], 0, by simpa using h, fun s => rfl⟩
  clear hW
  refine callK_ret (small_ret _ base) ?_
  rintro _ w1 ⟨rfl, e2⟩
  refine ⟨e1.trans e2, ?_⟩
  simp (disch := first | assumption | (simp only [ONE]; done) | rfl | (simp only [SZ]; done) | omega | (simp only [SZ] at *; omega)) only [↓PR, QR, Int.reduceBEq, Int.reduceBNe, Int.reduceLT, Int.reduceLE, Int.reduceGT, Int.reduceGE, Int.reduceNeg]
  refine ⟨e1.trans (e2.alloc _), ?_⟩
  refine callK_ret (all2_ret rfl _ _ _) ?_
  rintro _ w2 ⟨rfl, e3⟩
  replace e2 := (e2.alloc _).trans e3
  refine ⟨e1.trans e2, ?_⟩
  simp (disch := first | assumption | (simp only [ONE]; done) | rfl | (simp only [SZ]; done) | omega | (simp only [SZ] at *; omega)) only [↓PR, QR, Int.reduceBEq, Int.reduceBNe, Int.reduceLT, Int.reduceLE, Int.reduceGT, Int.reduceGE, Int.reduceNeg, ↓n_size_Valid_c1, ↓n_size_Valid_c2, ↓n_size_Valid_c3]
  unfold sizeB
  cases hb : (smallB base && decide (ts.length ≤ 4)) with
  | false =>
    have hb' : (smallB base && decide ((ts.length : Int) ≤ 4)) = false := by rw [← hb]; congr 1; simp; omega
    rw [hb']
    simp (disch := first | assumption | (simp only [ONE]; done) | rfl | (simp only [SZ]; done) | omega | (simp only [SZ] at *; omega)) only [↓PR, QR, Int.reduceBEq, Int.reduceBNe, Int.reduceLT, Int.reduceLE, Int.reduceGT, Int.reduceGE, Int.reduceNeg, ↓n_size_Valid_c1, ↓n_size_Valid_c2, ↓n_size_Valid_c3, hc0, hc1]
    exact ⟨by trivial, e0.trans (e1.trans e2)⟩
  | true =>
    have hb' : (smallB base && decide ((ts.length : Int) ≤ 4)) = true := by rw [← hb]; congr 1; simp; omega
    rw [hb']
    simp (disch := first | assumption | (simp only [ONE]; done) | rfl | (simp only [SZ]; done) | omega | (simp only [SZ] at *; omega)) only [↓PR, QR, Int.reduceBEq, Int.reduceBNe, Int.reduceLT, Int.reduceLE, Int.reduceGT, Int.reduceGE, Int.reduceNeg, ↓n_size_Valid_c1, ↓n_size_Valid_c2, ↓n_size_Valid_c3, hc0, hc1]
    refine callK_ret (ContainsFunc_Term_st W1 w2 _ ts 113 _ (fun k => match ts[k]? with | some t => memB ((ts.take k).map (·.field)) t.field || !termB t | none => true) (fun k w => SetOf w W1.heap.size ((ts.take k).map (·.field)) ∧ w.cell? ⟨W1.heap.size + 1, 0, none⟩ = some (.map (some W1.heap.size)) ∧ Ext W1 w) (hT.ext e0) c113 (fun k w h => h.2.2) ⟨hset.ext e2, e2.cell hpb, e1.trans e2⟩ ?_) ?_
    · rintro k x w u hx ⟨h1, h2, h3⟩ rfl
      simp only [hsz]
      refine Ret.mono (ValidS1_ret w x _ _ _ h2 h1) ?_
      rintro v w' ⟨rfl, h4, h5, h6⟩
      refine ⟨by rw [hx], ?_, h5, h6 _ h3 (Nat.le_refl _)⟩
      rw [List.take_add_one, hx]
      simpa using h4
    · rintro _ w3 ⟨rfl, k, h1, h2, h3⟩
      refine ⟨h3, ?_⟩
      simp (disch := first | assumption | (simp only [ONE]; done) | rfl | (simp only [SZ]; done) | omega | (simp only [SZ] at *; omega)) only [↓PR, QR, Int.reduceBEq, Int.reduceBNe, Int.reduceLT, Int.reduceLE, Int.reduceGT, Int.reduceGE, Int.reduceNeg, ↓n_size_Valid_c1, ↓n_size_Valid_c2, ↓n_size_Valid_c3]
      refine ⟨?_, e0.trans h3⟩
      congr 1
      rw [Bool.eq_iff_iff, termsB_iff, Bool.not_eq_true', List.any_eq_false]
      simp only [List.mem_range, List.nil_append]
      constructor
      · intro h k x hx
        have := h k (List.getElem?_eq_some_iff.1 hx).1
        rw [hx] at this
        simpa using this
      · intro h k hk
        rw [List.getElem?_eq_getElem hk]
        have := h k _ (List.getElem?_eq_getElem hk)
        simpa using this
end Go.Proofs.Ytiajhbbmgglmlaa
