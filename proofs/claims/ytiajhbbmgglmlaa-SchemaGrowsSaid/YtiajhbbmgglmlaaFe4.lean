/-
  Lemmas for the claim.
-/
import Derived.Test.YtiajhbbmgglmlaaFe3
set_option linter.all false
namespace Go.Proofs.Ytiajhbbmgglmlaa
open Sw
def n_phrasebooklaw05_known_c1 (t122 t127 : Value) (R : Ending → World → Prop) (w : World) : Prop :=
 pickK t122 t127 (.bool false) fun t128 =>
 joinK (fun (t132 : Value) (w : World) =>
 pickK t128 t132 (.bool false) fun t133 =>
 R (.returned t133) w) fun K13 =>
 guardP t128 true (
 opV Try.prog (Instr.build 28 #[(1, (.int .i64 10))]) (panK R) w fun t130 w =>
 callK Try.prog 14 #[t130] (panK R) w fun t131 w =>
 opV Try.prog (Op.unary .not t131) (panK R) w fun t132 w =>
 K13 t132 w) (
 K13 undef w)
def n_phrasebooklaw05_known_c2 (t107 t117 t121 : Value) (R : Ending → World → Prop) (w : World) : Prop :=
 pickK t117 t121 (.bool false) fun t122 =>
 joinK (fun (t127 : Value) (w : World) =>
 n_phrasebooklaw05_known_c1 t122 t127 R w) fun K12 =>
 guardP t122 true (
 opV Try.prog (Instr.lookup 53 t107 (.string { data := #[110] }) false) (panK R) w fun t125 w =>
 opV Try.prog (Instr.build 31 #[(1, (.int .i64 255))]) (panK R) w fun t126 w =>
 opV Try.prog (binS .eql 31 false t125 t126) (panK R) w fun t127 w =>
 K12 t127 w) (
 K12 undef w)
def n_phrasebooklaw05_known_c3 (t107 t113 t116 : Value) (R : Ending → World → Prop) (w : World) : Prop :=
 pickK t113 t116 (.bool false) fun t117 =>
 joinK (fun (t121 : Value) (w : World) =>
 n_phrasebooklaw05_known_c2 t107 t117 t121 R w) fun K11 =>
 guardP t117 true (
 opV Try.prog (Builtin.len_ #[53] 3 #[t107]) (panK R) w fun t120 w =>
 opV Try.prog (binS .eql 3 true t120 (.int .i64 1)) (panK R) w fun t121 w =>
 K11 t121 w) (
 K11 undef w)
def n_phrasebooklaw05_known_c4 (t102 t107 t109 t112 : Value) (R : Ending → World → Prop) (w : World) : Prop :=
 pickK t109 t112 (.bool false) fun t113 =>
 joinK (fun (t116 : Value) (w : World) =>
 n_phrasebooklaw05_known_c3 t107 t113 t116 R w) fun K10 =>
 guardP t113 true (
 opV Try.prog (binS .eql 32 true t102 (.int .i64 3)) (panK R) w fun t116 w =>
 K10 t116 w) (
 K10 undef w)
def n_phrasebooklaw05_known_c5 (t96 t97 t102 t107 : Value) (R : Ending → World → Prop) (w : World) : Prop :=
 opV Try.prog (binS .eql 3 true t96 (.int .i64 1)) (panK R) w fun t109 w =>
 joinK (fun (t112 : Value) (w : World) =>
 n_phrasebooklaw05_known_c4 t102 t107 t109 t112 R w) fun K9 =>
 guardP t109 true (
 opV Try.prog (binS .eql 32 true t97 (.int .i64 0)) (panK R) w fun t112 w =>
 K9 t112 w) (
 K9 undef w)
def n_phrasebooklaw05_known_c6 (t96 t97 t102 t103 : Value) (R : Ending → World → Prop) (w : World) : Prop :=
 opV Try.prog (Instr.field 44 t103 1) (panK R) w fun t104 w =>
 opV Try.prog (Instr.indexAt 42 t104 (.int .i64 0)) (panK R) w fun t105 w =>
 opV Try.prog (Instr.loadAt 50 t105) (panK R) w fun t106 w =>
 callK Try.prog 22 #[t106] (panK R) w fun t107 w =>
 n_phrasebooklaw05_known_c5 t96 t97 t102 t107 R w
def n_phrasebooklaw05_known_c7 (t96 t97 t100 : Value) (R : Ending → World → Prop) (w : World) : Prop :=
 opV Try.prog (Instr.extract t100 0) (panK R) w fun t101 w =>
 opV Try.prog (Instr.extract t100 1) (panK R) w fun t102 w =>
 callK Try.prog 32 #[] (panK R) w fun t103 w =>
 n_phrasebooklaw05_known_c6 t96 t97 t102 t103 R w
def n_phrasebooklaw05_known_c8 (t95 : Value) (R : Ending → World → Prop) (w : World) : Prop :=
 opV Try.prog (Instr.extract t95 0) (panK R) w fun t96 w =>
 opV Try.prog (Instr.extract t95 1) (panK R) w fun t97 w =>
 callK Try.prog 32 #[] (panK R) w fun t99 w =>
 callK Try.prog 29 #[t99, (.int .i64 1)] (panK R) w fun t100 w =>
 n_phrasebooklaw05_known_c7 t96 t97 t100 R w
def n_phrasebooklaw05_known_c9 (t87 t91 : Value) (R : Ending → World → Prop) (w : World) : Prop :=
 pickK t87 (.bool true) t91 fun t92 =>
 condP t92 (
 R (.returned (.bool false)) w) (
 callK Try.prog 32 #[] (panK R) w fun t94 w =>
 callK Try.prog 29 #[t94, (.int .i64 0)] (panK R) w fun t95 w =>
 n_phrasebooklaw05_known_c8 t95 R w)
def n_phrasebooklaw05_known_c10 (t6 t82 t86 : Value) (R : Ending → World → Prop) (w : World) : Prop :=
 pickK t82 (.bool true) t86 fun t87 =>
 joinK (fun (t91 : Value) (w : World) =>
 n_phrasebooklaw05_known_c9 t87 t91 R w) fun K8 =>
 guardP t87 false (
 opV Try.prog (Instr.loadAt 44 t6) (panK R) w fun t89 w =>
 callK Try.prog 33 #[t89, (.int .i64 0), (.int .i64 2), (.int .i64 8)] (panK R) w fun t90 w =>
 opV Try.prog (Op.unary .not t90) (panK R) w fun t91 w =>
 K8 t91 w) (
 K8 undef w)
def n_phrasebooklaw05_known_c11 (t5 t6 t77 t81 : Value) (R : Ending → World → Prop) (w : World) : Prop :=
 pickK t77 (.bool true) t81 fun t82 =>
 joinK (fun (t86 : Value) (w : World) =>
 n_phrasebooklaw05_known_c10 t6 t82 t86 R w) fun K7 =>
 guardP t82 false (
 opV Try.prog (Instr.loadAt 44 t5) (panK R) w fun t84 w =>
 callK Try.prog 33 #[t84, (.int .i64 0), (.int .i64 1), (.int .i64 5)] (panK R) w fun t85 w =>
 opV Try.prog (Op.unary .not t85) (panK R) w fun t86 w =>
 K7 t86 w) (
 K7 undef w)
def n_phrasebooklaw05_known_c12 (t4 t5 t6 t72 t76 : Value) (R : Ending → World → Prop) (w : World) : Prop :=
 pickK t72 (.bool true) t76 fun t77 =>
 joinK (fun (t81 : Value) (w : World) =>
 n_phrasebooklaw05_known_c11 t5 t6 t77 t81 R w) fun K6 =>
 guardP t77 false (
 opV Try.prog (Instr.loadAt 44 t4) (panK R) w fun t79 w =>
 callK Try.prog 33 #[t79, (.int .i64 0), (.int .i64 1), (.int .i64 2)] (panK R) w fun t80 w =>
 opV Try.prog (Op.unary .not t80) (panK R) w fun t81 w =>
 K6 t81 w) (
 K6 undef w)
def n_phrasebooklaw05_known_c13 (t3 t4 t5 t6 t67 t71 : Value) (R : Ending → World → Prop) (w : World) : Prop :=
 pickK t67 (.bool true) t71 fun t72 =>
 joinK (fun (t76 : Value) (w : World) =>
 n_phrasebooklaw05_known_c12 t4 t5 t6 t72 t76 R w) fun K5 =>
 guardP t72 false (
 opV Try.prog (Instr.loadAt 44 t3) (panK R) w fun t74 w =>
 callK Try.prog 33 #[t74, (.int .i64 0), (.int .i64 1), (.int .i64 9)] (panK R) w fun t75 w =>
 opV Try.prog (Op.unary .not t75) (panK R) w fun t76 w =>
 K5 t76 w) (
 K5 undef w)
def n_phrasebooklaw05_known_c14 (t2 t3 t4 t5 t6 t62 t66 : Value) (R : Ending → World → Prop) (w : World) : Prop :=
 pickK t62 (.bool true) t66 fun t67 =>
 joinK (fun (t71 : Value) (w : World) =>
 n_phrasebooklaw05_known_c13 t3 t4 t5 t6 t67 t71 R w) fun K4 =>
 guardP t67 false (
 opV Try.prog (Instr.loadAt 44 t2) (panK R) w fun t69 w =>
 callK Try.prog 33 #[t69, (.int .i64 0), (.int .i64 0), (.int .i64 7)] (panK R) w fun t70 w =>
 opV Try.prog (Op.unary .not t70) (panK R) w fun t71 w =>
 K4 t71 w) (
 K4 undef w)
def n_phrasebooklaw05_known_c15 (t1 t2 t3 t4 t5 t6 t61 : Value) (R : Ending → World → Prop) (w : World) : Prop :=
 opV Try.prog (Op.unary .not t61) (panK R) w fun t62 w =>
 joinK (fun (t66 : Value) (w : World) =>
 n_phrasebooklaw05_known_c14 t2 t3 t4 t5 t6 t62 t66 R w) fun K3 =>
 guardP t62 false (
 opV Try.prog (Instr.loadAt 44 t1) (panK R) w fun t64 w =>
 callK Try.prog 33 #[t64, (.int .i64 (-1)), (.int .i64 (-1)), (.int .i64 11)] (panK R) w fun t65 w =>
 opV Try.prog (Op.unary .not t65) (panK R) w fun t66 w =>
 K3 t66 w) (
 K3 undef w)
def n_phrasebooklaw05_known_c16 (t1 t2 t3 t4 t5 t6 t49 t57 : Value) (C1 : World → Prop) (R : Ending → World → Prop) (w : World) : Prop :=
 qV Try.prog C1 (Instr.indexAt 42 t49 (.int .i64 0)) fun t58 =>
 qV Try.prog C1 (Instr.fieldAt 50 t58 1) fun t59 =>
 opU Try.prog (Instr.storeAt 48 t59 t57) (panK R) w fun w =>
 turnK w fun C2 w =>
 callK Try.prog 32 #[] (panK R) w fun t60 w =>
 callK Try.prog 27 #[t60] (panK R) w fun t61 w =>
 n_phrasebooklaw05_known_c15 t1 t2 t3 t4 t5 t6 t61 R w
def n_phrasebooklaw05_known_c17 (t1 t2 t3 t4 t5 t6 : Value) (C1 : World → Prop) (R : Ending → World → Prop) (w : World) : Prop :=
 qV Try.prog C1 (Instr.fieldAt 44 t6 1) fun t48 =>
 qV Try.prog C1 (Instr.loadAt 42 t48) fun t49 =>
 qV Try.prog C1 (Instr.fieldAt 44 t6 1) fun t50 =>
 qV Try.prog C1 (Instr.loadAt 42 t50) fun t51 =>
 qV Try.prog C1 (Instr.indexAt 42 t51 (.int .i64 0)) fun t52 =>
 qV Try.prog C1 (Instr.fieldAt 50 t52 1) fun t53 =>
 qV Try.prog C1 (Instr.loadAt 48 t53) fun t54 =>
 qV Try.prog C1 (Instr.build 28 #[(0, (.string { data := #[108] })), (1, (.int .i64 7)), (8, (.string { data := #[109] }))]) fun t55 =>
 opV Try.prog (Instr.buildSlice 48 1 #[(0, t55)]) (panK R) w fun t56 w =>
 C1 w ∧ (
 opV Try.prog (Builtin.append_ #[48, 48] 48 #[t54, t56]) (panK R) w fun t57 w =>
 C1 w ∧ (
 n_phrasebooklaw05_known_c16 t1 t2 t3 t4 t5 t6 t49 t57 C1 R w))
def n_phrasebooklaw05_known_c18 (t12 t13 t14 t15 t16 t17 : Value) (R : Ending → World → Prop) (w : World) : Prop :=
 opV Try.prog (Instr.alloc 44 true (.tuple #[])) (panK R) w fun t1 w =>
 opV Try.prog (Instr.alloc 44 true (.tuple #[])) (panK R) w fun t2 w =>
 opV Try.prog (Instr.alloc 44 true (.tuple #[])) (panK R) w fun t3 w =>
 opV Try.prog (Instr.alloc 44 true (.tuple #[])) (panK R) w fun t4 w =>
 opV Try.prog (Instr.alloc 44 true (.tuple #[])) (panK R) w fun t5 w =>
 opV Try.prog (Instr.alloc 44 true (.tuple #[])) (panK R) w fun t6 w =>
 opU Try.prog (Instr.storeAt 44 t1 t12) (panK R) w fun w =>
 opU Try.prog (Instr.storeAt 44 t2 t13) (panK R) w fun w =>
 opU Try.prog (Instr.storeAt 44 t3 t14) (panK R) w fun w =>
 opU Try.prog (Instr.storeAt 44 t4 t15) (panK R) w fun w =>
 opU Try.prog (Instr.storeAt 44 t5 t16) (panK R) w fun w =>
 opU Try.prog (Instr.storeAt 44 t6 t17) (panK R) w fun w =>
 opV Try.prog (Instr.fieldAt 44 t1 2) (panK R) w fun t18 w =>
 opU Try.prog (Instr.storeAt 9 t18 (.string { data := #[120] })) (panK R) w fun w =>
 opV Try.prog (Instr.fieldAt 44 t2 1) (panK R) w fun t19 w =>
 opV Try.prog (Instr.loadAt 42 t19) (panK R) w fun t20 w =>
 opV Try.prog (Instr.indexAt 42 t20 (.int .i64 0)) (panK R) w fun t21 w =>
 opV Try.prog (Instr.fieldAt 50 t21 1) (panK R) w fun t22 w =>
 opV Try.prog (Instr.loadAt 48 t22) (panK R) w fun t23 w =>
 opV Try.prog (Instr.indexAt 48 t23 (.int .i64 0)) (panK R) w fun t24 w =>
 opV Try.prog (Instr.fieldAt 28 t24 6) (panK R) w fun t25 w =>
 opU Try.prog (Instr.storeAt 3 t25 (.int .i64 256)) (panK R) w fun w =>
 opV Try.prog (Instr.fieldAt 44 t3 1) (panK R) w fun t26 w =>
 opV Try.prog (Instr.loadAt 42 t26) (panK R) w fun t27 w =>
 opV Try.prog (Instr.indexAt 42 t27 (.int .i64 0)) (panK R) w fun t28 w =>
 opV Try.prog (Instr.fieldAt 50 t28 1) (panK R) w fun t29 w =>
 opV Try.prog (Instr.loadAt 48 t29) (panK R) w fun t30 w =>
 opV Try.prog (Instr.indexAt 48 t30 (.int .i64 1)) (panK R) w fun t31 w =>
 opV Try.prog (Instr.fieldAt 28 t31 7) (panK R) w fun t32 w =>
 opV Try.prog (Instr.fieldAt 25 t32 0) (panK R) w fun t33 w =>
 opU Try.prog (Instr.storeAt 3 t33 (.int .i64 (-1))) (panK R) w fun w =>
 opV Try.prog (Instr.fieldAt 44 t4 1) (panK R) w fun t34 w =>
 opV Try.prog (Instr.loadAt 42 t34) (panK R) w fun t35 w =>
 opV Try.prog (Instr.indexAt 42 t35 (.int .i64 0)) (panK R) w fun t36 w =>
 opV Try.prog (Instr.fieldAt 50 t36 1) (panK R) w fun t37 w =>
 opV Try.prog (Instr.loadAt 48 t37) (panK R) w fun t38 w =>
 opV Try.prog (Instr.indexAt 48 t38 (.int .i64 1)) (panK R) w fun t39 w =>
 opV Try.prog (Instr.fieldAt 28 t39 0) (panK R) w fun t40 w =>
 opU Try.prog (Instr.storeAt 9 t40 (.string { data := #[110] })) (panK R) w fun w =>
 opV Try.prog (Instr.fieldAt 44 t5 1) (panK R) w fun t41 w =>
 opV Try.prog (Instr.loadAt 42 t41) (panK R) w fun t42 w =>
 opV Try.prog (Instr.indexAt 42 t42 (.int .i64 0)) (panK R) w fun t43 w =>
 opV Try.prog (Instr.fieldAt 50 t43 1) (panK R) w fun t44 w =>
 opV Try.prog (Instr.loadAt 48 t44) (panK R) w fun t45 w =>
 opV Try.prog (Instr.indexAt 48 t45 (.int .i64 1)) (panK R) w fun t46 w =>
 opV Try.prog (Instr.fieldAt 28 t46 2) (panK R) w fun t47 w =>
 opU Try.prog (Instr.storeAt 3 t47 (.int .i64 8)) (panK R) w fun w =>
 drawK w fun C1 w =>
 n_phrasebooklaw05_known_c17 t1 t2 t3 t4 t5 t6 C1 R w
def n_phrasebooklaw05_known_c19 (t12 t13 t14 : Value) (R : Ending → World → Prop) (w : World) : Prop :=
 callK Try.prog 32 #[] (panK R) w fun t15 w =>
 callK Try.prog 32 #[] (panK R) w fun t16 w =>
 callK Try.prog 32 #[] (panK R) w fun t17 w =>
 n_phrasebooklaw05_known_c18 t12 t13 t14 t15 t16 t17 R w
def n_phrasebooklaw05_known (R : Ending → World → Prop) (w : World) : Prop :=
 callK Try.prog 32 #[] (panK R) w fun t12 w =>
 callK Try.prog 32 #[] (panK R) w fun t13 w =>
 callK Try.prog 32 #[] (panK R) w fun t14 w =>
 n_phrasebooklaw05_known_c19 t12 t13 t14 R w
set_option maxRecDepth 100000 in
set_option maxHeartbeats 4000000 in
theorem n_phrasebooklaw05_known_sound {R : Ending → World → Prop} {w : World} (h : n_phrasebooklaw05_known R w) : Calls Try.prog 8 #[] w R := by
  refine calls_of_den (args := []) Try.func8 rfl (Nat.le_of_ble_eq_true rfl) ?_
  unfold n_phrasebooklaw05_known at h
  refine zs <| zr <| zm <| zn <| zk <| zs <| zr ?_
  refine zc h c32 fun t12 w h => ?_
  refine zc h c32 fun t13 w h => ?_
  refine zc h c32 fun t14 w h => ?_
  refine zc h c32 fun t15 w h => ?_
  refine zc h c32 fun t16 w h => ?_
  refine zc h c32 fun t17 w h => ?_
  refine zv h fun t1 w h => ?_
  refine zv h fun t2 w h => ?_
  refine zv h fun t3 w h => ?_
  refine zv h fun t4 w h => ?_
  refine zv h fun t5 w h => ?_
  refine zv h fun t6 w h => ?_
  refine zu h fun w h => ?_
  refine zu h fun w h => ?_
  refine zu h fun w h => ?_
  refine zu h fun w h => ?_
  refine zu h fun w h => ?_
  refine zu h fun w h => ?_
  refine zn <| zk <| zs <| zr ?_
  refine zv h fun t18 w h => ?_
  refine zu h fun w h => ?_
  refine zn <| zk <| zs <| zr ?_
  refine zv h fun t19 w h => ?_
  refine zv h fun t20 w h => ?_
  refine zv h fun t21 w h => ?_
  refine zv h fun t22 w h => ?_
  refine zv h fun t23 w h => ?_
  refine zv h fun t24 w h => ?_
  refine zv h fun t25 w h => ?_
  refine zu h fun w h => ?_
  refine zn <| zk <| zs <| zr ?_
  refine zv h fun t26 w h => ?_
  refine zv h fun t27 w h => ?_
  refine zv h fun t28 w h => ?_
  refine zv h fun t29 w h => ?_
  refine zv h fun t30 w h => ?_
  refine zv h fun t31 w h => ?_
  refine zv h fun t32 w h => ?_
  refine zv h fun t33 w h => ?_
  refine zu h fun w h => ?_
  refine zn <| zk <| zs <| zr ?_
  refine zv h fun t34 w h => ?_
  refine zv h fun t35 w h => ?_
  refine zv h fun t36 w h => ?_
  refine zv h fun t37 w h => ?_
  refine zv h fun t38 w h => ?_
  refine zv h fun t39 w h => ?_
  refine zv h fun t40 w h => ?_
  refine zu h fun w h => ?_
  refine zn <| zk <| zs <| zr ?_
  refine zv h fun t41 w h => ?_
  refine zv h fun t42 w h => ?_
  refine zv h fun t43 w h => ?_
  refine zv h fun t44 w h => ?_
  refine zv h fun t45 w h => ?_
  refine zv h fun t46 w h => ?_
  refine zv h fun t47 w h => ?_
  refine zu h fun w h => ?_
  refine zn <| zk <| zs ?_
  obtain ⟨C1, hC, h⟩ := h
  refine sim_draw [48, 49, 50, 51, 52, 53, 54, 55, 56, 57, 58, 59] (by kernel_rfl) (by kernel_rfl) C1 ?_
  refine ze 0 hC h fun t48 h => ?_
  refine ze 1 hC h fun t49 h => ?_
  refine ze 2 hC h fun t50 h => ?_
  refine ze 3 hC h fun t51 h => ?_
  refine ze 4 hC h fun t52 h => ?_
  refine ze 5 hC h fun t53 h => ?_
  refine ze 6 hC h fun t54 h => ?_
  obtain ⟨t55, hv, h⟩ := h
  refine sim_dsilent 7 hC rfl (by kernel_rfl) (by kernel_rfl) (fun _ _ => rfl) rfl (Sw.qV_build rfl hv) ?_
  refine sim_dloud 8 rfl (by kernel_rfl) (fun _ _ => rfl) ?_
  refine sim_buildSlice h rfl (fun _ _ h _ _ => ⟨rfl, h⟩) ?_; intro t56 w h
  refine zn ?_
  obtain ⟨hC, h⟩ := h
  refine ⟨hC, ?_⟩
  refine sim_dloud 9 rfl (by kernel_rfl) (fun _ _ => rfl) ?_
  refine sim_builtin h rfl (fun _ _ h _ _ => ⟨rfl, h⟩) ?_; intro t57 w h
  refine zn ?_
  obtain ⟨hC, h⟩ := h
  refine ⟨hC, ?_⟩
  refine ze 10 hC h fun t58 h => ?_
  refine ze 11 hC h fun t59 h => ?_
  refine sim_dturn 12 2 rfl (by kernel_rfl) (by kernel_rfl) (fun _ _ => rfl) ?_
  refine sim_unit h rfl rfl (fun _ _ h _ _ => ⟨rfl, h⟩) ?_; intro w h
  refine zn ?_
  obtain ⟨C2, hC, h⟩ := h
  refine ⟨C2, hC, ?_⟩
  refine sim_dend (by kernel_rfl) ?_
  refine zk <| zs <| zs <| sim_regionG ?_
  refine sim_seg 4 rfl ?_
  refine zc h c32 fun t60 w h => ?_
  refine zc h c27 fun t61 w h => ?_
  refine zv h fun t62 w h => ?_
  refine zm <| zn ?_
  refine joinK_elim h (fun K3 hK h => ?_)
  refine sim_groupJ 3 3 false [64, 65, 66] (fun ρ w => K3 (ρ 66) w) rfl rfl (fun T hT => guardP_mono h (fun h => ?_) (fun h => ?_)) (fun σ w h => ?_)
  · refine zv h fun t64 w h => ?_
    refine zc h c33 fun t65 w h => ?_
    refine zv h fun t66 w h => ?_
    refine zn ?_
    exact zt hT h
  · exact zt hT h
  subst hK
  refine sim_seg 2 rfl ?_
  refine sim_pick h rfl rfl rfl ?_; intro t67 h
  refine zm <| zn ?_
  refine joinK_elim h (fun K4 hK h => ?_)
  refine sim_groupJ 3 8 false [69, 70, 71] (fun ρ w => K4 (ρ 71) w) rfl rfl (fun T hT => guardP_mono h (fun h => ?_) (fun h => ?_)) (fun σ w h => ?_)
  · refine zv h fun t69 w h => ?_
    refine zc h c33 fun t70 w h => ?_
    refine zv h fun t71 w h => ?_
    refine zn ?_
    exact zt hT h
  · exact zt hT h
  subst hK
  refine sim_seg 2 rfl ?_
  refine sim_pick h rfl rfl rfl ?_; intro t72 h
  refine zm <| zn ?_
  refine joinK_elim h (fun K5 hK h => ?_)
  refine sim_groupJ 3 13 false [74, 75, 76] (fun ρ w => K5 (ρ 76) w) rfl rfl (fun T hT => guardP_mono h (fun h => ?_) (fun h => ?_)) (fun σ w h => ?_)
  · refine zv h fun t74 w h => ?_
    refine zc h c33 fun t75 w h => ?_
    refine zv h fun t76 w h => ?_
    refine zn ?_
    exact zt hT h
  · exact zt hT h
  subst hK
  refine sim_seg 2 rfl ?_
  refine sim_pick h rfl rfl rfl ?_; intro t77 h
  refine zm <| zn ?_
  refine joinK_elim h (fun K6 hK h => ?_)
  refine sim_groupJ 3 18 false [79, 80, 81] (fun ρ w => K6 (ρ 81) w) rfl rfl (fun T hT => guardP_mono h (fun h => ?_) (fun h => ?_)) (fun σ w h => ?_)
  · refine zv h fun t79 w h => ?_
    refine zc h c33 fun t80 w h => ?_
    refine zv h fun t81 w h => ?_
    refine zn ?_
    exact zt hT h
  · exact zt hT h
  subst hK
  refine sim_seg 2 rfl ?_
  refine sim_pick h rfl rfl rfl ?_; intro t82 h
  refine zm <| zn ?_
  refine joinK_elim h (fun K7 hK h => ?_)
  refine sim_groupJ 3 23 false [84, 85, 86] (fun ρ w => K7 (ρ 86) w) rfl rfl (fun T hT => guardP_mono h (fun h => ?_) (fun h => ?_)) (fun σ w h => ?_)
  · refine zv h fun t84 w h => ?_
    refine zc h c33 fun t85 w h => ?_
    refine zv h fun t86 w h => ?_
    refine zn ?_
    exact zt hT h
  · exact zt hT h
  subst hK
  refine sim_seg 2 rfl ?_
  refine sim_pick h rfl rfl rfl ?_; intro t87 h
  refine zm <| zn ?_
  refine joinK_elim h (fun K8 hK h => ?_)
  refine sim_groupJ 3 28 false [89, 90, 91] (fun ρ w => K8 (ρ 91) w) rfl rfl (fun T hT => guardP_mono h (fun h => ?_) (fun h => ?_)) (fun σ w h => ?_)
  · refine zv h fun t89 w h => ?_
    refine zc h c33 fun t90 w h => ?_
    refine zv h fun t91 w h => ?_
    refine zn ?_
    exact zt hT h
  · exact zt hT h
  subst hK
  refine sim_seg 1 rfl ?_
  refine sim_pick h rfl rfl rfl ?_; intro t92 h
  refine zn <| sim_end <| zk ?_
  refine sim_cond h rfl (fun h => ?_) (fun h => ?_)
  · refine zs <| zr <| zm <| zn <| zk <| sim_ret <| sim_then_ret ?_
    exact body_ret1 rfl rfl h
  · refine sim_skip <| zk <| zs <| zr ?_
    refine zc h c32 fun t94 w h => ?_
    refine zc h c29 fun t95 w h => ?_
    refine zm ?_
    refine zv h fun t96 w h => ?_
    refine zv h fun t97 w h => ?_
    refine zm <| zm <| zn <| zk <| zs <| zr ?_
    refine zc h c32 fun t99 w h => ?_
    refine zc h c29 fun t100 w h => ?_
    refine zm ?_
    refine zv h fun t101 w h => ?_
    refine zv h fun t102 w h => ?_
    refine zm <| zm <| zn <| zk <| zs <| zr ?_
    refine zc h c32 fun t103 w h => ?_
    refine zv h fun t104 w h => ?_
    refine zv h fun t105 w h => ?_
    refine zv h fun t106 w h => ?_
    refine zc h c22 fun t107 w h => ?_
    refine zm <| zn <| zk <| zs <| sim_regionG ?_
    refine sim_seg 3 rfl ?_
    refine zm ?_
    refine zb h fun t109 w h => ?_
    refine zm <| zn ?_
    refine joinK_elim h (fun K9 hK h => ?_)
    refine sim_groupJ 2 2 true [111, 112] (fun ρ w => K9 (ρ 112) w) rfl rfl (fun T hT => guardP_mono h (fun h => ?_) (fun h => ?_)) (fun σ w h => ?_)
    · refine zm ?_
      refine zb h fun t112 w h => ?_
      refine zn ?_
      exact zt hT h
    · exact zt hT h
    subst hK
    refine sim_seg 2 rfl ?_
    refine sim_pick h rfl rfl rfl ?_; intro t113 h
    refine zm <| zn ?_
    refine joinK_elim h (fun K10 hK h => ?_)
    refine sim_groupJ 2 6 true [115, 116] (fun ρ w => K10 (ρ 116) w) rfl rfl (fun T hT => guardP_mono h (fun h => ?_) (fun h => ?_)) (fun σ w h => ?_)
    · refine zm ?_
      refine zb h fun t116 w h => ?_
      refine zn ?_
      exact zt hT h
    · exact zt hT h
    subst hK
    refine sim_seg 2 rfl ?_
    refine sim_pick h rfl rfl rfl ?_; intro t117 h
    refine zm <| zn ?_
    refine joinK_elim h (fun K11 hK h => ?_)
    refine sim_groupJ 3 10 true [119, 120, 121] (fun ρ w => K11 (ρ 121) w) rfl rfl (fun T hT => guardP_mono h (fun h => ?_) (fun h => ?_)) (fun σ w h => ?_)
    · refine zm ?_
      refine zx h fun t120 w h => ?_
      refine zb h fun t121 w h => ?_
      refine zn ?_
      exact zt hT h
    · exact zt hT h
    subst hK
    refine sim_seg 2 rfl ?_
    refine sim_pick h rfl rfl rfl ?_; intro t122 h
    refine zm <| zn ?_
    refine joinK_elim h (fun K12 hK h => ?_)
    refine sim_groupJ 4 15 true [124, 125, 126, 127] (fun ρ w => K12 (ρ 127) w) rfl rfl (fun T hT => guardP_mono h (fun h => ?_) (fun h => ?_)) (fun σ w h => ?_)
    · refine zm ?_
      refine zv h fun t125 w h => ?_
      refine sim_build h rfl (fun _ _ h => ⟨rfl, h⟩) ?_; intro t126 w h
      refine zb h fun t127 w h => ?_
      refine zn ?_
      exact zt hT h
    · exact zt hT h
    subst hK
    refine sim_seg 2 rfl ?_
    refine sim_pick h rfl rfl rfl ?_; intro t128 h
    refine zm <| zn ?_
    refine joinK_elim h (fun K13 hK h => ?_)
    refine sim_groupJ 3 21 true [130, 131, 132] (fun ρ w => K13 (ρ 132) w) rfl rfl (fun T hT => guardP_mono h (fun h => ?_) (fun h => ?_)) (fun σ w h => ?_)
    · refine sim_build h rfl (fun _ _ h => ⟨rfl, h⟩) ?_; intro t130 w h
      refine zc h c14 fun t131 w h => ?_
      refine zv h fun t132 w h => ?_
      refine zn ?_
      exact zt hT h
    · exact zt hT h
    subst hK
    refine sim_seg 2 rfl ?_
    refine sim_pick h rfl rfl rfl ?_; intro t133 h
    refine zm <| zn <| sim_end <| zk <| sim_ret ?_
    exact body_ret1 rfl rfl h
def n_schema_Range_c1 (t1 t2 : Value) (R : Ending → World → Prop) (w : World) : Prop :=
 opV Try.prog (Instr.fieldAt 28 t1 5) (panK R) w fun t13 w =>
 opV Try.prog (Instr.loadAt 3 t13) (panK R) w fun t14 w =>
 opV Try.prog (Instr.fieldAt 28 t1 5) (panK R) w fun t15 w =>
 opV Try.prog (Instr.loadAt 3 t15) (panK R) w fun t16 w =>
 opV Try.prog (Instr.build 31 #[(0, t14), (1, t16)]) (panK R) w fun t17 w =>
 opU Try.prog (Instr.storeAt 31 t2 t17) (panK R) w fun w =>
 qW Try.prog 31 t2 w fun r0 =>
 R (.returned (.tuple #[r0, (.int .i64 0)])) w
def n_schema_Range_c2 (t1 t2 : Value) (R : Ending → World → Prop) (w : World) : Prop :=
 opV Try.prog (Instr.fieldAt 28 t1 5) (panK R) w fun t18 w =>
 opV Try.prog (Instr.loadAt 3 t18) (panK R) w fun t19 w =>
 opV Try.prog (Instr.fieldAt 28 t1 6) (panK R) w fun t20 w =>
 opV Try.prog (Instr.loadAt 3 t20) (panK R) w fun t21 w =>
 opV Try.prog (Instr.build 31 #[(0, t19), (1, t21)]) (panK R) w fun t22 w =>
 opU Try.prog (Instr.storeAt 31 t2 t22) (panK R) w fun w =>
 qW Try.prog 31 t2 w fun r0 =>
 R (.returned (.tuple #[r0, (.int .i64 0)])) w
def n_schema_Range_c3 (t2 : Value) (R : Ending → World → Prop) (w : World) : Prop :=
 opV Try.prog (Instr.build 31 #[]) (panK R) w fun t8 w =>
 opU Try.prog (Instr.storeAt 31 t2 t8) (panK R) w fun w =>
 qW Try.prog 31 t2 w fun r0 =>
 R (.returned (.tuple #[r0, (.int .i64 2)])) w
def n_schema_Range_c4 (t1 t2 : Value) (R : Ending → World → Prop) (w : World) : Prop :=
 opV Try.prog (Instr.fieldAt 28 t1 1) (panK R) w fun t10 w =>
 opV Try.prog (Instr.loadAt 22 t10) (panK R) w fun t11 w =>
 opV Try.prog (binS .eql 22 true t11 (.int .i64 2)) (panK R) w fun t12 w =>
 condP t12 (
 n_schema_Range_c1 t1 t2 R w) (
 n_schema_Range_c2 t1 t2 R w)
def n_schema_Range (t0 : Value) (R : Ending → World → Prop) (w : World) : Prop :=
 opV Try.prog (Instr.box 28 t0) (panK R) w fun t1 w =>
 opV Try.prog (Instr.alloc 31 true (.tuple #[])) (panK R) w fun t2 w =>
 opV Try.prog (Instr.loadAt 28 t1) (panK R) w fun t5 w =>
 callK Try.prog 12 #[t5] (panK R) w fun t6 w =>
 opV Try.prog (Op.unary .not t6) (panK R) w fun t7 w =>
 condP t7 (
 n_schema_Range_c3 t2 R w) (
 n_schema_Range_c4 t1 t2 R w)
set_option maxRecDepth 100000 in
set_option maxHeartbeats 4000000 in
theorem n_schema_Range_sound {t0 : Value} {R : Ending → World → Prop} {w : World} (h : n_schema_Range t0 R w) : Calls Try.prog 9 #[t0] w R := by
  refine calls_of_den (args := [t0]) Try.func9 rfl (Nat.le_of_ble_eq_true rfl) ?_
  unfold n_schema_Range at h
  refine zs <| zr ?_
  refine zv h fun t1 w h => ?_
  refine zv h fun t2 w h => ?_
  refine zm <| zn <| zk <| zs <| sim_block <| zs <| zr ?_
  refine zv h fun t5 w h => ?_
  refine zc h c12 fun t6 w h => ?_
  refine zv h fun t7 w h => ?_
  refine zm <| zn <| zk ?_
  refine sim_cond h rfl (fun h => ?_) (fun h => ?_)
  · refine zs <| zr ?_
    refine sim_build h rfl (fun _ _ h => ⟨rfl, h⟩) ?_; intro t8 w h
    refine zu h fun w h => ?_
    refine zm <| zn <| zk <| sim_ret <| sim_block_ret <| sim_then_ret ?_
    exact body_retCT rfl rfl rfl h
  · refine zs <| zr ?_
    refine zv h fun t10 w h => ?_
    refine zv h fun t11 w h => ?_
    refine zb h fun t12 w h => ?_
    refine zm <| zn <| zk ?_
    refine sim_cond h rfl (fun h => ?_) (fun h => ?_)
    · refine zs <| zr ?_
      refine zv h fun t13 w h => ?_
      refine zv h fun t14 w h => ?_
      refine zv h fun t15 w h => ?_
      refine zv h fun t16 w h => ?_
      refine sim_build h rfl (fun _ _ h => ⟨rfl, h⟩) ?_; intro t17 w h
      refine zu h fun w h => ?_
      refine zm <| zn <| zk <| sim_ret <| sim_block_ret <| sim_then_ret ?_
      exact body_retCT rfl rfl rfl h
    · refine sim_skip <| sim_block_normal <| zk <| zs <| zr ?_
      refine zv h fun t18 w h => ?_
      refine zv h fun t19 w h => ?_
      refine zv h fun t20 w h => ?_
      refine zv h fun t21 w h => ?_
      refine sim_build h rfl (fun _ _ h => ⟨rfl, h⟩) ?_; intro t22 w h
      refine zu h fun w h => ?_
      refine zm <| zn <| zk <| sim_ret ?_
      exact body_retCT rfl rfl rfl h
def n_schema_Number_c1 (t1 t5 t9 : Value) (R : Ending → World → Prop) (w : World) : Prop :=
 pickK t5 (.bool true) t9 fun t10 =>
 joinK (fun (t14 : Value) (w : World) =>
 pickK t10 (.bool true) t14 fun t15 =>
 R (.returned t15) w) fun K2 =>
 guardP t10 false (
 opV Try.prog (Instr.fieldAt 28 t1 1) (panK R) w fun t12 w =>
 opV Try.prog (Instr.loadAt 22 t12) (panK R) w fun t13 w =>
 opV Try.prog (binS .eql 22 true t13 (.int .i64 3)) (panK R) w fun t14 w =>
 K2 t14 w) (
 K2 undef w)
def n_schema_Number (t0 : Value) (R : Ending → World → Prop) (w : World) : Prop :=
 opV Try.prog (Instr.box 28 t0) (panK R) w fun t1 w =>
 opV Try.prog (Instr.fieldAt 28 t1 1) (panK R) w fun t3 w =>
 opV Try.prog (Instr.loadAt 22 t3) (panK R) w fun t4 w =>
 opV Try.prog (binS .eql 22 true t4 (.int .i64 1)) (panK R) w fun t5 w =>
 joinK (fun (t9 : Value) (w : World) =>
 n_schema_Number_c1 t1 t5 t9 R w) fun K1 =>
 guardP t5 false (
 opV Try.prog (Instr.fieldAt 28 t1 1) (panK R) w fun t7 w =>
 opV Try.prog (Instr.loadAt 22 t7) (panK R) w fun t8 w =>
 opV Try.prog (binS .eql 22 true t8 (.int .i64 2)) (panK R) w fun t9 w =>
 K1 t9 w) (
 K1 undef w)
set_option maxRecDepth 100000 in
set_option maxHeartbeats 4000000 in
theorem n_schema_Number_sound {t0 : Value} {R : Ending → World → Prop} {w : World} (h : n_schema_Number t0 R w) : Calls Try.prog 12 #[t0] w R := by
  refine calls_of_den (args := [t0]) Try.func12 rfl (Nat.le_of_ble_eq_true rfl) ?_
  unfold n_schema_Number at h
  refine zs <| zr ?_
  refine zv h fun t1 w h => ?_
  refine zm <| zn <| zk <| zs <| sim_regionG ?_
  refine sim_seg 4 rfl ?_
  refine zv h fun t3 w h => ?_
  refine zv h fun t4 w h => ?_
  refine zb h fun t5 w h => ?_
  refine zm <| zn ?_
  refine joinK_elim h (fun K1 hK h => ?_)
  refine sim_groupJ 3 3 false [7, 8, 9] (fun ρ w => K1 (ρ 9) w) rfl rfl (fun T hT => guardP_mono h (fun h => ?_) (fun h => ?_)) (fun σ w h => ?_)
  · refine zv h fun t7 w h => ?_
    refine zv h fun t8 w h => ?_
    refine zb h fun t9 w h => ?_
    refine zn ?_
    exact zt hT h
  · exact zt hT h
  subst hK
  refine sim_seg 2 rfl ?_
  refine sim_pick h rfl rfl rfl ?_; intro t10 h
  refine zm <| zn ?_
  refine joinK_elim h (fun K2 hK h => ?_)
  refine sim_groupJ 3 8 false [12, 13, 14] (fun ρ w => K2 (ρ 14) w) rfl rfl (fun T hT => guardP_mono h (fun h => ?_) (fun h => ?_)) (fun σ w h => ?_)
  · refine zv h fun t12 w h => ?_
    refine zv h fun t13 w h => ?_
    refine zb h fun t14 w h => ?_
    refine zn ?_
    exact zt hT h
  · exact zt hT h
  subst hK
  refine sim_seg 2 rfl ?_
  refine sim_pick h rfl rfl rfl ?_; intro t15 h
  refine zm <| zn <| sim_end <| zk <| sim_ret ?_
  exact body_ret1 rfl rfl h
def n_schema_HasValue_c1 (t1 t5 t9 : Value) (R : Ending → World → Prop) (w : World) : Prop :=
 pickK t5 t9 (.bool false) fun t10 =>
 joinK (fun (t14 : Value) (w : World) =>
 pickK t10 t14 (.bool false) fun t15 =>
 R (.returned t15) w) fun K2 =>
 guardP t10 true (
 opV Try.prog (Instr.fieldAt 28 t1 1) (panK R) w fun t12 w =>
 opV Try.prog (Instr.loadAt 22 t12) (panK R) w fun t13 w =>
 opV Try.prog (binS .neq 22 true t13 (.int .i64 11)) (panK R) w fun t14 w =>
 K2 t14 w) (
 K2 undef w)
def n_schema_HasValue (t0 : Value) (R : Ending → World → Prop) (w : World) : Prop :=
 opV Try.prog (Instr.box 28 t0) (panK R) w fun t1 w =>
 opV Try.prog (Instr.fieldAt 28 t1 1) (panK R) w fun t3 w =>
 opV Try.prog (Instr.loadAt 22 t3) (panK R) w fun t4 w =>
 opV Try.prog (binS .neq 22 true t4 (.int .i64 2)) (panK R) w fun t5 w =>
 joinK (fun (t9 : Value) (w : World) =>
 n_schema_HasValue_c1 t1 t5 t9 R w) fun K1 =>
 guardP t5 true (
 opV Try.prog (Instr.fieldAt 28 t1 1) (panK R) w fun t7 w =>
 opV Try.prog (Instr.loadAt 22 t7) (panK R) w fun t8 w =>
 opV Try.prog (binS .neq 22 true t8 (.int .i64 10)) (panK R) w fun t9 w =>
 K1 t9 w) (
 K1 undef w)
set_option maxRecDepth 100000 in
set_option maxHeartbeats 4000000 in
theorem n_schema_HasValue_sound {t0 : Value} {R : Ending → World → Prop} {w : World} (h : n_schema_HasValue t0 R w) : Calls Try.prog 14 #[t0] w R := by
  refine calls_of_den (args := [t0]) Try.func14 rfl (Nat.le_of_ble_eq_true rfl) ?_
  unfold n_schema_HasValue at h
  refine zs <| zr ?_
  refine zv h fun t1 w h => ?_
  refine zm <| zn <| zk <| zs <| sim_regionG ?_
  refine sim_seg 4 rfl ?_
  refine zv h fun t3 w h => ?_
  refine zv h fun t4 w h => ?_
  refine zb h fun t5 w h => ?_
  refine zm <| zn ?_
  refine joinK_elim h (fun K1 hK h => ?_)
  refine sim_groupJ 3 3 true [7, 8, 9] (fun ρ w => K1 (ρ 9) w) rfl rfl (fun T hT => guardP_mono h (fun h => ?_) (fun h => ?_)) (fun σ w h => ?_)
  · refine zv h fun t7 w h => ?_
    refine zv h fun t8 w h => ?_
    refine zb h fun t9 w h => ?_
    refine zn ?_
    exact zt hT h
  · exact zt hT h
  subst hK
  refine sim_seg 2 rfl ?_
  refine sim_pick h rfl rfl rfl ?_; intro t10 h
  refine zm <| zn ?_
  refine joinK_elim h (fun K2 hK h => ?_)
  refine sim_groupJ 3 8 true [12, 13, 14] (fun ρ w => K2 (ρ 14) w) rfl rfl (fun T hT => guardP_mono h (fun h => ?_) (fun h => ?_)) (fun σ w h => ?_)
  · refine zv h fun t12 w h => ?_
    refine zv h fun t13 w h => ?_
    refine zb h fun t14 w h => ?_
    refine zn ?_
    exact zt hT h
  · exact zt hT h
  subst hK
  refine sim_seg 2 rfl ?_
  refine sim_pick h rfl rfl rfl ?_; intro t15 h
  refine zm <| zn <| sim_end <| zk <| sim_ret ?_
  exact body_ret1 rfl rfl h
end Go.Proofs.Ytiajhbbmgglmlaa
namespace Go.Proofs.Ytiajhbbmgglmlaa
open Sw
def n_phrasebooklaw05_fits_c1 (t6 t23 : Value) (next3 : Value → World → Prop) (R : Ending → World → Prop) (w : World) : Prop :=
 opV Try.prog (Instr.indexAt 48 t23 t6) (panK R) w fun t38 w =>
 opV Try.prog (Instr.fieldAt 28 t38 11) (panK R) w fun t39 w =>
 opV Try.prog (Instr.loadAt 26 t39) (panK R) w fun t40 w =>
 opV Try.prog (Builtin.len_ #[26] 3 #[t40]) (panK R) w fun t41 w =>
 opV Try.prog (binS .gtr 3 true t41 (.int .i64 50)) (panK R) w fun t42 w =>
 joinK (fun (t51 : Value) (w : World) =>
 pickK t42 (.bool true) t51 fun t52 =>
 condP t52 (
 R (.returned (.bool false)) w) (
 opV Try.prog (binS .add 3 true t6 (.int .i64 1)) (panK R) w fun t35 w =>
 next3 t35 w)) fun K4 =>
 guardP t42 false (
 opV Try.prog (Instr.indexAt 48 t23 t6) (panK R) w fun t46 w =>
 opV Try.prog (Instr.fieldAt 28 t46 7) (panK R) w fun t47 w =>
 opV Try.prog (Instr.fieldAt 25 t47 1) (panK R) w fun t48 w =>
 opV Try.prog (Instr.loadAt 23 t48) (panK R) w fun t49 w =>
 opV Try.prog (Builtin.len_ #[23] 3 #[t49]) (panK R) w fun t50 w =>
 opV Try.prog (binS .gtr 3 true t50 (.int .i64 10)) (panK R) w fun t51 w =>
 K4 t51 w) (
 K4 undef w)
def n_phrasebooklaw05_fits_c2 (t4 t6 t23 t27 : Value) (next1 : Value → Value → World → Prop) (next3 : Value → World → Prop) (R : Ending → World → Prop) (w : World) : Prop :=
 opV Try.prog (Builtin.len_ #[48] 3 #[t23]) (panK R) w fun t32 w =>
 opV Try.prog (binS .lss 3 false t6 t32) (panK R) w fun t33 w =>
 condP t33 (
 n_phrasebooklaw05_fits_c1 t6 t23 next3 R w) (
 opV Try.prog (binS .add 3 true t4 (.int .i64 1)) (panK R) w fun t17 w =>
 next1 t27 t17 w)
def n_phrasebooklaw05_fits_c3 (t1 : Value) (R : Ending → World → Prop) (w : World) : Prop :=
 opV Try.prog (Instr.fieldAt 44 t1 1) (panK R) w fun t53 w =>
 opV Try.prog (Instr.loadAt 42 t53) (panK R) w fun t54 w =>
 opV Try.prog (Builtin.len_ #[42] 3 #[t54]) (panK R) w fun t55 w =>
 opV Try.prog (binS .leq 3 true t55 (.int .i64 70)) (panK R) w fun t56 w =>
 R (.returned t56) w
def n_phrasebooklaw05_fits_c4 (t1 t3 t4 : Value) (next1 : Value → Value → World → Prop) (R : Ending → World → Prop) (w : World) : Prop :=
 opV Try.prog (Instr.fieldAt 44 t1 1) (panK R) w fun t18 w =>
 opV Try.prog (Instr.loadAt 42 t18) (panK R) w fun t19 w =>
 opV Try.prog (Instr.indexAt 42 t19 t4) (panK R) w fun t21 w =>
 opV Try.prog (Instr.fieldAt 50 t21 1) (panK R) w fun t22 w =>
 opV Try.prog (Instr.loadAt 48 t22) (panK R) w fun t23 w =>
 opV Try.prog (Builtin.len_ #[48] 3 #[t23]) (panK R) w fun t26 w =>
 opV Try.prog (binS .add 3 false t3 t26) (panK R) w fun t27 w =>
 opV Try.prog (binS .gtr 3 true t27 (.int .i64 400)) (panK R) w fun t29 w =>
 condP t29 (
 R (.returned (.bool false)) w) (
 loop1 (fun t6 w next3 =>
 n_phrasebooklaw05_fits_c2 t4 t6 t23 t27 next1 next3 R w) (.int .i64 0) w)
def n_phrasebooklaw05_fits_c5 (t1 t3 t4 : Value) (next1 : Value → Value → World → Prop) (R : Ending → World → Prop) (w : World) : Prop :=
 opV Try.prog (Instr.fieldAt 44 t1 1) (panK R) w fun t8 w =>
 opV Try.prog (Instr.loadAt 42 t8) (panK R) w fun t9 w =>
 opV Try.prog (Builtin.len_ #[42] 3 #[t9]) (panK R) w fun t10 w =>
 opV Try.prog (binS .lss 3 false t4 t10) (panK R) w fun t11 w =>
 joinK (fun (t14 : Value) (w : World) =>
 pickK t11 t14 (.bool false) fun t15 =>
 condP t15 (
 n_phrasebooklaw05_fits_c4 t1 t3 t4 next1 R w) (
 n_phrasebooklaw05_fits_c3 t1 R w)) fun K2 =>
 guardP t11 true (
 opV Try.prog (binS .leq 3 true t4 (.int .i64 70)) (panK R) w fun t14 w =>
 K2 t14 w) (
 K2 undef w)
def n_phrasebooklaw05_fits (t0 : Value) (R : Ending → World → Prop) (w : World) : Prop :=
 opV Try.prog (Instr.box 44 t0) (panK R) w fun t1 w =>
 loop2 (fun t3 t4 w next1 =>
 n_phrasebooklaw05_fits_c5 t1 t3 t4 next1 R w) (.int .i64 0) (.int .i64 0) w
set_option maxRecDepth 100000 in
set_option maxHeartbeats 4000000 in
theorem n_phrasebooklaw05_fits_sound {t0 : Value} {R : Ending → World → Prop} {w : World} (h : n_phrasebooklaw05_fits t0 R w) : Calls Try.prog 17 #[t0] w R := by
  refine calls_of_den (args := [t0]) Try.func17 rfl (Nat.le_of_ble_eq_true rfl) ?_
  unfold n_phrasebooklaw05_fits at h
  refine zs <| zr ?_
  refine zv h fun t1 w h => ?_
  refine zm <| zn <| zk <| zs <| zr <| zm <| zn <| zk <| zs <| zs <| zr <| zm <| zn <| zk <| sim_block ?_
  obtain ⟨I, μ, h0, hr⟩ := h
  refine sim_loop [2, 3, 4, 5, 6, 7, 8, 9, 10, 11, 12, 13, 14, 15, 16, 17, 18, 19, 20, 21, 22, 23, 24, 25, 26, 27, 28, 29, 30, 31, 32, 33, 34, 35, 36, 37, 38, 39, 40, 41, 42, 43, 44, 45, 46, 47, 48, 49, 50, 51, 52] (by kernel_rfl) (fun ρ w => I (ρ 3) (ρ 4) w) (fun ρ w => μ (ρ 3) (ρ 4) w) h0 (fun σ w hI => ?_)
  have h := hr _ _ _ hI
  clear hr h0 hI
  refine zs <| zs <| sim_regionG ?_
  refine sim_seg 6 rfl ?_
  refine zm ?_
  refine zv h fun t8 w h => ?_
  refine zv h fun t9 w h => ?_
  refine zx h fun t10 w h => ?_
  refine zb h fun t11 w h => ?_
  refine zm <| zn ?_
  refine joinK_elim h (fun K2 hK h => ?_)
  refine sim_groupJ 2 5 true [13, 14] (fun ρ w => K2 (ρ 14) w) rfl rfl (fun T hT => guardP_mono h (fun h => ?_) (fun h => ?_)) (fun σ w h => ?_)
  · refine zm ?_
    refine zb h fun t14 w h => ?_
    refine zn ?_
    exact zt hT h
  · exact zt hT h
  subst hK
  refine sim_seg 1 rfl ?_
  refine sim_pick h rfl rfl rfl ?_; intro t15 h
  refine zn <| sim_end <| zk ?_
  refine sim_cond h rfl (fun h => ?_) (fun h => ?_)
  · refine sim_skip <| zk <| zs <| sim_block <| zs <| zr ?_
    refine zv h fun t18 w h => ?_
    refine zv h fun t19 w h => ?_
    refine zm ?_
    refine zv h fun t21 w h => ?_
    refine zv h fun t22 w h => ?_
    refine zv h fun t23 w h => ?_
    refine zm <| zn <| zk <| zs <| zr <| zm <| zm ?_
    refine zx h fun t26 w h => ?_
    refine zb h fun t27 w h => ?_
    refine zm <| zn <| zk <| zs <| zs <| zr <| zm ?_
    refine zb h fun t29 w h => ?_
    refine zn <| zk ?_
    refine sim_cond h rfl (fun h => ?_) (fun h => ?_)
    · refine zs <| zr <| zm <| zn <| zk <| sim_ret <| sim_then_ret <| sim_block_ret <| sim_then_ret <| sim_then_ret <| sim_block_ret <| sim_then_ret ?_
      exact body_ret1 rfl rfl h
    · refine sim_skip <| zk <| zs <| zr <| zm <| zn <| zk <| sim_block ?_
      obtain ⟨I, μ, h0, hr⟩ := h
      refine sim_loop [2, 6, 30, 31, 32, 33, 34, 35, 36, 37, 38, 39, 40, 41, 42, 43, 44, 45, 46, 47, 48, 49, 50, 51, 52] (by kernel_rfl) (fun ρ w => I (ρ 6) w) (fun ρ w => μ (ρ 6) w) h0 (fun σ w hI => ?_)
      have h := hr _ _ hI
      clear hr h0 hI
      refine zs <| zs <| zr <| zm <| zm ?_
      refine zx h fun t32 w h => ?_
      refine zb h fun t33 w h => ?_
      refine zn <| zk ?_
      refine sim_cond h rfl (fun h => ?_) (fun h => ?_)
      · refine sim_skip <| zk <| zs <| sim_block <| zs <| sim_regionG ?_
        refine sim_seg 8 rfl ?_
        refine zm <| zm ?_
        refine zv h fun t38 w h => ?_
        refine zv h fun t39 w h => ?_
        refine zv h fun t40 w h => ?_
        refine zx h fun t41 w h => ?_
        refine zb h fun t42 w h => ?_
        refine zm <| zn ?_
        refine joinK_elim h (fun K4 hK h => ?_)
        refine sim_groupJ 8 7 false [44, 45, 46, 47, 48, 49, 50, 51] (fun ρ w => K4 (ρ 51) w) rfl rfl (fun T hT => guardP_mono h (fun h => ?_) (fun h => ?_)) (fun σ w h => ?_)
        · refine zm <| zm ?_
          refine zv h fun t46 w h => ?_
          refine zv h fun t47 w h => ?_
          refine zv h fun t48 w h => ?_
          refine zv h fun t49 w h => ?_
          refine zx h fun t50 w h => ?_
          refine zb h fun t51 w h => ?_
          refine zn ?_
          exact zt hT h
        · exact zt hT h
        subst hK
        refine sim_seg 1 rfl ?_
        refine sim_pick h rfl rfl rfl ?_; intro t52 h
        refine zn <| sim_end <| zk ?_
        refine sim_cond h rfl (fun h => ?_) (fun h => ?_)
        · refine zs <| zr <| zm <| zn <| zk <| sim_ret <| sim_block_ret <| sim_then_ret <| sim_then_ret <| sim_block_ret <| sim_block_ret <| sim_then_ret <| sim_then_ret <| sim_block_ret <| sim_then_ret ?_
          exact body_ret1 rfl rfl h
        · refine sim_skip <| sim_block_normal <| zk <| zr <| zm ?_
          refine zb h fun t35 w h => ?_
          refine zm <| zn <| zk ?_
          exact ⟨rfl, h⟩
      · refine sim_exit <| sim_then_exit <| sim_then_exit <| sim_block_hit <| sim_block_normal <| zk <| zr <| zm ?_
        refine zb h fun t17 w h => ?_
        refine zm <| zn <| zk ?_
        exact ⟨rfl, h⟩
  · refine sim_exit <| sim_then_exit <| sim_then_exit <| sim_block_hit <| zk <| zs <| zr ?_
    refine zv h fun t53 w h => ?_
    refine zv h fun t54 w h => ?_
    refine zx h fun t55 w h => ?_
    refine zb h fun t56 w h => ?_
    refine zm <| zn <| zk <| sim_ret ?_
    exact body_ret1 rfl rfl h
def n_schema_Find (t0 t1 : Value) (R : Ending → World → Prop) (w : World) : Prop :=
 opV Try.prog (Instr.box 44 t0) (panK R) w fun t2 w =>
 opV Try.prog (Instr.box 9 t1) (panK R) w fun t3 w =>
 opV Try.prog (Instr.fieldAt 44 t2 1) (panK R) w fun t6 w =>
 opV Try.prog (Instr.loadAt 42 t6) (panK R) w fun t7 w =>
 opV Try.prog (Instr.makeFunc (.func 37) #[] #[t3]) (panK R) w fun t8 w =>
 callK Try.prog 36 #[t7, t8] (panK R) w fun t9 w =>
 opV Try.prog (Instr.extract t9 0) (panK R) w fun t10 w =>
 opV Try.prog (Instr.extract t9 1) (panK R) w fun t11 w =>
 R (.returned (.tuple #[t10, t11])) w
set_option maxRecDepth 100000 in
set_option maxHeartbeats 4000000 in
theorem n_schema_Find_sound {t0 t1 : Value} {R : Ending → World → Prop} {w : World} (h : n_schema_Find t0 t1 R w) : Calls Try.prog 18 #[t0, t1] w R := by
  refine calls_of_den (args := [t0, t1]) Try.func18 rfl (Nat.le_of_ble_eq_true rfl) ?_
  unfold n_schema_Find at h
  refine zs <| zr ?_
  refine zv h fun t2 w h => ?_
  refine zv h fun t3 w h => ?_
  refine zm <| zm <| zn <| zk <| zs <| zr ?_
  refine zv h fun t6 w h => ?_
  refine zv h fun t7 w h => ?_
  refine sim_makeFunc h rfl rfl (fun _ _ h => ⟨rfl, h⟩) ?_; intro t8 w h
  refine zc h c36 fun t9 w h => ?_
  refine zv h fun t10 w h => ?_
  refine zv h fun t11 w h => ?_
  refine zm <| zm <| zn <| zk <| sim_ret ?_
  exact body_ret2 rfl rfl rfl h
def n_schema_Field (t0 t1 : Value) (R : Ending → World → Prop) (w : World) : Prop :=
 opV Try.prog (Instr.box 50 t0) (panK R) w fun t2 w =>
 opV Try.prog (Instr.box 9 t1) (panK R) w fun t3 w =>
 opV Try.prog (Instr.fieldAt 50 t2 1) (panK R) w fun t6 w =>
 opV Try.prog (Instr.loadAt 48 t6) (panK R) w fun t7 w =>
 opV Try.prog (Instr.makeFunc (.func 39) #[] #[t3]) (panK R) w fun t8 w =>
 callK Try.prog 38 #[t7, t8] (panK R) w fun t9 w =>
 opV Try.prog (Instr.extract t9 0) (panK R) w fun t10 w =>
 opV Try.prog (Instr.extract t9 1) (panK R) w fun t11 w =>
 R (.returned (.tuple #[t10, t11])) w
set_option maxRecDepth 100000 in
set_option maxHeartbeats 4000000 in
theorem n_schema_Field_sound {t0 t1 : Value} {R : Ending → World → Prop} {w : World} (h : n_schema_Field t0 t1 R w) : Calls Try.prog 20 #[t0, t1] w R := by
  refine calls_of_den (args := [t0, t1]) Try.func20 rfl (Nat.le_of_ble_eq_true rfl) ?_
  unfold n_schema_Field at h
  refine zs <| zr ?_
  refine zv h fun t2 w h => ?_
  refine zv h fun t3 w h => ?_
  refine zm <| zm <| zn <| zk <| zs <| zr ?_
  refine zv h fun t6 w h => ?_
  refine zv h fun t7 w h => ?_
  refine sim_makeFunc h rfl rfl (fun _ _ h => ⟨rfl, h⟩) ?_; intro t8 w h
  refine zc h c38 fun t9 w h => ?_
  refine zv h fun t10 w h => ?_
  refine zv h fun t11 w h => ?_
  refine zm <| zm <| zn <| zk <| sim_ret ?_
  exact body_ret2 rfl rfl rfl h
def n_schema_Ranges (t0 : Value) (R : Ending → World → Prop) (w : World) : Prop :=
 opV Try.prog (Instr.box 50 t0) (panK R) w fun t1 w =>
 opV Try.prog (Instr.fieldAt 50 t1 1) (panK R) w fun t3 w =>
 opV Try.prog (Instr.loadAt 48 t3) (panK R) w fun t4 w =>
 callK Try.prog 40 #[t4] (panK R) w fun t5 w =>
 R (.returned t5) w
set_option maxRecDepth 100000 in
set_option maxHeartbeats 4000000 in
theorem n_schema_Ranges_sound {t0 : Value} {R : Ending → World → Prop} {w : World} (h : n_schema_Ranges t0 R w) : Calls Try.prog 22 #[t0] w R := by
  refine calls_of_den (args := [t0]) Try.func22 rfl (Nat.le_of_ble_eq_true rfl) ?_
  unfold n_schema_Ranges at h
  refine zs <| zr ?_
  refine zv h fun t1 w h => ?_
  refine zm <| zn <| zk <| zs <| zr ?_
  refine zv h fun t3 w h => ?_
  refine zv h fun t4 w h => ?_
  refine zc h c40 fun t5 w h => ?_
  refine zm <| zn <| zk <| sim_ret ?_
  exact body_ret1 rfl rfl h
def n_schema_Copy_c1 (t34 t42 t55 : Value) (C4 : World → Prop) (next2 : Value → World → Prop) (R : Ending → World → Prop) (w : World) : Prop :=
 qN Try.prog C4 (nilN t42) fun t59 =>
 qV Try.prog C4 (Instr.fieldAt 28 t59 11) fun t60 =>
 opU Try.prog (Instr.storeAt 26 t60 t55) (panK R) w fun w =>
 turnK w fun C5 w =>
 opV Try.prog (binS .add 3 true t34 (.int .i64 1)) (panK R) w fun t61 w =>
 next2 t61 w
def n_schema_Copy_c2 (t34 t42 t50 t55 : Value) (C3 : World → Prop) (next2 : Value → World → Prop) (R : Ending → World → Prop) (w : World) : Prop :=
 qN Try.prog C3 (nilN t42) fun t56 =>
 qV Try.prog C3 (Instr.fieldAt 28 t56 7) fun t57 =>
 qV Try.prog C3 (Instr.fieldAt 25 t57 1) fun t58 =>
 opU Try.prog (Instr.storeAt 23 t58 t50) (panK R) w fun w =>
 turnK w fun C4 w =>
 n_schema_Copy_c1 t34 t42 t55 C4 next2 R w
def n_schema_Copy_c3 (t34 t42 : Value) (C3 : World → Prop) (next2 : Value → World → Prop) (R : Ending → World → Prop) (w : World) : Prop :=
 qN Try.prog C3 (nilN t42) fun t46 =>
 qV Try.prog C3 (Instr.fieldAt 28 t46 7) fun t47 =>
 qV Try.prog C3 (Instr.fieldAt 25 t47 1) fun t48 =>
 qV Try.prog C3 (Instr.loadAt 23 t48) fun t49 =>
 qN Try.prog C3 (nilN t42) fun t52 =>
 qV Try.prog C3 (Instr.fieldAt 28 t52 11) fun t53 =>
 qV Try.prog C3 (Instr.loadAt 26 t53) fun t54 =>
 callK Try.prog 43 #[t49] (panK R) w fun t50 w =>
 C3 w ∧ (
 callK Try.prog 44 #[t54] (panK R) w fun t55 w =>
 C3 w ∧ (
 n_schema_Copy_c2 t34 t42 t50 t55 C3 next2 R w))
def n_schema_Copy_c4 (t20 t34 : Value) (next2 : Value → World → Prop) (R : Ending → World → Prop) (w : World) : Prop :=
 opN Try.prog (nilN t20) (panK R) w fun t38 w =>
 opV Try.prog (Instr.fieldAt 50 t38 1) (panK R) w fun t39 w =>
 opV Try.prog (Instr.loadAt 48 t39) (panK R) w fun t40 w =>
 opV Try.prog (Instr.indexAt 48 t40 t34) (panK R) w fun t42 w =>
 drawK w fun C3 w =>
 n_schema_Copy_c3 t34 t42 C3 next2 R w
def n_schema_Copy_c5 (t14 t20 t33 t34 : Value) (next1 : Value → World → Prop) (next2 : Value → World → Prop) (R : Ending → World → Prop) (w : World) : Prop :=
 opV Try.prog (binS .lss 3 false t34 t33) (panK R) w fun t35 w =>
 condP t35 (
 n_schema_Copy_c4 t20 t34 next2 R w) (
 opV Try.prog (binS .add 3 true t14 (.int .i64 1)) (panK R) w fun t62 w =>
 next1 t62 w)
def n_schema_Copy_c6 (t14 t20 t26 : Value) (next1 : Value → World → Prop) (R : Ending → World → Prop) (w : World) : Prop :=
 opN Try.prog (nilN t20) (panK R) w fun t27 w =>
 opV Try.prog (Instr.fieldAt 50 t27 1) (panK R) w fun t28 w =>
 opU Try.prog (Instr.storeAt 48 t28 t26) (panK R) w fun w =>
 opN Try.prog (nilN t20) (panK R) w fun t30 w =>
 opV Try.prog (Instr.fieldAt 50 t30 1) (panK R) w fun t31 w =>
 opV Try.prog (Instr.loadAt 48 t31) (panK R) w fun t32 w =>
 opV Try.prog (Builtin.len_ #[48] 3 #[t32]) (panK R) w fun t33 w =>
 loop1 (fun t34 w next2 =>
 n_schema_Copy_c5 t14 t20 t33 t34 next1 next2 R w) (.int .i64 0) w
def n_schema_Copy_c7 (t1 t14 : Value) (next1 : Value → World → Prop) (R : Ending → World → Prop) (w : World) : Prop :=
 opV Try.prog (Instr.fieldAt 44 t1 1) (panK R) w fun t17 w =>
 opV Try.prog (Instr.loadAt 42 t17) (panK R) w fun t18 w =>
 opV Try.prog (Instr.indexAt 42 t18 t14) (panK R) w fun t20 w =>
 opN Try.prog (nilN t20) (panK R) w fun t23 w =>
 opV Try.prog (Instr.fieldAt 50 t23 1) (panK R) w fun t24 w =>
 opV Try.prog (Instr.loadAt 48 t24) (panK R) w fun t25 w =>
 callK Try.prog 42 #[t25] (panK R) w fun t26 w =>
 n_schema_Copy_c6 t14 t20 t26 next1 R w
def n_schema_Copy_c8 (t1 t2 t13 t14 : Value) (next1 : Value → World → Prop) (R : Ending → World → Prop) (w : World) : Prop :=
 opV Try.prog (binS .lss 3 false t14 t13) (panK R) w fun t15 w =>
 condP t15 (
 n_schema_Copy_c7 t1 t14 next1 R w) (
 opV Try.prog (Instr.loadAt 44 t1) (panK R) w fun t63 w =>
 opU Try.prog (Instr.storeAt 44 t2 t63) (panK R) w fun w =>
 qW Try.prog 44 t2 w fun r0 =>
 R (.returned r0) w)
def n_schema_Copy_c9 (t1 t2 t9 : Value) (R : Ending → World → Prop) (w : World) : Prop :=
 opV Try.prog (Instr.fieldAt 44 t1 1) (panK R) w fun t10 w =>
 opU Try.prog (Instr.storeAt 42 t10 t9) (panK R) w fun w =>
 opV Try.prog (Instr.fieldAt 44 t1 1) (panK R) w fun t11 w =>
 opV Try.prog (Instr.loadAt 42 t11) (panK R) w fun t12 w =>
 opV Try.prog (Builtin.len_ #[42] 3 #[t12]) (panK R) w fun t13 w =>
 loop1 (fun t14 w next1 =>
 n_schema_Copy_c8 t1 t2 t13 t14 next1 R w) (.int .i64 0) w
def n_schema_Copy (t0 : Value) (R : Ending → World → Prop) (w : World) : Prop :=
 opV Try.prog (Instr.box 44 t0) (panK R) w fun t1 w =>
 opV Try.prog (Instr.alloc 44 true (.tuple #[])) (panK R) w fun t2 w =>
 opV Try.prog (Instr.fieldAt 44 t1 1) (panK R) w fun t7 w =>
 opV Try.prog (Instr.loadAt 42 t7) (panK R) w fun t8 w =>
 callK Try.prog 41 #[t8] (panK R) w fun t9 w =>
 n_schema_Copy_c9 t1 t2 t9 R w
set_option maxRecDepth 100000 in
set_option maxHeartbeats 4000000 in
theorem n_schema_Copy_sound {t0 : Value} {R : Ending → World → Prop} {w : World} (h : n_schema_Copy t0 R w) : Calls Try.prog 23 #[t0] w R := by
  refine calls_of_den (args := [t0]) Try.func23 rfl (Nat.le_of_ble_eq_true rfl) ?_
  unfold n_schema_Copy at h
  refine zs <| zr ?_
  refine zv h fun t1 w h => ?_
  refine zv h fun t2 w h => ?_
  refine zn <| zk <| zs <| zr ?_
  refine zv h fun t7 w h => ?_
  refine zv h fun t8 w h => ?_
  refine zc h c41 fun t9 w h => ?_
  refine zv h fun t10 w h => ?_
  refine zu h fun w h => ?_
  refine zn <| zk <| zs <| zs <| zr ?_
  refine zv h fun t11 w h => ?_
  refine zv h fun t12 w h => ?_
  refine zx h fun t13 w h => ?_
  refine zm <| zn <| zk <| sim_block ?_
  obtain ⟨I, μ, h0, hr⟩ := h
  refine sim_loop [3, 4, 5, 6, 14, 15, 16, 17, 18, 19, 20, 21, 22, 23, 24, 25, 26, 27, 28, 29, 30, 31, 32, 33, 34, 35, 36, 37, 38, 39, 40, 41, 42, 43, 44, 45, 46, 47, 48, 49, 50, 51, 52, 53, 54, 55, 56, 57, 58, 59, 60, 61, 62] (by kernel_rfl) (fun ρ w => I (ρ 14) w) (fun ρ w => μ (ρ 14) w) h0 (fun σ w hI => ?_)
  have h := hr _ _ hI
  clear hr h0 hI
  refine zs <| zr ?_
  refine zb h fun t15 w h => ?_
  refine zn <| zk <| zs ?_
  refine sim_cond h rfl (fun h => ?_) (fun h => ?_)
  · refine sim_skip <| zk <| zs <| sim_block <| zs <| zr <| zm <| zm <| zn <| zk <| zs <| zr ?_
    refine zv h fun t17 w h => ?_
    refine zv h fun t18 w h => ?_
    refine zm ?_
    refine zv h fun t20 w h => ?_
    refine zm <| zn <| zk <| zs <| zr <| zm <| zm ?_
    refine sim_next h rfl rfl (fun _ _ h => ⟨rfl, h⟩) ?_; intro t23 w h
    refine zv h fun t24 w h => ?_
    refine zv h fun t25 w h => ?_
    refine zc h c42 fun t26 w h => ?_
    refine sim_next h rfl rfl (fun _ _ h => ⟨rfl, h⟩) ?_; intro t27 w h
    refine zv h fun t28 w h => ?_
    refine zu h fun w h => ?_
    refine zn <| zk <| zs <| zr <| zm ?_
    refine sim_next h rfl rfl (fun _ _ h => ⟨rfl, h⟩) ?_; intro t30 w h
    refine zv h fun t31 w h => ?_
    refine zv h fun t32 w h => ?_
    refine zx h fun t33 w h => ?_
    refine zm <| zn <| zk <| sim_block ?_
    obtain ⟨I, μ, h0, hr⟩ := h
    refine sim_loop [5, 6, 34, 35, 36, 37, 38, 39, 40, 41, 42, 43, 44, 45, 46, 47, 48, 49, 50, 51, 52, 53, 54, 55, 56, 57, 58, 59, 60, 61] (by kernel_rfl) (fun ρ w => I (ρ 34) w) (fun ρ w => μ (ρ 34) w) h0 (fun σ w hI => ?_)
    have h := hr _ _ hI
    clear hr h0 hI
    refine zs <| zr ?_
    refine zb h fun t35 w h => ?_
    refine zn <| zk <| zs ?_
    refine sim_cond h rfl (fun h => ?_) (fun h => ?_)
    · refine sim_skip <| zk <| zs <| sim_block <| zs <| zr <| zm <| zm <| zn <| zk <| zs <| zr <| zm ?_
      refine sim_next h rfl rfl (fun _ _ h => ⟨rfl, h⟩) ?_; intro t38 w h
      refine zv h fun t39 w h => ?_
      refine zv h fun t40 w h => ?_
      refine zm ?_
      refine zv h fun t42 w h => ?_
      refine zm <| zn <| zk ?_
      obtain ⟨C3, hC, h⟩ := h
      refine sim_draw [43, 44, 45, 46, 47, 48, 49, 50, 51, 52, 53, 54, 55, 56, 57, 58, 59, 60] (by kernel_rfl) (by kernel_rfl) C3 ?_
      refine zw 0 hC ?_
      refine zw 1 hC ?_
      refine zw 2 hC ?_
      obtain ⟨t46, hv, h⟩ := h
      refine sim_dsilent 3 hC rfl (by kernel_rfl) (by kernel_rfl) (fun _ _ => rfl) rfl (Sw.qN_run rfl hv) ?_
      refine ze 4 hC h fun t47 h => ?_
      refine ze 5 hC h fun t48 h => ?_
      refine ze 6 hC h fun t49 h => ?_
      refine zw 8 hC ?_
      obtain ⟨t52, hv, h⟩ := h
      refine sim_dsilent 9 hC rfl (by kernel_rfl) (by kernel_rfl) (fun _ _ => rfl) rfl (Sw.qN_run rfl hv) ?_
      refine ze 10 hC h fun t53 h => ?_
      refine ze 11 hC h fun t54 h => ?_
      refine sim_dloud 7 rfl (by kernel_rfl) (fun _ _ => rfl) ?_
      refine sim_call h c43 rfl (fun _ _ h _ _ => ⟨rfl, h⟩) ?_; intro t50 w h
      refine zn ?_
      obtain ⟨hC, h⟩ := h
      refine ⟨hC, ?_⟩
      refine sim_dloud 12 rfl (by kernel_rfl) (fun _ _ => rfl) ?_
      refine sim_call h c44 rfl (fun _ _ h _ _ => ⟨rfl, h⟩) ?_; intro t55 w h
      refine zn ?_
      obtain ⟨hC, h⟩ := h
      refine ⟨hC, ?_⟩
      obtain ⟨t56, hv, h⟩ := h
      refine sim_dsilent 13 hC rfl (by kernel_rfl) (by kernel_rfl) (fun _ _ => rfl) rfl (Sw.qN_run rfl hv) ?_
      refine ze 14 hC h fun t57 h => ?_
      refine ze 15 hC h fun t58 h => ?_
      refine sim_dturn 16 3 rfl (by kernel_rfl) (by kernel_rfl) (fun _ _ => rfl) ?_
      refine sim_unit h rfl rfl (fun _ _ h _ _ => ⟨rfl, h⟩) ?_; intro w h
      refine zn ?_
      obtain ⟨C4, hC, h⟩ := h
      refine ⟨C4, hC, ?_⟩
      obtain ⟨t59, hv, h⟩ := h
      refine sim_dsilent 17 hC rfl (by kernel_rfl) (by kernel_rfl) (fun _ _ => rfl) rfl (Sw.qN_run rfl hv) ?_
      refine ze 18 hC h fun t60 h => ?_
      refine sim_dturn 19 2 rfl (by kernel_rfl) (by kernel_rfl) (fun _ _ => rfl) ?_
      refine sim_unit h rfl rfl (fun _ _ h _ _ => ⟨rfl, h⟩) ?_; intro w h
      refine zn ?_
      obtain ⟨C5, hC, h⟩ := h
      refine ⟨C5, hC, ?_⟩
      refine sim_dend (by kernel_rfl) ?_
      refine sim_block_normal <| zk <| zr ?_
      refine zb h fun t61 w h => ?_
      refine zm <| zn <| zk ?_
      exact ⟨rfl, h⟩
    · refine sim_exit <| sim_then_exit <| sim_then_exit <| sim_block_hit <| sim_block_normal <| zk <| zr ?_
      refine zb h fun t62 w h => ?_
      refine zm <| zn <| zk ?_
      exact ⟨rfl, h⟩
  · refine sim_exit <| sim_then_exit <| sim_then_exit <| sim_block_hit <| zk <| zs <| zr ?_
    refine zv h fun t63 w h => ?_
    refine zu h fun w h => ?_
    refine zn <| zk <| sim_ret ?_
    exact body_retC rfl rfl h
end Go.Proofs.Ytiajhbbmgglmlaa
namespace Go.Proofs.Ytiajhbbmgglmlaa
open Sw
def n_phrasebooklaw05_two (R : Ending → World → Prop) (w : World) : Prop :=
 opV Try.prog (Instr.alloc 44 true (.tuple #[])) (panK R) w fun t0 w =>
 opV Try.prog (Instr.build 28 #[(0, (.string { data := #[110] })), (1, (.int .i64 1)), (2, (.int .i64 8)), (6, (.int .i64 255))]) (panK R) w fun t1 w =>
 opV Try.prog (Instr.build 77 #[(0, (.string { data := #[110] })), (1, (.int .i64 1))]) (panK R) w fun t2 w =>
 opV Try.prog (Instr.buildSlice 23 1 #[(0, t2)]) (panK R) w fun t3 w =>
 opV Try.prog (Instr.build 25 #[(1, t3)]) (panK R) w fun t4 w =>
 opV Try.prog (Instr.build 28 #[(0, (.string { data := #[98] })), (1, (.int .i64 4)), (7, t4)]) (panK R) w fun t5 w =>
 opV Try.prog (Instr.buildSlice 48 2 #[(0, t1), (1, t5)]) (panK R) w fun t6 w =>
 opV Try.prog (Instr.build 50 #[(0, (.string { data := #[109] })), (1, t6)]) (panK R) w fun t7 w =>
 opV Try.prog (Instr.buildSlice 42 1 #[(0, t7)]) (panK R) w fun t8 w =>
 opV Try.prog (Instr.build 44 #[(0, (.string { data := #[100] })), (2, (.string { data := #[109] })), (1, t8)]) (panK R) w fun t9 w =>
 opU Try.prog (Instr.storeAt 44 t0 t9) (panK R) w fun w =>
 qW Try.prog 44 t0 w fun r0 =>
 R (.returned r0) w
set_option maxRecDepth 100000 in
set_option maxHeartbeats 4000000 in
theorem n_phrasebooklaw05_two_sound {R : Ending → World → Prop} {w : World} (h : n_phrasebooklaw05_two R w) : Calls Try.prog 32 #[] w R := by
  refine calls_of_den (args := []) Try.func32 rfl (Nat.le_of_ble_eq_true rfl) ?_
  unfold n_phrasebooklaw05_two at h
  refine zs <| zr ?_
  refine zv h fun t0 w h => ?_
  refine zn <| zk <| zs <| zr ?_
  refine sim_build h rfl (fun _ _ h => ⟨rfl, h⟩) ?_; intro t1 w h
  refine sim_build h rfl (fun _ _ h => ⟨rfl, h⟩) ?_; intro t2 w h
  refine sim_buildSlice h rfl (fun _ _ h => ⟨rfl, h⟩) ?_; intro t3 w h
  refine sim_build h rfl (fun _ _ h => ⟨rfl, h⟩) ?_; intro t4 w h
  refine sim_build h rfl (fun _ _ h => ⟨rfl, h⟩) ?_; intro t5 w h
  refine sim_buildSlice h rfl (fun _ _ h => ⟨rfl, h⟩) ?_; intro t6 w h
  refine sim_build h rfl (fun _ _ h => ⟨rfl, h⟩) ?_; intro t7 w h
  refine sim_buildSlice h rfl (fun _ _ h => ⟨rfl, h⟩) ?_; intro t8 w h
  refine sim_build h rfl (fun _ _ h => ⟨rfl, h⟩) ?_; intro t9 w h
  refine zu h fun w h => ?_
  refine zn <| zk <| sim_ret ?_
  exact body_retC rfl rfl h
def n_phrasebooklaw05_flawed_c1 (t1 t2 t3 t13 : Value) (R : Ending → World → Prop) (w : World) : Prop :=
 opV Try.prog (Instr.extract t13 0) (panK R) w fun t14 w =>
 opV Try.prog (Instr.extract t13 1) (panK R) w fun t15 w =>
 opV Try.prog (Instr.alloc 68 true (.tuple #[])) (panK R) w fun t9 w =>
 opU Try.prog (Instr.storeAt 68 t9 t14) (panK R) w fun w =>
 joinK (fun (t23 : Value) (w : World) =>
 pickK t15 t23 (.bool false) fun t24 =>
 R (.returned t24) w) fun K1 =>
 guardP t15 true (
 opV Try.prog (Instr.loadAt 68 t9) (panK R) w fun t18 w =>
 opV Try.prog (Instr.build 68 #[(0, t1), (1, t2), (2, t3)]) (panK R) w fun t22 w =>
 opV Try.prog (binS .eql 68 false t18 t22) (panK R) w fun t23 w =>
 K1 t23 w) (
 K1 undef w)
def n_phrasebooklaw05_flawed (t0 t1 t2 t3 : Value) (R : Ending → World → Prop) (w : World) : Prop :=
 opV Try.prog (Instr.box 44 t0) (panK R) w fun t4 w =>
 opV Try.prog (Instr.loadAt 44 t4) (panK R) w fun t12 w =>
 callK Try.prog 26 #[t12] (panK R) w fun t13 w =>
 n_phrasebooklaw05_flawed_c1 t1 t2 t3 t13 R w
set_option maxRecDepth 100000 in
set_option maxHeartbeats 4000000 in
theorem n_phrasebooklaw05_flawed_sound {t0 t1 t2 t3 : Value} {R : Ending → World → Prop} {w : World} (h : n_phrasebooklaw05_flawed t0 t1 t2 t3 R w) : Calls Try.prog 33 #[t0, t1, t2, t3] w R := by
  refine calls_of_den (args := [t0, t1, t2, t3]) Try.func33 rfl (Nat.le_of_ble_eq_true rfl) ?_
  unfold n_phrasebooklaw05_flawed at h
  refine zs <| zr ?_
  refine zv h fun t4 w h => ?_
  refine zm <| zn <| zk <| zs <| zr ?_
  refine zv h fun t12 w h => ?_
  refine zc h c26 fun t13 w h => ?_
  refine zm ?_
  refine zv h fun t14 w h => ?_
  refine zv h fun t15 w h => ?_
  refine zv h fun t9 w h => ?_
  refine zu h fun w h => ?_
  refine zm <| zn <| zk <| zs <| sim_regionG ?_
  refine sim_seg 2 rfl ?_
  refine zm <| zm <| zn ?_
  refine joinK_elim h (fun K1 hK h => ?_)
  refine sim_groupJ 6 1 true [18, 19, 20, 21, 22, 23] (fun ρ w => K1 (ρ 23) w) rfl rfl (fun T hT => guardP_mono h (fun h => ?_) (fun h => ?_)) (fun σ w h => ?_)
  · refine zv h fun t18 w h => ?_
    refine zm <| zm <| zm ?_
    refine sim_build h rfl (fun _ _ h => ⟨rfl, h⟩) ?_; intro t22 w h
    refine zb h fun t23 w h => ?_
    refine zn ?_
    exact zt hT h
  · exact zt hT h
  subst hK
  refine sim_seg 2 rfl ?_
  refine sim_pick h rfl rfl rfl ?_; intro t24 h
  refine zm <| zn <| sim_end <| zk <| sim_ret ?_
  exact body_ret1 rfl rfl h
def n_schema_found_api_Message_c1 (t9 : Value) (R : Ending → World → Prop) (w : World) : Prop :=
 opV Try.prog (Builtin.max_ #[3, 3] 3 #[t9, (.int .i64 0)]) (panK R) w fun t11 w =>
 opV Try.prog (binS .geq 3 true t9 (.int .i64 0)) (panK R) w fun t13 w =>
 R (.returned (.tuple #[t11, t13])) w
def n_schema_found_api_Message (t0 t1 : Value) (R : Ending → World → Prop) (w : World) : Prop :=
 callK Try.prog 58 #[t0, t1] (panK R) w fun t9 w =>
 n_schema_found_api_Message_c1 t9 R w
set_option maxRecDepth 100000 in
set_option maxHeartbeats 4000000 in
theorem n_schema_found_api_Message_sound {t0 t1 : Value} {R : Ending → World → Prop} {w : World} (h : n_schema_found_api_Message t0 t1 R w) : Calls Try.prog 36 #[t0, t1] w R := by
  refine calls_of_den (args := [t0, t1]) Try.func36 rfl (Nat.le_of_ble_eq_true rfl) ?_
  unfold n_schema_found_api_Message at h
  refine zs <| zr <| zm <| zm <| zn <| zk <| zs <| zr <| zm <| zm ?_
  refine zc h c58 fun t9 w h => ?_
  refine zm <| zn <| zk <| zs <| zr <| zm ?_
  refine zx h fun t11 w h => ?_
  refine zm ?_
  refine zb h fun t13 w h => ?_
  refine zm <| zm <| zn <| zk <| sim_ret ?_
  exact body_ret2 rfl rfl rfl h
def n_schema_Find_1 (t0 t1 : Value) (R : Ending → World → Prop) (w : World) : Prop :=
 opV Try.prog (Instr.box 50 t0) (panK R) w fun t2 w =>
 opV Try.prog (Instr.fieldAt 50 t2 0) (panK R) w fun t4 w =>
 opV Try.prog (Instr.loadAt 9 t4) (panK R) w fun t5 w =>
 opV Try.prog (Instr.loadAt 9 t1) (panK R) w fun t6 w =>
 opV Try.prog (binS .eql 9 false t5 t6) (panK R) w fun t7 w =>
 R (.returned t7) w
set_option maxRecDepth 100000 in
set_option maxHeartbeats 4000000 in
theorem n_schema_Find_1_sound {t0 t1 : Value} {R : Ending → World → Prop} {w : World} (h : n_schema_Find_1 t0 t1 R w) : Calls Try.prog 37 #[t0, t1] w R := by
  refine calls_of_den (args := [t0, t1]) Try.func37 rfl (Nat.le_of_ble_eq_true rfl) ?_
  unfold n_schema_Find_1 at h
  refine zs <| zr ?_
  refine zv h fun t2 w h => ?_
  refine zm <| zn <| zk <| zs <| zr ?_
  refine zv h fun t4 w h => ?_
  refine zv h fun t5 w h => ?_
  refine zv h fun t6 w h => ?_
  refine zb h fun t7 w h => ?_
  refine zm <| zn <| zk <| sim_ret ?_
  exact body_ret1 rfl rfl h
def n_schema_found_api_Field_c1 (t9 : Value) (R : Ending → World → Prop) (w : World) : Prop :=
 opV Try.prog (Builtin.max_ #[3, 3] 3 #[t9, (.int .i64 0)]) (panK R) w fun t11 w =>
 opV Try.prog (binS .geq 3 true t9 (.int .i64 0)) (panK R) w fun t13 w =>
 R (.returned (.tuple #[t11, t13])) w
def n_schema_found_api_Field (t0 t1 : Value) (R : Ending → World → Prop) (w : World) : Prop :=
 callK Try.prog 59 #[t0, t1] (panK R) w fun t9 w =>
 n_schema_found_api_Field_c1 t9 R w
set_option maxRecDepth 100000 in
set_option maxHeartbeats 4000000 in
theorem n_schema_found_api_Field_sound {t0 t1 : Value} {R : Ending → World → Prop} {w : World} (h : n_schema_found_api_Field t0 t1 R w) : Calls Try.prog 38 #[t0, t1] w R := by
  refine calls_of_den (args := [t0, t1]) Try.func38 rfl (Nat.le_of_ble_eq_true rfl) ?_
  unfold n_schema_found_api_Field at h
  refine zs <| zr <| zm <| zm <| zn <| zk <| zs <| zr <| zm <| zm ?_
  refine zc h c59 fun t9 w h => ?_
  refine zm <| zn <| zk <| zs <| zr <| zm ?_
  refine zx h fun t11 w h => ?_
  refine zm ?_
  refine zb h fun t13 w h => ?_
  refine zm <| zm <| zn <| zk <| sim_ret ?_
  exact body_ret2 rfl rfl rfl h
def n_schema_Field_1 (t0 t1 : Value) (R : Ending → World → Prop) (w : World) : Prop :=
 opV Try.prog (Instr.box 28 t0) (panK R) w fun t2 w =>
 opV Try.prog (Instr.fieldAt 28 t2 0) (panK R) w fun t4 w =>
 opV Try.prog (Instr.loadAt 9 t4) (panK R) w fun t5 w =>
 opV Try.prog (Instr.loadAt 9 t1) (panK R) w fun t6 w =>
 opV Try.prog (binS .eql 9 false t5 t6) (panK R) w fun t7 w =>
 R (.returned t7) w
set_option maxRecDepth 100000 in
set_option maxHeartbeats 4000000 in
theorem n_schema_Field_1_sound {t0 t1 : Value} {R : Ending → World → Prop} {w : World} (h : n_schema_Field_1 t0 t1 R w) : Calls Try.prog 39 #[t0, t1] w R := by
  refine calls_of_den (args := [t0, t1]) Try.func39 rfl (Nat.le_of_ble_eq_true rfl) ?_
  unfold n_schema_Field_1 at h
  refine zs <| zr ?_
  refine zv h fun t2 w h => ?_
  refine zm <| zn <| zk <| zs <| zr ?_
  refine zv h fun t4 w h => ?_
  refine zv h fun t5 w h => ?_
  refine zv h fun t6 w h => ?_
  refine zb h fun t7 w h => ?_
  refine zm <| zn <| zk <| sim_ret ?_
  exact body_ret1 rfl rfl h
def n_schema_ranges_c1 (t5 t6 t8 : Value) (K2 : World → Prop) (R : Ending → World → Prop) (w : World) : Prop :=
 opV Try.prog (Instr.fieldAt 28 t5 0) (panK R) w fun t23 w =>
 opV Try.prog (Instr.loadAt 9 t23) (panK R) w fun t24 w =>
 opV Try.prog (Instr.loadAt 31 t6) (panK R) w fun t25 w =>
 opU Try.prog (Instr.mapUpdate 53 t8 t24 t25) (panK R) w fun w =>
 K2 w
def n_schema_ranges_c2 (t5 t8 t11 t17 : Value) (next1 : Value → World → Prop) (R : Ending → World → Prop) (w : World) : Prop :=
 opV Try.prog (Instr.extract t17 0) (panK R) w fun t18 w =>
 opV Try.prog (Instr.extract t17 1) (panK R) w fun t19 w =>
 opV Try.prog (Instr.alloc 31 true (.tuple #[])) (panK R) w fun t6 w =>
 opU Try.prog (Instr.storeAt 31 t6 t18) (panK R) w fun w =>
 opV Try.prog (binS .eql 32 true t19 (.int .i64 0)) (panK R) w fun t21 w =>
 joinK (fun (w : World) =>
 opV Try.prog (binS .add 3 true t11 (.int .i64 1)) (panK R) w fun t26 w =>
 next1 t26 w) fun K2 =>
 condP t21 (
 n_schema_ranges_c1 t5 t6 t8 K2 R w) (
 K2 w)
def n_schema_ranges_c3 (t0 t8 t11 : Value) (next1 : Value → World → Prop) (R : Ending → World → Prop) (w : World) : Prop :=
 opV Try.prog (Instr.indexAt 48 t0 t11) (panK R) w fun t13 w =>
 opV Try.prog (Instr.loadAt 28 t13) (panK R) w fun t14 w =>
 opV Try.prog (Instr.alloc 28 true (.tuple #[])) (panK R) w fun t5 w =>
 opU Try.prog (Instr.storeAt 28 t5 t14) (panK R) w fun w =>
 opV Try.prog (Instr.loadAt 28 t5) (panK R) w fun t16 w =>
 callK Try.prog 9 #[t16] (panK R) w fun t17 w =>
 n_schema_ranges_c2 t5 t8 t11 t17 next1 R w
def n_schema_ranges (t0 : Value) (R : Ending → World → Prop) (w : World) : Prop :=
 opV Try.prog (Instr.makeMap 53 none) (panK R) w fun t8 w =>
 opV Try.prog (Builtin.len_ #[48] 3 #[t0]) (panK R) w fun t10 w =>
 loop1 (fun t11 w next1 =>
 opV Try.prog (binS .lss 3 false t11 t10) (panK R) w fun t12 w =>
 condP t12 (
 n_schema_ranges_c3 t0 t8 t11 next1 R w) (
 R (.returned t8) w)) (.int .i64 0) w
set_option maxRecDepth 100000 in
set_option maxHeartbeats 4000000 in
theorem n_schema_ranges_sound {t0 : Value} {R : Ending → World → Prop} {w : World} (h : n_schema_ranges t0 R w) : Calls Try.prog 40 #[t0] w R := by
  refine calls_of_den (args := [t0]) Try.func40 rfl (Nat.le_of_ble_eq_true rfl) ?_
  unfold n_schema_ranges at h
  refine zs <| zr <| zm <| zn <| zk <| zs <| zr ?_
  refine zv h fun t8 w h => ?_
  refine zm <| zn <| zk <| zs <| zs <| zr <| zm ?_
  refine zx h fun t10 w h => ?_
  refine zm <| zn <| zk <| sim_block ?_
  obtain ⟨I, μ, h0, hr⟩ := h
  refine sim_loop [5, 6, 7, 11, 12, 13, 14, 15, 16, 17, 18, 19, 20, 21, 22, 23, 24, 25, 26] (by kernel_rfl) (fun ρ w => I (ρ 11) w) (fun ρ w => μ (ρ 11) w) h0 (fun σ w hI => ?_)
  have h := hr _ _ hI
  clear hr h0 hI
  refine zs <| zr ?_
  refine zb h fun t12 w h => ?_
  refine zn <| zk <| zs ?_
  refine sim_cond h rfl (fun h => ?_) (fun h => ?_)
  · refine sim_skip <| zk <| zs <| sim_block <| zs <| zr ?_
    refine zv h fun t13 w h => ?_
    refine zv h fun t14 w h => ?_
    refine zv h fun t5 w h => ?_
    refine zu h fun w h => ?_
    refine zn <| zk <| zs <| zr ?_
    refine zv h fun t16 w h => ?_
    refine zc h c9 fun t17 w h => ?_
    refine zm ?_
    refine zv h fun t18 w h => ?_
    refine zv h fun t19 w h => ?_
    refine zv h fun t6 w h => ?_
    refine zu h fun w h => ?_
    refine zm <| zn <| zk <| zs <| zr <| zm ?_
    refine zb h fun t21 w h => ?_
    refine zn <| zk ?_
    refine joinK_elim h (fun K2 hK h => ?_)
    refine sim_joinQ [22, 23, 24, 25] (fun ρ w => K2 w) (fun _ hkK2 => ?_) (fun σ w h => ?_)
    · refine sim_cond h rfl (fun h => ?_) (fun h => ?_)
      · refine zr <| zm ?_
        refine zv h fun t23 w h => ?_
        refine zv h fun t24 w h => ?_
        refine zv h fun t25 w h => ?_
        refine zu h fun w h => ?_
        refine zn <| zk ?_
        exact zt hkK2 h
      · refine sim_skip <| zk ?_
        exact zt hkK2 h
    subst hK
    refine sim_block_normal <| zk <| zr ?_
    refine zb h fun t26 w h => ?_
    refine zm <| zn <| zk ?_
    exact ⟨rfl, h⟩
  · refine sim_exit <| sim_then_exit <| sim_then_exit <| sim_block_hit <| zk <| zs <| zr <| zm <| zm <| zn <| zk <| sim_ret ?_
    exact body_ret1 rfl rfl h
def n_slices_Clone_api_Message (t0 : Value) (R : Ending → World → Prop) (w : World) : Prop :=
 opV Try.prog (binS .eql 42 true t0 (Value.slice none 0 0)) (panK R) w fun t4 w =>
 condP t4 (
 R (.returned (Value.slice none 0 0)) w) (
 opV Try.prog (Instr.buildSlice 42 0 #[]) (panK R) w fun t5 w =>
 opV Try.prog (Builtin.append_ #[42, 42] 42 #[t5, t0]) (panK R) w fun t7 w =>
 R (.returned t7) w)
set_option maxRecDepth 100000 in
set_option maxHeartbeats 4000000 in
theorem n_slices_Clone_api_Message_sound {t0 : Value} {R : Ending → World → Prop} {w : World} (h : n_slices_Clone_api_Message t0 R w) : Calls Try.prog 41 #[t0] w R := by
  refine calls_of_den (args := [t0]) Try.func41 rfl (Nat.le_of_ble_eq_true rfl) ?_
  unfold n_slices_Clone_api_Message at h
  refine zs <| zr <| zm <| zn <| zk <| zs <| zs <| zr <| zm ?_
  refine zb h fun t4 w h => ?_
  refine zn <| zk ?_
  refine sim_cond h rfl (fun h => ?_) (fun h => ?_)
  · refine zs <| zr <| zm <| zn <| zk <| sim_ret <| sim_then_ret ?_
    exact body_ret1 rfl rfl h
  · refine sim_skip <| zk <| zs <| zr ?_
    refine sim_buildSlice h rfl (fun _ _ h => ⟨rfl, h⟩) ?_; intro t5 w h
    refine zm ?_
    refine zx h fun t7 w h => ?_
    refine zm <| zn <| zk <| sim_ret ?_
    exact body_ret1 rfl rfl h
def n_slices_Clone_api_Field (t0 : Value) (R : Ending → World → Prop) (w : World) : Prop :=
 opV Try.prog (binS .eql 48 true t0 (Value.slice none 0 0)) (panK R) w fun t4 w =>
 condP t4 (
 R (.returned (Value.slice none 0 0)) w) (
 opV Try.prog (Instr.buildSlice 48 0 #[]) (panK R) w fun t5 w =>
 opV Try.prog (Builtin.append_ #[48, 48] 48 #[t5, t0]) (panK R) w fun t7 w =>
 R (.returned t7) w)
set_option maxRecDepth 100000 in
set_option maxHeartbeats 4000000 in
theorem n_slices_Clone_api_Field_sound {t0 : Value} {R : Ending → World → Prop} {w : World} (h : n_slices_Clone_api_Field t0 R w) : Calls Try.prog 42 #[t0] w R := by
  refine calls_of_den (args := [t0]) Try.func42 rfl (Nat.le_of_ble_eq_true rfl) ?_
  unfold n_slices_Clone_api_Field at h
  refine zs <| zr <| zm <| zn <| zk <| zs <| zs <| zr <| zm ?_
  refine zb h fun t4 w h => ?_
  refine zn <| zk ?_
  refine sim_cond h rfl (fun h => ?_) (fun h => ?_)
  · refine zs <| zr <| zm <| zn <| zk <| sim_ret <| sim_then_ret ?_
    exact body_ret1 rfl rfl h
  · refine sim_skip <| zk <| zs <| zr ?_
    refine sim_buildSlice h rfl (fun _ _ h => ⟨rfl, h⟩) ?_; intro t5 w h
    refine zm ?_
    refine zx h fun t7 w h => ?_
    refine zm <| zn <| zk <| sim_ret ?_
    exact body_ret1 rfl rfl h
def n_slices_Clone_api_Term (t0 : Value) (R : Ending → World → Prop) (w : World) : Prop :=
 opV Try.prog (binS .eql 23 true t0 (Value.slice none 0 0)) (panK R) w fun t4 w =>
 condP t4 (
 R (.returned (Value.slice none 0 0)) w) (
 opV Try.prog (Instr.buildSlice 23 0 #[]) (panK R) w fun t5 w =>
 opV Try.prog (Builtin.append_ #[23, 23] 23 #[t5, t0]) (panK R) w fun t7 w =>
 R (.returned t7) w)
set_option maxRecDepth 100000 in
set_option maxHeartbeats 4000000 in
theorem n_slices_Clone_api_Term_sound {t0 : Value} {R : Ending → World → Prop} {w : World} (h : n_slices_Clone_api_Term t0 R w) : Calls Try.prog 43 #[t0] w R := by
  refine calls_of_den (args := [t0]) Try.func43 rfl (Nat.le_of_ble_eq_true rfl) ?_
  unfold n_slices_Clone_api_Term at h
  refine zs <| zr <| zm <| zn <| zk <| zs <| zs <| zr <| zm ?_
  refine zb h fun t4 w h => ?_
  refine zn <| zk ?_
  refine sim_cond h rfl (fun h => ?_) (fun h => ?_)
  · refine zs <| zr <| zm <| zn <| zk <| sim_ret <| sim_then_ret ?_
    exact body_ret1 rfl rfl h
  · refine sim_skip <| zk <| zs <| zr ?_
    refine sim_buildSlice h rfl (fun _ _ h => ⟨rfl, h⟩) ?_; intro t5 w h
    refine zm ?_
    refine zx h fun t7 w h => ?_
    refine zm <| zn <| zk <| sim_ret ?_
    exact body_ret1 rfl rfl h
end Go.Proofs.Ytiajhbbmgglmlaa
namespace Go.Proofs.Ytiajhbbmgglmlaa
open Sw
open Go.RowKit (intOf)
set_option maxRecDepth 100000
def numberB (f : FieldD) : Bool := f.kind == 1 || f.kind == 2 || f.kind == 3
def hasValueB (f : FieldD) : Bool := f.kind != 2 && f.kind != 10 && f.kind != 11
def highOf (f : FieldD) : Int := if f.kind == 2 then f.low else f.high
abbrev rangeVal (lo hi : Int) : Value := .agg #[.int .i64 lo, .int .i64 hi]
theorem Number_ret (w0 : World) (v : Value) (f : FieldD) (hf : FieldVal w0 v f) : Ret Try.prog 12 #[v] w0 fun r w' => r = .bool (numberB f) ∧ Ext w0 w' := by
  obtain ⟨tv, cv, rfl, hT, hC⟩ := hf
  refine n_schema_Number_sound (R := retR _) ?_; unfold n_schema_Number
  simp (disch := first | assumption | (simp only [ONE]; done) | rfl | (simp only [SZ]; done) | omega | (simp only [SZ] at *; omega)) only [↓PR, QR, Int.reduceBEq, Int.reduceBNe, Int.reduceLT, Int.reduceLE, Int.reduceGT, Int.reduceGE, Int.reduceNeg, ↓n_schema_Number_c1]
  exact ⟨by first | trivial | rfl, ee⟩
theorem HasValue_ret (w0 : World) (v : Value) (f : FieldD) (hf : FieldVal w0 v f) : Ret Try.prog 14 #[v] w0 fun r w' => r = .bool (hasValueB f) ∧ Ext w0 w' := by
  obtain ⟨tv, cv, rfl, hT, hC⟩ := hf
  refine n_schema_HasValue_sound (R := retR _) ?_; unfold n_schema_HasValue
  simp (disch := first | assumption | (simp only [ONE]; done) | rfl | (simp only [SZ]; done) | omega | (simp only [SZ] at *; omega)) only [↓PR, QR, Int.reduceBEq, Int.reduceBNe, Int.reduceLT, Int.reduceLE, Int.reduceGT, Int.reduceGE, Int.reduceNeg, ↓n_schema_HasValue_c1]
  exact ⟨by first | trivial | rfl, ee⟩
theorem Range_ret (w0 : World) (v : Value) (f : FieldD) (hf : FieldVal w0 v f) : Ret Try.prog 9 #[v] w0 fun r w' => r = .tuple #[if numberB f then rangeVal f.low (highOf f) else rangeVal 0 0, .int .i64 (if numberB f then 0 else 2)] ∧ Ext w0 w' := by
  obtain ⟨tv, cv, rfl, hT, hC⟩ := hf
  refine n_schema_Range_sound (R := retR _) ?_; unfold n_schema_Range
  simp (disch := first | assumption | (simp only [ONE]; done) | rfl | (simp only [SZ]; done) | omega | (simp only [SZ] at *; omega)) only [↓PR, QR, Int.reduceBEq, Int.reduceBNe, Int.reduceLT, Int.reduceLE, Int.reduceGT, Int.reduceGE, Int.reduceNeg, ↓n_schema_Range_c1, ↓n_schema_Range_c2, ↓n_schema_Range_c3, ↓n_schema_Range_c4]
  refine callK_ret (Number_ret _ _ f ⟨tv, cv, rfl, TermsOf.ext hT ee, CasesOf.ext hC ee⟩) ?_
  rintro _ w1 ⟨rfl, e1⟩
  have s1 := e1.size
  try simp only [World.size_alloc, World.size_setCell, World.size_drew, World.putObj_size, Sw.putW_size] at s1
  cases hn : numberB f with
  | false =>
    simp (disch := first | assumption | (simp only [ONE]; done) | rfl | (simp only [SZ]; done) | omega | (simp only [SZ] at *; omega)) only [↓PR, QR, Int.reduceBEq, Int.reduceBNe, Int.reduceLT, Int.reduceLE, Int.reduceGT, Int.reduceGE, Int.reduceNeg, ↓n_schema_Range_c1, ↓n_schema_Range_c2, ↓n_schema_Range_c3, ↓n_schema_Range_c4, e1.cellQ, e1.frozenQ]
    exact ⟨by first | trivial | rfl, ee⟩
  | true =>
    simp (disch := first | assumption | (simp only [ONE]; done) | rfl | (simp only [SZ]; done) | omega | (simp only [SZ] at *; omega)) only [↓PR, QR, Int.reduceBEq, Int.reduceBNe, Int.reduceLT, Int.reduceLE, Int.reduceGT, Int.reduceGE, Int.reduceNeg, ↓n_schema_Range_c1, ↓n_schema_Range_c2, ↓n_schema_Range_c3, ↓n_schema_Range_c4, e1.cellQ, e1.frozenQ]
    unfold highOf
    cases f.kind == 2
    · simp (disch := first | assumption | (simp only [ONE]; done) | rfl | (simp only [SZ]; done) | omega | (simp only [SZ] at *; omega)) only [↓PR, QR, Int.reduceBEq, Int.reduceBNe, Int.reduceLT, Int.reduceLE, Int.reduceGT, Int.reduceGE, Int.reduceNeg, ↓n_schema_Range_c1, ↓n_schema_Range_c2, ↓n_schema_Range_c3, ↓n_schema_Range_c4, e1.cellQ, e1.frozenQ]
      exact ⟨by first | trivial | rfl, ee⟩
    · simp (disch := first | assumption | (simp only [ONE]; done) | rfl | (simp only [SZ]; done) | omega | (simp only [SZ] at *; omega)) only [↓PR, QR, Int.reduceBEq, Int.reduceBNe, Int.reduceLT, Int.reduceLE, Int.reduceGT, Int.reduceGE, Int.reduceNeg, ↓n_schema_Range_c1, ↓n_schema_Range_c2, ↓n_schema_Range_c3, ↓n_schema_Range_c4, e1.cellQ, e1.frozenQ]
      exact ⟨by first | trivial | rfl, ee⟩
theorem found_Message_ret (w0 : World) (v : Value) (l : List MsgD) (g : FuncId) (caps : Array Value) (p : MsgD → Bool) (hs : MsgsOf w0 v l) (hg : Callable Try.prog g) (hc : Tests w0 MsgVal g caps p l) :
    Ret Try.prog 36 #[v, .func (.func g) #[] caps] w0 fun r w' => r = .tuple #[.int .i64 (if idx p l < 0 then 0 else idx p l), .bool (l.any p)] ∧ Ext w0 w' := by
  refine n_schema_found_api_Message_sound (R := retR _) ?_; unfold n_schema_found_api_Message
  refine callK_ret (IndexFunc_Message_ret _ _ l g caps p hs hg hc) ?_
  rintro _ w1 ⟨rfl, e1⟩
  have s1 := e1.size
  try simp only [World.size_alloc, World.size_setCell, World.size_drew, World.putObj_size, Sw.putW_size] at s1
  simp (disch := first | assumption | (simp only [ONE]; done) | rfl | (simp only [SZ]; done) | omega | (simp only [SZ] at *; omega)) only [↓PR, QR, Int.reduceBEq, Int.reduceBNe, Int.reduceLT, Int.reduceLE, Int.reduceGT, Int.reduceGE, Int.reduceNeg, ↓n_schema_found_api_Message_c1]
  exact ⟨by rw [idx_neg], e1⟩
theorem found_Field_ret (w0 : World) (v : Value) (l : List FieldD) (g : FuncId) (caps : Array Value) (p : FieldD → Bool) (hs : FieldsOf w0 v l) (hg : Callable Try.prog g) (hc : Tests w0 FieldVal g caps p l) :
    Ret Try.prog 38 #[v, .func (.func g) #[] caps] w0 fun r w' => r = .tuple #[.int .i64 (if idx p l < 0 then 0 else idx p l), .bool (l.any p)] ∧ Ext w0 w' := by
  refine n_schema_found_api_Field_sound (R := retR _) ?_; unfold n_schema_found_api_Field
  refine callK_ret (IndexFunc_Field_ret _ _ l g caps p hs hg hc) ?_
  rintro _ w1 ⟨rfl, e1⟩
  have s1 := e1.size
  try simp only [World.size_alloc, World.size_setCell, World.size_drew, World.putObj_size, Sw.putW_size] at s1
  simp (disch := first | assumption | (simp only [ONE]; done) | rfl | (simp only [SZ]; done) | omega | (simp only [SZ] at *; omega)) only [↓PR, QR, Int.reduceBEq, Int.reduceBNe, Int.reduceLT, Int.reduceLE, Int.reduceGT, Int.reduceGE, Int.reduceNeg, ↓n_schema_found_api_Field_c1]
  exact ⟨by rw [idx_neg], e1⟩
def idx0 {α : Type} (p : α → Bool) (l : List α) : Int := if idx p l < 0 then 0 else idx p l
theorem FieldS1_ret (w0 : World) (v : Value) (f : FieldD) (pb : Nat) (s : ByteArray) (hf : FieldVal w0 v f) (hp : w0.cell? ⟨pb, 0, none⟩ = some (.string s)) : Ret Try.prog 39 #[v, .pointer (some ⟨pb, 0, none⟩)] w0 fun r w' => r = .bool (decide (f.name = s)) ∧ Ext w0 w' := by
  obtain ⟨tv, cv, rfl, hT, hC⟩ := hf
  have hb := World.block_lt_of_cell? w0 _ hp
  simp only at hb
  refine n_schema_Field_1_sound (R := retR _) ?_; unfold n_schema_Field_1
  simp (disch := first | assumption | (simp only [ONE]; done) | rfl | (simp only [SZ]; done) | omega | (simp only [SZ] at *; omega)) only [↓PR, QR, Int.reduceBEq, Int.reduceBNe, Int.reduceLT, Int.reduceLE, Int.reduceGT, Int.reduceGE, Int.reduceNeg, Sw.joinK_eq, hp]
  exact ⟨by first | trivial | rfl, ee⟩
theorem FindS1_ret (w0 : World) (v : Value) (m : MsgD) (pb : Nat) (s : ByteArray) (hf : MsgVal w0 v m) (hp : w0.cell? ⟨pb, 0, none⟩ = some (.string s)) : Ret Try.prog 37 #[v, .pointer (some ⟨pb, 0, none⟩)] w0 fun r w' => r = .bool (decide (m.name = s)) ∧ Ext w0 w' := by
  obtain ⟨fv, rfl, hF⟩ := hf
  have hb := World.block_lt_of_cell? w0 _ hp
  simp only at hb
  refine n_schema_Find_1_sound (R := retR _) ?_; unfold n_schema_Find_1
  simp (disch := first | assumption | (simp only [ONE]; done) | rfl | (simp only [SZ]; done) | omega | (simp only [SZ] at *; omega)) only [↓PR, QR, Int.reduceBEq, Int.reduceBNe, Int.reduceLT, Int.reduceLE, Int.reduceGT, Int.reduceGE, Int.reduceNeg, Sw.joinK_eq, hp]
  exact ⟨by first | trivial | rfl, ee⟩
theorem Field_ret (w0 : World) (v : Value) (m : MsgD) (s : ByteArray) (hm : MsgVal w0 v m) : Ret Try.prog 20 #[v, .string s] w0 fun r w' => r = .tuple #[.int .i64 (idx0 (fun f => decide (f.name = s)) m.fields), .bool (m.fields.any fun f => decide (f.name = s))] ∧ Ext w0 w' := by
  obtain ⟨fv, rfl, hF⟩ := hm
  refine n_schema_Field_sound (R := retR _) ?_; unfold n_schema_Field
  simp (disch := first | assumption | (simp only [ONE]; done) | rfl | (simp only [SZ]; done) | omega | (simp only [SZ] at *; omega)) only [↓PR, QR, Int.reduceBEq, Int.reduceBNe, Int.reduceLT, Int.reduceLE, Int.reduceGT, Int.reduceGE, Int.reduceNeg, Sw.joinK_eq]
  refine callK_ret (found_Field_ret _ _ m.fields _ _ (fun f => decide (f.name = s)) (hF.ext ee) c39 ?_) ?_
  · intro w v f hf e hv
    exact FieldS1_ret w v f _ s hv (e.cell (by simp (disch := first | assumption | (simp only [ONE]; done) | rfl | (simp only [SZ]; done) | omega | (simp only [SZ] at *; omega)) only [↓PR, QR, Int.reduceBEq, Int.reduceBNe, Int.reduceLT, Int.reduceLE, Int.reduceGT, Int.reduceGE, Int.reduceNeg]))
  rintro _ w1 ⟨rfl, e1⟩
  simp (disch := first | assumption | (simp only [ONE]; done) | rfl | (simp only [SZ]; done) | omega | (simp only [SZ] at *; omega)) only [↓PR, QR, Int.reduceBEq, Int.reduceBNe, Int.reduceLT, Int.reduceLE, Int.reduceGT, Int.reduceGE, Int.reduceNeg, Sw.joinK_eq]
  exact ⟨by first | trivial | rfl, ee⟩
theorem Find_ret (w0 : World) (v : Value) (d : DefD) (s : ByteArray) (hd : DefVal w0 v d) : Ret Try.prog 18 #[v, .string s] w0 fun r w' => r = .tuple #[.int .i64 (idx0 (fun m => decide (m.name = s)) d.msgs), .bool (d.msgs.any fun m => decide (m.name = s))] ∧ Ext w0 w' := by
  obtain ⟨fv, rfl, hF⟩ := hd
  refine n_schema_Find_sound (R := retR _) ?_; unfold n_schema_Find
  simp (disch := first | assumption | (simp only [ONE]; done) | rfl | (simp only [SZ]; done) | omega | (simp only [SZ] at *; omega)) only [↓PR, QR, Int.reduceBEq, Int.reduceBNe, Int.reduceLT, Int.reduceLE, Int.reduceGT, Int.reduceGE, Int.reduceNeg, Sw.joinK_eq]
  refine callK_ret (found_Message_ret _ _ d.msgs _ _ (fun m => decide (m.name = s)) (hF.ext ee) c37 ?_) ?_
  · intro w v f hf e hv
    exact FindS1_ret w v f _ s hv (e.cell (by simp (disch := first | assumption | (simp only [ONE]; done) | rfl | (simp only [SZ]; done) | omega | (simp only [SZ] at *; omega)) only [↓PR, QR, Int.reduceBEq, Int.reduceBNe, Int.reduceLT, Int.reduceLE, Int.reduceGT, Int.reduceGE, Int.reduceNeg]))
  rintro _ w1 ⟨rfl, e1⟩
  simp (disch := first | assumption | (simp only [ONE]; done) | rfl | (simp only [SZ]; done) | omega | (simp only [SZ] at *; omega)) only [↓PR, QR, Int.reduceBEq, Int.reduceBNe, Int.reduceLT, Int.reduceLE, Int.reduceGT, Int.reduceGE, Int.reduceNeg, Sw.joinK_eq]
  exact ⟨by first | trivial | rfl, ee⟩
end Go.Proofs.Ytiajhbbmgglmlaa
namespace Go.Proofs.Ytiajhbbmgglmlaa
open Sw
open Go.RowKit (intOf Below)
set_option maxRecDepth 100000
theorem Clone_Term_ret (w0 : World) (v : Value) (css : List (Cs 2)) (hs : SliceOf w0 2 (fun _ cs x => cs = x.1) v css) (h1 : ∀ x ∈ css, ∀ u ∈ x.1, u.oneCell' = true) (hb : css.length ≤ 1048576) :
    Ret Try.prog 43 #[v] w0 fun r w' => OwnE w' w0.heap.size 77 2 Subtype.val r css ∧ Ext w0 w' := by
  obtain ⟨A, c, rfl, hlc, hcm, hlm, hel⟩ := SliceOf.open hs
  refine n_slices_Clone_api_Term_sound (R := retR _) ?_; unfold n_slices_Clone_api_Term
  simp (disch := first | assumption | (simp only [ONE]; done) | rfl | (simp only [SZ]; done) | omega | (simp only [SZ] at *; omega)) only [↓PR, QR, Int.reduceBEq, Int.reduceBNe, Int.reduceLT, Int.reduceLE, Int.reduceGT, Int.reduceGE, Int.reduceNeg]
  cases A with
  | none =>
    have : css = [] := by
      cases css with
      | nil => rfl
      | cons x l => obtain ⟨_, _, _, h, _⟩ := hel 0 x rfl; cases h
    subst this
    simp only [Option.isNone_none]
    simp (disch := first | assumption | (simp only [ONE]; done) | rfl | (simp only [SZ]; done) | omega | (simp only [SZ] at *; omega)) only [↓PR, QR, Int.reduceBEq, Int.reduceBNe, Int.reduceLT, Int.reduceLE, Int.reduceGT, Int.reduceGE, Int.reduceNeg]
    exact ⟨OwnE.nil _ _ _ _ _, ee⟩
  | some a =>
    simp only [Option.isNone_some]
    simp (disch := first | assumption | (simp only [ONE]; done) | rfl | (simp only [SZ]; done) | omega | (simp only [SZ] at *; omega)) only [↓PR, QR, Int.reduceBEq, Int.reduceBNe, Int.reduceLT, Int.reduceLE, Int.reduceGT, Int.reduceGE, Int.reduceNeg]
    have hO := OwnE.new w0 77 2 (Subtype.val : Cs 2 → List Value) [] (fun x => x.2) (by simp)
    simp only [List.flatMap_nil, List.length_nil] at hO
    have eW : Ext w0 (w0.alloc (.cells #[] 77)) := ee
    have hsz : w0.heap.size ≤ (w0.alloc (.cells #[] 77)).heap.size := eW.size
    generalize w0.alloc (.cells #[] 77) = W at hO eW hsz ⊢
    cases hcs : css with
    | nil =>
      subst hcs
      simp only [List.length_nil]
      rw [op_append0 Try.underlying23 ty77 _ _ _ _ _ (Nat.le_refl 0)]
      simp (disch := first | assumption | (simp only [ONE]; done) | rfl | (simp only [SZ]; done) | omega | (simp only [SZ] at *; omega)) only [↓PR, QR, Int.reduceBEq, Int.reduceBNe, Int.reduceLT, Int.reduceLE, Int.reduceGT, Int.reduceGE, Int.reduceNeg]
      exact ⟨hO, eW⟩
    | cons x0 l0 =>
      obtain ⟨b, o, _, hA, _⟩ := hel 0 x0 (by rw [hcs]; rfl)
      injection hA with hA
      subst hA
      rw [← hcs]
      refine op_appendE Try.underlying23 ty77 rfl (by decide) (fun x => x.2) h1 hO (fun j x hx => ?_) hsz ?_ (by simp; omega) ?_
      · obtain ⟨b', o', cs, hA', hl', hE, rfl⟩ := hel j x hx
        injection hA' with hA'
        injection hA' with h3 h4
        subst h3 h4
        exact hE.ext eW
      · have := by77
        rw [List.length_nil, Nat.zero_add]
        exact Nat.le_trans (Nat.mul_le_mul hb this) (by decide)
      · intro v' w' ho hg
        simp (disch := first | assumption | (simp only [ONE]; done) | rfl | (simp only [SZ]; done) | omega | (simp only [SZ] at *; omega)) only [↓PR, QR, Int.reduceBEq, Int.reduceBNe, Int.reduceLT, Int.reduceLE, Int.reduceGT, Int.reduceGE, Int.reduceNeg]
        refine ⟨ho, eW.grown hg ?_⟩
        intro k hk
        have h := hO.lt k hk
        exact h.1
theorem Clone_Case_ret (w0 : World) (v : Value) (css : List (Cs 3)) (hs : SliceOf w0 3 (fun _ cs x => cs = x.1) v css) (h1 : ∀ x ∈ css, ∀ u ∈ x.1, u.oneCell' = true) (hb : css.length ≤ 1048576) :
    Ret Try.prog 44 #[v] w0 fun r w' => OwnE w' w0.heap.size 62 3 Subtype.val r css ∧ Ext w0 w' := by
  obtain ⟨A, c, rfl, hlc, hcm, hlm, hel⟩ := SliceOf.open hs
  refine n_slices_Clone_api_Case_sound (R := retR _) ?_; unfold n_slices_Clone_api_Case
  simp (disch := first | assumption | (simp only [ONE]; done) | rfl | (simp only [SZ]; done) | omega | (simp only [SZ] at *; omega)) only [↓PR, QR, Int.reduceBEq, Int.reduceBNe, Int.reduceLT, Int.reduceLE, Int.reduceGT, Int.reduceGE, Int.reduceNeg]
  cases A with
  | none =>
    have : css = [] := by
      cases css with
      | nil => rfl
      | cons x l => obtain ⟨_, _, _, h, _⟩ := hel 0 x rfl; cases h
    subst this
    simp only [Option.isNone_none]
    simp (disch := first | assumption | (simp only [ONE]; done) | rfl | (simp only [SZ]; done) | omega | (simp only [SZ] at *; omega)) only [↓PR, QR, Int.reduceBEq, Int.reduceBNe, Int.reduceLT, Int.reduceLE, Int.reduceGT, Int.reduceGE, Int.reduceNeg]
    exact ⟨OwnE.nil _ _ _ _ _, ee⟩
  | some a =>
    simp only [Option.isNone_some]
    simp (disch := first | assumption | (simp only [ONE]; done) | rfl | (simp only [SZ]; done) | omega | (simp only [SZ] at *; omega)) only [↓PR, QR, Int.reduceBEq, Int.reduceBNe, Int.reduceLT, Int.reduceLE, Int.reduceGT, Int.reduceGE, Int.reduceNeg]
    have hO := OwnE.new w0 62 3 (Subtype.val : Cs 3 → List Value) [] (fun x => x.2) (by simp)
    simp only [List.flatMap_nil, List.length_nil] at hO
    have eW : Ext w0 (w0.alloc (.cells #[] 62)) := ee
    have hsz : w0.heap.size ≤ (w0.alloc (.cells #[] 62)).heap.size := eW.size
    generalize w0.alloc (.cells #[] 62) = W at hO eW hsz ⊢
    cases hcs : css with
    | nil =>
      subst hcs
      simp only [List.length_nil]
      rw [op_append0 Try.underlying26 ty62 _ _ _ _ _ (Nat.le_refl 0)]
      simp (disch := first | assumption | (simp only [ONE]; done) | rfl | (simp only [SZ]; done) | omega | (simp only [SZ] at *; omega)) only [↓PR, QR, Int.reduceBEq, Int.reduceBNe, Int.reduceLT, Int.reduceLE, Int.reduceGT, Int.reduceGE, Int.reduceNeg]
      exact ⟨hO, eW⟩
    | cons x0 l0 =>
      obtain ⟨b, o, _, hA, _⟩ := hel 0 x0 (by rw [hcs]; rfl)
      injection hA with hA
      subst hA
      rw [← hcs]
      refine op_appendE Try.underlying26 ty62 rfl (by decide) (fun x => x.2) h1 hO (fun j x hx => ?_) hsz ?_ (by simp; omega) ?_
      · obtain ⟨b', o', cs, hA', hl', hE, rfl⟩ := hel j x hx
        injection hA' with hA'
        injection hA' with h3 h4
        subst h3 h4
        exact hE.ext eW
      · have := by62
        rw [List.length_nil, Nat.zero_add]
        exact Nat.le_trans (Nat.mul_le_mul hb this) (by decide)
      · intro v' w' ho hg
        simp (disch := first | assumption | (simp only [ONE]; done) | rfl | (simp only [SZ]; done) | omega | (simp only [SZ] at *; omega)) only [↓PR, QR, Int.reduceBEq, Int.reduceBNe, Int.reduceLT, Int.reduceLE, Int.reduceGT, Int.reduceGE, Int.reduceNeg]
        refine ⟨ho, eW.grown hg ?_⟩
        intro k hk
        have h := hO.lt k hk
        exact h.1
theorem Clone_Field_ret (w0 : World) (v : Value) (css : List (Cs 15)) (hs : SliceOf w0 15 (fun _ cs x => cs = x.1) v css) (h1 : ∀ x ∈ css, ∀ u ∈ x.1, u.oneCell' = true) (hb : css.length ≤ 1048576) :
    Ret Try.prog 42 #[v] w0 fun r w' => OwnE w' w0.heap.size 28 15 Subtype.val r css ∧ Ext w0 w' := by
  obtain ⟨A, c, rfl, hlc, hcm, hlm, hel⟩ := SliceOf.open hs
  refine n_slices_Clone_api_Field_sound (R := retR _) ?_; unfold n_slices_Clone_api_Field
  simp (disch := first | assumption | (simp only [ONE]; done) | rfl | (simp only [SZ]; done) | omega | (simp only [SZ] at *; omega)) only [↓PR, QR, Int.reduceBEq, Int.reduceBNe, Int.reduceLT, Int.reduceLE, Int.reduceGT, Int.reduceGE, Int.reduceNeg]
  cases A with
  | none =>
    have : css = [] := by
      cases css with
      | nil => rfl
      | cons x l => obtain ⟨_, _, _, h, _⟩ := hel 0 x rfl; cases h
    subst this
    simp only [Option.isNone_none]
    simp (disch := first | assumption | (simp only [ONE]; done) | rfl | (simp only [SZ]; done) | omega | (simp only [SZ] at *; omega)) only [↓PR, QR, Int.reduceBEq, Int.reduceBNe, Int.reduceLT, Int.reduceLE, Int.reduceGT, Int.reduceGE, Int.reduceNeg]
    exact ⟨OwnE.nil _ _ _ _ _, ee⟩
  | some a =>
    simp only [Option.isNone_some]
    simp (disch := first | assumption | (simp only [ONE]; done) | rfl | (simp only [SZ]; done) | omega | (simp only [SZ] at *; omega)) only [↓PR, QR, Int.reduceBEq, Int.reduceBNe, Int.reduceLT, Int.reduceLE, Int.reduceGT, Int.reduceGE, Int.reduceNeg]
    have hO := OwnE.new w0 28 15 (Subtype.val : Cs 15 → List Value) [] (fun x => x.2) (by simp)
    simp only [List.flatMap_nil, List.length_nil] at hO
    have eW : Ext w0 (w0.alloc (.cells #[] 28)) := ee
    have hsz : w0.heap.size ≤ (w0.alloc (.cells #[] 28)).heap.size := eW.size
    generalize w0.alloc (.cells #[] 28) = W at hO eW hsz ⊢
    cases hcs : css with
    | nil =>
      subst hcs
      simp only [List.length_nil]
      rw [op_append0 Try.underlying48 ty28 _ _ _ _ _ (Nat.le_refl 0)]
      simp (disch := first | assumption | (simp only [ONE]; done) | rfl | (simp only [SZ]; done) | omega | (simp only [SZ] at *; omega)) only [↓PR, QR, Int.reduceBEq, Int.reduceBNe, Int.reduceLT, Int.reduceLE, Int.reduceGT, Int.reduceGE, Int.reduceNeg]
      exact ⟨hO, eW⟩
    | cons x0 l0 =>
      obtain ⟨b, o, _, hA, _⟩ := hel 0 x0 (by rw [hcs]; rfl)
      injection hA with hA
      subst hA
      rw [← hcs]
      refine op_appendE Try.underlying48 ty28 rfl (by decide) (fun x => x.2) h1 hO (fun j x hx => ?_) hsz ?_ (by simp; omega) ?_
      · obtain ⟨b', o', cs, hA', hl', hE, rfl⟩ := hel j x hx
        injection hA' with hA'
        injection hA' with h3 h4
        subst h3 h4
        exact hE.ext eW
      · have := by28
        rw [List.length_nil, Nat.zero_add]
        exact Nat.le_trans (Nat.mul_le_mul hb this) (by decide)
      · intro v' w' ho hg
        simp (disch := first | assumption | (simp only [ONE]; done) | rfl | (simp only [SZ]; done) | omega | (simp only [SZ] at *; omega)) only [↓PR, QR, Int.reduceBEq, Int.reduceBNe, Int.reduceLT, Int.reduceLE, Int.reduceGT, Int.reduceGE, Int.reduceNeg]
        refine ⟨ho, eW.grown hg ?_⟩
        intro k hk
        have h := hO.lt k hk
        exact h.1
theorem Clone_Message_ret (w0 : World) (v : Value) (css : List (Cs 2)) (hs : SliceOf w0 2 (fun _ cs x => cs = x.1) v css) (h1 : ∀ x ∈ css, ∀ u ∈ x.1, u.oneCell' = true) (hb : css.length ≤ 1048576) :
    Ret Try.prog 41 #[v] w0 fun r w' => OwnE w' w0.heap.size 50 2 Subtype.val r css ∧ Ext w0 w' := by
  obtain ⟨A, c, rfl, hlc, hcm, hlm, hel⟩ := SliceOf.open hs
  refine n_slices_Clone_api_Message_sound (R := retR _) ?_; unfold n_slices_Clone_api_Message
  simp (disch := first | assumption | (simp only [ONE]; done) | rfl | (simp only [SZ]; done) | omega | (simp only [SZ] at *; omega)) only [↓PR, QR, Int.reduceBEq, Int.reduceBNe, Int.reduceLT, Int.reduceLE, Int.reduceGT, Int.reduceGE, Int.reduceNeg]
  cases A with
  | none =>
    have : css = [] := by
      cases css with
      | nil => rfl
      | cons x l => obtain ⟨_, _, _, h, _⟩ := hel 0 x rfl; cases h
    subst this
    simp only [Option.isNone_none]
    simp (disch := first | assumption | (simp only [ONE]; done) | rfl | (simp only [SZ]; done) | omega | (simp only [SZ] at *; omega)) only [↓PR, QR, Int.reduceBEq, Int.reduceBNe, Int.reduceLT, Int.reduceLE, Int.reduceGT, Int.reduceGE, Int.reduceNeg]
    exact ⟨OwnE.nil _ _ _ _ _, ee⟩
  | some a =>
    simp only [Option.isNone_some]
    simp (disch := first | assumption | (simp only [ONE]; done) | rfl | (simp only [SZ]; done) | omega | (simp only [SZ] at *; omega)) only [↓PR, QR, Int.reduceBEq, Int.reduceBNe, Int.reduceLT, Int.reduceLE, Int.reduceGT, Int.reduceGE, Int.reduceNeg]
    have hO := OwnE.new w0 50 2 (Subtype.val : Cs 2 → List Value) [] (fun x => x.2) (by simp)
    simp only [List.flatMap_nil, List.length_nil] at hO
    have eW : Ext w0 (w0.alloc (.cells #[] 50)) := ee
    have hsz : w0.heap.size ≤ (w0.alloc (.cells #[] 50)).heap.size := eW.size
    generalize w0.alloc (.cells #[] 50) = W at hO eW hsz ⊢
    cases hcs : css with
    | nil =>
      subst hcs
      simp only [List.length_nil]
      rw [op_append0 Try.underlying42 ty50 _ _ _ _ _ (Nat.le_refl 0)]
      simp (disch := first | assumption | (simp only [ONE]; done) | rfl | (simp only [SZ]; done) | omega | (simp only [SZ] at *; omega)) only [↓PR, QR, Int.reduceBEq, Int.reduceBNe, Int.reduceLT, Int.reduceLE, Int.reduceGT, Int.reduceGE, Int.reduceNeg]
      exact ⟨hO, eW⟩
    | cons x0 l0 =>
      obtain ⟨b, o, _, hA, _⟩ := hel 0 x0 (by rw [hcs]; rfl)
      injection hA with hA
      subst hA
      rw [← hcs]
      refine op_appendE Try.underlying42 ty50 rfl (by decide) (fun x => x.2) h1 hO (fun j x hx => ?_) hsz ?_ (by simp; omega) ?_
      · obtain ⟨b', o', cs, hA', hl', hE, rfl⟩ := hel j x hx
        injection hA' with hA'
        injection hA' with h3 h4
        subst h3 h4
        exact hE.ext eW
      · have := by50
        rw [List.length_nil, Nat.zero_add]
        exact Nat.le_trans (Nat.mul_le_mul hb this) (by decide)
      · intro v' w' ho hg
        simp (disch := first | assumption | (simp only [ONE]; done) | rfl | (simp only [SZ]; done) | omega | (simp only [SZ] at *; omega)) only [↓PR, QR, Int.reduceBEq, Int.reduceBNe, Int.reduceLT, Int.reduceLE, Int.reduceGT, Int.reduceGE, Int.reduceNeg]
        refine ⟨ho, eW.grown hg ?_⟩
        intro k hk
        have h := hO.lt k hk
        exact h.1
abbrev TT : TypeId := 77
abbrev TC : TypeId := 62
abbrev TF : TypeId := 28
abbrev TM : TypeId := 50
def EFieldN (w : World) (lo hi : Nat) (cs : List Value) (f : FieldD) : Prop := ∃ tv cv, cs = fieldCells f tv cv ∧ OwnR w lo hi TT 2 (fun t : TermD => termCells t) tv f.terms ∧ OwnR w lo hi TC 3 (fun c : CaseD => caseCells c) cv f.cases
def FieldsN (w : World) (lo hi : Nat) (v : Value) (l : List FieldD) : Prop := ∃ css : List (Cs 15), OwnR w lo hi TF 15 Subtype.val v css ∧ Mates 15 (EFieldN w lo hi) css l
def EMsgN (w : World) (lo hi : Nat) (cs : List Value) (m : MsgD) : Prop := ∃ fv, cs = msgCells m fv ∧ FieldsN w lo hi fv m.fields
def MsgsN (w : World) (lo hi : Nat) (v : Value) (l : List MsgD) : Prop := ∃ css : List (Cs 2), OwnR w lo hi TM 2 Subtype.val v css ∧ Mates 2 (EMsgN w lo hi) css l
def DefN (w : World) (lo hi : Nat) (v : Value) (d : DefD) : Prop := ∃ mv, v = .agg (defCells d mv).toArray ∧ MsgsN w lo hi mv d.msgs
section
variable {w w' : World} {lo hi lo' hi' : Nat}
theorem EFieldN.ext {cs : List Value} {f : FieldD} (h : EFieldN w lo hi cs f) (e : Ext w w') : EFieldN w' lo hi cs f := by obtain ⟨tv, cv, h1, h2, h3⟩ := h; exact ⟨tv, cv, h1, h2.ext e, h3.ext e⟩
theorem FieldsN.ext {v : Value} {l : List FieldD} (h : FieldsN w lo hi v l) (e : Ext w w') : FieldsN w' lo hi v l := by obtain ⟨css, h1, h2⟩ := h; exact ⟨css, h1.ext e, h2.imp fun _ _ h => h.ext e⟩
theorem EMsgN.ext {cs : List Value} {m : MsgD} (h : EMsgN w lo hi cs m) (e : Ext w w') : EMsgN w' lo hi cs m := by obtain ⟨fv, h1, h2⟩ := h; exact ⟨fv, h1, h2.ext e⟩
theorem MsgsN.ext {v : Value} {l : List MsgD} (h : MsgsN w lo hi v l) (e : Ext w w') : MsgsN w' lo hi v l := by obtain ⟨css, h1, h2⟩ := h; exact ⟨css, h1.ext e, h2.imp fun _ _ h => h.ext e⟩
theorem DefN.ext {v : Value} {d : DefD} (h : DefN w lo hi v d) (e : Ext w w') : DefN w' lo hi v d := by obtain ⟨mv, h1, h2⟩ := h; exact ⟨mv, h1, h2.ext e⟩
theorem EFieldN.mono {cs : List Value} {f : FieldD} (h : EFieldN w lo hi cs f) (h1 : lo' ≤ lo) (h2 : hi ≤ hi') : EFieldN w lo' hi' cs f := by obtain ⟨tv, cv, a, b, c⟩ := h; exact ⟨tv, cv, a, b.mono h1 h2, c.mono h1 h2⟩
theorem FieldsN.mono {v : Value} {l : List FieldD} (h : FieldsN w lo hi v l) (h1 : lo' ≤ lo) (h2 : hi ≤ hi') : FieldsN w lo' hi' v l := by obtain ⟨css, a, b⟩ := h; exact ⟨css, a.mono h1 h2, b.imp fun _ _ h => h.mono h1 h2⟩
theorem EMsgN.mono {cs : List Value} {m : MsgD} (h : EMsgN w lo hi cs m) (h1 : lo' ≤ lo) (h2 : hi ≤ hi') : EMsgN w lo' hi' cs m := by obtain ⟨fv, a, b⟩ := h; exact ⟨fv, a, b.mono h1 h2⟩
theorem MsgsN.mono {v : Value} {l : List MsgD} (h : MsgsN w lo hi v l) (h1 : lo' ≤ lo) (h2 : hi ≤ hi') : MsgsN w lo' hi' v l := by obtain ⟨css, a, b⟩ := h; exact ⟨css, a.mono h1 h2, b.imp fun _ _ h => h.mono h1 h2⟩
def Harmless (w : World) (lo hi b : Nat) (Ts : List TypeId) : Prop := hi ≤ b ∨ b < lo ∨ ∃ T', TypeAt w b T' ∧ ∀ T ∈ Ts, T' ≠ T
theorem Harmless.one {b : Nat} {Ts : List TypeId} (h : Harmless w lo hi b Ts) {T : TypeId} (hT : T ∈ Ts) : hi ≤ b ∨ b < lo ∨ ∃ T', TypeAt w b T' ∧ T' ≠ T := by
  rcases h with h | h | ⟨T', h1, h2⟩
  · exact .inl h
  · exact .inr (.inl h)
  · exact .inr (.inr ⟨T', h1, h2 T hT⟩)
theorem Harmless.sub {b : Nat} {Ts Ts' : List TypeId} (h : Harmless w lo hi b Ts) (hs : ∀ T ∈ Ts', T ∈ Ts) : Harmless w lo hi b Ts' := by
  rcases h with h | h | ⟨T', h1, h2⟩
  · exact .inl h
  · exact .inr (.inl h)
  · exact .inr (.inr ⟨T', h1, fun T hT => h2 T (hs T hT)⟩)
theorem EFieldN.only {b : Nat} {cs : List Value} {f : FieldD} (h : EFieldN w lo hi cs f) (ho : Only b w w') (hb : Harmless w lo hi b [TT, TC]) : EFieldN w' lo hi cs f := by
  obtain ⟨tv, cv, h1, h2, h3⟩ := h
  exact ⟨tv, cv, h1, h2.only ho (hb.one (by simp)), h3.only ho (hb.one (by simp))⟩
theorem FieldsN.only {b : Nat} {v : Value} {l : List FieldD} (h : FieldsN w lo hi v l) (ho : Only b w w') (hb : Harmless w lo hi b [TT, TC, TF]) : FieldsN w' lo hi v l := by
  obtain ⟨css, h1, h2⟩ := h
  exact ⟨css, h1.only ho (hb.one (by simp)), h2.imp fun _ _ h => h.only ho (hb.sub (by simp))⟩
theorem EMsgN.only {b : Nat} {cs : List Value} {m : MsgD} (h : EMsgN w lo hi cs m) (ho : Only b w w') (hb : Harmless w lo hi b [TT, TC, TF]) : EMsgN w' lo hi cs m := by
  obtain ⟨fv, h1, h2⟩ := h; exact ⟨fv, h1, h2.only ho hb⟩
theorem EFieldN.plain {cs : List Value} {f : FieldD} (h : EFieldN w lo hi cs f) : EField w cs f := by
  obtain ⟨tv, cv, h1, h2, h3⟩ := h
  exact ⟨tv, cv, h1, h2.1.slice (fun _ => rfl) (fun _ _ => rfl), h3.1.slice (fun _ => rfl) (fun _ _ => rfl)⟩
theorem FieldsN.plain {v : Value} {l : List FieldD} (h : FieldsN w lo hi v l) : FieldsOf w v l := by
  obtain ⟨css, h1, h2⟩ := h; exact h1.1.reads (h2.imp fun _ _ h => h.plain)
theorem EMsgN.plain {cs : List Value} {m : MsgD} (h : EMsgN w lo hi cs m) : EMsg w cs m := by
  obtain ⟨fv, h1, h2⟩ := h; exact ⟨fv, h1, h2.plain⟩
theorem MsgsN.plain {v : Value} {l : List MsgD} (h : MsgsN w lo hi v l) : MsgsOf w v l := by
  obtain ⟨css, h1, h2⟩ := h; exact h1.1.reads (h2.imp fun _ _ h => h.plain)
theorem DefN.plain {v : Value} {d : DefD} (h : DefN w lo hi v d) : DefVal w v d := by
  obtain ⟨mv, h1, h2⟩ := h; exact ⟨mv, h1, h2.plain⟩
end
def tameF (f : FieldD) : Prop := f.terms.length ≤ 1048576 ∧ f.cases.length ≤ 1048576
def tameM (m : MsgD) : Prop := m.fields.length ≤ 1048576 ∧ ∀ f ∈ m.fields, tameF f
def tame (d : DefD) : Prop := d.msgs.length ≤ 1048576 ∧ ∀ m ∈ d.msgs, tameM m
theorem MsgsN.only {w w' : World} {lo hi b : Nat} {v : Value} {l : List MsgD} (h : MsgsN w lo hi v l) (ho : Only b w w') (hb : Harmless w lo hi b [TT, TC, TF, TM]) : MsgsN w' lo hi v l := by
  obtain ⟨css, h1, h2⟩ := h
  exact ⟨css, h1.only ho (hb.one (by simp)), h2.imp fun _ _ h => h.only ho (hb.sub (by simp))⟩
theorem EMsg.one {w : World} {cs : List Value} {m : MsgD} (h : EMsg w cs m) : ∀ u ∈ cs, u.oneCell' = true := by
  obtain ⟨fv, rfl, h1⟩ := h
  have := h1.oneCell
  intro u hu
  simp only [List.mem_cons, List.not_mem_nil, or_false] at hu
  rcases hu with rfl | rfl
  · rfl
  · exact this
theorem EField.one {w : World} {cs : List Value} {f : FieldD} (h : EField w cs f) : ∀ u ∈ cs, u.oneCell' = true := by
  obtain ⟨tv, cv, rfl, h1, h2⟩ := h
  have h1 := h1.oneCell
  have h2 := h2.oneCell
  intro u hu
  simp only [List.mem_cons, List.not_mem_nil, or_false] at hu
  rcases hu with rfl | rfl | rfl | rfl | rfl | rfl | rfl | rfl | rfl | rfl | rfl | rfl | rfl | rfl | rfl <;> first | rfl | assumption
theorem ETerm.one {w : World} {cs : List Value} {t : TermD} (h : ETerm w cs t) : ∀ u ∈ cs, u.oneCell' = true := by
  obtain rfl := h
  intro u hu
  simp only [List.mem_cons, List.not_mem_nil, or_false] at hu
  rcases hu with rfl | rfl <;> rfl
theorem ECase.one {w : World} {cs : List Value} {t : CaseD} (h : ECase w cs t) : ∀ u ∈ cs, u.oneCell' = true := by
  obtain rfl := h
  intro u hu
  simp only [List.mem_cons, List.not_mem_nil, or_false] at hu
  rcases hu with rfl | rfl | rfl <;> rfl
theorem Copy_ret (w0 : World) (v : Value) (d : DefD) (hd : DefVal w0 v d) (ht : tame d) :
    Ret Try.prog 23 #[v] w0 fun r w' => DefN w' w0.heap.size w'.heap.size r d ∧ Ext w0 w' := by
  obtain ⟨mv, rfl, hM⟩ := hd
  refine n_schema_Copy_sound (R := retR _) ?_; unfold n_schema_Copy
  simp (disch := first | assumption | (simp only [ONE]; done) | rfl | (simp only [SZ]; done) | omega | (simp only [SZ] at *; omega)) only [↓PR, QR, Int.reduceBEq, Int.reduceBNe, Int.reduceLT, Int.reduceLE, Int.reduceGT, Int.reduceGE, Int.reduceNeg]
  obtain ⟨cssM, hraw, hmates⟩ := SliceOf.raw hM
  generalize hW : (World.alloc (World.alloc w0 _) _) = W
  have eW : Ext w0 W := by rw [← hW]; exact ee
  have hsz : W.heap.size = w0.heap.size + 1 + 1 := by rw [← hW]; simp only [World.size_alloc]
  have hX : W.heap[w0.heap.size]? = some (.cells #[.string d.name, mv, .string d.start] 44 (0, 0)) := by
    rw [← hW]; exact ((Ext.refl _).alloc _).obj (heap_new w0 _ _)
  have hR : W.heap[w0.heap.size + 1]? = some (.cells #[.string ByteArray.empty, .slice none 0 0, .string ByteArray.empty] 44 (0, 0)) := by
    rw [← hW]
    have := heap_new (w0.alloc (Obj.cells (defCells d mv).toArray 44)) #[.string ByteArray.empty, .slice none 0 0, .string ByteArray.empty] 44
    rw [World.size_alloc] at this
    exact this
  clear hW
  refine callK_ret (Clone_Message_ret W mv cssM (hraw.ext keptRaw eW) (fun x hx => by obtain ⟨m, _, hm⟩ := hmates.mem hx; exact hm.one) (by rw [hmates.1]; exact ht.1)) ?_
  rintro t9 w1 ⟨hO, e1⟩
  obtain ⟨A, c, rfl, hlc, hcm, hlm, hel⟩ := SliceOf.open (hO.slice (E := fun _ cs x => cs = x.1) (fun x => x.2) (fun _ _ => rfl))
  clear hel
  have s1 := e1.size
  have hX1 := e1.obj hX
  have hX2 : (w1.setCell ⟨w0.heap.size, 1, none⟩ (.slice A cssM.length c)).heap[w0.heap.size]? = some (.cells #[.string d.name, .slice A cssM.length c, .string d.start] 44 (0, 0)) := by
    have := heap_set (o := 1) hX1 (.slice A cssM.length c)
    simpa using this
  have hR2 : (w1.setCell ⟨w0.heap.size, 1, none⟩ (.slice A cssM.length c)).heap[w0.heap.size + 1]? = some (.cells #[.string ByteArray.empty, .slice none 0 0, .string ByteArray.empty] 44 (0, 0)) := by
    rw [Only.setCell w1 w0.heap.size 1 _ _ (by omega)]; exact e1.obj hR
  have hO2 : OwnE (w1.setCell ⟨w0.heap.size, 1, none⟩ (.slice A cssM.length c)) W.heap.size TM 2 Subtype.val (.slice A cssM.length c) cssM := (hO.range.only (Only.setCell w1 w0.heap.size 1 _) (.inr (.inl (by omega)))).1
  have e02 : Ext w0 (w1.setCell ⟨w0.heap.size, 1, none⟩ (.slice A cssM.length c)) := (eW.trans e1).setCell (Nat.le_refl _) _
  simp (disch := first | assumption | (simp only [ONE]; done) | rfl | (simp only [SZ]; done) | omega | (simp only [SZ] at *; omega)) only [↓PR, QR, Int.reduceBEq, Int.reduceBNe, Int.reduceLT, Int.reduceLE, Int.reduceGT, Int.reduceGE, Int.reduceNeg, ↓n_schema_Copy_c1, ↓n_schema_Copy_c2, ↓n_schema_Copy_c3, ↓n_schema_Copy_c4, ↓n_schema_Copy_c5, ↓n_schema_Copy_c6, ↓n_schema_Copy_c7, ↓n_schema_Copy_c8, ↓n_schema_Copy_c9, (cells_of_heap hX1).1, (cells_of_heap hX1).2]
  generalize (World.setCell w1 ⟨w0.heap.size, 1, none⟩ (.slice A cssM.length c)) = w2 at hX2 hR2 hO2 e02 ⊢
  simp only [hmates.1] at *
  refine loop1_intro (fun a0 w => ∃ (k : Nat) , a0 = .int .i64 (k : Int) ∧ k ≤ d.msgs.length ∧ Ext w0 w ∧ (∃ css : List (Cs 2), OwnE w W.heap.size TM 2 Subtype.val (.slice A d.msgs.length c) css ∧ css.length = d.msgs.length ∧ (∀ (i : Nat) (m : MsgD) (cs : Cs 2), d.msgs[i]? = some m → css[i]? = some cs → if i < k then EMsgN w W.heap.size w.heap.size cs.1 m else EMsg w0 cs.1 m) ∧ Below W.heap.size w2 w)) (fun a0 _ => d.msgs.length - (intOf a0).toNat) ⟨0, rfl, Nat.zero_le _, ee, ⟨cssM, hO2, hmates.1, fun i m cs hm hcs => hmates.2 i m cs hm hcs, Below.refl _ _⟩⟩ ?_
  rintro _ w ⟨k, rfl, hk, e, hI⟩
  have se := e.size
  rcases drop_cases hk with ⟨x, hx, hd, hlt, hdec⟩ | ⟨hk, hd, hdec⟩
  · obtain ⟨css, hOc, hlen, hE, hBel⟩ := hI
    obtain ⟨cs, hcs⟩ := getElem?_lt (l := css) (k := k) (by omega)
    have hEk := hE k x cs hx hcs
    rw [if_neg (by omega)] at hEk
    obtain ⟨fv, hfv, hF⟩ := hEk
    obtain ⟨g, cap, hv, hglo, hglt, hTy, hfrz, hEl⟩ := hOc.row (fun x => x.2) (by omega)
    injection hv with hv hv' hv''
    subst hv hv''
    have hEk := hEl k cs hcs
    rw [hfv] at hEk
    have er := Ext.refl w
    have hXw : w.heap[w0.heap.size]? = some (.cells #[.string d.name, .slice (some ⟨g, 0, none⟩) d.msgs.length c, .string d.start] 44 (0, 0)) := (hBel.block _ (by omega)).trans hX2
    simp (disch := first | assumption | (simp only [ONE]; done) | rfl | (simp only [SZ]; done) | omega | (simp only [SZ] at *; omega)) only [↓PR, QR, Int.reduceBEq, Int.reduceBNe, Int.reduceLT, Int.reduceLE, Int.reduceGT, Int.reduceGE, Int.reduceNeg, ↓n_schema_Copy_c1, ↓n_schema_Copy_c2, ↓n_schema_Copy_c3, ↓n_schema_Copy_c4, ↓n_schema_Copy_c5, ↓n_schema_Copy_c6, ↓n_schema_Copy_c7, ↓n_schema_Copy_c8, ↓n_schema_Copy_c9, (cells_of_heap hXw).1, hdec, hEk.c2]
    obtain ⟨cssF, hrawF, hmatesF⟩ := SliceOf.raw hF
    have htx := ht.2 x (List.mem_of_getElem? hx)
    refine callK_ret (Clone_Field_ret w fv cssF (hrawF.ext keptRaw e) (fun y hy => by obtain ⟨m, _, hm⟩ := hmatesF.mem hy; exact hm.one) (by rw [hmatesF.1]; exact htx.1)) ?_
    rintro t26 w3 ⟨hOF, e3⟩
    obtain ⟨AF, cF, rfl, hlcF, hcmF, hlmF, helF⟩ := SliceOf.open (hOF.slice (E := fun _ cs x => cs = x.1) (fun x => x.2) (fun _ _ => rfl))
    clear helF
    have s3 := e3.size
    have hO3 := hOc.ext e3
    have hcsl : k < css.length := (List.getElem?_eq_some_iff.1 hcs).1
    simp only [hv'] at hO3
    have hO4 := hO3.set hcs (show 1 < 2 by decide) (.slice AF cssF.length cF)
    simp only [← hv'] at hO4
    have oG := Only.setCell w3 g (k * 2 + 1) (.slice AF cssF.length cF)
    have hF4 := (hOF.range.only oG (.inr (.inr ⟨TM, hTy.ext e3, by decide⟩))).1
    have e4 : Ext w0 (w3.setCell ⟨g, k * 2 + 1, none⟩ (.slice AF cssF.length cF)) := (e.trans e3).setCell (show w0.heap.size ≤ g by omega) _
    have hBel4 : Below W.heap.size w2 (w3.setCell ⟨g, k * 2 + 1, none⟩ (.slice AF cssF.length cF)) := (hBel.trans (e3.below.mono (by omega))).setCell hglo _
    have hTy4 : TypeAt (w3.setCell ⟨g, k * 2 + 1, none⟩ (.slice AF cssF.length cF)) g TM := by
      obtain ⟨cur, fr, h⟩ := hTy.ext e3
      exact ⟨_, fr, heap_set h _⟩
    have hprev : ∀ (i : Nat) (m : MsgD) (cs : Cs 2), i ≠ k → d.msgs[i]? = some m → css[i]? = some cs → if i < k then EMsgN (w3.setCell ⟨g, k * 2 + 1, none⟩ (.slice AF cssF.length cF)) W.heap.size w.heap.size cs.1 m else EMsg w0 cs.1 m := by
      intro i m cs' hik hm hcs'
      have h := hE i m cs' hm hcs'
      by_cases hlt' : i < k
      · rw [if_pos hlt'] at h ⊢
        exact (h.ext e3).only oG (.inr (.inr ⟨TM, hTy.ext e3, by decide⟩))
      · rw [if_neg hlt'] at h ⊢; exact h
    have hfrz3 : ∀ o, w3.frozen? ⟨g, o, none⟩ = false := fun o => by rw [e3.frozenQ hglt]; exact hfrz o
    simp (disch := first | assumption | (simp only [ONE]; done) | rfl | (simp only [SZ]; done) | omega | (simp only [SZ] at *; omega)) only [↓PR, QR, Int.reduceBEq, Int.reduceBNe, Int.reduceLT, Int.reduceLE, Int.reduceGT, Int.reduceGE, Int.reduceNeg, ↓n_schema_Copy_c1, ↓n_schema_Copy_c2, ↓n_schema_Copy_c3, ↓n_schema_Copy_c4, ↓n_schema_Copy_c5, ↓n_schema_Copy_c6, ↓n_schema_Copy_c7, ↓n_schema_Copy_c8, ↓n_schema_Copy_c9, hEk.c2, hfrz3]
    have hsz4 : w.heap.size ≤ (w3.setCell ⟨g, k * 2 + 1, none⟩ (.slice AF cssF.length cF)).heap.size := by simpa using s3
    generalize (World.setCell w3 ⟨g, k * 2 + 1, none⟩ (.slice AF cssF.length cF)) = w4 at hO4 hF4 e4 hBel4 hTy4 hprev hsz4 ⊢
    simp only [hmatesF.1] at *
    refine loop1_intro (fun a0 wa => ∃ (ka : Nat) , a0 = .int .i64 (ka : Int) ∧ ka ≤ x.fields.length ∧ Ext w0 wa ∧ (∃ cF' : List (Cs 15), OwnE wa w.heap.size TF 15 Subtype.val (.slice AF x.fields.length cF) cF' ∧ cF'.length = x.fields.length ∧ (∀ (i : Nat) (f : FieldD) (cs : Cs 15), x.fields[i]? = some f → cF'[i]? = some cs → if i < ka then EFieldN wa W.heap.size wa.heap.size cs.1 f else EField w0 cs.1 f) ∧ OwnE wa W.heap.size TM 2 Subtype.val (.slice (some ⟨g, 0, none⟩) d.msgs.length c) (css.set k ⟨cs.1.set 1 (.slice AF x.fields.length cF), by simp [cs.2]⟩) ∧ (∀ (i : Nat) (m : MsgD) (cs : Cs 2), i ≠ k → d.msgs[i]? = some m → css[i]? = some cs → if i < k then EMsgN wa W.heap.size w.heap.size cs.1 m else EMsg w0 cs.1 m) ∧ Below W.heap.size w2 wa ∧ TypeAt wa g TM ∧ w.heap.size ≤ wa.heap.size)) (fun a0 _ => x.fields.length - (intOf a0).toNat) ⟨0, rfl, Nat.zero_le _, ee, ⟨cssF, hF4, hmatesF.1, fun i m cs hm hcs => hmatesF.2 i m cs hm hcs, hO4, hprev, hBel4, hTy4, hsz4⟩⟩ ?_
    rintro _ wa ⟨ka, rfl, hka, ea, hIa⟩
    have sea := ea.size
    rcases drop_cases hka with ⟨xa, hxa, hda, hlta, hdeca⟩ | ⟨hka, hda, hdeca⟩
    · obtain ⟨cF', h1, h2, h3, h4, h5, h6, h7, h8⟩ := hIa
      obtain ⟨cf, hcf⟩ := getElem?_lt (l := cF') (k := ka) (by omega)
      have hEf := h3 ka xa cf hxa hcf
      rw [if_neg (by omega)] at hEf
      obtain ⟨tv, cv, hcfv, hT, hC⟩ := hEf
      obtain ⟨gF, capF, hvF, hgFlo, hgFlt, hTyF, hfrzF, hElF⟩ := h1.row (fun x => x.2) (by omega)
      injection hvF with hvF hvF' hvF''
      subst hvF hvF''
      have hEfk := hElF ka cf hcf
      rw [hcfv] at hEfk
      have era := Ext.refl wa
      obtain ⟨g', cap', hv2, _, hgltA, _, _, hElM⟩ := h4.row (fun x => x.2) (by simp; omega)
      injection hv2 with hv2 hv2' hv2''
      injection hv2 with hv2
      injection hv2 with hv2
      subst hv2
      have hEm := hElM k _ (List.getElem?_set_self hcsl)
      simp only [hfv, List.set_cons_succ, List.set_cons_zero] at hEm
      simp (disch := first | assumption | (simp only [ONE]; done) | rfl | (simp only [SZ]; done) | omega | (simp only [SZ] at *; omega)) only [↓PR, QR, Int.reduceBEq, Int.reduceBNe, Int.reduceLT, Int.reduceLE, Int.reduceGT, Int.reduceGE, Int.reduceNeg, ↓n_schema_Copy_c1, ↓n_schema_Copy_c2, ↓n_schema_Copy_c3, ↓n_schema_Copy_c4, ↓n_schema_Copy_c5, ↓n_schema_Copy_c6, ↓n_schema_Copy_c7, ↓n_schema_Copy_c8, ↓n_schema_Copy_c9, hdeca, hEm.c2, hEfk.c15]
      refine drawK_intro ?_
      simp (disch := first | assumption | (simp only [ONE]; done) | rfl | (simp only [SZ]; done) | omega | (simp only [SZ] at *; omega)) only [↓PR, QR, Int.reduceBEq, Int.reduceBNe, Int.reduceLT, Int.reduceLE, Int.reduceGT, Int.reduceGE, Int.reduceNeg, ↓n_schema_Copy_c1, ↓n_schema_Copy_c2, ↓n_schema_Copy_c3, ↓n_schema_Copy_c4, ↓n_schema_Copy_c5, ↓n_schema_Copy_c6, ↓n_schema_Copy_c7, ↓n_schema_Copy_c8, ↓n_schema_Copy_c9, hEfk.c15]
      obtain ⟨cssT, hrawT, hmatesT⟩ := SliceOf.raw hT
      obtain ⟨cssC, hrawC, hmatesC⟩ := SliceOf.raw hC
      have htf := htx.2 xa (List.mem_of_getElem? hxa)
      refine callK_ret (Clone_Term_ret wa.drew tv cssT (hrawT.ext keptRaw ea.wdrew) (fun y hy => by obtain ⟨m, _, hm⟩ := hmatesT.mem hy; exact hm.one) (by rw [hmatesT.1]; exact htf.1)) ?_
      rintro t50 w5 ⟨hOT, e5⟩
      refine ⟨e5, ?_⟩
      refine callK_ret (Clone_Case_ret w5 cv cssC (hrawC.ext keptRaw (ea.wdrew.trans e5)) (fun y hy => by obtain ⟨m, _, hm⟩ := hmatesC.mem hy; exact hm.one) (by rw [hmatesC.1]; exact htf.2)) ?_
      rintro t55 w6 ⟨hOC, e6⟩
      refine ⟨e5.trans e6, ?_⟩
      have s5 := e5.size
      have s6 := e6.size
      simp only [World.size_drew] at s5
      have eA6 : Ext wa w6 := era.wdrew.trans (e5.trans e6)
      have hTy6 := hTyF.ext eA6
      have hfrz6 : ∀ o, w6.frozen? ⟨gF, o, none⟩ = false := fun o => by rw [eA6.frozenQ hgFlt]; exact hfrzF o
      obtain ⟨AT, cT, rfl, _⟩ := SliceOf.open (hOT.slice (E := fun _ cs x => cs = x.1) (fun x => x.2) (fun _ _ => rfl))
      obtain ⟨AC, cC, rfl, _⟩ := SliceOf.open (hOC.slice (E := fun _ cs x => cs = x.1) (fun x => x.2) (fun _ _ => rfl))
      simp (disch := first | assumption | (simp only [ONE]; done) | rfl | (simp only [SZ]; done) | omega | (simp only [SZ] at *; omega)) only [↓PR, QR, Int.reduceBEq, Int.reduceBNe, Int.reduceLT, Int.reduceLE, Int.reduceGT, Int.reduceGE, Int.reduceNeg, ↓n_schema_Copy_c1, ↓n_schema_Copy_c2, ↓n_schema_Copy_c3, ↓n_schema_Copy_c4, ↓n_schema_Copy_c5, ↓n_schema_Copy_c6, ↓n_schema_Copy_c7, ↓n_schema_Copy_c8, ↓n_schema_Copy_c9, hEfk.c15, hfrz6]
      obtain ⟨w7, hw7⟩ : ∃ w7, w6.setCell ⟨gF, ka * 15 + 8, none⟩ (.slice AT cssT.length cT) = w7 := ⟨_, rfl⟩
      have o7 : Only gF w6 w7 := by rw [← hw7]; exact Only.setCell _ _ _ _
      have hE7 : ∀ j, w7.frozen? ⟨gF, j, none⟩ = false := fun j => by rw [← hw7, frozen_set]; exact hfrz6 j
      have hc7 : w7.cell? ⟨gF, ka * 15 + 12, none⟩ = some cv := by
        rw [← hw7, cell_set_other (by omega)]; exact eA6.cell (hEfk.c15 era).2.2.2.2.2.2.2.2.2.2.2.2.1
      have hTy7 : TypeAt w7 gF TF := by
        obtain ⟨cur, fr, h⟩ := hTy6
        exact ⟨_, fr, by rw [← hw7]; exact heap_set h _⟩
      have s7 : w7.heap.size = w6.heap.size := by rw [← hw7]; simp
      have h16 := h1.ext eA6
      have hcfl : ka < cF'.length := (List.getElem?_eq_some_iff.1 hcf).1
      simp only [hvF'] at h16
      have hF7 := h16.set hcf (show 8 < 15 by decide) (.slice AT cssT.length cT)
      rw [hw7] at hF7
      have e07 : Ext w0 w7 := by rw [← hw7]; exact (ea.trans eA6).setCell (show w0.heap.size ≤ gF by omega) _
      have hB7 : Below W.heap.size w2 w7 := by rw [← hw7]; exact (h6.trans (eA6.below.mono (by omega))).setCell (show W.heap.size ≤ gF by omega) _
      rw [hw7]
      refine turnK_intro ?_
      simp (disch := first | assumption | (simp only [ONE]; done) | rfl | (simp only [SZ]; done) | omega | (simp only [SZ] at *; omega)) only [↓PR, QR, Int.reduceBEq, Int.reduceBNe, Int.reduceLT, Int.reduceLE, Int.reduceGT, Int.reduceGE, Int.reduceNeg, ↓n_schema_Copy_c1, ↓n_schema_Copy_c2, ↓n_schema_Copy_c3, ↓n_schema_Copy_c4, ↓n_schema_Copy_c5, ↓n_schema_Copy_c6, ↓n_schema_Copy_c7, ↓n_schema_Copy_c8, ↓n_schema_Copy_c9, hc7, hE7]
      obtain ⟨w8, hw8⟩ : ∃ w8, w7.setCell ⟨gF, ka * 15 + 12, none⟩ (.slice AC cssC.length cC) = w8 := ⟨_, rfl⟩
      have o8 : Only gF w7 w8 := by rw [← hw8]; exact Only.setCell _ _ _ _
      have hF8 := hF7.set (List.getElem?_set_self hcfl) (show 12 < 15 by decide) (.slice AC cssC.length cC)
      rw [hw8] at hF8
      have s8 : w8.heap.size = w7.heap.size := by rw [← hw8]; simp
      have hTy8 : TypeAt w8 g TM := ((h7.ext eA6).only o7 (by rintro rfl; obtain ⟨_, _, a⟩ := h7; obtain ⟨_, _, b⟩ := hTyF; rw [a] at b; injection b with b; injection b with _ b _; exact absurd b (by decide))).only o8 (by rintro rfl; obtain ⟨_, _, a⟩ := h7; obtain ⟨_, _, b⟩ := hTyF; rw [a] at b; injection b with b; injection b with _ b _; exact absurd b (by decide))
      have e08 : Ext w0 w8 := by rw [← hw8]; exact e07.setCell (show w0.heap.size ≤ gF by omega) _
      have hB8 : Below W.heap.size w2 w8 := by rw [← hw8]; exact hB7.setCell (show W.heap.size ≤ gF by omega) _
      have hM8 := ((((h4.ext eA6).range.only o7 (.inr (.inr ⟨TF, hTy6, by decide⟩))).1).range.only o8 (.inr (.inr ⟨TF, hTy7, by decide⟩))).1
      have hT8 : OwnR w8 W.heap.size w8.heap.size TT 2 (fun t : TermD => termCells t) (.slice AT cssT.length cT) xa.terms := by
        have h := (((hOT.ext e6).range.only o7 (.inr (.inr ⟨TF, hTy6, by decide⟩))).only o8 (.inr (.inr ⟨TF, hTy7, by decide⟩)))
        refine ⟨(OwnE.mates h.1 (hmatesT.imp fun _ _ h => h)).base (by simp only [World.size_drew]; omega), fun b hb => ?_⟩
        have := h.2 b hb
        omega
      have hC8 : OwnR w8 W.heap.size w8.heap.size TC 3 (fun c : CaseD => caseCells c) (.slice AC cssC.length cC) xa.cases := by
        have h := ((hOC.range.only o7 (.inr (.inr ⟨TF, hTy6, by decide⟩))).only o8 (.inr (.inr ⟨TF, hTy7, by decide⟩)))
        refine ⟨(OwnE.mates h.1 (hmatesC.imp fun _ _ h => h)).base (by omega), fun b hb => ?_⟩
        have := h.2 b hb
        omega
      rw [hw8]
      refine turnK_intro ?_
      simp (disch := first | assumption | (simp only [ONE]; done) | rfl | (simp only [SZ]; done) | omega | (simp only [SZ] at *; omega)) only [↓PR, QR, Int.reduceBEq, Int.reduceBNe, Int.reduceLT, Int.reduceLE, Int.reduceGT, Int.reduceGE, Int.reduceNeg]
      have hf8 : ∀ (i : Nat) (f : FieldD) (cs'' : Cs 15), xa.name = xa.name → x.fields[i]? = some f → ((cF'.set ka ⟨cf.1.set 8 (.slice AT cssT.length cT), by simp [cf.2]⟩).set ka ⟨(cf.1.set 8 (.slice AT cssT.length cT)).set 12 (.slice AC cssC.length cC), by simp [cf.2]⟩)[i]? = some cs'' → if i < ka + 1 then EFieldN w8 W.heap.size w8.heap.size cs''.1 f else EField w0 cs''.1 f := by
        intro i f cs'' _ hf hcs''
        by_cases hik : i = ka
        · subst hik
          rw [if_pos (by omega)]
          rw [List.getElem?_set_self (by simp; omega)] at hcs''
          injection hcs'' with hcs''
          subst hcs''
          rw [hxa] at hf
          injection hf with hf
          subst hf
          exact ⟨_, _, by show (cf.1.set 8 _).set 12 _ = _; rw [hcfv]; rfl, hT8, hC8⟩
        · rw [List.getElem?_set_ne (Ne.symm hik), List.getElem?_set_ne (Ne.symm hik)] at hcs''
          have h := h3 i f cs'' hf hcs''
          by_cases hlt' : i < ka
          · rw [if_pos hlt'] at h
            rw [if_pos (by omega)]
            exact (((h.ext eA6).only o7 (.inr (.inr ⟨TF, hTy6, by decide⟩))).only o8 (.inr (.inr ⟨TF, hTy7, by decide⟩))).mono (Nat.le_refl _) (by omega)
          · rw [if_neg hlt'] at h
            rw [if_neg (by omega)]
            exact h
      have hm8 : ∀ (i : Nat) (m : MsgD) (cs : Cs 2), i ≠ k → d.msgs[i]? = some m → css[i]? = some cs → if i < k then EMsgN w8 W.heap.size w.heap.size cs.1 m else EMsg w0 cs.1 m := by
        intro i m cs' hik hm hcs'
        have h := h5 i m cs' hik hm hcs'
        by_cases hlt' : i < k
        · rw [if_pos hlt'] at h ⊢
          exact (((h.ext eA6).only o7 (.inl hgFlo)).only o8 (.inl hgFlo))
        · rw [if_neg hlt'] at h ⊢; exact h
      simp only [← hvF'] at hF8
      exact ⟨⟨ka + 1, rfl, by omega, ee, ⟨_, hF8, by simp [h2], fun i f cs'' hf hc => hf8 i f cs'' rfl hf hc, hM8, hm8, hB8, hTy8, by omega⟩⟩, meas_lt hlta⟩
    · subst hka
      obtain ⟨cF', h1, h2, h3, h4, h5, h6, h7, h8⟩ := hIa
      simp (disch := first | assumption | (simp only [ONE]; done) | rfl | (simp only [SZ]; done) | omega | (simp only [SZ] at *; omega)) only [↓PR, QR, Int.reduceBEq, Int.reduceBNe, Int.reduceLT, Int.reduceLE, Int.reduceGT, Int.reduceGE, Int.reduceNeg, ↓n_schema_Copy_c1, ↓n_schema_Copy_c2, ↓n_schema_Copy_c3, ↓n_schema_Copy_c4, ↓n_schema_Copy_c5, ↓n_schema_Copy_c6, ↓n_schema_Copy_c7, ↓n_schema_Copy_c8, ↓n_schema_Copy_c9, hdeca]
      have hfin : ∀ (i : Nat) (m : MsgD) (cs' : Cs 2), d.msgs[i]? = some m → (css.set k ⟨cs.1.set 1 (.slice AF x.fields.length cF), by simp [cs.2]⟩)[i]? = some cs' → if i < k + 1 then EMsgN wa W.heap.size wa.heap.size cs'.1 m else EMsg w0 cs'.1 m := by
        intro i m cs' hm hcs'
        by_cases hik : i = k
        · subst hik
          rw [if_pos (by omega)]
          rw [List.getElem?_set_self (by omega)] at hcs'
          injection hcs' with hcs'
          subst hcs'
          rw [hx] at hm
          injection hm with hm
          subst hm
          refine ⟨.slice AF x.fields.length cF, by show cs.1.set 1 _ = _; rw [hfv]; rfl, cF', ⟨h1.base (by omega), h1.range.2⟩, h2, fun j f cs'' hf hcs'' => ?_⟩
          have := h3 j f cs'' hf hcs''
          rw [if_pos (List.getElem?_eq_some_iff.1 hf).1] at this
          exact this
        · rw [List.getElem?_set_ne (Ne.symm hik)] at hcs'
          have h := h5 i m cs' hik hm hcs'
          by_cases hlt' : i < k
          · rw [if_pos hlt'] at h
            rw [if_pos (by omega)]
            exact h.mono (Nat.le_refl _) h8
          · rw [if_neg hlt'] at h
            rw [if_neg (by omega)]
            exact h
      exact ⟨⟨k + 1, rfl, by omega, ee, ⟨_, h4, by simp [hlen], hfin, h6⟩⟩, meas_lt hlt⟩
  · subst hk
    obtain ⟨css, hOc, hlen, hE, hBel⟩ := hI
    have hXw : w.heap[w0.heap.size]? = some (.cells #[.string d.name, .slice A d.msgs.length c, .string d.start] 44 (0, 0)) := (hBel.block _ (by omega)).trans hX2
    have hRw : w.heap[w0.heap.size + 1]? = some (.cells #[.string ByteArray.empty, .slice none 0 0, .string ByteArray.empty] 44 (0, 0)) := (hBel.block _ (by omega)).trans hR2
    have hN : MsgsN w W.heap.size w.heap.size (.slice A d.msgs.length c) d.msgs := by
      refine ⟨css, hOc.range, hlen, fun i m cs hm hcs => ?_⟩
      have := hE i m cs hm hcs
      rw [if_pos (List.getElem?_eq_some_iff.1 hm).1] at this
      exact this
    have ho : ∀ (w' : World) o v, MsgsN w' W.heap.size w.heap.size (.slice A d.msgs.length c) d.msgs → MsgsN (w'.setCell ⟨w0.heap.size + 1, o, none⟩ v) W.heap.size w.heap.size (.slice A d.msgs.length c) d.msgs := fun w' o v h => h.only (Only.setCell w' _ o v) (.inr (.inl (by omega)))
    simp (disch := first | assumption | (simp only [ONE]; done) | rfl | (simp only [SZ]; done) | omega | (simp only [SZ] at *; omega)) only [↓PR, QR, Int.reduceBEq, Int.reduceBNe, Int.reduceLT, Int.reduceLE, Int.reduceGT, Int.reduceGE, Int.reduceNeg, ↓n_schema_Copy_c1, ↓n_schema_Copy_c2, ↓n_schema_Copy_c3, ↓n_schema_Copy_c4, ↓n_schema_Copy_c5, ↓n_schema_Copy_c6, ↓n_schema_Copy_c7, ↓n_schema_Copy_c8, ↓n_schema_Copy_c9, hdec, (cells_of_heap hXw).1, (cells_of_heap hRw).1, (cells_of_heap hRw).2]
    refine ⟨⟨_, rfl, (ho _ _ _ (ho _ _ _ (ho _ _ _ hN))).mono (by omega) (by simp)⟩, ee⟩
end Go.Proofs.Ytiajhbbmgglmlaa
namespace Go.Proofs.Ytiajhbbmgglmlaa
open Sw
open Go.RowKit (intOf Below)
set_option maxRecDepth 100000
def numPairs (l : List FieldD) : List (ByteArray × Value) := (l.filter numberB).map fun f => (f.name, rangeVal f.low (highOf f))
theorem numPairs_snoc (l : List FieldD) (f : FieldD) : numPairs (l ++ [f]) = numPairs l ++ (if numberB f then [(f.name, rangeVal f.low (highOf f))] else []) := by
  unfold numPairs
  rw [List.filter_append, List.map_append]
  cases h : numberB f <;> simp [List.filter_cons, h]
theorem take_snoc {α : Type} {l : List α} {k : Nat} {x : α} (hx : l[k]? = some x) : l.take (k + 1) = l.take k ++ [x] := by
  rw [List.take_add_one, hx]; rfl
theorem ranges_ret (w0 : World) (v : Value) (l : List FieldD) (hs : FieldsOf w0 v l) :
    Ret Try.prog 40 #[v] w0 fun r w' => ∃ m, r = .map (some m) ∧ w0.heap.size ≤ m ∧ MapOf w' m (numPairs l) ∧ Ext w0 w' := by
  obtain ⟨A, c, rfl, hlc, hcm, hlm, hel⟩ := SliceOf.open hs
  refine n_schema_ranges_sound (R := retR _) ?_; unfold n_schema_ranges
  simp (disch := first | assumption | (simp only [ONE]; done) | rfl | (simp only [SZ]; done) | omega | (simp only [SZ] at *; omega)) only [↓PR, QR, Int.reduceBEq, Int.reduceBNe, Int.reduceLT, Int.reduceLE, Int.reduceGT, Int.reduceGE, Int.reduceNeg]
  have hM0 := MapOf.new w0
  have e0 : Ext w0 (w0.alloc (.map #[] 0)) := ee
  refine loop1_intro (fun a0 w => ∃ (k : Nat) , a0 = .int .i64 (k : Int) ∧ k ≤ l.length ∧ Ext w0 w ∧ MapOf w w0.heap.size (numPairs (l.take k))) (fun a0 _ => l.length - (intOf a0).toNat) ⟨0, rfl, Nat.zero_le _, ee, hM0⟩ ?_
  rintro _ w ⟨k, rfl, hk, e, hI⟩
  have se := e.size
  rcases drop_cases hk with ⟨x, hx, hd, hlt, hdec⟩ | ⟨hk, hd, hdec⟩
  · obtain ⟨b, o, cs, rfl, hl, hA, hE⟩ := hel k x hx
    obtain ⟨tv, cv, rfl, hT, hC, ht1, hc1⟩ := hE.op
    have hlt2 := hI.lt
    simp (disch := first | assumption | (simp only [ONE]; done) | rfl | (simp only [SZ]; done) | omega | (simp only [SZ] at *; omega)) only [↓PR, QR, Int.reduceBEq, Int.reduceBNe, Int.reduceLT, Int.reduceLE, Int.reduceGT, Int.reduceGE, Int.reduceNeg, ↓n_schema_ranges_c1, ↓n_schema_ranges_c2, ↓n_schema_ranges_c3, hdec, hA.c15]
    refine callK_ret (Range_ret _ _ x ⟨tv, cv, rfl, TermsOf.ext hT ee, CasesOf.ext hC ee⟩) ?_
    rintro _ w1 ⟨rfl, e1⟩
    have s1 := e1.size
    try simp only [World.size_alloc, World.size_setCell, World.size_drew, World.putObj_size, Sw.putW_size] at s1
    have hI1 := (hI.ext ((Ext.refl w).alloc _)).ext e1
    have hI2 : ∀ o, MapOf (w1.alloc o) w0.heap.size (numPairs (l.take k)) := fun o => hI1.ext ((Ext.refl w1).alloc _)
    cases hn : numberB x with
    | false =>
      simp (disch := first | assumption | (simp only [ONE]; done) | rfl | (simp only [SZ]; done) | omega | (simp only [SZ] at *; omega)) only [↓PR, QR, Int.reduceBEq, Int.reduceBNe, Int.reduceLT, Int.reduceLE, Int.reduceGT, Int.reduceGE, Int.reduceNeg, ↓n_schema_ranges_c1, ↓n_schema_ranges_c2, ↓n_schema_ranges_c3, e1.cellQ, e1.frozenQ, rangeVal]
      have hf := hI2 (.cells #[.int .i64 0, .int .i64 0] 31)
      rw [show numPairs (l.take k) = numPairs (l.take (k + 1)) by rw [take_snoc hx, numPairs_snoc, hn]; simp] at hf
      exact ⟨⟨k + 1, rfl, by omega, ee, hf⟩, meas_lt hlt⟩
    | true =>
      simp (disch := first | assumption | (simp only [ONE]; done) | rfl | (simp only [SZ]; done) | omega | (simp only [SZ] at *; omega)) only [↓PR, QR, Int.reduceBEq, Int.reduceBNe, Int.reduceLT, Int.reduceLE, Int.reduceGT, Int.reduceGE, Int.reduceNeg, ↓n_schema_ranges_c1, ↓n_schema_ranges_c2, ↓n_schema_ranges_c3, e1.cellQ, e1.frozenQ, rangeVal]
      have hf := hI2 (.cells #[.int .i64 x.low, .int .i64 (highOf x)] 31)
      rw [op_updateO Try.underlying53 Try.underlying9 hf]
      have hg := hf.put x.name (rangeVal x.low (highOf x))
      have eg : Ext w0 (putW (w1.alloc (.cells #[.int .i64 x.low, .int .i64 (highOf x)] 31)) w0.heap.size (numPairs (l.take k)) x.name (rangeVal x.low (highOf x))) := Ext.putW ee (Nat.le_refl _) _ _
      rw [show numPairs (l.take k) ++ [(x.name, rangeVal x.low (highOf x))] = numPairs (l.take (k + 1)) by rw [take_snoc hx, numPairs_snoc, hn]; simp] at hg
      simp (disch := first | assumption | (simp only [ONE]; done) | rfl | (simp only [SZ]; done) | omega | (simp only [SZ] at *; omega)) only [↓PR, QR, Int.reduceBEq, Int.reduceBNe, Int.reduceLT, Int.reduceLE, Int.reduceGT, Int.reduceGE, Int.reduceNeg, ↓n_schema_ranges_c1, ↓n_schema_ranges_c2, ↓n_schema_ranges_c3]
      exact ⟨⟨k + 1, rfl, by omega, ee, hg⟩, meas_lt hlt⟩
  · subst hk
    simp (disch := first | assumption | (simp only [ONE]; done) | rfl | (simp only [SZ]; done) | omega | (simp only [SZ] at *; omega)) only [↓PR, QR, Int.reduceBEq, Int.reduceBNe, Int.reduceLT, Int.reduceLE, Int.reduceGT, Int.reduceGE, Int.reduceNeg, ↓n_schema_ranges_c1, ↓n_schema_ranges_c2, ↓n_schema_ranges_c3, hdec]
    rw [List.take_length] at hI
    exact ⟨_, rfl, Nat.le_refl _, hI, e⟩
theorem Ranges_ret (w0 : World) (v : Value) (m : MsgD) (hm : MsgVal w0 v m) :
    Ret Try.prog 22 #[v] w0 fun r w' => ∃ b, r = .map (some b) ∧ w0.heap.size ≤ b ∧ MapOf w' b (numPairs m.fields) ∧ Ext w0 w' := by
  obtain ⟨fv, rfl, hF⟩ := hm
  refine n_schema_Ranges_sound (R := retR _) ?_; unfold n_schema_Ranges
  simp (disch := first | assumption | (simp only [ONE]; done) | rfl | (simp only [SZ]; done) | omega | (simp only [SZ] at *; omega)) only [↓PR, QR, Int.reduceBEq, Int.reduceBNe, Int.reduceLT, Int.reduceLE, Int.reduceGT, Int.reduceGE, Int.reduceNeg, Sw.joinK_eq]
  refine callK_ret (ranges_ret _ _ m.fields (hF.ext ee)) ?_
  rintro _ w1 ⟨b, rfl, hb, hM, e1⟩
  simp (disch := first | assumption | (simp only [ONE]; done) | rfl | (simp only [SZ]; done) | omega | (simp only [SZ] at *; omega)) only [↓PR, QR, Int.reduceBEq, Int.reduceBNe, Int.reduceLT, Int.reduceLE, Int.reduceGT, Int.reduceGE, Int.reduceNeg, Sw.joinK_eq]
  refine ⟨_, rfl, ?_, hM, ee⟩
  simp at hb
  omega
def TermsAt (w : World) (pb : Nat) (tv : Value) (ts : List TermD) : Prop := w.cell? ⟨pb, 0, none⟩ = some tv ∧ TermsOf w tv ts ∧ ∀ A m c, tv = .slice (some A) m c → pb < A.block
theorem TermsAt.ext {w w' : World} {pb : Nat} {tv : Value} {ts : List TermD} (h : TermsAt w pb tv ts) (e : Ext w w') : TermsAt w' pb tv ts := ⟨e.cell h.1, TermsOf.ext h.2.1 e, h.2.2⟩
theorem TermsAt.set {w : World} {pb : Nat} {tv : Value} {ts : List TermD} (h : TermsAt w pb tv ts) {b o : Nat} (hb : b < pb) (u : Value) : TermsAt (w.setCell ⟨b, o, none⟩ u) pb tv ts :=
  ⟨by rw [cell_set_other (by omega)]; exact h.1, SliceOf.setOther h.2.1 u (fun A m c e => by have := h.2.2 A m c e; omega) (fun _ _ h => h), h.2.2⟩
theorem Names_ret (w0 : World) (v : Value) (base : Int) (ts : List TermD) (hs : SizeVal w0 v base ts) (hb : ts.length ≤ 1048576) :
    Ret Try.prog 109 #[v] w0 fun r w' => ∃ pb tv, r = .func (.func 116) #[] #[.pointer (some ⟨pb, 0, none⟩)] ∧ TermsAt w' pb tv (if sizeB base ts then ts else []) ∧ w0.heap.size ≤ pb ∧ Ext w0 w' := by
  obtain ⟨tv, rfl, hT⟩ := hs
  have ht1 := SliceOf.oneCell hT
  refine n_size_Names_sound (R := retR _) ?_; unfold n_size_Names
  simp (disch := first | assumption | (simp only [ONE]; done) | rfl | (simp only [SZ]; done) | omega | (simp only [SZ] at *; omega)) only [↓PR, QR, Int.reduceBEq, Int.reduceBNe, Int.reduceLT, Int.reduceLE, Int.reduceGT, Int.reduceGE, Int.reduceNeg, ↓n_size_Names_c1]
  refine callK_ret (Valid_ret _ _ base ts ⟨tv, rfl, TermsOf.ext hT ee⟩) ?_
  rintro _ w1 ⟨rfl, e1⟩
  have s1 := e1.size
  try simp only [World.size_alloc, World.size_setCell, World.size_drew, World.putObj_size, Sw.putW_size] at s1
  cases hv : sizeB base ts with
  | false =>
    simp (disch := first | assumption | (simp only [ONE]; done) | rfl | (simp only [SZ]; done) | omega | (simp only [SZ] at *; omega)) only [↓PR, QR, Int.reduceBEq, Int.reduceBNe, Int.reduceLT, Int.reduceLE, Int.reduceGT, Int.reduceGE, Int.reduceNeg, ↓n_size_Names_c1]
    refine ⟨_, _, rfl, ⟨e1.cell (by simp (disch := first | assumption | (simp only [ONE]; done) | rfl | (simp only [SZ]; done) | omega | (simp only [SZ] at *; omega)) only [↓PR, QR, Int.reduceBEq, Int.reduceBNe, Int.reduceLT, Int.reduceLE, Int.reduceGT, Int.reduceGE, Int.reduceNeg]), SliceOf.nil _ _ _, fun A m c e => by cases e⟩, by omega, ee⟩
  | true =>
    simp (disch := first | assumption | (simp only [ONE]; done) | rfl | (simp only [SZ]; done) | omega | (simp only [SZ] at *; omega)) only [↓PR, QR, Int.reduceBEq, Int.reduceBNe, Int.reduceLT, Int.reduceLE, Int.reduceGT, Int.reduceGE, Int.reduceNeg, ↓n_size_Names_c1, e1.cellQ, e1.frozenQ]
    obtain ⟨cssT, hrawT, hmatesT⟩ := SliceOf.raw hT
    refine callK_ret (Clone_Term_ret _ tv cssT (hrawT.ext keptRaw ee) (fun y hy => by obtain ⟨m, _, hm⟩ := hmatesT.mem hy; exact hm.one) (by rw [hmatesT.1]; exact hb)) ?_
    rintro t8 w2 ⟨hO, e2⟩
    have s2 := e2.size
    have hO' := OwnE.mates hO (hmatesT.imp fun _ _ h => h)
    have hS := hO'.slice (E := ETerm) (fun _ => rfl) (fun _ _ => rfl)
    have h8 := SliceOf.oneCell hS
    have hTy : TypeAt w2 (w0.heap.size + 1) 23 := (TypeAt.ext (w := (w0.alloc _).alloc (.cells #[.slice none 0 0] 23)) ⟨_, _, by have := heap_new (w0.alloc (.cells #[.int .i64 base, tv] 25)) #[.slice none 0 0] 23; rw [World.size_alloc] at this; exact this⟩ (e1.trans e2))
    simp (disch := first | assumption | (simp only [ONE]; done) | rfl | (simp only [SZ]; done) | omega | (simp only [SZ] at *; omega)) only [↓PR, QR, Int.reduceBEq, Int.reduceBNe, Int.reduceLT, Int.reduceLE, Int.reduceGT, Int.reduceGE, Int.reduceNeg, ↓n_size_Names_c1, e1.cellQ, e1.frozenQ, e2.cellQ, e2.frozenQ]
    have hS2 := ((hO'.range.only (Only.setCell w2 (w0.heap.size + 1) 0 t8) (.inr (.inl (by omega)))).1).slice (E := ETerm) (fun _ => rfl) (fun _ _ => rfl)
    refine ⟨_, t8, rfl, ⟨?_, hS2, fun A m c e => by subst e; have := hO'.lt A.block rfl; omega⟩, by omega, ee⟩
    simp (disch := first | assumption | (simp only [ONE]; done) | rfl | (simp only [SZ]; done) | omega | (simp only [SZ] at *; omega)) only [↓PR, QR, Int.reduceBEq, Int.reduceBNe, Int.reduceLT, Int.reduceLE, Int.reduceGT, Int.reduceGE, Int.reduceNeg, e1.cellQ, e1.frozenQ, e2.cellQ, e2.frozenQ]
def namesX (ts : List TermD) (k : Nat) : Value := match ts[k]? with
  | some t => .string t.field
  | none => undef
theorem Names_seq (pb : Nat) (tv : Value) (ts : List TermD) : SeqIt Try.prog 116 #[.pointer (some ⟨pb, 0, none⟩)] ts.length (namesX ts) (fun w => TermsAt w pb tv ts) := by
  intro yv J Jx Jp w hFP hJe hJx hstep h0
  obtain ⟨hc, hT, _⟩ := hFP 0 w h0
  obtain ⟨A, c, rfl, hlc, hcm, hlm, hel⟩ := SliceOf.open hT
  refine n_size_Names_1_sound (t0 := yv) (t1 := .pointer (some ⟨pb, 0, none⟩)) ?_
  unfold n_size_Names_1
  simp (disch := first | assumption | (simp only [ONE]; done) | rfl | (simp only [SZ]; done) | omega | (simp only [SZ] at *; omega)) only [↓PR, QR, Int.reduceBEq, Int.reduceBNe, Int.reduceLT, Int.reduceLE, Int.reduceGT, Int.reduceGE, Int.reduceNeg, hc]
  refine loop1_intro (fun i w => ∃ k : Nat, i = .int .i64 k ∧ k ≤ ts.length ∧ J k w) (fun i _ => ts.length - (intOf i).toNat) ⟨0, rfl, by omega, h0⟩ ?_
  rintro i w' ⟨k, rfl, hk, hJ⟩
  rcases drop_cases hk with ⟨x, hx, hd, hlt, hdec⟩ | ⟨hk, hd, hdec⟩
  · obtain ⟨_, hT', _⟩ := hFP k w' hJ
    obtain ⟨A', c', hv, _, _, _, hel'⟩ := SliceOf.open hT'
    injection hv with hv _ hv'
    subst hv hv'
    obtain ⟨b, o, cs, rfl, hl, hA, rfl⟩ := hel' k x hx
    have er := Ext.refl w'
    simp (disch := first | assumption | (simp only [ONE]; done) | rfl | (simp only [SZ]; done) | omega | (simp only [SZ] at *; omega)) only [↓PR, QR, Int.reduceBEq, Int.reduceBNe, Int.reduceLT, Int.reduceLE, Int.reduceGT, Int.reduceGE, Int.reduceNeg, ↓n_size_Names_1_c1, ↓n_size_Names_1_c2, hdec, hA.c2]
    have hs := hstep k hlt _ (hJe k w' _ hJ ((Ext.refl w').alloc (.cells #[.string x.field, .int .i64 x.factor] 77)))
    rw [show namesX ts k = .string x.field by unfold namesX; rw [hx]] at hs
    refine callV_mono hs (fun ch w h => h) ?_
    rintro v w2 (⟨rfl, h2⟩ | ⟨rfl, h2⟩)
    · simp (disch := first | assumption | (simp only [ONE]; done) | rfl | (simp only [SZ]; done) | omega | (simp only [SZ] at *; omega)) only [↓PR, QR, Int.reduceBEq, Int.reduceBNe, Int.reduceLT, Int.reduceLE, Int.reduceGT, Int.reduceGE, Int.reduceNeg, ↓n_size_Names_1_c1, ↓n_size_Names_1_c2]
      exact ⟨⟨k + 1, rfl, by omega, h2⟩, meas_lt hlt⟩
    · simp (disch := first | assumption | (simp only [ONE]; done) | rfl | (simp only [SZ]; done) | omega | (simp only [SZ] at *; omega)) only [↓PR, QR, Int.reduceBEq, Int.reduceBNe, Int.reduceLT, Int.reduceLE, Int.reduceGT, Int.reduceGE, Int.reduceNeg, ↓n_size_Names_1_c1, ↓n_size_Names_1_c2]
      exact .inr h2
  · subst hk
    simp (disch := first | assumption | (simp only [ONE]; done) | rfl | (simp only [SZ]; done) | omega | (simp only [SZ] at *; omega)) only [↓PR, QR, Int.reduceBEq, Int.reduceBNe, Int.reduceLT, Int.reduceLE, Int.reduceGT, Int.reduceGE, Int.reduceNeg, ↓n_size_Names_1_c1, ↓n_size_Names_1_c2, hdec]
    exact .inl hJ
theorem TermsAt.lasts (B pb : Nat) (tv : Value) (ts : List TermD) : Lasts B (fun w => TermsAt w pb tv ts) :=
  Lasts.and (Lasts.cell B) (Lasts.and ⟨fun _ _ h e => TermsOf.ext h e, fun _ _ _ _ _ h hl => SliceOf.putLoop (fun _ _ h => h) hl h⟩ (Lasts.const _ _))
def checkedF (but : ByteArray) (ps : List (ByteArray × Value)) (p : Value → Bool) : List TermD → Bool → Int
  | [], no => if no then 9 else 0
  | t :: ts, no => if t.field = but then checkedF but ps p ts no else match lastOf ps t.field with
    | none => checkedF but ps p ts true
    | some v => if p v then checkedF but ps p ts no else 2
theorem checked_Range_ret (w0 : World) (v : Value) (base : Int) (ts : List TermD) (but : ByteArray) (m : Nat) (ps : List (ByteArray × Value)) (g : FuncId) (caps : Array Value) (p : Value → Bool) (hs : SizeVal w0 v base ts) (hb : ts.length ≤ 1048576)
    (hm : MapOf w0 m ps) (hr : ∀ k v, lastOf ps k = some v → ∃ lo hi, v = rangeVal lo hi) (hg : Callable Try.prog g) (hc : ∀ w lo hi, Ext w0 w → Ret Try.prog g (#[rangeVal lo hi] ++ caps) w fun r w' => r = .bool (p (rangeVal lo hi)) ∧ Ext w w') :
    Ret Try.prog 118 #[v, .string but, .map (some m), .func (.func g) #[] caps] w0 fun r w' => r = .int .i64 (if sizeB base ts then checkedF but ps p ts false else 2) ∧ Ext w0 w' := by
  obtain ⟨tv, rfl, hT⟩ := hs
  have ht1 := SliceOf.oneCell hT
  have hmlt := hm.lt
  refine n_size_checked_api_Range_sound (R := retR _) ?_; unfold n_size_checked_api_Range
  simp (disch := first | assumption | (simp only [ONE]; done) | rfl | (simp only [SZ]; done) | omega | (simp only [SZ] at *; omega)) only [↓PR, QR, Int.reduceBEq, Int.reduceBNe, Int.reduceLT, Int.reduceLE, Int.reduceGT, Int.reduceGE, Int.reduceNeg, ↓n_size_checked_api_Range_c1, ↓n_size_checked_api_Range_c2, ↓n_size_checked_api_Range_c3, ↓n_size_checked_api_Range_c4, ↓n_size_checked_api_Range_c5, ↓n_size_checked_api_Range_c6]
  refine callK_ret (Valid_ret _ _ base ts ⟨tv, rfl, TermsOf.ext hT ee⟩) ?_
  rintro _ w1 ⟨rfl, e1⟩
  have s1 := e1.size
  try simp only [World.size_alloc, World.size_setCell, World.size_drew, World.putObj_size, Sw.putW_size] at s1
  cases hv : sizeB base ts with
  | false =>
    simp (disch := first | assumption | (simp only [ONE]; done) | rfl | (simp only [SZ]; done) | omega | (simp only [SZ] at *; omega)) only [↓PR, QR, Int.reduceBEq, Int.reduceBNe, Int.reduceLT, Int.reduceLE, Int.reduceGT, Int.reduceGE, Int.reduceNeg, ↓n_size_checked_api_Range_c1, ↓n_size_checked_api_Range_c2, ↓n_size_checked_api_Range_c3, ↓n_size_checked_api_Range_c4, ↓n_size_checked_api_Range_c5, ↓n_size_checked_api_Range_c6, e1.cellQ, e1.frozenQ, outX_nil, retV, resOne]
    exact ⟨by first | trivial | rfl, ee⟩
  | true =>
    simp (disch := first | assumption | (simp only [ONE]; done) | rfl | (simp only [SZ]; done) | omega | (simp only [SZ] at *; omega)) only [↓PR, QR, Int.reduceBEq, Int.reduceBNe, Int.reduceLT, Int.reduceLE, Int.reduceGT, Int.reduceGE, Int.reduceNeg, ↓n_size_checked_api_Range_c1, ↓n_size_checked_api_Range_c2, ↓n_size_checked_api_Range_c3, ↓n_size_checked_api_Range_c4, ↓n_size_checked_api_Range_c5, ↓n_size_checked_api_Range_c6, e1.cellQ, e1.frozenQ]
    refine callK_ret (Names_ret _ _ base ts ⟨tv, rfl, TermsOf.ext hT ee⟩ hb) ?_
    rintro _ w2 ⟨pb, tv2, rfl, hTA, hpb, e2⟩
    rw [hv] at hTA
    simp only [if_true] at hTA
    have s2 := e2.size
    simp only [World.size_alloc] at s2 hpb
    have o5 : w2.heap[w0.heap.size + 1]? = some (.cells #[.string but] 9 (0, 0)) := by simp (disch := first | assumption | (simp only [ONE]; done) | rfl | (simp only [SZ]; done) | omega | (simp only [SZ] at *; omega)) only [↓PR, QR, Int.reduceBEq, Int.reduceBNe, Int.reduceLT, Int.reduceLE, Int.reduceGT, Int.reduceGE, Int.reduceNeg, e1.heapQ, e2.heapQ]
    have o6 : w2.heap[w0.heap.size + 1 + 1]? = some (.cells #[.map (some m)] 53 (0, 0)) := by simp (disch := first | assumption | (simp only [ONE]; done) | rfl | (simp only [SZ]; done) | omega | (simp only [SZ] at *; omega)) only [↓PR, QR, Int.reduceBEq, Int.reduceBNe, Int.reduceLT, Int.reduceLE, Int.reduceGT, Int.reduceGE, Int.reduceNeg, e1.heapQ, e2.heapQ]
    have o7 : w2.heap[w0.heap.size + 1 + 1 + 1]? = some (.cells #[.func (.func g) #[] caps] 145 (0, 0)) := by simp (disch := first | assumption | (simp only [ONE]; done) | rfl | (simp only [SZ]; done) | omega | (simp only [SZ] at *; omega)) only [↓PR, QR, Int.reduceBEq, Int.reduceBNe, Int.reduceLT, Int.reduceLE, Int.reduceGT, Int.reduceGE, Int.reduceNeg, e1.heapQ, e2.heapQ]
    have o8 : w2.heap[w0.heap.size + 1 + 1 + 1 + 1]? = some (.cells #[.int .i64 0] 32 (0, 0)) := by simp (disch := first | assumption | (simp only [ONE]; done) | rfl | (simp only [SZ]; done) | omega | (simp only [SZ] at *; omega)) only [↓PR, QR, Int.reduceBEq, Int.reduceBNe, Int.reduceLT, Int.reduceLE, Int.reduceGT, Int.reduceGE, Int.reduceNeg, e1.heapQ, e2.heapQ]
    have o9 : w2.heap[w1.heap.size]? = some (.cells #[.bool false] 4 (0, 0)) := by simp (disch := first | assumption | (simp only [ONE]; done) | rfl | (simp only [SZ]; done) | omega | (simp only [SZ] at *; omega)) only [↓PR, QR, Int.reduceBEq, Int.reduceBNe, Int.reduceLT, Int.reduceLE, Int.reduceGT, Int.reduceGE, Int.reduceNeg, e1.heapQ, e2.heapQ]
    have eW : Ext w0 w2 := ee
    simp only [World.size_alloc]
    unfold n_size_checked_api_Range_c4
    let I : Nat → World → Prop := fun k w => Ext w0 w ∧ w.heap[w0.heap.size + 1]? = some (.cells #[.string but] 9 (0, 0)) ∧ w.heap[w0.heap.size + 1 + 1]? = some (.cells #[.map (some m)] 53 (0, 0)) ∧
      w.heap[w0.heap.size + 1 + 1 + 1]? = some (.cells #[.func (.func g) #[] caps] 145 (0, 0)) ∧ TermsAt w pb tv2 ts ∧
      ∃ nb x, w.heap[w0.heap.size + 1 + 1 + 1 + 1]? = some (.cells #[.int .i64 x] 32 (0, 0)) ∧ w.heap[w1.heap.size]? = some (.cells #[.bool nb] 4 (0, 0)) ∧ checkedF but ps p (ts.drop k) nb = checkedF but ps p ts false
    let Ix : Nat → World → Prop := fun c w => c = 0 ∧ Ext w0 w ∧ w.heap[w0.heap.size + 1 + 1 + 1 + 1]? = some (.cells #[.int .i64 2] 32 (0, 0)) ∧ checkedF but ps p ts false = 2
    have hLI : ∀ k, Lasts w2.heap.size (I k) := fun k => Lasts.and (Lasts.from (by omega)) (Lasts.and (Lasts.has _ (by simp)) (Lasts.and (Lasts.has _ (by simp)) (Lasts.and (Lasts.has _ (by simp)) (Lasts.and (TermsAt.lasts _ _ _ _)
      (Lasts.ex fun nb => Lasts.ex fun x => Lasts.and (Lasts.has _ (by simp)) (Lasts.and (Lasts.has _ (by simp)) (Lasts.const _ _)))))))
    have hLX : ∀ k, Lasts w2.heap.size (Ix k) := fun k => Lasts.and (Lasts.const _ _) <| Lasts.and (Lasts.from (by omega)) (Lasts.and (Lasts.has _ (by simp)) (Lasts.const _ _))
    refine ⟨_, _, ts.length, namesX ts, fun w => TermsAt w pb tv2 ts, I, Ix, fun _ _ => False, rfl, c116, Names_seq pb tv2 ts, ⟨eW, o5, o6, o7, hTA, false, 0, o8, o9, rfl⟩, fun k w h => h.2.2.2.2.1, hLI, hLX, ?_, ?_, ?_, ?_⟩
    · intro rec j w3 hj hI3 hrec hready
      refine ⟨hready, fun w4 hbz => ?_⟩
      have hrec4 := hrec.busied hbz
      have hI4 := (hLI j).busied hbz (Nat.le_succ _) hI3
      clear hI3 hrec hready hbz
      obtain ⟨e4, o5, o6, o7, hTA4, nb, x, o8, o9, hF⟩ := hI4
      obtain ⟨t, hx⟩ := getElem?_lt hj
      rw [show namesX ts j = .string t.field by unfold namesX; rw [hx]]
      have hd : ts.drop j = t :: ts.drop (j + 1) := by
        rw [List.drop_eq_getElem_cons hj]
        congr 1
        exact (List.getElem?_eq_some_iff.1 hx).2
      rw [hd] at hF
      simp only [checkedF] at hF
      have hm4 := hm.ext e4
      have s4 := e4.size
      have l9 : w1.heap.size < w4.heap.size := (Array.getElem?_eq_some_iff.1 o9).1
      have l8 : w0.heap.size + 1 + 1 + 1 + 1 < w4.heap.size := (Array.getElem?_eq_some_iff.1 o8).1
      simp (disch := first | assumption | (simp only [ONE]; done) | rfl | (simp only [SZ]; done) | omega | (simp only [SZ] at *; omega)) only [↓PR, QR, Int.reduceBEq, Int.reduceBNe, Int.reduceLT, Int.reduceLE, Int.reduceGT, Int.reduceGE, Int.reduceNeg, ↓n_size_checked_api_Range_c1, ↓n_size_checked_api_Range_c2, ↓n_size_checked_api_Range_c3, ↓n_size_checked_api_Range_c4, ↓n_size_checked_api_Range_c5, ↓n_size_checked_api_Range_c6, (cells_of_heap o5).1, (cells_of_heap o6).1]
      rw [op_lookupO Try.underlying53 Try.underlying9 ty31 hm4]
      have next : ∀ nb' w5, Ext w4 w5 → checkedF but ps p (ts.drop (j + 1)) nb' = checkedF but ps p ts false → nb' = nb → I (j + 1) w5 := fun nb' w5 e5 h hn => (hLI (j + 1)).ext _ _ ⟨e4, o5, o6, o7, hTA4, nb, x, o8, o9, hn ▸ h⟩ e5
      cases hl : lastOf ps t.field with
      | none =>
        rw [hl] at hF
        simp (disch := first | assumption | (simp only [ONE]; done) | rfl | (simp only [SZ]; done) | omega | (simp only [SZ] at *; omega)) only [↓PR, QR, Int.reduceBEq, Int.reduceBNe, Int.reduceLT, Int.reduceLE, Int.reduceGT, Int.reduceGE, Int.reduceNeg, ↓n_size_checked_api_Range_c1, ↓n_size_checked_api_Range_c2, ↓n_size_checked_api_Range_c3, ↓n_size_checked_api_Range_c4, ↓n_size_checked_api_Range_c5, ↓n_size_checked_api_Range_c6, (cells_of_heap o5).1]
        by_cases hbut : t.field = but
        · rw [if_pos hbut] at hF
          simp only [hbut, decide_true]
          simp (disch := first | assumption | (simp only [ONE]; done) | rfl | (simp only [SZ]; done) | omega | (simp only [SZ] at *; omega)) only [↓PR, QR, Int.reduceBEq, Int.reduceBNe, Int.reduceLT, Int.reduceLE, Int.reduceGT, Int.reduceGE, Int.reduceNeg]
          exact ⟨hrec4.alloc _, next nb _ ee hF rfl⟩
        · rw [if_neg hbut] at hF
          simp only [hbut, decide_false]
          simp (disch := first | assumption | (simp only [ONE]; done) | rfl | (simp only [SZ]; done) | omega | (simp only [SZ] at *; omega)) only [↓PR, QR, Int.reduceBEq, Int.reduceBNe, Int.reduceLT, Int.reduceLE, Int.reduceGT, Int.reduceGE, Int.reduceNeg, ↓n_size_checked_api_Range_c1, ↓n_size_checked_api_Range_c2, ↓n_size_checked_api_Range_c3, ↓n_size_checked_api_Range_c4, ↓n_size_checked_api_Range_c5, ↓n_size_checked_api_Range_c6, (cells_of_heap o9).1, (cells_of_heap o9).2]
          refine ⟨(hrec4.setCell _ _).alloc _, ee, by simp (disch := first | assumption | (simp only [ONE]; done) | rfl | (simp only [SZ]; done) | omega | (simp only [SZ] at *; omega)) only [↓PR, QR, Int.reduceBEq, Int.reduceBNe, Int.reduceLT, Int.reduceLE, Int.reduceGT, Int.reduceGE, Int.reduceNeg, o5], by simp (disch := first | assumption | (simp only [ONE]; done) | rfl | (simp only [SZ]; done) | omega | (simp only [SZ] at *; omega)) only [↓PR, QR, Int.reduceBEq, Int.reduceBNe, Int.reduceLT, Int.reduceLE, Int.reduceGT, Int.reduceGE, Int.reduceNeg, o6], by simp (disch := first | assumption | (simp only [ONE]; done) | rfl | (simp only [SZ]; done) | omega | (simp only [SZ] at *; omega)) only [↓PR, QR, Int.reduceBEq, Int.reduceBNe, Int.reduceLT, Int.reduceLE, Int.reduceGT, Int.reduceGE, Int.reduceNeg, o7], (hTA4.set (by omega) _).ext ((Ext.refl _).alloc _), true, x, by simp (disch := first | assumption | (simp only [ONE]; done) | rfl | (simp only [SZ]; done) | omega | (simp only [SZ] at *; omega)) only [↓PR, QR, Int.reduceBEq, Int.reduceBNe, Int.reduceLT, Int.reduceLE, Int.reduceGT, Int.reduceGE, Int.reduceNeg, o8], ?_, hF⟩
          have := ((Ext.refl _).alloc (.cells #[.int .i64 0, .int .i64 0] 31)).obj (heap_set (o := 0) o9 (.bool true))
          simpa using this
      | some v =>
        obtain ⟨lo, hi, rfl⟩ := hr _ _ hl
        rw [hl] at hF
        simp (disch := first | assumption | (simp only [ONE]; done) | rfl | (simp only [SZ]; done) | omega | (simp only [SZ] at *; omega)) only [↓PR, QR, Int.reduceBEq, Int.reduceBNe, Int.reduceLT, Int.reduceLE, Int.reduceGT, Int.reduceGE, Int.reduceNeg, ↓n_size_checked_api_Range_c1, ↓n_size_checked_api_Range_c2, ↓n_size_checked_api_Range_c3, ↓n_size_checked_api_Range_c4, ↓n_size_checked_api_Range_c5, ↓n_size_checked_api_Range_c6, (cells_of_heap o5).1, rangeVal]
        by_cases hbut : t.field = but
        · rw [if_pos hbut] at hF
          simp only [hbut, decide_true]
          simp (disch := first | assumption | (simp only [ONE]; done) | rfl | (simp only [SZ]; done) | omega | (simp only [SZ] at *; omega)) only [↓PR, QR, Int.reduceBEq, Int.reduceBNe, Int.reduceLT, Int.reduceLE, Int.reduceGT, Int.reduceGE, Int.reduceNeg]
          exact ⟨hrec4.alloc _, next nb _ ee hF rfl⟩
        · rw [if_neg hbut] at hF
          simp only [hbut, decide_false]
          simp (disch := first | assumption | (simp only [ONE]; done) | rfl | (simp only [SZ]; done) | omega | (simp only [SZ] at *; omega)) only [↓PR, QR, Int.reduceBEq, Int.reduceBNe, Int.reduceLT, Int.reduceLE, Int.reduceGT, Int.reduceGE, Int.reduceNeg, ↓n_size_checked_api_Range_c1, ↓n_size_checked_api_Range_c2, ↓n_size_checked_api_Range_c3, ↓n_size_checked_api_Range_c4, ↓n_size_checked_api_Range_c5, ↓n_size_checked_api_Range_c6, (cells_of_heap o7).1]
          rw [callV_func hg]
          refine callK_ret (hc _ lo hi ee) ?_
          rintro _ w6 ⟨rfl, e6⟩
          have s6 := e6.size
          simp only [World.size_alloc] at s6
          cases hp : p (rangeVal lo hi) with
          | true =>
            simp only [hp, if_true] at hF
            simp (disch := first | assumption | (simp only [ONE]; done) | rfl | (simp only [SZ]; done) | omega | (simp only [SZ] at *; omega)) only [↓PR, QR, Int.reduceBEq, Int.reduceBNe, Int.reduceLT, Int.reduceLE, Int.reduceGT, Int.reduceGE, Int.reduceNeg, ↓n_size_checked_api_Range_c1, ↓n_size_checked_api_Range_c2, ↓n_size_checked_api_Range_c3, ↓n_size_checked_api_Range_c4, ↓n_size_checked_api_Range_c5, ↓n_size_checked_api_Range_c6]
            exact ⟨(hrec4.alloc _).ext e6, next nb _ ee hF rfl⟩
          | false =>
            simp only [hp, Bool.false_eq_true, if_false] at hF
            simp (disch := first | assumption | (simp only [ONE]; done) | rfl | (simp only [SZ]; done) | omega | (simp only [SZ] at *; omega)) only [↓PR, QR, Int.reduceBEq, Int.reduceBNe, Int.reduceLT, Int.reduceLE, Int.reduceGT, Int.reduceGE, Int.reduceNeg, ↓n_size_checked_api_Range_c1, ↓n_size_checked_api_Range_c2, ↓n_size_checked_api_Range_c3, ↓n_size_checked_api_Range_c4, ↓n_size_checked_api_Range_c5, ↓n_size_checked_api_Range_c6, e6.cellQ, e6.frozenQ, (cells_of_heap o8).1, (cells_of_heap o8).2]
            refine ⟨((hrec4.alloc _).ext e6).setCell _ _, rfl, ee, ?_, hF.symm⟩
            have := heap_set (o := 0) ((((Ext.refl w4).alloc (.cells #[.int .i64 lo, .int .i64 hi] 31)).trans e6).obj o8) (.int .i64 2)
            simpa using this
    · rintro w3 ⟨e3, o5, o6, o7, hTA3, nb, x, o8, o9, hF⟩ hmk
      rw [List.drop_length] at hF
      simp only [checkedF] at hF
      have l2 : w2.heap.size < w3.heap.size := (Array.getElem?_eq_some_iff.1 hmk).1
      cases nb with
      | true =>
        simp (disch := first | assumption | (simp only [ONE]; done) | rfl | (simp only [SZ]; done) | omega | (simp only [SZ] at *; omega)) only [↓PR, QR, Int.reduceBEq, Int.reduceBNe, Int.reduceLT, Int.reduceLE, Int.reduceGT, Int.reduceGE, Int.reduceNeg, ↓n_size_checked_api_Range_c1, ↓n_size_checked_api_Range_c2, ↓n_size_checked_api_Range_c3, ↓n_size_checked_api_Range_c4, ↓n_size_checked_api_Range_c5, ↓n_size_checked_api_Range_c6, (cells_of_heap o8).1, (cells_of_heap o8).2, (cells_of_heap o9).1]
        refine outX_mark (hmk.setCell _ _) ?_
        simp (disch := first | assumption | (simp only [ONE]; done) | rfl | (simp only [SZ]; done) | omega | (simp only [SZ] at *; omega)) only [↓PR, QR, Int.reduceBEq, Int.reduceBNe, Int.reduceLT, Int.reduceLE, Int.reduceGT, Int.reduceGE, Int.reduceNeg, outX_nil, retV, resOne, cell_putMark (hmk.setCell _ _), (cells_of_heap o8).1]
        exact ⟨by rw [← hF]; rfl, ee⟩
      | false =>
        simp (disch := first | assumption | (simp only [ONE]; done) | rfl | (simp only [SZ]; done) | omega | (simp only [SZ] at *; omega)) only [↓PR, QR, Int.reduceBEq, Int.reduceBNe, Int.reduceLT, Int.reduceLE, Int.reduceGT, Int.reduceGE, Int.reduceNeg, ↓n_size_checked_api_Range_c1, ↓n_size_checked_api_Range_c2, ↓n_size_checked_api_Range_c3, ↓n_size_checked_api_Range_c4, ↓n_size_checked_api_Range_c5, ↓n_size_checked_api_Range_c6, (cells_of_heap o8).1, (cells_of_heap o8).2, (cells_of_heap o9).1]
        refine outX_mark (hmk.setCell _ _) ?_
        simp (disch := first | assumption | (simp only [ONE]; done) | rfl | (simp only [SZ]; done) | omega | (simp only [SZ] at *; omega)) only [↓PR, QR, Int.reduceBEq, Int.reduceBNe, Int.reduceLT, Int.reduceLE, Int.reduceGT, Int.reduceGE, Int.reduceNeg, outX_nil, retV, resOne, cell_putMark (hmk.setCell _ _), (cells_of_heap o8).1]
        exact ⟨by rw [← hF]; rfl, ee⟩
    · rintro c w3 ⟨rfl, e3, o8, hF⟩ hmk
      have l2 : w2.heap.size < w3.heap.size := (Array.getElem?_eq_some_iff.1 hmk).1
      show outX _ _ _ _ _
      refine outX_mark hmk ?_
      simp (disch := first | assumption | (simp only [ONE]; done) | rfl | (simp only [SZ]; done) | omega | (simp only [SZ] at *; omega)) only [↓PR, QR, Int.reduceBEq, Int.reduceBNe, Int.reduceLT, Int.reduceLE, Int.reduceGT, Int.reduceGE, Int.reduceNeg, outX_nil, retV, resOne, cell_putMark hmk, (cells_of_heap o8).1]
      exact ⟨by rw [hF], ee⟩
    · rintro _ _ h
      exact h.elim
end Go.Proofs.Ytiajhbbmgglmlaa
namespace Go.Proofs.Ytiajhbbmgglmlaa
open Sw
open Go.RowKit (intOf Below)
set_option maxRecDepth 100000
def numW (base : Int) (vf : TermD → Int) (ts : List TermD) : Int := ts.foldl (fun n t => IntKind.i64.wrap (n + IntKind.i64.wrap (t.factor * vf t))) base
theorem number_ret (w0 : World) (v : Value) (base : Int) (ts : List TermD) (g : FuncId) (caps : Array Value) (vf : TermD → Int) (hs : SizeVal w0 v base ts) (hg : Callable Try.prog g)
    (hc : ∀ w t, Ext w0 w → Ret Try.prog g (#[termVal t] ++ caps) w fun r w' => r = .int .i64 (vf t) ∧ Ext w w') :
    Ret Try.prog 120 #[v, .func (.func g) #[] caps] w0 fun r w' => r = .int .i64 (numW base vf ts) ∧ Ext w0 w' := by
  obtain ⟨tv, rfl, hT⟩ := hs
  obtain ⟨A, c, rfl, hlc, hcm, hlm, hel⟩ := SliceOf.open hT
  refine n_size_number_sound (R := retR _) ?_; unfold n_size_number
  simp (disch := first | assumption | (simp only [ONE]; done) | rfl | (simp only [SZ]; done) | omega | (simp only [SZ] at *; omega)) only [↓PR, QR, Int.reduceBEq, Int.reduceBNe, Int.reduceLT, Int.reduceLE, Int.reduceGT, Int.reduceGE, Int.reduceNeg, ↓n_size_number_c1, ↓n_size_number_c2, ↓n_size_number_c3]
  refine loop2_intro (fun a0 a1 w => ∃ (k : Nat) (n : Int), a0 = .int .i64 n ∧ a1 = .int .i64 (k : Int) ∧ k ≤ ts.length ∧ Ext w0 w ∧ numW n vf (ts.drop k) = numW base vf ts) (fun a0 a1 _ => ts.length - (intOf a1).toNat) ⟨0, base, rfl, rfl, Nat.zero_le _, ee, rfl⟩ ?_
  rintro _ _ w ⟨k, n, rfl, rfl, hk, e, hI⟩
  have se := e.size
  rcases drop_cases hk with ⟨x, hx, hd, hlt, hdec⟩ | ⟨hk, hd, hdec⟩
  · obtain ⟨b, o, cs, rfl, hl, hA, rfl⟩ := hel k x hx
    rw [hd] at hI
    simp (disch := first | assumption | (simp only [ONE]; done) | rfl | (simp only [SZ]; done) | omega | (simp only [SZ] at *; omega)) only [↓PR, QR, Int.reduceBEq, Int.reduceBNe, Int.reduceLT, Int.reduceLE, Int.reduceGT, Int.reduceGE, Int.reduceNeg, ↓n_size_number_c1, ↓n_size_number_c2, ↓n_size_number_c3, hdec, hA.c2]
    refine drawK_intro ?_
    simp (disch := first | assumption | (simp only [ONE]; done) | rfl | (simp only [SZ]; done) | omega | (simp only [SZ] at *; omega)) only [↓PR, QR, Int.reduceBEq, Int.reduceBNe, Int.reduceLT, Int.reduceLE, Int.reduceGT, Int.reduceGE, Int.reduceNeg, ↓n_size_number_c1, ↓n_size_number_c2, ↓n_size_number_c3]
    rw [callV_func hg]
    refine callK_ret (hc _ x ee) ?_
    rintro _ w1 ⟨rfl, e1⟩
    refine ⟨e1, ?_⟩
    simp (disch := first | assumption | (simp only [ONE]; done) | rfl | (simp only [SZ]; done) | omega | (simp only [SZ] at *; omega)) only [↓PR, QR, Int.reduceBEq, Int.reduceBNe, Int.reduceLT, Int.reduceLE, Int.reduceGT, Int.reduceGE, Int.reduceNeg, ↓n_size_number_c1, ↓n_size_number_c2, ↓n_size_number_c3]
    exact ⟨⟨k + 1, _, rfl, rfl, by omega, ee, hI⟩, meas_lt hlt⟩
  · subst hk
    simp (disch := first | assumption | (simp only [ONE]; done) | rfl | (simp only [SZ]; done) | omega | (simp only [SZ] at *; omega)) only [↓PR, QR, Int.reduceBEq, Int.reduceBNe, Int.reduceLT, Int.reduceLE, Int.reduceGT, Int.reduceGE, Int.reduceNeg, ↓n_size_number_c1, ↓n_size_number_c2, ↓n_size_number_c3, hdec]
    rw [hd] at hI
    exact ⟨by rw [← hI]; rfl, e⟩
def RP (rp : List (ByteArray × Int × Int)) : List (ByteArray × Value) := rp.map fun p => (p.1, rangeVal p.2.1 p.2.2)
def lastR (rp : List (ByteArray × Int × Int)) (s : ByteArray) : Option (Int × Int) := (rp.reverse.find? (fun p => decide (p.1 = s))).map (·.2)
theorem lastOf_RP (rp : List (ByteArray × Int × Int)) (s : ByteArray) : lastOf (RP rp) s = (lastR rp s).map fun q => rangeVal q.1 q.2 := by
  unfold lastOf RP lastR
  rw [← List.map_reverse, List.find?_map]
  simp only [Option.map_map]
  rfl
def numR (l : List FieldD) : List (ByteArray × Int × Int) := (l.filter numberB).map fun f => (f.name, f.low, highOf f)
theorem numPairs_RP (l : List FieldD) : numPairs l = RP (numR l) := by
  unfold numPairs RP numR
  rw [List.map_map]
  rfl
def endF (rp : List (ByteArray × Int × Int)) (least : Bool) (t : TermD) : Int := match lastR rp t.field with
  | some (lo, hi) => if least == decide (t.factor > 0) then lo else hi
  | none => 0
theorem end_ret (w0 : World) (t : TermD) (pm pl m : Nat) (rp : List (ByteArray × Int × Int)) (least : Bool) (h1 : w0.cell? ⟨pm, 0, none⟩ = some (.map (some m))) (h2 : w0.cell? ⟨pl, 0, none⟩ = some (.bool least)) (hm : MapOf w0 m (RP rp)) :
    Ret Try.prog 121 #[termVal t, .pointer (some ⟨pm, 0, none⟩), .pointer (some ⟨pl, 0, none⟩)] w0 fun r w' => r = .int .i64 (endF rp least t) ∧ Ext w0 w' := by
  have hb1 := World.block_lt_of_cell? w0 _ h1
  have hb2 := World.block_lt_of_cell? w0 _ h2
  simp only at hb1 hb2
  unfold termVal
  refine n_size_Interval_2_1_sound (R := retR _) ?_; unfold n_size_Interval_2_1
  simp (disch := first | assumption | (simp only [ONE]; done) | rfl | (simp only [SZ]; done) | omega | (simp only [SZ] at *; omega)) only [↓PR, QR, Int.reduceBEq, Int.reduceBNe, Int.reduceLT, Int.reduceLE, Int.reduceGT, Int.reduceGE, Int.reduceNeg, h1, h2]
  rw [op_lookup1O Try.underlying53 Try.underlying9 ty31 (hm.ext ee), lastOf_RP]
  unfold endF
  cases hl : lastR rp t.field with
  | none =>
    simp (disch := first | assumption | (simp only [ONE]; done) | rfl | (simp only [SZ]; done) | omega | (simp only [SZ] at *; omega)) only [↓PR, QR, Int.reduceBEq, Int.reduceBNe, Int.reduceLT, Int.reduceLE, Int.reduceGT, Int.reduceGE, Int.reduceNeg, ↓n_size_Interval_2_1_c1, h1, h2, Option.map_none]
    cases (least == decide (0 < t.factor)) with
    | true => simp (disch := first | assumption | (simp only [ONE]; done) | rfl | (simp only [SZ]; done) | omega | (simp only [SZ] at *; omega)) only [↓PR, QR, Int.reduceBEq, Int.reduceBNe, Int.reduceLT, Int.reduceLE, Int.reduceGT, Int.reduceGE, Int.reduceNeg, ↓n_size_Interval_2_1_c1, h1, h2]; exact ⟨by first | trivial | rfl, ee⟩
    | false =>
      simp (disch := first | assumption | (simp only [ONE]; done) | rfl | (simp only [SZ]; done) | omega | (simp only [SZ] at *; omega)) only [↓PR, QR, Int.reduceBEq, Int.reduceBNe, Int.reduceLT, Int.reduceLE, Int.reduceGT, Int.reduceGE, Int.reduceNeg, ↓n_size_Interval_2_1_c1, h1, h2]
      rw [op_lookup1O Try.underlying53 Try.underlying9 ty31 (hm.ext ee), lastOf_RP, hl]
      simp (disch := first | assumption | (simp only [ONE]; done) | rfl | (simp only [SZ]; done) | omega | (simp only [SZ] at *; omega)) only [↓PR, QR, Int.reduceBEq, Int.reduceBNe, Int.reduceLT, Int.reduceLE, Int.reduceGT, Int.reduceGE, Int.reduceNeg, ↓n_size_Interval_2_1_c1, Option.map_none]
      exact ⟨by first | trivial | rfl, ee⟩
  | some q =>
    obtain ⟨lo, hi⟩ := q
    simp (disch := first | assumption | (simp only [ONE]; done) | rfl | (simp only [SZ]; done) | omega | (simp only [SZ] at *; omega)) only [↓PR, QR, Int.reduceBEq, Int.reduceBNe, Int.reduceLT, Int.reduceLE, Int.reduceGT, Int.reduceGE, Int.reduceNeg, ↓n_size_Interval_2_1_c1, h1, h2, rangeVal]
    cases (least == decide (0 < t.factor)) with
    | true => simp (disch := first | assumption | (simp only [ONE]; done) | rfl | (simp only [SZ]; done) | omega | (simp only [SZ] at *; omega)) only [↓PR, QR, Int.reduceBEq, Int.reduceBNe, Int.reduceLT, Int.reduceLE, Int.reduceGT, Int.reduceGE, Int.reduceNeg, ↓n_size_Interval_2_1_c1, h1, h2]; exact ⟨by first | trivial | rfl, ee⟩
    | false =>
      simp (disch := first | assumption | (simp only [ONE]; done) | rfl | (simp only [SZ]; done) | omega | (simp only [SZ] at *; omega)) only [↓PR, QR, Int.reduceBEq, Int.reduceBNe, Int.reduceLT, Int.reduceLE, Int.reduceGT, Int.reduceGE, Int.reduceNeg, ↓n_size_Interval_2_1_c1, h1, h2]
      rw [op_lookup1O Try.underlying53 Try.underlying9 ty31 (hm.ext ee), lastOf_RP, hl]
      simp (disch := first | assumption | (simp only [ONE]; done) | rfl | (simp only [SZ]; done) | omega | (simp only [SZ] at *; omega)) only [↓PR, QR, Int.reduceBEq, Int.reduceBNe, Int.reduceLT, Int.reduceLE, Int.reduceGT, Int.reduceGE, Int.reduceNeg, ↓n_size_Interval_2_1_c1, rangeVal]
      exact ⟨by first | trivial | rfl, ee⟩
def wideB (lo hi : Int) : Bool := decide (0 ≤ lo) && decide (lo ≤ hi) && decide (hi < 34359738368)
def wideV : Value → Bool
  | .agg a => match a.toList with
    | [.int _ lo, .int _ hi] => wideB lo hi
    | _ => false
  | _ => false
theorem fine_ret (w0 : World) (lo hi : Int) : Ret Try.prog 117 #[rangeVal lo hi] w0 fun r w' => r = .bool (wideV (rangeVal lo hi)) ∧ Ext w0 w' := by
  unfold rangeVal
  refine n_size_Interval_1_sound (R := retR _) ?_; unfold n_size_Interval_1
  simp (disch := first | assumption | (simp only [ONE]; done) | rfl | (simp only [SZ]; done) | omega | (simp only [SZ] at *; omega)) only [↓PR, QR, Int.reduceBEq, Int.reduceBNe, Int.reduceLT, Int.reduceLE, Int.reduceGT, Int.reduceGE, Int.reduceNeg, Sw.joinK_eq]
  refine callK_ret (all3_ret (by simp only [World.size_alloc]) _ _ _ _) ?_
  rintro _ w1 ⟨rfl, e1⟩
  have s1 := e1.size
  try simp only [World.size_alloc, World.size_setCell, World.size_drew, World.putObj_size, Sw.putW_size] at s1
  simp (disch := first | assumption | (simp only [ONE]; done) | rfl | (simp only [SZ]; done) | omega | (simp only [SZ] at *; omega)) only [↓PR, QR, Int.reduceBEq, Int.reduceBNe, Int.reduceLT, Int.reduceLE, Int.reduceGT, Int.reduceGE, Int.reduceNeg, Sw.joinK_eq]
  exact ⟨rfl, ee⟩
theorem ends_ret (w0 : World) (pm ps m : Nat) (rp : List (ByteArray × Int × Int)) (least : Bool) (base : Int) (tv : Value) (ts : List TermD) (h0 : w0.cell? ⟨ps, 0, none⟩ = some (.int .i64 base)) (h0' : w0.cell? ⟨ps, 1, none⟩ = some tv) (hT : TermsOf w0 tv ts)
    (h1 : w0.cell? ⟨pm, 0, none⟩ = some (.map (some m))) (hm : MapOf w0 m (RP rp)) :
    Ret Try.prog 119 #[.bool least, .pointer (some ⟨ps, 0, none⟩), .pointer (some ⟨pm, 0, none⟩)] w0 fun r w' => r = .int .i64 (numW base (endF rp least) ts) ∧ Ext w0 w' := by
  have hb1 := World.block_lt_of_cell? w0 _ h0
  have hb2 := World.block_lt_of_cell? w0 _ h1
  simp only at hb1 hb2
  refine n_size_Interval_2_sound (R := retR _) ?_; unfold n_size_Interval_2
  simp (disch := first | assumption | (simp only [ONE]; done) | rfl | (simp only [SZ]; done) | omega | (simp only [SZ] at *; omega)) only [↓PR, QR, Int.reduceBEq, Int.reduceBNe, Int.reduceLT, Int.reduceLE, Int.reduceGT, Int.reduceGE, Int.reduceNeg, h0, h0']
  refine callK_ret (number_ret _ _ base ts _ _ (endF rp least) ⟨tv, rfl, TermsOf.ext hT ee⟩ c121 ?_) ?_
  · intro w t e
    exact end_ret w t pm w0.heap.size m rp least (((Ext.refl w0).alloc _).trans e |>.cell h1) (e.cell (by simp (disch := first | assumption | (simp only [ONE]; done) | rfl | (simp only [SZ]; done) | omega | (simp only [SZ] at *; omega)) only [↓PR, QR, Int.reduceBEq, Int.reduceBNe, Int.reduceLT, Int.reduceLE, Int.reduceGT, Int.reduceGE, Int.reduceNeg])) (hm.ext (((Ext.refl w0).alloc _).trans e))
  rintro _ w1 ⟨rfl, e1⟩
  simp (disch := first | assumption | (simp only [ONE]; done) | rfl | (simp only [SZ]; done) | omega | (simp only [SZ] at *; omega)) only [↓PR, QR, Int.reduceBEq, Int.reduceBNe, Int.reduceLT, Int.reduceLE, Int.reduceGT, Int.reduceGE, Int.reduceNeg, Sw.joinK_eq]
  exact ⟨by first | trivial | rfl, ee⟩
def intervalE (base : Int) (ts : List TermD) (rp : List (ByteArray × Int × Int)) : Int := if sizeB base ts then checkedF ByteArray.empty (RP rp) wideV ts false else 2
def intervalL (base : Int) (ts : List TermD) (rp : List (ByteArray × Int × Int)) : Int := if intervalE base ts rp = 0 then numW base (endF rp true) ts else 0
def intervalH (base : Int) (ts : List TermD) (rp : List (ByteArray × Int × Int)) : Int := if intervalE base ts rp = 0 then numW base (endF rp false) ts else 0
theorem Interval_ret (w0 : World) (v : Value) (base : Int) (ts : List TermD) (m : Nat) (rp : List (ByteArray × Int × Int)) (hs : SizeVal w0 v base ts) (hb : ts.length ≤ 1048576) (hm : MapOf w0 m (RP rp)) :
    Ret Try.prog 110 #[v, .map (some m)] w0 fun r w' => r = .tuple #[rangeVal (intervalL base ts rp) (intervalH base ts rp), .int .i64 (intervalE base ts rp)] ∧ Ext w0 w' := by
  obtain ⟨tv, rfl, hT⟩ := hs
  have hT1 := SliceOf.oneCell hT
  have hmlt := hm.lt
  refine n_size_Interval_sound (R := retR _) ?_; unfold n_size_Interval
  simp (disch := first | assumption | (simp only [ONE]; done) | rfl | (simp only [SZ]; done) | omega | (simp only [SZ] at *; omega)) only [↓PR, QR, Int.reduceBEq, Int.reduceBNe, Int.reduceLT, Int.reduceLE, Int.reduceGT, Int.reduceGE, Int.reduceNeg, ↓n_size_Interval_c1, ↓n_size_Interval_c2, ↓n_size_Interval_c3]
  refine callK_ret (checked_Range_ret _ _ base ts ByteArray.empty m (RP rp) _ _ wideV ⟨tv, rfl, TermsOf.ext hT ee⟩ hb (hm.ext ee) (fun k v hv => ?_) c117 (fun w lo hi e => by simpa using fine_ret w lo hi)) ?_
  · rw [lastOf_RP] at hv
    obtain ⟨q, _, rfl⟩ := Option.map_eq_some_iff.1 hv
    exact ⟨q.1, q.2, rfl⟩
  rintro _ w1 ⟨rfl, e1⟩
  have s1 := e1.size
  simp only [World.size_alloc] at s1
  show n_size_Interval_c3 _ _ _ (.int .i64 (intervalE base ts rp)) _ w1
  unfold intervalL intervalH
  by_cases hE : intervalE base ts rp = 0
  · rw [hE]
    simp (disch := first | assumption | (simp only [ONE]; done) | rfl | (simp only [SZ]; done) | omega | (simp only [SZ] at *; omega)) only [↓PR, QR, Int.reduceBEq, Int.reduceBNe, Int.reduceLT, Int.reduceLE, Int.reduceGT, Int.reduceGE, Int.reduceNeg, ↓n_size_Interval_c1, ↓n_size_Interval_c2, ↓n_size_Interval_c3]
    have c0 : w1.cell? ⟨w0.heap.size, 0, none⟩ = some (.int .i64 base) := by simp (disch := first | assumption | (simp only [ONE]; done) | rfl | (simp only [SZ]; done) | omega | (simp only [SZ] at *; omega)) only [↓PR, QR, Int.reduceBEq, Int.reduceBNe, Int.reduceLT, Int.reduceLE, Int.reduceGT, Int.reduceGE, Int.reduceNeg, e1.cellQ]
    have c1 : w1.cell? ⟨w0.heap.size, 1, none⟩ = some tv := by simp (disch := first | assumption | (simp only [ONE]; done) | rfl | (simp only [SZ]; done) | omega | (simp only [SZ] at *; omega)) only [↓PR, QR, Int.reduceBEq, Int.reduceBNe, Int.reduceLT, Int.reduceLE, Int.reduceGT, Int.reduceGE, Int.reduceNeg, e1.cellQ]
    have c2 : w1.cell? ⟨w0.heap.size + 1, 0, none⟩ = some (.map (some m)) := by simp (disch := first | assumption | (simp only [ONE]; done) | rfl | (simp only [SZ]; done) | omega | (simp only [SZ] at *; omega)) only [↓PR, QR, Int.reduceBEq, Int.reduceBNe, Int.reduceLT, Int.reduceLE, Int.reduceGT, Int.reduceGE, Int.reduceNeg, e1.cellQ]
    have eW : Ext w0 w1 := ee
    rw [callV_func c119]
    refine callK_ret (ends_ret w1 _ _ m rp true base tv ts c0 c1 (hT.ext eW) c2 (hm.ext eW)) ?_
    rintro _ w2 ⟨rfl, e2⟩
    have s2 := e2.size
    simp only [World.size_alloc]
    rw [callV_func c119]
    refine callK_ret (ends_ret w2 _ _ m rp false base tv ts (e2.cell c0) (e2.cell c1) ((TermsOf.ext hT eW).ext e2) (e2.cell c2) ((hm.ext eW).ext e2)) ?_
    rintro _ w3 ⟨rfl, e3⟩
    have s3 := e3.size
    simp (disch := first | assumption | (simp only [ONE]; done) | rfl | (simp only [SZ]; done) | omega | (simp only [SZ] at *; omega)) only [↓PR, QR, Int.reduceBEq, Int.reduceBNe, Int.reduceLT, Int.reduceLE, Int.reduceGT, Int.reduceGE, Int.reduceNeg, ↓n_size_Interval_c1, ↓n_size_Interval_c2, ↓n_size_Interval_c3, e1.cellQ, e1.frozenQ, e2.cellQ, e2.frozenQ, e3.cellQ, e3.frozenQ]
    exact ⟨by first | trivial | rfl, ee⟩
  · have hne : (intervalE base ts rp != 0) = true := by simpa using hE
    simp (disch := first | assumption | (simp only [ONE]; done) | rfl | (simp only [SZ]; done) | omega | (simp only [SZ] at *; omega)) only [↓PR, QR, Int.reduceBEq, Int.reduceBNe, Int.reduceLT, Int.reduceLE, Int.reduceGT, Int.reduceGE, Int.reduceNeg, ↓n_size_Interval_c1, ↓n_size_Interval_c2, ↓n_size_Interval_c3, hne, e1.cellQ, e1.frozenQ]
    simp only [hE, if_false]
    exact ⟨by first | trivial | rfl, ee⟩
end Go.Proofs.Ytiajhbbmgglmlaa
namespace Go.Proofs.Ytiajhbbmgglmlaa
open Sw
def n_schema_kinds_8 (t0 : Value) (R : Ending → World → Prop) (w : World) : Prop :=
 opN Try.prog (nilN t0) (panK R) w fun t4 w =>
 opV Try.prog (Instr.fieldAt 28 t4 5) (panK R) w fun t5 w =>
 opU Try.prog (Instr.storeAt 3 t5 (.int .i64 0)) (panK R) w fun w =>
 opN Try.prog (nilN t0) (panK R) w fun t6 w =>
 opV Try.prog (Instr.fieldAt 28 t6 6) (panK R) w fun t7 w =>
 opU Try.prog (Instr.storeAt 3 t7 (.int .i64 0)) (panK R) w fun w =>
 R (.returned (.tuple #[])) w
set_option maxRecDepth 100000 in
set_option maxHeartbeats 4000000 in
theorem n_schema_kinds_8_sound {t0 : Value} {R : Ending → World → Prop} {w : World} (h : n_schema_kinds_8 t0 R w) : Calls Try.prog 91 #[t0] w R := by
  refine calls_of_den (args := [t0]) Try.func91 rfl (Nat.le_of_ble_eq_true rfl) ?_
  unfold n_schema_kinds_8 at h
  refine zr <| zm <| zm ?_
  refine sim_next h rfl rfl (fun _ _ h => ⟨rfl, h⟩) ?_; intro t4 w h
  refine zv h fun t5 w h => ?_
  refine zu h fun w h => ?_
  refine sim_next h rfl rfl (fun _ _ h => ⟨rfl, h⟩) ?_; intro t6 w h
  refine zv h fun t7 w h => ?_
  refine zu h fun w h => ?_
  refine zn ?_
  refine body_normal ?_
  exact body_ret0 rfl h
def n_schema_kinds_9_c1 (t0 t3 : Value) (R : Ending → World → Prop) (w : World) : Prop :=
 opV Try.prog (Instr.fieldAt 28 t3 6) (panK R) w fun t10 w =>
 opV Try.prog (Instr.loadAt 3 t10) (panK R) w fun t11 w =>
 opV Try.prog (Instr.buildSlice 137 1 #[(0, t11)]) (panK R) w fun t12 w =>
 callK Try.prog 84 #[t0, (.int .i64 0), (.int .i64 1048576), t12] (panK R) w fun t13 w =>
 R (.returned (.tuple #[])) w
def n_schema_kinds_9 (t0 t1 : Value) (R : Ending → World → Prop) (w : World) : Prop :=
 opV Try.prog (Instr.box 28 t1) (panK R) w fun t3 w =>
 opV Try.prog (Instr.fieldAt 28 t3 5) (panK R) w fun t5 w =>
 opV Try.prog (Instr.loadAt 3 t5) (panK R) w fun t6 w =>
 opV Try.prog (Instr.buildSlice 137 1 #[(0, t6)]) (panK R) w fun t7 w =>
 callK Try.prog 84 #[t0, (.int .i64 0), (.int .i64 255), t7] (panK R) w fun t8 w =>
 n_schema_kinds_9_c1 t0 t3 R w
set_option maxRecDepth 100000 in
set_option maxHeartbeats 4000000 in
theorem n_schema_kinds_9_sound {t0 t1 : Value} {R : Ending → World → Prop} {w : World} (h : n_schema_kinds_9 t0 t1 R w) : Calls Try.prog 92 #[t0, t1] w R := by
  refine calls_of_den (args := [t0, t1]) Try.func92 rfl (Nat.le_of_ble_eq_true rfl) ?_
  unfold n_schema_kinds_9 at h
  refine zs <| zr ?_
  refine zv h fun t3 w h => ?_
  refine zn <| zk <| zs <| zr <| zm ?_
  refine zv h fun t5 w h => ?_
  refine zv h fun t6 w h => ?_
  refine sim_buildSlice h rfl (fun _ _ h => ⟨rfl, h⟩) ?_; intro t7 w h
  refine zc h c84 fun t8 w h => ?_
  refine zn <| zk <| zr <| zm ?_
  refine zv h fun t10 w h => ?_
  refine zv h fun t11 w h => ?_
  refine sim_buildSlice h rfl (fun _ _ h => ⟨rfl, h⟩) ?_; intro t12 w h
  refine zc h c84 fun t13 w h => ?_
  refine zn ?_
  refine body_normal ?_
  exact body_ret0 rfl h
def n_schema_kinds_10 (t0 : Value) (R : Ending → World → Prop) (w : World) : Prop :=
 opN Try.prog (nilN t0) (panK R) w fun t4 w =>
 opV Try.prog (Instr.fieldAt 28 t4 4) (panK R) w fun t5 w =>
 opU Try.prog (Instr.storeAt 4 t5 (.bool false)) (panK R) w fun w =>
 opN Try.prog (nilN t0) (panK R) w fun t6 w =>
 opV Try.prog (Instr.fieldAt 28 t6 6) (panK R) w fun t7 w =>
 opU Try.prog (Instr.storeAt 3 t7 (.int .i64 0)) (panK R) w fun w =>
 R (.returned (.tuple #[])) w
set_option maxRecDepth 100000 in
set_option maxHeartbeats 4000000 in
theorem n_schema_kinds_10_sound {t0 : Value} {R : Ending → World → Prop} {w : World} (h : n_schema_kinds_10 t0 R w) : Calls Try.prog 93 #[t0] w R := by
  refine calls_of_den (args := [t0]) Try.func93 rfl (Nat.le_of_ble_eq_true rfl) ?_
  unfold n_schema_kinds_10 at h
  refine zr <| zm <| zm ?_
  refine sim_next h rfl rfl (fun _ _ h => ⟨rfl, h⟩) ?_; intro t4 w h
  refine zv h fun t5 w h => ?_
  refine zu h fun w h => ?_
  refine sim_next h rfl rfl (fun _ _ h => ⟨rfl, h⟩) ?_; intro t6 w h
  refine zv h fun t7 w h => ?_
  refine zu h fun w h => ?_
  refine zn ?_
  refine body_normal ?_
  exact body_ret0 rfl h
def n_schema_kinds_11 (t0 t1 : Value) (R : Ending → World → Prop) (w : World) : Prop :=
 opV Try.prog (Instr.box 28 t1) (panK R) w fun t3 w =>
 opV Try.prog (Instr.fieldAt 28 t3 6) (panK R) w fun t5 w =>
 opV Try.prog (Instr.loadAt 3 t5) (panK R) w fun t6 w =>
 opV Try.prog (Instr.buildSlice 137 1 #[(0, t6)]) (panK R) w fun t7 w =>
 callK Try.prog 84 #[t0, (.int .i64 2), (.int .i64 1048576), t7] (panK R) w fun t8 w =>
 R (.returned (.tuple #[])) w
set_option maxRecDepth 100000 in
set_option maxHeartbeats 4000000 in
theorem n_schema_kinds_11_sound {t0 t1 : Value} {R : Ending → World → Prop} {w : World} (h : n_schema_kinds_11 t0 t1 R w) : Calls Try.prog 94 #[t0, t1] w R := by
  refine calls_of_den (args := [t0, t1]) Try.func94 rfl (Nat.le_of_ble_eq_true rfl) ?_
  unfold n_schema_kinds_11 at h
  refine zs <| zr ?_
  refine zv h fun t3 w h => ?_
  refine zn <| zk <| zr <| zm ?_
  refine zv h fun t5 w h => ?_
  refine zv h fun t6 w h => ?_
  refine sim_buildSlice h rfl (fun _ _ h => ⟨rfl, h⟩) ?_; intro t7 w h
  refine zc h c84 fun t8 w h => ?_
  refine zn ?_
  refine body_normal ?_
  exact body_ret0 rfl h
def n_schema_kinds_12 (t0 : Value) (R : Ending → World → Prop) (w : World) : Prop :=
 opV Try.prog (Instr.build 25 #[]) (panK R) w fun t4 w =>
 opN Try.prog (nilN t0) (panK R) w fun t5 w =>
 opV Try.prog (Instr.fieldAt 28 t5 8) (panK R) w fun t6 w =>
 opU Try.prog (Instr.storeAt 9 t6 (.string { data := #[] })) (panK R) w fun w =>
 opN Try.prog (nilN t0) (panK R) w fun t7 w =>
 opV Try.prog (Instr.fieldAt 28 t7 7) (panK R) w fun t8 w =>
 opU Try.prog (Instr.storeAt 25 t8 t4) (panK R) w fun w =>
 R (.returned (.tuple #[])) w
set_option maxRecDepth 100000 in
set_option maxHeartbeats 4000000 in
theorem n_schema_kinds_12_sound {t0 : Value} {R : Ending → World → Prop} {w : World} (h : n_schema_kinds_12 t0 R w) : Calls Try.prog 95 #[t0] w R := by
  refine calls_of_den (args := [t0]) Try.func95 rfl (Nat.le_of_ble_eq_true rfl) ?_
  unfold n_schema_kinds_12 at h
  refine zr <| zm <| zm ?_
  refine sim_build h rfl (fun _ _ h => ⟨rfl, h⟩) ?_; intro t4 w h
  refine sim_next h rfl rfl (fun _ _ h => ⟨rfl, h⟩) ?_; intro t5 w h
  refine zv h fun t6 w h => ?_
  refine zu h fun w h => ?_
  refine sim_next h rfl rfl (fun _ _ h => ⟨rfl, h⟩) ?_; intro t7 w h
  refine zv h fun t8 w h => ?_
  refine zu h fun w h => ?_
  refine zn ?_
  refine body_normal ?_
  exact body_ret0 rfl h
def n_schema_kinds_13 (t0 t1 : Value) (R : Ending → World → Prop) (w : World) : Prop :=
 opV Try.prog (Instr.box 28 t1) (panK R) w fun t3 w =>
 opV Try.prog (Instr.fieldAt 28 t3 8) (panK R) w fun t5 w =>
 opV Try.prog (Instr.loadAt 9 t5) (panK R) w fun t6 w =>
 callK Try.prog 97 #[t0, t6] (panK R) w fun t7 w =>
 opV Try.prog (Instr.loadAt 28 t3) (panK R) w fun t9 w =>
 callK Try.prog 90 #[t0, t9] (panK R) w fun t10 w =>
 R (.returned (.tuple #[])) w
set_option maxRecDepth 100000 in
set_option maxHeartbeats 4000000 in
theorem n_schema_kinds_13_sound {t0 t1 : Value} {R : Ending → World → Prop} {w : World} (h : n_schema_kinds_13 t0 t1 R w) : Calls Try.prog 96 #[t0, t1] w R := by
  refine calls_of_den (args := [t0, t1]) Try.func96 rfl (Nat.le_of_ble_eq_true rfl) ?_
  unfold n_schema_kinds_13 at h
  refine zs <| zr ?_
  refine zv h fun t3 w h => ?_
  refine zn <| zk <| zs <| zr <| zm ?_
  refine zv h fun t5 w h => ?_
  refine zv h fun t6 w h => ?_
  refine zc h c97 fun t7 w h => ?_
  refine zn <| zk <| zr <| zm ?_
  refine zv h fun t9 w h => ?_
  refine zc h c90 fun t10 w h => ?_
  refine zn ?_
  refine body_normal ?_
  exact body_ret0 rfl h
def n_schema_checker_refer (t0 t1 : Value) (R : Ending → World → Prop) (w : World) : Prop :=
 opN Try.prog (nilN t0) (panK R) w fun t8 w =>
 opV Try.prog (Instr.fieldAt 101 t8 1) (panK R) w fun t9 w =>
 opV Try.prog (Instr.loadAt 98 t9) (panK R) w fun t10 w =>
 opV Try.prog (Instr.lookup 98 t10 t1 true) (panK R) w fun t12 w =>
 opV Try.prog (Instr.extract t12 0) (panK R) w fun t13 w =>
 opV Try.prog (Instr.extract t12 1) (panK R) w fun t14 w =>
 callK Try.prog 62 #[t0, t14, (.int .i64 8)] (panK R) w fun t17 w =>
 R (.returned (.tuple #[])) w
set_option maxRecDepth 100000 in
set_option maxHeartbeats 4000000 in
theorem n_schema_checker_refer_sound {t0 t1 : Value} {R : Ending → World → Prop} {w : World} (h : n_schema_checker_refer t0 t1 R w) : Calls Try.prog 97 #[t0, t1] w R := by
  refine calls_of_den (args := [t0, t1]) Try.func97 rfl (Nat.le_of_ble_eq_true rfl) ?_
  unfold n_schema_checker_refer at h
  refine zs <| zr <| zm ?_
  refine sim_next h rfl rfl (fun _ _ h => ⟨rfl, h⟩) ?_; intro t8 w h
  refine zv h fun t9 w h => ?_
  refine zv h fun t10 w h => ?_
  refine zm ?_
  refine zv h fun t12 w h => ?_
  refine zm ?_
  refine zv h fun t13 w h => ?_
  refine zv h fun t14 w h => ?_
  refine zm <| zm <| zn <| zk <| zr <| zm <| zm ?_
  refine zc h c62 fun t17 w h => ?_
  refine zn ?_
  refine body_normal ?_
  exact body_ret0 rfl h
def n_schema_kinds_14 (t0 : Value) (R : Ending → World → Prop) (w : World) : Prop :=
 opN Try.prog (nilN t0) (panK R) w fun t3 w =>
 opV Try.prog (Instr.fieldAt 28 t3 8) (panK R) w fun t4 w =>
 opU Try.prog (Instr.storeAt 9 t4 (.string { data := #[] })) (panK R) w fun w =>
 R (.returned (.tuple #[])) w
set_option maxRecDepth 100000 in
set_option maxHeartbeats 4000000 in
theorem n_schema_kinds_14_sound {t0 : Value} {R : Ending → World → Prop} {w : World} (h : n_schema_kinds_14 t0 R w) : Calls Try.prog 98 #[t0] w R := by
  refine calls_of_den (args := [t0]) Try.func98 rfl (Nat.le_of_ble_eq_true rfl) ?_
  unfold n_schema_kinds_14 at h
  refine zr <| zm ?_
  refine sim_next h rfl rfl (fun _ _ h => ⟨rfl, h⟩) ?_; intro t3 w h
  refine zv h fun t4 w h => ?_
  refine zu h fun w h => ?_
  refine zn ?_
  refine body_normal ?_
  exact body_ret0 rfl h
def n_schema_kinds_15 (t0 t1 : Value) (R : Ending → World → Prop) (w : World) : Prop :=
 opV Try.prog (Instr.box 28 t1) (panK R) w fun t3 w =>
 opV Try.prog (Instr.fieldAt 28 t3 8) (panK R) w fun t5 w =>
 opV Try.prog (Instr.loadAt 9 t5) (panK R) w fun t6 w =>
 callK Try.prog 97 #[t0, t6] (panK R) w fun t7 w =>
 R (.returned (.tuple #[])) w
set_option maxRecDepth 100000 in
set_option maxHeartbeats 4000000 in
theorem n_schema_kinds_15_sound {t0 t1 : Value} {R : Ending → World → Prop} {w : World} (h : n_schema_kinds_15 t0 t1 R w) : Calls Try.prog 99 #[t0, t1] w R := by
  refine calls_of_den (args := [t0, t1]) Try.func99 rfl (Nat.le_of_ble_eq_true rfl) ?_
  unfold n_schema_kinds_15 at h
  refine zs <| zr ?_
  refine zv h fun t3 w h => ?_
  refine zn <| zk <| zr <| zm ?_
  refine zv h fun t5 w h => ?_
  refine zv h fun t6 w h => ?_
  refine zc h c97 fun t7 w h => ?_
  refine zn ?_
  refine body_normal ?_
  exact body_ret0 rfl h
def n_schema_kinds_16 (t0 : Value) (R : Ending → World → Prop) (w : World) : Prop :=
 opN Try.prog (nilN t0) (panK R) w fun t4 w =>
 opV Try.prog (Instr.fieldAt 28 t4 9) (panK R) w fun t5 w =>
 opU Try.prog (Instr.storeAt 9 t5 (.string { data := #[] })) (panK R) w fun w =>
 opN Try.prog (nilN t0) (panK R) w fun t6 w =>
 opV Try.prog (Instr.fieldAt 28 t6 11) (panK R) w fun t7 w =>
 opU Try.prog (Instr.storeAt 26 t7 (Value.slice none 0 0)) (panK R) w fun w =>
 R (.returned (.tuple #[])) w
set_option maxRecDepth 100000 in
set_option maxHeartbeats 4000000 in
theorem n_schema_kinds_16_sound {t0 : Value} {R : Ending → World → Prop} {w : World} (h : n_schema_kinds_16 t0 R w) : Calls Try.prog 100 #[t0] w R := by
  refine calls_of_den (args := [t0]) Try.func100 rfl (Nat.le_of_ble_eq_true rfl) ?_
  unfold n_schema_kinds_16 at h
  refine zr <| zm <| zm ?_
  refine sim_next h rfl rfl (fun _ _ h => ⟨rfl, h⟩) ?_; intro t4 w h
  refine zv h fun t5 w h => ?_
  refine zu h fun w h => ?_
  refine sim_next h rfl rfl (fun _ _ h => ⟨rfl, h⟩) ?_; intro t6 w h
  refine zv h fun t7 w h => ?_
  refine zu h fun w h => ?_
  refine zn ?_
  refine body_normal ?_
  exact body_ret0 rfl h
def n_schema_checker_cases_c1 (t9 t47 : Value) (next5 : Value → Value → World → Prop) (R : Ending → World → Prop) (w : World) : Prop :=
 opV Try.prog (Instr.fieldAt 62 t9 1) (panK R) w fun t65 w =>
 opV Try.prog (Instr.loadAt 3 t65) (panK R) w fun t66 w =>
 opV Try.prog (binS .add 3 true t66 (.int .i64 1)) (panK R) w fun t67 w =>
 opV Try.prog (binS .add 3 true t47 (.int .i64 1)) (panK R) w fun t68 w =>
 next5 t67 t68 w
def n_schema_checker_cases_c2 (t0 t9 t47 : Value) (next5 : Value → Value → World → Prop) (R : Ending → World → Prop) (w : World) : Prop :=
 opV Try.prog (Instr.fieldAt 62 t9 2) (panK R) w fun t62 w =>
 opV Try.prog (Instr.loadAt 9 t62) (panK R) w fun t63 w =>
 callK Try.prog 97 #[t0, t63] (panK R) w fun t64 w =>
 n_schema_checker_cases_c1 t9 t47 next5 R w
def n_schema_checker_cases_c3 (t0 t4 t7 t45 t47 : Value) (next5 : Value → Value → World → Prop) (R : Ending → World → Prop) (w : World) : Prop :=
 opV Try.prog (Instr.indexAt 26 t45 t47) (panK R) w fun t49 w =>
 opV Try.prog (Instr.loadAt 62 t49) (panK R) w fun t50 w =>
 opV Try.prog (Instr.alloc 62 true (.tuple #[])) (panK R) w fun t9 w =>
 opU Try.prog (Instr.storeAt 62 t9 t50) (panK R) w fun w =>
 opV Try.prog (Instr.fieldAt 31 t4 1) (panK R) w fun t53 w =>
 opV Try.prog (Instr.loadAt 3 t53) (panK R) w fun t54 w =>
 opV Try.prog (Instr.fieldAt 62 t9 0) (panK R) w fun t55 w =>
 opV Try.prog (Instr.loadAt 3 t55) (panK R) w fun t56 w =>
 opV Try.prog (Instr.fieldAt 62 t9 1) (panK R) w fun t57 w =>
 opV Try.prog (Instr.loadAt 3 t57) (panK R) w fun t58 w =>
 opV Try.prog (Instr.buildSlice 137 2 #[(0, t56), (1, t58)]) (panK R) w fun t59 w =>
 callK Try.prog 84 #[t0, t7, t54, t59] (panK R) w fun t60 w =>
 n_schema_checker_cases_c2 t0 t9 t47 next5 R w
def n_schema_checker_cases_c4 (t0 t3 t4 : Value) (R : Ending → World → Prop) (w : World) : Prop :=
 opV Try.prog (Instr.fieldAt 31 t4 0) (panK R) w fun t42 w =>
 opV Try.prog (Instr.loadAt 3 t42) (panK R) w fun t43 w =>
 opV Try.prog (Instr.fieldAt 28 t3 11) (panK R) w fun t44 w =>
 opV Try.prog (Instr.loadAt 26 t44) (panK R) w fun t45 w =>
 opV Try.prog (Builtin.len_ #[26] 3 #[t45]) (panK R) w fun t46 w =>
 loop2 (fun t7 t47 w next5 =>
 opV Try.prog (binS .lss 3 false t47 t46) (panK R) w fun t48 w =>
 condP t48 (
 n_schema_checker_cases_c3 t0 t4 t7 t45 t47 next5 R w) (
 R (.returned (.tuple #[])) w)) t43 (.int .i64 0) w
def n_schema_checker_cases_c5 (t0 t3 t4 : Value) (R : Ending → World → Prop) (w : World) : Prop :=
 opV Try.prog (Instr.fieldAt 28 t3 11) (panK R) w fun t31 w =>
 opV Try.prog (Instr.loadAt 26 t31) (panK R) w fun t32 w =>
 opV Try.prog (Builtin.len_ #[26] 3 #[t32]) (panK R) w fun t33 w =>
 opV Try.prog (binS .geq 3 true t33 (.int .i64 1)) (panK R) w fun t34 w =>
 joinK (fun (t39 : Value) (w : World) =>
 pickK t34 t39 (.bool false) fun t40 =>
 callK Try.prog 62 #[t0, t40, (.int .i64 3)] (panK R) w fun t41 w =>
 n_schema_checker_cases_c4 t0 t3 t4 R w) fun K4 =>
 guardP t34 true (
 opV Try.prog (Instr.fieldAt 28 t3 11) (panK R) w fun t36 w =>
 opV Try.prog (Instr.loadAt 26 t36) (panK R) w fun t37 w =>
 opV Try.prog (Builtin.len_ #[26] 3 #[t37]) (panK R) w fun t38 w =>
 opV Try.prog (binS .leq 3 true t38 (.int .i64 40)) (panK R) w fun t39 w =>
 K4 t39 w) (
 K4 undef w)
def n_schema_checker_cases_c6 (t0 t3 t4 t5 t22 : Value) (R : Ending → World → Prop) (w : World) : Prop :=
 joinK (fun (t27 : Value) (w : World) =>
 pickK t5 t27 (.bool false) fun t28 =>
 callK Try.prog 62 #[t0, t28, (.int .i64 8)] (panK R) w fun t29 w =>
 n_schema_checker_cases_c5 t0 t3 t4 R w) fun K3 =>
 guardP t5 true (
 opV Try.prog (Op.unary .not t22) (panK R) w fun t27 w =>
 K3 t27 w) (
 K3 undef w)
def n_schema_checker_cases_c7 (t0 t3 t4 t5 : Value) (R : Ending → World → Prop) (w : World) : Prop :=
 callK Try.prog 78 #[t0] (panK R) w fun t20 w =>
 opV Try.prog (Instr.makeFunc (.func 112) #[] #[t3]) (panK R) w fun t21 w =>
 callK Try.prog 111 #[t20, t21] (panK R) w fun t22 w =>
 n_schema_checker_cases_c6 t0 t3 t4 t5 t22 R w
def n_schema_checker_cases_c8 (t13 t15 : Value) (C7 : World → Prop) (K2 : Value → Value → World → Prop) (R : Ending → World → Prop) (w : World) : Prop :=
 qV Try.prog C7 (Instr.lookup 53 t13 t15 true) fun t16 =>
 qV Try.prog C7 (Instr.extract t16 0) fun t17 =>
 qV Try.prog C7 (Instr.extract t16 1) fun t18 =>
 opV Try.prog (Instr.alloc 31 true (.tuple #[])) (panK R) w fun t4 w =>
 C7 w ∧ (
 opU Try.prog (Instr.storeAt 31 t4 t17) (panK R) w fun w =>
 C7 w ∧ (
 K2 t4 t18 w))
def n_schema_checker_cases_c9 (t4 t13 t15 : Value) (C8 : World → Prop) (K2 : Value → Value → World → Prop) (R : Ending → World → Prop) (w : World) : Prop :=
 qV Try.prog C8 (Instr.lookup 53 t13 t15 true) fun t16 =>
 qV Try.prog C8 (Instr.extract t16 0) fun t17 =>
 qV Try.prog C8 (Instr.extract t16 1) fun t18 =>
 opU Try.prog (Instr.storeAt 31 t4 t17) (panK R) w fun w =>
 C8 w ∧ (
 K2 t4 t18 w)
def n_schema_checker_cases_c10 (t12 t15 : Value) (C6 : World → Prop) (K2 : Value → Value → World → Prop) (R : Ending → World → Prop) (w : World) : Prop :=
 (
 callK Try.prog 40 #[t12] (panK R) w fun t13 w =>
 narrowK C6 w fun C7 w =>
 n_schema_checker_cases_c8 t13 t15 C7 K2 R w) ∧ (
 opV Try.prog (Instr.alloc 31 true (.tuple #[])) (panK R) w fun t4 w =>
 C6 w ∧ (
 callK Try.prog 40 #[t12] (panK R) w fun t13 w =>
 narrowK C6 w fun C8 w =>
 n_schema_checker_cases_c9 t4 t13 t15 C8 K2 R w))
def n_schema_checker_cases_c11 (t4 t13 t15 : Value) (C10 : World → Prop) (K2 : Value → Value → World → Prop) (R : Ending → World → Prop) (w : World) : Prop :=
 qV Try.prog C10 (Instr.lookup 53 t13 t15 true) fun t16 =>
 qV Try.prog C10 (Instr.extract t16 0) fun t17 =>
 qV Try.prog C10 (Instr.extract t16 1) fun t18 =>
 opU Try.prog (Instr.storeAt 31 t4 t17) (panK R) w fun w =>
 C10 w ∧ (
 K2 t4 t18 w)
def n_schema_checker_cases_c12 (t0 t4 t15 : Value) (C1 : World → Prop) (K2 : Value → Value → World → Prop) (R : Ending → World → Prop) (w : World) : Prop :=
 callK Try.prog 78 #[t0] (panK R) w fun t12 w =>
 narrowK C1 w fun C9 w =>
 callK Try.prog 40 #[t12] (panK R) w fun t13 w =>
 narrowK C9 w fun C10 w =>
 n_schema_checker_cases_c11 t4 t13 t15 C10 K2 R w
def n_schema_checker_cases_c13 (t0 t3 : Value) (C1 : World → Prop) (R : Ending → World → Prop) (w : World) : Prop :=
 qV Try.prog C1 (Instr.fieldAt 28 t3 9) fun t14 =>
 qV Try.prog C1 (Instr.loadAt 9 t14) fun t15 =>
 joinK (fun (t4 : Value) (t5 : Value) (w : World) =>
 n_schema_checker_cases_c7 t0 t3 t4 t5 R w) fun K2 =>
 (
 callK Try.prog 78 #[t0] (panK R) w fun t12 w =>
 narrowK C1 w fun C6 w =>
 n_schema_checker_cases_c10 t12 t15 C6 K2 R w) ∧ (
 opV Try.prog (Instr.alloc 31 true (.tuple #[])) (panK R) w fun t4 w =>
 C1 w ∧ (
 n_schema_checker_cases_c12 t0 t4 t15 C1 K2 R w))
def n_schema_checker_cases (t0 t1 : Value) (R : Ending → World → Prop) (w : World) : Prop :=
 opV Try.prog (Instr.box 28 t1) (panK R) w fun t3 w =>
 drawK w fun C1 w =>
 n_schema_checker_cases_c13 t0 t3 C1 R w
set_option maxRecDepth 100000 in
set_option maxHeartbeats 4000000 in
theorem n_schema_checker_cases_sound {t0 t1 : Value} {R : Ending → World → Prop} {w : World} (h : n_schema_checker_cases t0 t1 R w) : Calls Try.prog 101 #[t0, t1] w R := by
  refine calls_of_den (args := [t0, t1]) Try.func101 rfl (Nat.le_of_ble_eq_true rfl) ?_
  unfold n_schema_checker_cases at h
  refine zs <| zr ?_
  refine zv h fun t3 w h => ?_
  refine zn <| zk <| zs ?_
  obtain ⟨C1, hC, h⟩ := h
  refine sim_draw [4, 5, 10, 11, 12, 13, 14, 15, 16, 17, 18] (by kernel_rfl) (by kernel_rfl) C1 ?_
  refine zw 0 hC ?_
  refine ze 3 hC h fun t14 h => ?_
  refine ze 4 hC h fun t15 h => ?_
  refine joinK_elim h (fun K2 hK h => ?_)
  refine sim_dmeet [4, 5, 10, 12, 13, 16, 17, 18] (fun ρ w => K2 (ρ 4) (ρ 5) w) (fun T hT => ?_) (fun σ w h => ?_)
  · obtain ⟨h0, h1⟩ := h
    refine sim_dloud2 1 9 rfl rfl (by kernel_rfl) (fun _ _ => rfl) (fun _ _ => rfl) ?_ ?_
    · have h := h0
      refine sim_call h c78 rfl (fun _ _ h _ _ => ⟨rfl, h⟩) ?_; intro t12 w h
      refine zn ?_
      obtain ⟨C6, hs, hC, h⟩ := h
      refine ⟨C6, hs, hC, ?_⟩
      obtain ⟨h0, h1⟩ := h
      refine sim_dloud2 2 9 rfl rfl (by kernel_rfl) (fun _ _ => rfl) (fun _ _ => rfl) ?_ ?_
      · have h := h0
        refine sim_call h c40 rfl (fun _ _ h _ _ => ⟨rfl, h⟩) ?_; intro t13 w h
        refine zn ?_
        obtain ⟨C7, hs, hC, h⟩ := h
        refine ⟨C7, hs, hC, ?_⟩
        refine ze 5 hC h fun t16 h => ?_
        refine zw 6 hC ?_
        refine ze 7 hC h fun t17 h => ?_
        refine ze 8 hC h fun t18 h => ?_
        refine sim_dloud 9 rfl (by kernel_rfl) (fun _ _ => rfl) ?_
        refine sim_val h rfl rfl (fun _ _ h _ _ => ⟨rfl, h⟩) ?_; intro t4 w h
        refine zn ?_
        obtain ⟨hC, h⟩ := h
        refine ⟨hC, ?_⟩
        refine sim_dloud 10 rfl (by kernel_rfl) (fun _ _ => rfl) ?_
        refine sim_unit h rfl rfl (fun _ _ h _ _ => ⟨rfl, h⟩) ?_; intro w h
        refine zn ?_
        obtain ⟨hC, h⟩ := h
        refine ⟨hC, ?_⟩
        refine zw 11 hC ?_
        refine sim_dend (by kernel_rfl) ?_
        exact zt hT h
      · have h := h1
        refine sim_val h rfl rfl (fun _ _ h _ _ => ⟨rfl, h⟩) ?_; intro t4 w h
        refine zn ?_
        obtain ⟨hC, h⟩ := h
        refine ⟨_, fun _ h => h, hC, ?_⟩
        refine sim_dnarrow 2 rfl (by kernel_rfl) (fun _ _ => rfl) ?_
        refine sim_call h c40 rfl (fun _ _ h _ _ => ⟨rfl, h⟩) ?_; intro t13 w h
        refine zn ?_
        obtain ⟨C8, hs, hC, h⟩ := h
        refine ⟨C8, hs, hC, ?_⟩
        refine ze 5 hC h fun t16 h => ?_
        refine zw 6 hC ?_
        refine ze 7 hC h fun t17 h => ?_
        refine ze 8 hC h fun t18 h => ?_
        refine sim_dloud 10 rfl (by kernel_rfl) (fun _ _ => rfl) ?_
        refine sim_unit h rfl rfl (fun _ _ h _ _ => ⟨rfl, h⟩) ?_; intro w h
        refine zn ?_
        obtain ⟨hC, h⟩ := h
        refine ⟨hC, ?_⟩
        refine zw 11 hC ?_
        refine sim_dend (by kernel_rfl) ?_
        exact zt hT h
    · have h := h1
      refine sim_val h rfl rfl (fun _ _ h _ _ => ⟨rfl, h⟩) ?_; intro t4 w h
      refine zn ?_
      obtain ⟨hC, h⟩ := h
      refine ⟨_, fun _ h => h, hC, ?_⟩
      refine sim_dnarrow 1 rfl (by kernel_rfl) (fun _ _ => rfl) ?_
      refine sim_call h c78 rfl (fun _ _ h _ _ => ⟨rfl, h⟩) ?_; intro t12 w h
      refine zn ?_
      obtain ⟨C9, hs, hC, h⟩ := h
      refine ⟨C9, hs, hC, ?_⟩
      refine sim_dnarrow 2 rfl (by kernel_rfl) (fun _ _ => rfl) ?_
      refine sim_call h c40 rfl (fun _ _ h _ _ => ⟨rfl, h⟩) ?_; intro t13 w h
      refine zn ?_
      obtain ⟨C10, hs, hC, h⟩ := h
      refine ⟨C10, hs, hC, ?_⟩
      refine ze 5 hC h fun t16 h => ?_
      refine zw 6 hC ?_
      refine ze 7 hC h fun t17 h => ?_
      refine ze 8 hC h fun t18 h => ?_
      refine sim_dloud 10 rfl (by kernel_rfl) (fun _ _ => rfl) ?_
      refine sim_unit h rfl rfl (fun _ _ h _ _ => ⟨rfl, h⟩) ?_; intro w h
      refine zn ?_
      obtain ⟨hC, h⟩ := h
      refine ⟨hC, ?_⟩
      refine zw 11 hC ?_
      refine sim_dend (by kernel_rfl) ?_
      exact zt hT h
  subst hK
  refine zk <| zs <| zr <| zm ?_
  refine zc h c78 fun t20 w h => ?_
  refine sim_makeFunc h rfl rfl (fun _ _ h => ⟨rfl, h⟩) ?_; intro t21 w h
  refine zc h c111 fun t22 w h => ?_
  refine zm <| zn <| zk <| zs <| sim_regionG ?_
  refine sim_seg 3 rfl ?_
  refine zm <| zm <| zm <| zn ?_
  refine joinK_elim h (fun K3 hK h => ?_)
  refine sim_groupJ 2 2 true [26, 27] (fun ρ w => K3 (ρ 27) w) rfl rfl (fun T hT => guardP_mono h (fun h => ?_) (fun h => ?_)) (fun σ w h => ?_)
  · refine zm ?_
    refine zv h fun t27 w h => ?_
    refine zn ?_
    exact zt hT h
  · exact zt hT h
  subst hK
  refine sim_seg 2 rfl ?_
  refine sim_pick h rfl rfl rfl ?_; intro t28 h
  refine zc h c62 fun t29 w h => ?_
  refine zn <| sim_end <| zk <| zs <| sim_regionG ?_
  refine sim_seg 6 rfl ?_
  refine zm ?_
  refine zv h fun t31 w h => ?_
  refine zv h fun t32 w h => ?_
  refine zx h fun t33 w h => ?_
  refine zb h fun t34 w h => ?_
  refine zm <| zn ?_
  refine joinK_elim h (fun K4 hK h => ?_)
  refine sim_groupJ 4 5 true [36, 37, 38, 39] (fun ρ w => K4 (ρ 39) w) rfl rfl (fun T hT => guardP_mono h (fun h => ?_) (fun h => ?_)) (fun σ w h => ?_)
  · refine zv h fun t36 w h => ?_
    refine zv h fun t37 w h => ?_
    refine zx h fun t38 w h => ?_
    refine zb h fun t39 w h => ?_
    refine zn ?_
    exact zt hT h
  · exact zt hT h
  subst hK
  refine sim_seg 2 rfl ?_
  refine sim_pick h rfl rfl rfl ?_; intro t40 h
  refine zc h c62 fun t41 w h => ?_
  refine zn <| sim_end <| zk <| zs <| zr ?_
  refine zv h fun t42 w h => ?_
  refine zv h fun t43 w h => ?_
  refine zm <| zn <| zk <| zs <| zr ?_
  refine zv h fun t44 w h => ?_
  refine zv h fun t45 w h => ?_
  refine zx h fun t46 w h => ?_
  refine zm <| zn <| zk <| sim_block ?_
  obtain ⟨I, μ, h0, hr⟩ := h
  refine sim_loop [7, 9, 47, 48, 49, 50, 51, 52, 53, 54, 55, 56, 57, 58, 59, 60, 61, 62, 63, 64, 65, 66, 67, 68] (by kernel_rfl) (fun ρ w => I (ρ 7) (ρ 47) w) (fun ρ w => μ (ρ 7) (ρ 47) w) h0 (fun σ w hI => ?_)
  have h := hr _ _ _ hI
  clear hr h0 hI
  refine zs <| zr ?_
  refine zb h fun t48 w h => ?_
  refine zn <| zk <| zs ?_
  refine sim_cond h rfl (fun h => ?_) (fun h => ?_)
  · refine sim_skip <| zk <| zs <| sim_block <| zs <| zr ?_
    refine zv h fun t49 w h => ?_
    refine zv h fun t50 w h => ?_
    refine zv h fun t9 w h => ?_
    refine zu h fun w h => ?_
    refine zn <| zk <| zs <| zr <| zm <| zm ?_
    refine zv h fun t53 w h => ?_
    refine zv h fun t54 w h => ?_
    refine zv h fun t55 w h => ?_
    refine zv h fun t56 w h => ?_
    refine zv h fun t57 w h => ?_
    refine zv h fun t58 w h => ?_
    refine sim_buildSlice h rfl (fun _ _ h => ⟨rfl, h⟩) ?_; intro t59 w h
    refine zc h c84 fun t60 w h => ?_
    refine zn <| zk <| zs <| zr <| zm ?_
    refine zv h fun t62 w h => ?_
    refine zv h fun t63 w h => ?_
    refine zc h c97 fun t64 w h => ?_
    refine zn <| zk <| zr ?_
    refine zv h fun t65 w h => ?_
    refine zv h fun t66 w h => ?_
    refine zb h fun t67 w h => ?_
    refine zm <| zn <| sim_block_normal <| zk <| zr ?_
    refine zb h fun t68 w h => ?_
    refine zm <| zn <| zk ?_
    exact ⟨rfl, h⟩
  · refine sim_exit <| sim_then_exit <| sim_then_exit <| sim_block_hit ?_
    refine body_normal ?_
    exact body_ret0 rfl h
def n_schema_kinds_17 (t0 : Value) (R : Ending → World → Prop) (w : World) : Prop :=
 opN Try.prog (nilN t0) (panK R) w fun t3 w =>
 opV Try.prog (Instr.fieldAt 28 t3 2) (panK R) w fun t4 w =>
 opU Try.prog (Instr.storeAt 3 t4 (.int .i64 0)) (panK R) w fun w =>
 R (.returned (.tuple #[])) w
set_option maxRecDepth 100000 in
set_option maxHeartbeats 4000000 in
theorem n_schema_kinds_17_sound {t0 : Value} {R : Ending → World → Prop} {w : World} (h : n_schema_kinds_17 t0 R w) : Calls Try.prog 102 #[t0] w R := by
  refine calls_of_den (args := [t0]) Try.func102 rfl (Nat.le_of_ble_eq_true rfl) ?_
  unfold n_schema_kinds_17 at h
  refine zr <| zm ?_
  refine sim_next h rfl rfl (fun _ _ h => ⟨rfl, h⟩) ?_; intro t3 w h
  refine zv h fun t4 w h => ?_
  refine zu h fun w h => ?_
  refine zn ?_
  refine body_normal ?_
  exact body_ret0 rfl h
def n_schema_kinds_18_c1 (t0 t12 t22 t26 : Value) (R : Ending → World → Prop) (w : World) : Prop :=
 joinK (fun (t27 : Value) (w : World) =>
 pickK t12 (.bool true) t27 fun t28 =>
 callK Try.prog 62 #[t0, t28, (.int .i64 6)] (panK R) w fun t29 w =>
 R (.returned (.tuple #[])) w) fun K6 =>
 guardP t12 false (
 pickK t22 t26 (.bool false) fun t27 =>
 K6 t27 w) (
 K6 undef w)
def n_schema_kinds_18_c2 (t0 t3 t12 t22 : Value) (R : Ending → World → Prop) (w : World) : Prop :=
 joinK (fun (t26 : Value) (w : World) =>
 n_schema_kinds_18_c1 t0 t12 t22 t26 R w) fun K5 =>
 guardP t22 true (
 opV Try.prog (Instr.fieldAt 28 t3 2) (panK R) w fun t23 w =>
 opV Try.prog (Instr.loadAt 3 t23) (panK R) w fun t24 w =>
 opV Try.prog (binS .rem 3 true t24 (.int .i64 8)) (panK R) w fun t25 w =>
 opV Try.prog (binS .eql 3 true t25 (.int .i64 0)) (panK R) w fun t26 w =>
 K5 t26 w) (
 K5 undef w)
def n_schema_kinds_18_c3 (t0 t3 t12 t17 : Value) (R : Ending → World → Prop) (w : World) : Prop :=
 joinK (fun (t20 : Value) (w : World) =>
 joinK (fun (t22 : Value) (w : World) =>
 n_schema_kinds_18_c2 t0 t3 t12 t22 R w) fun K4 =>
 guardP t12 false (
 pickK t17 t20 (.bool false) fun t21 =>
 K4 t21 w) (
 K4 undef w)) fun K3 =>
 guardP t17 true (
 opV Try.prog (Instr.fieldAt 28 t3 2) (panK R) w fun t18 w =>
 opV Try.prog (Instr.loadAt 3 t18) (panK R) w fun t19 w =>
 opV Try.prog (binS .leq 3 true t19 (.int .i64 512)) (panK R) w fun t20 w =>
 K3 t20 w) (
 K3 undef w)
def n_schema_kinds_18_c4 (t0 t3 t7 t11 : Value) (R : Ending → World → Prop) (w : World) : Prop :=
 pickK t7 (.bool true) t11 fun t12 =>
 joinK (fun (t17 : Value) (w : World) =>
 n_schema_kinds_18_c3 t0 t3 t12 t17 R w) fun K2 =>
 guardP t12 false (
 opV Try.prog (Instr.fieldAt 28 t3 2) (panK R) w fun t14 w =>
 opV Try.prog (Instr.loadAt 3 t14) (panK R) w fun t15 w =>
 opV Try.prog (binS .geq 3 true t15 (.int .i64 8)) (panK R) w fun t16 w =>
 K2 t16 w) (
 K2 undef w)
def n_schema_kinds_18 (t0 t1 : Value) (R : Ending → World → Prop) (w : World) : Prop :=
 opV Try.prog (Instr.box 28 t1) (panK R) w fun t3 w =>
 opV Try.prog (Instr.fieldAt 28 t3 2) (panK R) w fun t5 w =>
 opV Try.prog (Instr.loadAt 3 t5) (panK R) w fun t6 w =>
 opV Try.prog (binS .eql 3 true t6 (.int .i64 2)) (panK R) w fun t7 w =>
 joinK (fun (t11 : Value) (w : World) =>
 n_schema_kinds_18_c4 t0 t3 t7 t11 R w) fun K1 =>
 guardP t7 false (
 opV Try.prog (Instr.fieldAt 28 t3 2) (panK R) w fun t9 w =>
 opV Try.prog (Instr.loadAt 3 t9) (panK R) w fun t10 w =>
 opV Try.prog (binS .eql 3 true t10 (.int .i64 4)) (panK R) w fun t11 w =>
 K1 t11 w) (
 K1 undef w)
set_option maxRecDepth 100000 in
set_option maxHeartbeats 4000000 in
theorem n_schema_kinds_18_sound {t0 t1 : Value} {R : Ending → World → Prop} {w : World} (h : n_schema_kinds_18 t0 t1 R w) : Calls Try.prog 103 #[t0, t1] w R := by
  refine calls_of_den (args := [t0, t1]) Try.func103 rfl (Nat.le_of_ble_eq_true rfl) ?_
  unfold n_schema_kinds_18 at h
  refine zs <| zr ?_
  refine zv h fun t3 w h => ?_
  refine zn <| zk <| sim_regionG ?_
  refine sim_seg 5 rfl ?_
  refine zm ?_
  refine zv h fun t5 w h => ?_
  refine zv h fun t6 w h => ?_
  refine zb h fun t7 w h => ?_
  refine zm <| zn ?_
  refine joinK_elim h (fun K1 hK h => ?_)
  refine sim_groupJ 3 4 false [9, 10, 11] (fun ρ w => K1 (ρ 11) w) rfl rfl (fun T hT => guardP_mono h (fun h => ?_) (fun h => ?_)) (fun σ w h => ?_)
  · refine zv h fun t9 w h => ?_
    refine zv h fun t10 w h => ?_
    refine zb h fun t11 w h => ?_
    refine zn ?_
    exact zt hT h
  · exact zt hT h
  subst hK
  refine sim_seg 2 rfl ?_
  refine sim_pick h rfl rfl rfl ?_; intro t12 h
  refine zm <| zn ?_
  refine joinK_elim h (fun K2 hK h => ?_)
  refine sim_groupJ 4 9 false [14, 15, 16, 17] (fun ρ w => K2 (ρ 17) w) rfl rfl (fun T hT => guardP_mono h (fun h => ?_) (fun h => ?_)) (fun σ w h => ?_)
  · refine zv h fun t14 w h => ?_
    refine zv h fun t15 w h => ?_
    refine zb h fun t16 w h => ?_
    refine zm <| zn ?_
    exact zt hT h
  · exact zt hT h
  subst hK
  refine joinK_elim h (fun K3 hK h => ?_)
  refine sim_groupJ 3 13 true [18, 19, 20] (fun ρ w => K3 (ρ 20) w) rfl rfl (fun T hT => guardP_mono h (fun h => ?_) (fun h => ?_)) (fun σ w h => ?_)
  · refine zv h fun t18 w h => ?_
    refine zv h fun t19 w h => ?_
    refine zb h fun t20 w h => ?_
    refine zn ?_
    exact zt hT h
  · exact zt hT h
  subst hK
  refine joinK_elim h (fun K4 hK h => ?_)
  refine sim_groupJ 2 9 false [21, 22] (fun ρ w => K4 (ρ 22) w) rfl rfl (fun T hT => guardP_mono h (fun h => ?_) (fun h => ?_)) (fun σ w h => ?_)
  · refine sim_pick h rfl rfl rfl ?_; intro t21 h
    refine zm <| zn ?_
    exact zt hT h
  · exact zt hT h
  subst hK
  refine joinK_elim h (fun K5 hK h => ?_)
  refine sim_groupJ 4 18 true [23, 24, 25, 26] (fun ρ w => K5 (ρ 26) w) rfl rfl (fun T hT => guardP_mono h (fun h => ?_) (fun h => ?_)) (fun σ w h => ?_)
  · refine zv h fun t23 w h => ?_
    refine zv h fun t24 w h => ?_
    refine zb h fun t25 w h => ?_
    refine zb h fun t26 w h => ?_
    refine zn ?_
    exact zt hT h
  · exact zt hT h
  subst hK
  refine joinK_elim h (fun K6 hK h => ?_)
  refine sim_groupJ 1 9 false [27] (fun ρ w => K6 (ρ 27) w) rfl rfl (fun T hT => guardP_mono h (fun h => ?_) (fun h => ?_)) (fun σ w h => ?_)
  · refine sim_pick h rfl rfl rfl ?_; intro t27 h
    refine zn ?_
    exact zt hT h
  · exact zt hT h
  subst hK
  refine sim_seg 2 rfl ?_
  refine sim_pick h rfl rfl rfl ?_; intro t28 h
  refine zc h c62 fun t29 w h => ?_
  refine zn <| sim_end ?_
  refine body_normal ?_
  exact body_ret0 rfl h
def n_schema_kinds_19 (t0 : Value) (R : Ending → World → Prop) (w : World) : Prop :=
 opN Try.prog (nilN t0) (panK R) w fun t4 w =>
 opV Try.prog (Instr.fieldAt 28 t4 10) (panK R) w fun t5 w =>
 opU Try.prog (Instr.storeAt 9 t5 (.string { data := #[] })) (panK R) w fun w =>
 opN Try.prog (nilN t0) (panK R) w fun t6 w =>
 opV Try.prog (Instr.fieldAt 28 t6 12) (panK R) w fun t7 w =>
 opU Try.prog (Instr.storeAt 3 t7 (.int .i64 0)) (panK R) w fun w =>
 R (.returned (.tuple #[])) w
set_option maxRecDepth 100000 in
set_option maxHeartbeats 4000000 in
theorem n_schema_kinds_19_sound {t0 : Value} {R : Ending → World → Prop} {w : World} (h : n_schema_kinds_19 t0 R w) : Calls Try.prog 104 #[t0] w R := by
  refine calls_of_den (args := [t0]) Try.func104 rfl (Nat.le_of_ble_eq_true rfl) ?_
  unfold n_schema_kinds_19 at h
  refine zr <| zm <| zm ?_
  refine sim_next h rfl rfl (fun _ _ h => ⟨rfl, h⟩) ?_; intro t4 w h
  refine zv h fun t5 w h => ?_
  refine zu h fun w h => ?_
  refine sim_next h rfl rfl (fun _ _ h => ⟨rfl, h⟩) ?_; intro t6 w h
  refine zv h fun t7 w h => ?_
  refine zu h fun w h => ?_
  refine zn ?_
  refine body_normal ?_
  exact body_ret0 rfl h
def n_schema_kinds_20_c1 (t0 t17 : Value) (C1 : World → Prop) (R : Ending → World → Prop) (w : World) : Prop :=
 qV Try.prog C1 (Instr.extract t17 0) fun t18 =>
 qV Try.prog C1 (Instr.extract t17 1) fun t19 =>
 callK Try.prog 62 #[t0, t19, (.int .i64 8)] (panK R) w fun t22 w =>
 R (.returned (.tuple #[])) w
def n_schema_kinds_20_c2 (t0 t3 : Value) (C1 : World → Prop) (R : Ending → World → Prop) (w : World) : Prop :=
 qV Try.prog C1 (Instr.fieldAt 28 t3 10) fun t15 =>
 qV Try.prog C1 (Instr.loadAt 9 t15) fun t16 =>
 callK Try.prog 78 #[t0] (panK R) w fun t13 w =>
 C1 w ∧ (
 qV Try.prog C1 (Instr.build 50 #[(1, t13)]) fun t14 =>
 callK Try.prog 20 #[t14, t16] (panK R) w fun t17 w =>
 C1 w ∧ (
 n_schema_kinds_20_c1 t0 t17 C1 R w))
def n_schema_kinds_20 (t0 t1 : Value) (R : Ending → World → Prop) (w : World) : Prop :=
 opV Try.prog (Instr.box 28 t1) (panK R) w fun t3 w =>
 opV Try.prog (Instr.fieldAt 28 t3 12) (panK R) w fun t7 w =>
 opV Try.prog (Instr.loadAt 3 t7) (panK R) w fun t8 w =>
 opV Try.prog (Instr.buildSlice 137 1 #[(0, t8)]) (panK R) w fun t9 w =>
 callK Try.prog 84 #[t0, (.int .i64 1), (.int .i64 3), t9] (panK R) w fun t10 w =>
 drawK w fun C1 w =>
 n_schema_kinds_20_c2 t0 t3 C1 R w
set_option maxRecDepth 100000 in
set_option maxHeartbeats 4000000 in
theorem n_schema_kinds_20_sound {t0 t1 : Value} {R : Ending → World → Prop} {w : World} (h : n_schema_kinds_20 t0 t1 R w) : Calls Try.prog 105 #[t0, t1] w R := by
  refine calls_of_den (args := [t0, t1]) Try.func105 rfl (Nat.le_of_ble_eq_true rfl) ?_
  unfold n_schema_kinds_20 at h
  refine zs <| zr ?_
  refine zv h fun t3 w h => ?_
  refine zn <| zk <| zs <| zr <| zm ?_
  refine zv h fun t7 w h => ?_
  refine zv h fun t8 w h => ?_
  refine sim_buildSlice h rfl (fun _ _ h => ⟨rfl, h⟩) ?_; intro t9 w h
  refine zc h c84 fun t10 w h => ?_
  refine zn <| zk <| zs ?_
  obtain ⟨C1, hC, h⟩ := h
  refine sim_draw [4, 5, 11, 12, 13, 14, 15, 16, 17, 18, 19] (by kernel_rfl) (by kernel_rfl) C1 ?_
  refine zw 0 hC ?_
  refine ze 3 hC h fun t15 h => ?_
  refine ze 4 hC h fun t16 h => ?_
  refine sim_dloud 1 rfl (by kernel_rfl) (fun _ _ => rfl) ?_
  refine sim_call h c78 rfl (fun _ _ h _ _ => ⟨rfl, h⟩) ?_; intro t13 w h
  refine zn ?_
  obtain ⟨hC, h⟩ := h
  refine ⟨hC, ?_⟩
  obtain ⟨t14, hv, h⟩ := h
  refine sim_dsilent 2 hC rfl (by kernel_rfl) (by kernel_rfl) (fun _ _ => rfl) rfl (Sw.qV_build rfl hv) ?_
  refine sim_dloud 5 rfl (by kernel_rfl) (fun _ _ => rfl) ?_
  refine sim_call h c20 rfl (fun _ _ h _ _ => ⟨rfl, h⟩) ?_; intro t17 w h
  refine zn ?_
  obtain ⟨hC, h⟩ := h
  refine ⟨hC, ?_⟩
  refine zw 6 hC ?_
  refine ze 7 hC h fun t18 h => ?_
  refine ze 8 hC h fun t19 h => ?_
  refine zw 9 hC ?_
  refine zw 10 hC ?_
  refine sim_dend (by kernel_rfl) ?_
  refine zk <| zr <| zm <| zm ?_
  refine zc h c62 fun t22 w h => ?_
  refine zn ?_
  refine body_normal ?_
  exact body_ret0 rfl h
def n_schema_kinds_21 (t0 : Value) (R : Ending → World → Prop) (w : World) : Prop :=
 opV Try.prog (Instr.build 25 #[]) (panK R) w fun t5 w =>
 opN Try.prog (nilN t0) (panK R) w fun t6 w =>
 opV Try.prog (Instr.fieldAt 28 t6 8) (panK R) w fun t7 w =>
 opU Try.prog (Instr.storeAt 9 t7 (.string { data := #[] })) (panK R) w fun w =>
 opN Try.prog (nilN t0) (panK R) w fun t8 w =>
 opV Try.prog (Instr.fieldAt 28 t8 7) (panK R) w fun t9 w =>
 opU Try.prog (Instr.storeAt 25 t9 t5) (panK R) w fun w =>
 opN Try.prog (nilN t0) (panK R) w fun t10 w =>
 opV Try.prog (Instr.fieldAt 28 t10 13) (panK R) w fun t11 w =>
 opU Try.prog (Instr.storeAt 3 t11 (.int .i64 0)) (panK R) w fun w =>
 R (.returned (.tuple #[])) w
set_option maxRecDepth 100000 in
set_option maxHeartbeats 4000000 in
theorem n_schema_kinds_21_sound {t0 : Value} {R : Ending → World → Prop} {w : World} (h : n_schema_kinds_21 t0 R w) : Calls Try.prog 106 #[t0] w R := by
  refine calls_of_den (args := [t0]) Try.func106 rfl (Nat.le_of_ble_eq_true rfl) ?_
  unfold n_schema_kinds_21 at h
  refine zr <| zm <| zm <| zm ?_
  refine sim_build h rfl (fun _ _ h => ⟨rfl, h⟩) ?_; intro t5 w h
  refine sim_next h rfl rfl (fun _ _ h => ⟨rfl, h⟩) ?_; intro t6 w h
  refine zv h fun t7 w h => ?_
  refine zu h fun w h => ?_
  refine sim_next h rfl rfl (fun _ _ h => ⟨rfl, h⟩) ?_; intro t8 w h
  refine zv h fun t9 w h => ?_
  refine zu h fun w h => ?_
  refine sim_next h rfl rfl (fun _ _ h => ⟨rfl, h⟩) ?_; intro t10 w h
  refine zv h fun t11 w h => ?_
  refine zu h fun w h => ?_
  refine zn ?_
  refine body_normal ?_
  exact body_ret0 rfl h
def n_schema_kinds_22_c1 (t0 t3 : Value) (C1 : World → Prop) (R : Ending → World → Prop) (w : World) : Prop :=
 qN Try.prog C1 (nilN t0) fun t11 =>
 qV Try.prog C1 (Instr.fieldAt 101 t11 2) fun t12 =>
 qV Try.prog C1 (Instr.loadAt 99 t12) fun t13 =>
 qV Try.prog C1 (Instr.fieldAt 28 t3 8) fun t14 =>
 qV Try.prog C1 (Instr.loadAt 9 t14) fun t15 =>
 qV Try.prog C1 (Instr.lookup 99 t13 t15 false) fun t16 =>
 callK Try.prog 62 #[t0, t16, (.int .i64 8)] (panK R) w fun t17 w =>
 C1 w ∧ (
 opV Try.prog (Instr.loadAt 28 t3) (panK R) w fun t19 w =>
 callK Try.prog 90 #[t0, t19] (panK R) w fun t20 w =>
 R (.returned (.tuple #[])) w)
def n_schema_kinds_22 (t0 t1 : Value) (R : Ending → World → Prop) (w : World) : Prop :=
 opV Try.prog (Instr.box 28 t1) (panK R) w fun t3 w =>
 opV Try.prog (Instr.fieldAt 28 t3 13) (panK R) w fun t5 w =>
 opV Try.prog (Instr.loadAt 3 t5) (panK R) w fun t6 w =>
 opV Try.prog (Instr.buildSlice 137 1 #[(0, t6)]) (panK R) w fun t7 w =>
 callK Try.prog 84 #[t0, (.int .i64 0), (.int .i64 4294967295), t7] (panK R) w fun t8 w =>
 drawK w fun C1 w =>
 n_schema_kinds_22_c1 t0 t3 C1 R w
set_option maxRecDepth 100000 in
set_option maxHeartbeats 4000000 in
theorem n_schema_kinds_22_sound {t0 t1 : Value} {R : Ending → World → Prop} {w : World} (h : n_schema_kinds_22 t0 t1 R w) : Calls Try.prog 107 #[t0, t1] w R := by
  refine calls_of_den (args := [t0, t1]) Try.func107 rfl (Nat.le_of_ble_eq_true rfl) ?_
  unfold n_schema_kinds_22 at h
  refine zs <| zr ?_
  refine zv h fun t3 w h => ?_
  refine zn <| zk <| zs <| zr <| zm ?_
  refine zv h fun t5 w h => ?_
  refine zv h fun t6 w h => ?_
  refine sim_buildSlice h rfl (fun _ _ h => ⟨rfl, h⟩) ?_; intro t7 w h
  refine zc h c84 fun t8 w h => ?_
  refine zn <| zk <| zs ?_
  obtain ⟨C1, hC, h⟩ := h
  refine sim_draw [9, 10, 11, 12, 13, 14, 15, 16, 17] (by kernel_rfl) (by kernel_rfl) C1 ?_
  refine zw 0 hC ?_
  refine zw 1 hC ?_
  obtain ⟨t11, hv, h⟩ := h
  refine sim_dsilent 2 hC rfl (by kernel_rfl) (by kernel_rfl) (fun _ _ => rfl) rfl (Sw.qN_run rfl hv) ?_
  refine ze 3 hC h fun t12 h => ?_
  refine ze 4 hC h fun t13 h => ?_
  refine ze 5 hC h fun t14 h => ?_
  refine ze 6 hC h fun t15 h => ?_
  refine ze 7 hC h fun t16 h => ?_
  refine sim_dloud 8 rfl (by kernel_rfl) (fun _ _ => rfl) ?_
  refine sim_call h c62 rfl (fun _ _ h _ _ => ⟨rfl, h⟩) ?_; intro t17 w h
  refine zn ?_
  obtain ⟨hC, h⟩ := h
  refine ⟨hC, ?_⟩
  refine sim_dend (by kernel_rfl) ?_
  refine zk <| zr <| zm ?_
  refine zv h fun t19 w h => ?_
  refine zc h c90 fun t20 w h => ?_
  refine zn ?_
  refine body_normal ?_
  exact body_ret0 rfl h
end Go.Proofs.Ytiajhbbmgglmlaa
namespace Go.Proofs.Ytiajhbbmgglmlaa
open Sw
open Go.RowKit (intOf Below)
set_option maxRecDepth 100000
abbrev flawVal (a f c : Int) : Value := .agg #[.int .i64 a, .int .i64 f, .int .i64 c]
def flawEntry (a f c : Int) : PanicEntry := { v := .iface 68 (flawVal a f c), recovered := false }
def flwR (w : World) (a f c : Int) : Ending → World → Prop := fun e w' => Ext w w' ∧ (c = 0 ∧ e = .returned (.tuple #[]) ∨ c ≠ 0 ∧ e = .panicked [flawEntry a f c])
theorem callK_flw {f : FuncId} {args : Array Value} {QP : List PanicEntry → World → Prop} {w : World} {k : Value → World → Prop} {a fl c : Int} (h : Calls Try.prog f args w (flwR w a fl c)) (hk : ∀ w', Ext w w' → c = 0 → k (.tuple #[]) w') (hp : ∀ w', Ext w w' → c ≠ 0 → QP [flawEntry a fl c] w') : callK Try.prog f args QP w k :=
  callK_calls h (fun v w' h => by rcases h with ⟨e, ⟨h1, h2⟩ | ⟨_, h2⟩⟩ <;> cases h2; exact hk w' e h1) (fun ch w' h => by rcases h with ⟨e, ⟨_, h2⟩ | ⟨h1, h2⟩⟩ <;> cases h2; exact hp w' e h1) (fun w' h => by rcases h with ⟨_, ⟨_, h2⟩ | ⟨_, h2⟩⟩ <;> cases h2)
theorem flwR_ret {w w' : World} {a f c : Int} (e : Ext w w') (h : c = 0) : flwR w a f c (.returned (.tuple #[])) w' := ⟨e, .inl ⟨h, rfl⟩⟩
theorem flwR_pan {w w' : World} {a f c c' : Int} (e : Ext w w') (h : c = c') (h0 : c' ≠ 0) : panK (flwR w a f c) [flawEntry a f c'] w' := ⟨e, .inr ⟨by rw [h]; exact h0, by rw [h]⟩⟩
def orC (a b : Int) : Int := if a = 0 then b else a
theorem orC_zero (b : Int) : orC 0 b = b := rfl
theorem orC_ne {a b : Int} (h : a ≠ 0) : orC a b = a := by unfold orC; rw [if_neg h]
def needC (b : Bool) (c : Int) : Int := if b then 0 else c
structure Chk (w : World) (cb md ms : Nat) (deps : List (ByteArray × Value)) (strs : List (ByteArray × Value)) (at_ fld : Int) (fs : List FieldD) : Prop where
  obj : ∃ dn mv ds mn fv, w.heap[cb]? = some (.cells #[.string dn, mv, .string ds, .map (some md), .map (some ms), .int .i64 at_, .int .i64 fld, .string mn, fv] 101 (0, 0)) ∧ FieldsOf w fv fs
  mdeps : MapOf w md deps
  mstrs : MapOf w ms strs
  dint : ∀ k v, lastOf deps k = some v → ∃ n, v = .int .i64 n
  sbool : ∀ k v, lastOf strs k = some v → ∃ b, v = .bool b
def strB (strs : List (ByteArray × Value)) (s : ByteArray) : Bool := match lastOf strs s with
  | some (.bool b) => b
  | _ => false
theorem Chk.strV {w : World} {cb md ms : Nat} {deps strs : List (ByteArray × Value)} {at_ fld : Int} {fs : List FieldD} (h : Chk w cb md ms deps strs at_ fld fs) (s : ByteArray) : (lastOf strs s).getD (.bool false) = .bool (strB strs s) := by
  unfold strB
  cases hl : lastOf strs s with
  | none => rfl
  | some v => obtain ⟨b, rfl⟩ := h.sbool s v hl; rfl
theorem Chk.ext {w w' : World} {cb md ms : Nat} {deps strs : List (ByteArray × Value)} {at_ fld : Int} {fs : List FieldD} (h : Chk w cb md ms deps strs at_ fld fs) (e : Ext w w') : Chk w' cb md ms deps strs at_ fld fs := by
  obtain ⟨⟨dn, mv, ds, mn, fv, h1, h2⟩, h3, h4, h5, h6⟩ := h
  exact ⟨⟨dn, mv, ds, mn, fv, e.obj h1, h2.ext e⟩, h3.ext e, h4.ext e, h5, h6⟩
section
variable {w0 : World} {cb md ms : Nat} {deps strs : List (ByteArray × Value)} {at_ fld : Int} {fs : List FieldD}
theorem need_flw (h : Chk w0 cb md ms deps strs at_ fld fs) (b : Bool) (c : Int) (hc : c ≠ 0) : Calls Try.prog 62 #[.pointer (some ⟨cb, 0, none⟩), .bool b, .int .i64 c] w0 (flwR w0 at_ fld (needC b c)) := by
  obtain ⟨⟨dn, mv, ds, mn, fv, h1, h2⟩, h3, h4, h5, h6⟩ := h
  refine n_schema_checker_need_sound ?_; unfold n_schema_checker_need
  cases b with
  | true =>
    simp (disch := first | assumption | (simp only [ONE]; done) | rfl | (simp only [SZ]; done) | omega | (simp only [SZ] at *; omega)) only [↓PR, QR, Int.reduceBEq, Int.reduceBNe, Int.reduceLT, Int.reduceLE, Int.reduceGT, Int.reduceGE, Int.reduceNeg, ↓n_schema_checker_need_c1]
    exact flwR_ret (Ext.refl _) rfl
  | false =>
    simp (disch := first | assumption | (simp only [ONE]; done) | rfl | (simp only [SZ]; done) | omega | (simp only [SZ] at *; omega)) only [↓PR, QR, Int.reduceBEq, Int.reduceBNe, Int.reduceLT, Int.reduceLE, Int.reduceGT, Int.reduceGE, Int.reduceNeg, ↓n_schema_checker_need_c1]
    refine drawK_intro ?_
    simp (disch := first | assumption | (simp only [ONE]; done) | rfl | (simp only [SZ]; done) | omega | (simp only [SZ] at *; omega)) only [↓PR, QR, Int.reduceBEq, Int.reduceBNe, Int.reduceLT, Int.reduceLE, Int.reduceGT, Int.reduceGE, Int.reduceNeg, ↓n_schema_checker_need_c1, (cells_of_heap h1).1]
    rw [op_panic]
    exact flwR_pan (Ext.refl _).drew rfl hc
theorem before_ret (h : Chk w0 cb md ms deps strs at_ fld fs) (i : Nat) (hi : fld = i) (hlt : i < fs.length) : Ret Try.prog 78 #[.pointer (some ⟨cb, 0, none⟩)] w0 fun r w' => FieldsOf w' r (fs.take i) ∧ Ext w0 w' := by
  obtain ⟨⟨dn, mv, ds, mn, fv, h1, h2⟩, h3, h4, h5, h6⟩ := h
  obtain ⟨A, c, rfl, hlc, hcm, hlm, hel⟩ := SliceOf.open h2
  obtain ⟨x, hx⟩ := getElem?_lt hlt
  obtain ⟨b, o, _, rfl, _⟩ := hel i x hx
  subst hi
  refine n_schema_checker_before_sound (R := retR _) ?_; unfold n_schema_checker_before
  refine drawK_intro ?_
  simp (disch := first | assumption | (simp only [ONE]; done) | rfl | (simp only [SZ]; done) | omega | (simp only [SZ] at *; omega)) only [↓PR, QR, Int.reduceBEq, Int.reduceBNe, Int.reduceLT, Int.reduceLE, Int.reduceGT, Int.reduceGE, Int.reduceNeg, ↓n_schema_checker_before_c1, (cells_of_heap h1).1]
  rw [qV_of fun QP w' k => op_sliceTo Try.underlying48 ty28 b o fs.length c .i64 i (by omega)]
  simp (disch := first | assumption | (simp only [ONE]; done) | rfl | (simp only [SZ]; done) | omega | (simp only [SZ] at *; omega)) only [↓PR, QR, Int.reduceBEq, Int.reduceBNe, Int.reduceLT, Int.reduceLE, Int.reduceGT, Int.reduceGE, Int.reduceNeg]
  refine ⟨?_, ee⟩
  have hlen : (fs.take i).length = i := by rw [List.length_take]; omega
  refine ⟨_, c, by rw [hlen], by rw [hlen]; omega, hcm, fun _ => ⟨b, o, rfl, fun k y hy => ?_⟩⟩
  rw [List.getElem?_take] at hy
  split at hy
  · obtain ⟨b', o', cs, hA, hl, hA2, hE⟩ := hel k y hy
    injection hA with hA
    injection hA with h5 h6
    subst h5 h6
    have e : Ext w0 (drew w0) := (Ext.refl w0).drew
    exact ⟨cs, hl, hA2.ext e, keptField _ _ _ _ e hE⟩
  · cases hy
theorem refer_flw (h : Chk w0 cb md ms deps strs at_ fld fs) (s : ByteArray) : Calls Try.prog 97 #[.pointer (some ⟨cb, 0, none⟩), .string s] w0 (flwR w0 at_ fld (needC (lastOf deps s).isSome 8)) := by
  have h' := h
  obtain ⟨⟨dn, mv, ds, mn, fv, h1, h2⟩, h3, h4, h5, h6⟩ := h
  refine n_schema_checker_refer_sound ?_; unfold n_schema_checker_refer
  simp (disch := first | assumption | (simp only [ONE]; done) | rfl | (simp only [SZ]; done) | omega | (simp only [SZ] at *; omega)) only [↓PR, QR, Int.reduceBEq, Int.reduceBNe, Int.reduceLT, Int.reduceLE, Int.reduceGT, Int.reduceGE, Int.reduceNeg, Sw.joinK_eq, (cells_of_heap h1).1]
  rw [op_lookupO Try.underlying98 Try.underlying9 ty3 h3]
  simp (disch := first | assumption | (simp only [ONE]; done) | rfl | (simp only [SZ]; done) | omega | (simp only [SZ] at *; omega)) only [↓PR, QR, Int.reduceBEq, Int.reduceBNe, Int.reduceLT, Int.reduceLE, Int.reduceGT, Int.reduceGE, Int.reduceNeg]
  refine callK_flw (need_flw h' _ 8 (by decide)) (fun w' e h0 => ?_) (fun w' e h0 => ?_)
  · exact flwR_ret e h0
  · exact flwR_pan e rfl h0
def withinC (high : Int) : Int → List Int → Int
  | _, [] => 0
  | low, n :: l => orC (needC (decide (low ≤ n) && decide (n ≤ high)) 7) (withinC high n l)
def IntsOf (w : World) (v : Value) (l : List Int) : Prop := SliceOf w 1 EInt v l
theorem ints1 {w : World} {p : Nat} (hp : p = w.heap.size) (a : Int) (T : TypeId) : IntsOf (w.alloc (.cells #[.int .i64 a] T)) (.slice (some ⟨p, 0, none⟩) 1 1) [a] := by
  subst hp; exact SliceOf.new1 (E := EInt) (fun n : Int => .int .i64 n) (fun _ _ => rfl) w [a] T (by simp)
theorem ints2 {w : World} {p : Nat} (hp : p = w.heap.size) (a b : Int) (T : TypeId) : IntsOf (w.alloc (.cells #[.int .i64 a, .int .i64 b] T)) (.slice (some ⟨p, 0, none⟩) 2 2) [a, b] := by
  subst hp; exact SliceOf.new1 (E := EInt) (fun n : Int => .int .i64 n) (fun _ _ => rfl) w [a, b] T (by simp)
theorem within_flw (h : Chk w0 cb md ms deps strs at_ fld fs) (low high : Int) (v : Value) (l : List Int) (hs : IntsOf w0 v l) : Calls Try.prog 84 #[.pointer (some ⟨cb, 0, none⟩), .int .i64 low, .int .i64 high, v] w0 (flwR w0 at_ fld (withinC high low l)) := by
  obtain ⟨A, c, rfl, hlc, hcm, hlm, hel⟩ := SliceOf.open hs
  refine n_schema_checker_within_sound ?_; unfold n_schema_checker_within
  simp (disch := first | assumption | (simp only [ONE]; done) | rfl | (simp only [SZ]; done) | omega | (simp only [SZ] at *; omega)) only [↓PR, QR, Int.reduceBEq, Int.reduceBNe, Int.reduceLT, Int.reduceLE, Int.reduceGT, Int.reduceGE, Int.reduceNeg]
  refine loop2_intro (fun a0 a1 w => ∃ (k : Nat) (n : Int), a0 = .int .i64 n ∧ a1 = .int .i64 (k : Int) ∧ k ≤ l.length ∧ Ext w0 w ∧ withinC high n (l.drop k) = withinC high low l) (fun a0 a1 _ => l.length - (intOf a1).toNat) ⟨0, low, rfl, rfl, Nat.zero_le _, ee, rfl⟩ ?_
  rintro _ _ w ⟨k, n, rfl, rfl, hk, e, hI⟩
  have se := e.size
  rcases drop_cases hk with ⟨x, hx, hd, hlt, hdec⟩ | ⟨hk, hd, hdec⟩
  · obtain ⟨b, o, cs, rfl, hl, hA, rfl⟩ := hel k x hx
    rw [hd] at hI
    simp only [withinC] at hI
    simp (disch := first | assumption | (simp only [ONE]; done) | rfl | (simp only [SZ]; done) | omega | (simp only [SZ] at *; omega)) only [↓PR, QR, Int.reduceBEq, Int.reduceBNe, Int.reduceLT, Int.reduceLE, Int.reduceGT, Int.reduceGE, Int.reduceNeg, ↓n_schema_checker_within_c1, ↓n_schema_checker_within_c2, hdec, hA.c1]
    refine callK_flw (need_flw (h.ext e) _ 7 (by decide)) (fun w' e1 h0 => ?_) (fun w' e1 h0 => ?_)
    · rw [h0, orC_zero] at hI
      simp (disch := first | assumption | (simp only [ONE]; done) | rfl | (simp only [SZ]; done) | omega | (simp only [SZ] at *; omega)) only [↓PR, QR, Int.reduceBEq, Int.reduceBNe, Int.reduceLT, Int.reduceLE, Int.reduceGT, Int.reduceGE, Int.reduceNeg, ↓n_schema_checker_within_c1, ↓n_schema_checker_within_c2]
      exact ⟨⟨k + 1, _, rfl, rfl, by omega, ee, hI⟩, meas_lt hlt⟩
    · rw [orC_ne h0] at hI
      exact flwR_pan (e.trans e1) hI.symm h0
  · subst hk
    simp (disch := first | assumption | (simp only [ONE]; done) | rfl | (simp only [SZ]; done) | omega | (simp only [SZ] at *; omega)) only [↓PR, QR, Int.reduceBEq, Int.reduceBNe, Int.reduceLT, Int.reduceLE, Int.reduceGT, Int.reduceGE, Int.reduceNeg, ↓n_schema_checker_within_c1, ↓n_schema_checker_within_c2, hdec]
    rw [hd] at hI
    exact flwR_ret e hI.symm
def bitsB (f : FieldD) : Bool := decide (1 ≤ f.bits) && decide (f.bits ≤ 32) && (!f.little || (decide (8 < f.bits) && (f.bits.tmod 8 == 0)))
theorem bits_flw (h : Chk w0 cb md ms deps strs at_ fld fs) (v : Value) (f : FieldD) (hf : FieldVal w0 v f) : Calls Try.prog 83 #[.pointer (some ⟨cb, 0, none⟩), v] w0 (flwR w0 at_ fld (needC (bitsB f) 6)) := by
  obtain ⟨tv, cv, rfl, hT, hC, ht1, hc1⟩ := hf.op
  refine n_schema_checker_bits_sound ?_; unfold n_schema_checker_bits
  simp (disch := first | assumption | (simp only [ONE]; done) | rfl | (simp only [SZ]; done) | omega | (simp only [SZ] at *; omega)) only [↓PR, QR, Int.reduceBEq, Int.reduceBNe, Int.reduceLT, Int.reduceLE, Int.reduceGT, Int.reduceGE, Int.reduceNeg, ↓n_schema_checker_bits_c1, ↓n_schema_checker_bits_c2, ↓n_schema_checker_bits_c3, ↓n_schema_checker_bits_c4]
  have e0 : Ext w0 (w0.alloc (Obj.cells (fieldCells f tv cv).toArray 28)) := ee
  have fin : ∀ b, b = bitsB f → callK Try.prog 62 #[.pointer (some ⟨cb, 0, none⟩), .bool b, .int .i64 6] (panK (flwR w0 at_ fld (needC (bitsB f) 6))) (w0.alloc (Obj.cells (fieldCells f tv cv).toArray 28)) (fun _ w => flwR w0 at_ fld (needC (bitsB f) 6) (.returned (.tuple #[])) w) := by
    rintro b rfl
    exact callK_flw (need_flw (h.ext e0) _ 6 (by decide)) (fun w' e1 h0 => flwR_ret (e0.trans e1) h0) (fun w' e1 h0 => flwR_pan (e0.trans e1) rfl h0)
  unfold bitsB at fin ⊢
  generalize decide (1 ≤ f.bits) = b1 at fin ⊢
  generalize decide (f.bits ≤ 32) = b2 at fin ⊢
  generalize f.little = b3 at fin ⊢
  generalize decide (8 < f.bits) = b4 at fin ⊢
  generalize (f.bits.tmod 8 == 0) = b5 at fin ⊢
  cases b1 <;> cases b2 <;> cases b3 <;> cases b4 <;> cases b5 <;> simp (disch := first | assumption | (simp only [ONE]; done) | rfl | (simp only [SZ]; done) | omega | (simp only [SZ] at *; omega)) only [↓PR, QR, Int.reduceBEq, Int.reduceBNe, Int.reduceLT, Int.reduceLE, Int.reduceGT, Int.reduceGE, Int.reduceNeg, ↓n_schema_checker_bits_c1, ↓n_schema_checker_bits_c2, ↓n_schema_checker_bits_c3, ↓n_schema_checker_bits_c4] <;> exact fin _ rfl
def namesC (rp : List (ByteArray × Int × Int)) : List TermD → Int
  | [] => 0
  | t :: ts => orC (needC (lastR rp t.field).isSome 8) (namesC rp ts)
def lenB (base : Int) (ts : List TermD) (rp : List (ByteArray × Int × Int)) : Bool := (intervalE base ts rp == 0) && decide (0 ≤ intervalL base ts rp) && decide (intervalH base ts rp ≤ 1048576)
def sizedC (rp : List (ByteArray × Int × Int)) (f : FieldD) : Int := orC (needC (sizeB f.base f.terms) 9) (orC (namesC rp f.terms) (needC (lenB f.base f.terms rp) 9))
theorem sized_flw (h : Chk w0 cb md ms deps strs at_ fld fs) (i : Nat) (hi : fld = i) (hlt : i < fs.length) (v : Value) (f : FieldD) (hf : FieldVal w0 v f) (ht : f.terms.length ≤ 1048576) :
    Calls Try.prog 90 #[.pointer (some ⟨cb, 0, none⟩), v] w0 (flwR w0 at_ fld (sizedC (numR (fs.take i)) f)) := by
  obtain ⟨tv, cv, rfl, hT, hC, ht1, hc1⟩ := hf.op
  refine n_schema_checker_sized_sound ?_; unfold n_schema_checker_sized
  simp (disch := first | assumption | (simp only [ONE]; done) | rfl | (simp only [SZ]; done) | omega | (simp only [SZ] at *; omega)) only [↓PR, QR, Int.reduceBEq, Int.reduceBNe, Int.reduceLT, Int.reduceLE, Int.reduceGT, Int.reduceGE, Int.reduceNeg, ↓n_schema_checker_sized_c1, ↓n_schema_checker_sized_c2, ↓n_schema_checker_sized_c3, ↓n_schema_checker_sized_c4, ↓n_schema_checker_sized_c5, ↓n_schema_checker_sized_c6, ↓n_schema_checker_sized_c7, ↓n_schema_checker_sized_c8]
  generalize hW : World.alloc (World.alloc w0 _) _ = W
  have e0 : Ext w0 W := by rw [← hW]; exact ee
  have o2 : W.heap[w0.heap.size]? = some (.cells #[.pointer (some ⟨cb, 0, none⟩)] 93 (0, 0)) := by rw [← hW]; simp (disch := first | assumption | (simp only [ONE]; done) | rfl | (simp only [SZ]; done) | omega | (simp only [SZ] at *; omega)) only [↓PR, QR, Int.reduceBEq, Int.reduceBNe, Int.reduceLT, Int.reduceLE, Int.reduceGT, Int.reduceGE, Int.reduceNeg]
  have o3 : W.heap[w0.heap.size + 1]? = some (.cells (fieldCells f tv cv).toArray 28 (0, 0)) := by rw [← hW]; simp (disch := first | assumption | (simp only [ONE]; done) | rfl | (simp only [SZ]; done) | omega | (simp only [SZ] at *; omega)) only [↓PR, QR, Int.reduceBEq, Int.reduceBNe, Int.reduceLT, Int.reduceLE, Int.reduceGT, Int.reduceGE, Int.reduceNeg]
  clear hW
  simp only [World.size_alloc]
  refine drawK_intro ?_
  simp (disch := first | assumption | (simp only [ONE]; done) | rfl | (simp only [SZ]; done) | omega | (simp only [SZ] at *; omega)) only [↓PR, QR, Int.reduceBEq, Int.reduceBNe, Int.reduceLT, Int.reduceLE, Int.reduceGT, Int.reduceGE, Int.reduceNeg, ↓n_schema_checker_sized_c1, ↓n_schema_checker_sized_c2, ↓n_schema_checker_sized_c3, ↓n_schema_checker_sized_c4, ↓n_schema_checker_sized_c5, ↓n_schema_checker_sized_c6, ↓n_schema_checker_sized_c7, ↓n_schema_checker_sized_c8, (cells_of_heap o2).1, (cells_of_heap o3).1]
  refine callK_ret (Valid_ret _ _ f.base f.terms ⟨tv, rfl, TermsOf.ext hT ee⟩) ?_
  rintro _ w1 ⟨rfl, e1⟩
  refine ⟨e1, ?_⟩
  unfold sizedC
  refine callK_flw (need_flw (h.ext (e0.wdrew.trans e1)) _ 9 (by decide)) (fun w2 e2 h0 => ?_) (fun w2 e2 h0 => ?_)
  · rw [h0, orC_zero]
    refine ⟨e1.trans e2, ?_⟩
    have e3 : Ext W w2 := (Ext.refl W).wdrew.trans (e1.trans e2)
    have hv : sizeB f.base f.terms = true := by
      cases hb : sizeB f.base f.terms with
      | true => rfl
      | false => rw [hb] at h0; exact absurd h0 (by decide)
    simp (disch := first | assumption | (simp only [ONE]; done) | rfl | (simp only [SZ]; done) | omega | (simp only [SZ] at *; omega)) only [↓PR, QR, Int.reduceBEq, Int.reduceBNe, Int.reduceLT, Int.reduceLE, Int.reduceGT, Int.reduceGE, Int.reduceNeg, ↓n_schema_checker_sized_c1, ↓n_schema_checker_sized_c2, ↓n_schema_checker_sized_c3, ↓n_schema_checker_sized_c4, ↓n_schema_checker_sized_c5, ↓n_schema_checker_sized_c6, ↓n_schema_checker_sized_c7, ↓n_schema_checker_sized_c8, (cells_of_heap (e3.obj o2)).1]
    refine callK_ret (before_ret (h.ext (e0.trans e3)) i hi hlt) ?_
    rintro bv w4 ⟨hB, e4⟩
    simp (disch := first | assumption | (simp only [ONE]; done) | rfl | (simp only [SZ]; done) | omega | (simp only [SZ] at *; omega)) only [↓PR, QR, Int.reduceBEq, Int.reduceBNe, Int.reduceLT, Int.reduceLE, Int.reduceGT, Int.reduceGE, Int.reduceNeg, ↓n_schema_checker_sized_c1, ↓n_schema_checker_sized_c2, ↓n_schema_checker_sized_c3, ↓n_schema_checker_sized_c4, ↓n_schema_checker_sized_c5, ↓n_schema_checker_sized_c6, ↓n_schema_checker_sized_c7, ↓n_schema_checker_sized_c8]
    refine callK_ret (ranges_ret _ _ _ hB) ?_
    rintro _ w5 ⟨m, rfl, hmlo, hM, e5⟩
    rw [numPairs_RP] at hM
    have e6 : Ext W w5 := e3.trans (e4.trans e5)
    have l3 : w0.heap.size + 1 < w5.heap.size := (Array.getElem?_eq_some_iff.1 (e6.obj o3)).1
    simp (disch := first | assumption | (simp only [ONE]; done) | rfl | (simp only [SZ]; done) | omega | (simp only [SZ] at *; omega)) only [↓PR, QR, Int.reduceBEq, Int.reduceBNe, Int.reduceLT, Int.reduceLE, Int.reduceGT, Int.reduceGE, Int.reduceNeg, ↓n_schema_checker_sized_c1, ↓n_schema_checker_sized_c2, ↓n_schema_checker_sized_c3, ↓n_schema_checker_sized_c4, ↓n_schema_checker_sized_c5, ↓n_schema_checker_sized_c6, ↓n_schema_checker_sized_c7, ↓n_schema_checker_sized_c8, (cells_of_heap (e6.obj o3)).1]
    have e6' : Ext w0 w5 := e0.trans e6
    refine callK_ret (Names_ret _ _ f.base f.terms ⟨tv, rfl, TermsOf.ext hT ee⟩ ht) ?_
    rintro _ w7 ⟨pb, tv2, rfl, hTA, _, e7⟩
    rw [hv, if_pos rfl] at hTA
    have s7 := e7.size
    simp only [World.size_alloc] at s7
    have e8 : Ext W w7 := ee
    have p4 : w7.heap[w5.heap.size]? = some (.cells #[.map (some m)] 53 (0, 0)) := by simp (disch := first | assumption | (simp only [ONE]; done) | rfl | (simp only [SZ]; done) | omega | (simp only [SZ] at *; omega)) only [↓PR, QR, Int.reduceBEq, Int.reduceBNe, Int.reduceLT, Int.reduceLE, Int.reduceGT, Int.reduceGE, Int.reduceNeg, e7.heapQ]
    have hM7 : MapOf w7 m (RP (numR (fs.take i))) := hM.ext (((Ext.refl _).alloc _).trans e7)
    have h7 : Chk w7 cb md ms deps strs at_ fld fs := h.ext (e0.trans e8)
    have o2' := e8.obj o2
    have o3' := e8.obj o3
    have e07 : Ext w0 w7 := e0.trans e8
    clear e7 e6 e5 e4 e3 e2 e1 hM hB hmlo s7 l3 o2 o3 e8 e6'
    unfold n_schema_checker_sized_c5
    have hLI : ∀ k, Lasts w7.heap.size (fun w => Ext w7 w ∧ namesC (numR (fs.take i)) (f.terms.drop k) = namesC (numR (fs.take i)) f.terms) := fun k => Lasts.and (Lasts.from (Nat.le_refl _)) (Lasts.const _ _)
    refine ⟨_, _, f.terms.length, namesX f.terms, fun w => TermsAt w pb tv2 f.terms, fun k w => Ext w7 w ∧ namesC (numR (fs.take i)) (f.terms.drop k) = namesC (numR (fs.take i)) f.terms, fun _ _ => False,
      fun ch w => Ext w7 w ∧ ∃ c, c ≠ 0 ∧ ch = [flawEntry at_ fld c] ∧ namesC (numR (fs.take i)) f.terms = c, rfl, c116, Names_seq pb tv2 f.terms, ⟨Ext.refl _, rfl⟩, fun k w h => hTA.ext h.1, hLI, fun _ => Lasts.const _ _, ?_, ?_, ?_, ?_⟩
    · intro rec j w3 hj hI3 hrec hready
      refine ⟨hready, fun w4 hbz => ?_⟩
      have hrec4 := hrec.busied hbz
      obtain ⟨e4, hF⟩ := (hLI j).busied hbz (Nat.le_succ _) hI3
      clear hI3 hrec hready hbz
      obtain ⟨t, hx⟩ := getElem?_lt hj
      rw [show namesX f.terms j = .string t.field by unfold namesX; rw [hx]]
      have hd : f.terms.drop j = t :: f.terms.drop (j + 1) := by
        rw [List.drop_eq_getElem_cons hj]
        congr 1
        exact (List.getElem?_eq_some_iff.1 hx).2
      rw [hd] at hF
      simp only [namesC] at hF
      have o2 := e4.obj o2'
      have l2 : w0.heap.size < w4.heap.size := (Array.getElem?_eq_some_iff.1 o2).1
      simp (disch := first | assumption | (simp only [ONE]; done) | rfl | (simp only [SZ]; done) | omega | (simp only [SZ] at *; omega)) only [↓PR, QR, Int.reduceBEq, Int.reduceBNe, Int.reduceLT, Int.reduceLE, Int.reduceGT, Int.reduceGE, Int.reduceNeg, ↓n_schema_checker_sized_c1, ↓n_schema_checker_sized_c2, ↓n_schema_checker_sized_c3, ↓n_schema_checker_sized_c4, ↓n_schema_checker_sized_c5, ↓n_schema_checker_sized_c6, ↓n_schema_checker_sized_c7, ↓n_schema_checker_sized_c8, (cells_of_heap (e4.obj p4)).1]
      rw [op_lookupO Try.underlying53 Try.underlying9 ty31 (hM7.ext e4), lastOf_RP]
      have fin : ∀ w5 b, Ext w4 w5 → b = (lastR (numR (fs.take i)) t.field).isSome → callK Try.prog 62 #[.pointer (some ⟨cb, 0, none⟩), .bool b, .int .i64 8] (fun ch w'' => RecAt rec w7.heap.size w'' ∧ Ext w7 w'' ∧ ∃ c, c ≠ 0 ∧ ch = [flawEntry at_ fld c] ∧ namesC (numR (fs.take i)) f.terms = c) w5 (fun _ w'' => RecAt rec w7.heap.size w'' ∧ Ext w7 w'' ∧ namesC (numR (fs.take i)) (f.terms.drop (j + 1)) = namesC (numR (fs.take i)) f.terms) := by
        rintro w5 b e5 rfl
        refine callK_flw (need_flw (h7.ext (e4.trans e5)) _ 8 (by decide)) (fun w6 e6 h0 => ?_) (fun w6 e6 h0 => ?_)
        · rw [h0, orC_zero] at hF
          exact ⟨hrec4.ext (e5.trans e6), e4.trans (e5.trans e6), hF⟩
        · rw [orC_ne h0] at hF
          exact ⟨hrec4.ext (e5.trans e6), e4.trans (e5.trans e6), _, h0, rfl, hF.symm⟩
      cases hl : lastR (numR (fs.take i)) t.field with
      | none =>
        rw [hl] at fin
        simp (disch := first | assumption | (simp only [ONE]; done) | rfl | (simp only [SZ]; done) | omega | (simp only [SZ] at *; omega)) only [↓PR, QR, Int.reduceBEq, Int.reduceBNe, Int.reduceLT, Int.reduceLE, Int.reduceGT, Int.reduceGE, Int.reduceNeg, ↓n_schema_checker_sized_c1, ↓n_schema_checker_sized_c2, ↓n_schema_checker_sized_c3, ↓n_schema_checker_sized_c4, ↓n_schema_checker_sized_c5, ↓n_schema_checker_sized_c6, ↓n_schema_checker_sized_c7, ↓n_schema_checker_sized_c8, (cells_of_heap o2).1, Option.map_none]
        exact fin _ _ ee rfl
      | some q =>
        obtain ⟨lo, hi⟩ := q
        rw [hl] at fin
        simp (disch := first | assumption | (simp only [ONE]; done) | rfl | (simp only [SZ]; done) | omega | (simp only [SZ] at *; omega)) only [↓PR, QR, Int.reduceBEq, Int.reduceBNe, Int.reduceLT, Int.reduceLE, Int.reduceGT, Int.reduceGE, Int.reduceNeg, ↓n_schema_checker_sized_c1, ↓n_schema_checker_sized_c2, ↓n_schema_checker_sized_c3, ↓n_schema_checker_sized_c4, ↓n_schema_checker_sized_c5, ↓n_schema_checker_sized_c6, ↓n_schema_checker_sized_c7, ↓n_schema_checker_sized_c8, (cells_of_heap o2).1, rangeVal]
        exact fin _ _ ee rfl
    · rintro w3 ⟨e3, hF⟩ hmk
      rw [List.drop_length] at hF
      have l7 : w7.heap.size < w3.heap.size := (Array.getElem?_eq_some_iff.1 hmk).1
      rw [← hF]
      show n_schema_checker_sized_c4 _ _ _ _ (flwR w0 at_ fld (orC 0 _)) w3
      rw [orC_zero]
      simp (disch := first | assumption | (simp only [ONE]; done) | rfl | (simp only [SZ]; done) | omega | (simp only [SZ] at *; omega)) only [↓PR, QR, Int.reduceBEq, Int.reduceBNe, Int.reduceLT, Int.reduceLE, Int.reduceGT, Int.reduceGE, Int.reduceNeg, ↓n_schema_checker_sized_c1, ↓n_schema_checker_sized_c2, ↓n_schema_checker_sized_c3, ↓n_schema_checker_sized_c4, ↓n_schema_checker_sized_c5, ↓n_schema_checker_sized_c6, ↓n_schema_checker_sized_c7, ↓n_schema_checker_sized_c8, (cells_of_heap (e3.obj o3')).1, (cells_of_heap (e3.obj p4)).1]
      refine callK_ret (Interval_ret _ _ f.base f.terms m _ ⟨tv, rfl, TermsOf.ext hT (e07.trans e3)⟩ ht (hM7.ext e3)) ?_
      rintro _ w4 ⟨rfl, e4⟩
      have s4 := e4.size
      have o2 := (e3.trans e4).obj o2'
      have l2 : w0.heap.size < w4.heap.size := (Array.getElem?_eq_some_iff.1 o2).1
      simp (disch := first | assumption | (simp only [ONE]; done) | rfl | (simp only [SZ]; done) | omega | (simp only [SZ] at *; omega)) only [↓PR, QR, Int.reduceBEq, Int.reduceBNe, Int.reduceLT, Int.reduceLE, Int.reduceGT, Int.reduceGE, Int.reduceNeg, ↓n_schema_checker_sized_c1, ↓n_schema_checker_sized_c2, ↓n_schema_checker_sized_c3, ↓n_schema_checker_sized_c4, ↓n_schema_checker_sized_c5, ↓n_schema_checker_sized_c6, ↓n_schema_checker_sized_c7, ↓n_schema_checker_sized_c8, (cells_of_heap o2).1, rangeVal]
      have e5 : Ext w3 (w4.alloc (Obj.cells #[.int .i64 (intervalL f.base f.terms (numR (fs.take i))), .int .i64 (intervalH f.base f.terms (numR (fs.take i)))] 31)) := e4.alloc _
      have s07 := e07.size
      refine callK_flw (need_flw (h7.ext (e3.trans e5)) (lenB f.base f.terms (numR (fs.take i))) 9 (by decide)) (fun w6 e6 h0 => ?_) (fun w6 e6 h0 => ?_)
      · refine outX_mark (hmk.ext (e5.trans e6)) ?_
        rw [outX_nil]
        exact flwR_ret (((e07.trans e3).trans (e5.trans e6)).putObj (by omega) _) h0
      · refine outQ_mark (hmk.ext (e5.trans e6)) ?_
        rw [outQ_nil]
        exact flwR_pan (((e07.trans e3).trans (e5.trans e6)).putObj (by omega) _) rfl h0
    · rintro c w3 h
      exact h.elim
    · rintro ch w3 ⟨e3, c, hc, rfl, hF⟩ hmk
      have l7 : w7.heap.size < w3.heap.size := (Array.getElem?_eq_some_iff.1 hmk).1
      rw [hF, orC_ne hc]
      refine outQ_mark hmk ?_
      rw [outQ_nil]
      exact flwR_pan (by have := e07.size; exact ee) rfl hc
  · rw [orC_ne h0]
    exact flwR_pan (e0.wdrew.trans (e1.trans e2)) rfl h0
end
end Go.Proofs.Ytiajhbbmgglmlaa
