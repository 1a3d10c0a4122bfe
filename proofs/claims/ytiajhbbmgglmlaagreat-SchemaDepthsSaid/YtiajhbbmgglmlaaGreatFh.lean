/-
  phrasebooklaw05.SchemaDepths returns true for every definition and every number of a message, and leaves its arguments as they were; no condition is asked.
-/
import Derived.Test.YtiajhbbmgglmlaaGreatFh5
set_option linter.all false
set_option maxHeartbeats 4000000
set_option maxRecDepth 100000
namespace Go.Proofs.YtiajhbbmgglmlaaGreat
open Sw
def n34c1 (t115 t119 t122:Value) (R:RT) (w:World):Prop :=
 joinK (fun (t123:Value) (w:World) =>
 pickK t115 t123 (.bool false) fun t124 =>
 R (.returned t124) w) fun K32 =>
 guardP t115 true (
 pickK t119 (.bool true) t122 fun t123 =>
 K32 t123 w) (
 K32 undef w)
def n34c2 (t1 t115 t119:Value) (R:RT) (w:World):Prop :=
 joinK (fun (t122:Value) (w:World) =>
 n34c1 t115 t119 t122 R w) fun K31 =>
 guardP t119 false (
 F0 52 t1 13 R w fun t120 w =>
 L0 3 t120 R w fun t121 w =>
 B0 .eql 3 true t121 (.int .i64 0) R w fun t122 w =>
 K31 t122 w) (
 K31 undef w)
def n34c3 (t1 t6 t106 t114:Value) (R:RT) (w:World):Prop :=
 pickK t106 t114 (.bool false) fun t115 =>
 joinK (fun (t119:Value) (w:World) =>
 n34c2 t1 t115 t119 R w) fun K30 =>
 guardP t115 true (
 C0 56 #[t6,(.int .u8 121)] R w fun t118 w =>
 K30 t118 w) (
 K30 undef w)
def n34c4 (t1 t6 t106 t110:Value) (R:RT) (w:World):Prop :=
 joinK (fun (t113:Value) (w:World) =>
 joinK (fun (t114:Value) (w:World) =>
 n34c3 t1 t6 t106 t114 R w) fun K29 =>
 guardP t106 true (
 pickK t110 (.bool true) t113 fun t114 =>
 K29 t114 w) (
 K29 undef w)) fun K28 =>
 guardP t110 false (
 F0 52 t1 12 R w fun t111 w =>
 L0 3 t111 R w fun t112 w =>
 B0 .eql 3 true t112 (.int .i64 0) R w fun t113 w =>
 K28 t113 w) (
 K28 undef w)
def n34c5 (t1 t6 t100 t105:Value) (R:RT) (w:World):Prop :=
 pickK t100 (.bool true) t105 fun t106 =>
 joinK (fun (t110:Value) (w:World) =>
 n34c4 t1 t6 t106 t110 R w) fun K27 =>
 guardP t106 true (
 C0 56 #[t6,(.int .u8 107)] R w fun t109 w =>
 K27 t109 w) (
 K27 undef w)
def n34c6 (t1 t6 t100:Value) (R:RT) (w:World):Prop :=
 joinK (fun (t105:Value) (w:World) =>
 n34c5 t1 t6 t100 t105 R w) fun K26 =>
 guardP t100 false (
 F0 52 t1 11 R w fun t102 w =>
 L0 50 t102 R w fun t103 w =>
 opV Pg (Builtin.len_ #[50] 3 #[t103]) (panK R) w fun t104 w =>
 B0 .eql 3 true t104 (.int .i64 0) R w fun t105 w =>
 K26 t105 w) (
 K26 undef w)
def n34c7 (t1 t6 t88 t97:Value) (R:RT) (w:World):Prop :=
 pickK t88 (.bool true) t97 fun t98 =>
 condP t98 (
 R (.returned (.bool false)) w) (
 C0 56 #[t6,(.int .u8 99)] R w fun t100 w =>
 n34c6 t1 t6 t100 R w)
def n34c8 (t1 t6 t88 t93:Value) (R:RT) (w:World):Prop :=
 joinK (fun (t96:Value) (w:World) =>
 joinK (fun (t97:Value) (w:World) =>
 n34c7 t1 t6 t88 t97 R w) fun K25 =>
 guardP t88 false (
 pickK t93 t96 (.bool false) fun t97 =>
 K25 t97 w) (
 K25 undef w)) fun K24 =>
 guardP t93 true (
 F0 52 t1 10 R w fun t94 w =>
 L0 9 t94 R w fun t95 w =>
 opV Pg (binS .neq 9 true t95 (.string { data := #[] })) (panK R) w fun t96 w =>
 K24 t96 w) (
 K24 undef w)
def n34c9 (t1 t6 t78 t87:Value) (R:RT) (w:World):Prop :=
 pickK t78 (.bool true) t87 fun t88 =>
 joinK (fun (t93:Value) (w:World) =>
 n34c8 t1 t6 t88 t93 R w) fun K23 =>
 guardP t88 false (
 C0 56 #[t6,(.int .u8 114)] R w fun t91 w =>
 opV Pg (Op.unary .not t91) (panK R) w fun t92 w =>
 K23 t92 w) (
 K23 undef w)
def n34c10 (t1 t6 t78 t83:Value) (R:RT) (w:World):Prop :=
 joinK (fun (t86:Value) (w:World) =>
 joinK (fun (t87:Value) (w:World) =>
 n34c9 t1 t6 t78 t87 R w) fun K22 =>
 guardP t78 false (
 pickK t83 t86 (.bool false) fun t87 =>
 K22 t87 w) (
 K22 undef w)) fun K21 =>
 guardP t83 true (
 F0 52 t1 9 R w fun t84 w =>
 L0 9 t84 R w fun t85 w =>
 opV Pg (binS .neq 9 true t85 (.string { data := #[] })) (panK R) w fun t86 w =>
 K21 t86 w) (
 K21 undef w)
def n34c11 (t1 t6 t68 t77:Value) (R:RT) (w:World):Prop :=
 pickK t68 (.bool true) t77 fun t78 =>
 joinK (fun (t83:Value) (w:World) =>
 n34c10 t1 t6 t78 t83 R w) fun K20 =>
 guardP t78 false (
 C0 56 #[t6,(.int .u8 116)] R w fun t81 w =>
 opV Pg (Op.unary .not t81) (panK R) w fun t82 w =>
 K20 t82 w) (
 K20 undef w)
def n34c12 (t1 t6 t68 t73:Value) (R:RT) (w:World):Prop :=
 joinK (fun (t76:Value) (w:World) =>
 joinK (fun (t77:Value) (w:World) =>
 n34c11 t1 t6 t68 t77 R w) fun K19 =>
 guardP t68 false (
 pickK t73 t76 (.bool false) fun t77 =>
 K19 t77 w) (
 K19 undef w)) fun K18 =>
 guardP t73 true (
 F0 52 t1 8 R w fun t74 w =>
 L0 9 t74 R w fun t75 w =>
 opV Pg (binS .neq 9 true t75 (.string { data := #[] })) (panK R) w fun t76 w =>
 K18 t76 w) (
 K18 undef w)
def n34c13 (t1 t6 t55 t67:Value) (R:RT) (w:World):Prop :=
 pickK t55 t67 (.bool false) fun t68 =>
 joinK (fun (t73:Value) (w:World) =>
 n34c12 t1 t6 t68 t73 R w) fun K17 =>
 guardP t68 false (
 C0 56 #[t6,(.int .u8 102)] R w fun t71 w =>
 opV Pg (Op.unary .not t71) (panK R) w fun t72 w =>
 K17 t72 w) (
 K17 undef w)
def n34c14 (t1 t6 t55 t61:Value) (R:RT) (w:World):Prop :=
 joinK (fun (t66:Value) (w:World) =>
 joinK (fun (t67:Value) (w:World) =>
 n34c13 t1 t6 t55 t67 R w) fun K16 =>
 guardP t55 true (
 pickK t61 (.bool true) t66 fun t67 =>
 K16 t67 w) (
 K16 undef w)) fun K15 =>
 guardP t61 false (
 F0 52 t1 7 R w fun t62 w =>
 F0 49 t62 1 R w fun t63 w =>
 L0 47 t63 R w fun t64 w =>
 opV Pg (Builtin.len_ #[47] 3 #[t64]) (panK R) w fun t65 w =>
 B0 .neq 3 true t65 (.int .i64 0) R w fun t66 w =>
 K15 t66 w) (
 K15 undef w)
def n34c15 (t1 t6 t54:Value) (R:RT) (w:World):Prop :=
 opV Pg (Op.unary .not t54) (panK R) w fun t55 w =>
 joinK (fun (t61:Value) (w:World) =>
 n34c14 t1 t6 t55 t61 R w) fun K14 =>
 guardP t55 true (
 F0 52 t1 7 R w fun t57 w =>
 F0 49 t57 0 R w fun t58 w =>
 L0 3 t58 R w fun t59 w =>
 B0 .neq 3 true t59 (.int .i64 0) R w fun t60 w =>
 K14 t60 w) (
 K14 undef w)
def n34c16 (t1 t6 t42 t51:Value) (R:RT) (w:World):Prop :=
 pickK t42 (.bool true) t51 fun t52 =>
 condP t52 (
 R (.returned (.bool false)) w) (
 C0 56 #[t6,(.int .u8 115)] R w fun t54 w =>
 n34c15 t1 t6 t54 R w)
def n34c17 (t1 t6 t42 t47:Value) (R:RT) (w:World):Prop :=
 joinK (fun (t50:Value) (w:World) =>
 joinK (fun (t51:Value) (w:World) =>
 n34c16 t1 t6 t42 t51 R w) fun K13 =>
 guardP t42 false (
 pickK t47 t50 (.bool false) fun t51 =>
 K13 t51 w) (
 K13 undef w)) fun K12 =>
 guardP t47 true (
 F0 52 t1 6 R w fun t48 w =>
 L0 3 t48 R w fun t49 w =>
 B0 .neq 3 true t49 (.int .i64 0) R w fun t50 w =>
 K12 t50 w) (
 K12 undef w)
def n34c18 (t1 t6 t32 t41:Value) (R:RT) (w:World):Prop :=
 pickK t32 (.bool true) t41 fun t42 =>
 joinK (fun (t47:Value) (w:World) =>
 n34c17 t1 t6 t42 t47 R w) fun K11 =>
 guardP t42 false (
 C0 56 #[t6,(.int .u8 104)] R w fun t45 w =>
 opV Pg (Op.unary .not t45) (panK R) w fun t46 w =>
 K11 t46 w) (
 K11 undef w)
def n34c19 (t1 t6 t32 t37:Value) (R:RT) (w:World):Prop :=
 joinK (fun (t40:Value) (w:World) =>
 joinK (fun (t41:Value) (w:World) =>
 n34c18 t1 t6 t32 t41 R w) fun K10 =>
 guardP t32 false (
 pickK t37 t40 (.bool false) fun t41 =>
 K10 t41 w) (
 K10 undef w)) fun K9 =>
 guardP t37 true (
 F0 52 t1 5 R w fun t38 w =>
 L0 3 t38 R w fun t39 w =>
 B0 .neq 3 true t39 (.int .i64 0) R w fun t40 w =>
 K9 t40 w) (
 K9 undef w)
def n34c20 (t1 t6 t23 t31:Value) (R:RT) (w:World):Prop :=
 pickK t23 (.bool true) t31 fun t32 =>
 joinK (fun (t37:Value) (w:World) =>
 n34c19 t1 t6 t32 t37 R w) fun K8 =>
 guardP t32 false (
 C0 56 #[t6,(.int .u8 120)] R w fun t35 w =>
 opV Pg (Op.unary .not t35) (panK R) w fun t36 w =>
 K8 t36 w) (
 K8 undef w)
def n34c21 (t1 t6 t23 t28:Value) (R:RT) (w:World):Prop :=
 joinK (fun (t30:Value) (w:World) =>
 joinK (fun (t31:Value) (w:World) =>
 n34c20 t1 t6 t23 t31 R w) fun K7 =>
 guardP t23 false (
 pickK t28 t30 (.bool false) fun t31 =>
 K7 t31 w) (
 K7 undef w)) fun K6 =>
 guardP t28 true (
 F0 52 t1 4 R w fun t29 w =>
 L0 4 t29 R w fun t30 w =>
 K6 t30 w) (
 K6 undef w)
def n34c22 (t1 t6 t14 t22:Value) (R:RT) (w:World):Prop :=
 pickK t14 (.bool true) t22 fun t23 =>
 joinK (fun (t28:Value) (w:World) =>
 n34c21 t1 t6 t23 t28 R w) fun K5 =>
 guardP t23 false (
 C0 56 #[t6,(.int .u8 111)] R w fun t26 w =>
 opV Pg (Op.unary .not t26) (panK R) w fun t27 w =>
 K5 t27 w) (
 K5 undef w)
def n34c23 (t1 t6 t14 t19:Value) (R:RT) (w:World):Prop :=
 joinK (fun (t21:Value) (w:World) =>
 joinK (fun (t22:Value) (w:World) =>
 n34c22 t1 t6 t14 t22 R w) fun K4 =>
 guardP t14 false (
 pickK t19 t21 (.bool false) fun t22 =>
 K4 t22 w) (
 K4 undef w)) fun K3 =>
 guardP t19 true (
 F0 52 t1 3 R w fun t20 w =>
 L0 4 t20 R w fun t21 w =>
 K3 t21 w) (
 K3 undef w)
def n34c24 (t1 t6 t9 t13:Value) (R:RT) (w:World):Prop :=
 pickK t9 t13 (.bool false) fun t14 =>
 joinK (fun (t19:Value) (w:World) =>
 n34c23 t1 t6 t14 t19 R w) fun K2 =>
 guardP t14 false (
 C0 56 #[t6,(.int .u8 108)] R w fun t17 w =>
 opV Pg (Op.unary .not t17) (panK R) w fun t18 w =>
 K2 t18 w) (
 K2 undef w)
def n34c25 (t1 t6 t8:Value) (R:RT) (w:World):Prop :=
 opV Pg (Op.unary .not t8) (panK R) w fun t9 w =>
 joinK (fun (t13:Value) (w:World) =>
 n34c24 t1 t6 t9 t13 R w) fun K1 =>
 guardP t9 true (
 F0 52 t1 2 R w fun t11 w =>
 L0 3 t11 R w fun t12 w =>
 B0 .neq 3 true t12 (.int .i64 0) R w fun t13 w =>
 K1 t13 w) (
 K1 undef w)
def n34 (t0:Value) (R:RT) (w:World):Prop :=
 opV Pg (Instr.box 52 t0) (panK R) w fun t1 w =>
 F0 52 t1 1 R w fun t4 w =>
 L0 46 t4 R w fun t5 w =>
 C0 55 #[t5] R w fun t6 w =>
 C0 56 #[t6,(.int .u8 98)] R w fun t8 w =>
 n34c25 t1 t6 t8 R w
theorem n34s {t0:Value} {R:RT} {w:World} (h:n34 t0 R w):Calls Pg 43 #[t0] w R:=by
 refine calls_of_den (args:=[t0]) Tryz.func43 rfl (Nat.le_of_ble_eq_true rfl) ?_
 unfold n34 at h
 refine zs<|zr ?_
 refine zv h fun t1 w h=>?_
 refine zm<|zn<|zk<|zs<|zr ?_
 refine zv h fun t4 w h=>?_
 refine zv h fun t5 w h=>?_
 refine zc h c55 fun t6 w h=>?_
 refine zm<|zn<|zk<|zs<|zs<|sim_regionG ?_
 refine sim_seg 4 rfl ?_
 refine zm ?_
 refine zc h c56 fun t8 w h=>?_
 refine zv h fun t9 w h=>?_
 refine zm<|zn ?_
 refine joinK_elim h (fun K1 hK h=>?_)
 refine sim_groupJ 3 3 true [11,12,13] (fun ρ w=>K1 (ρ 13) w) rfl rfl (fun T hT=>guardP_mono h (fun h=>?_) (fun h=>?_)) (fun σ w h=>?_)
 · refine zv h fun t11 w h=>?_
   refine zv h fun t12 w h=>?_
   refine zb h fun t13 w h=>?_
   refine zn ?_
   exact zt hT h
 · exact zt hT h
 subst hK
 refine sim_seg 2 rfl ?_
 refine sim_pick h rfl rfl rfl ?_;intro t14 h
 refine zm<|zn ?_
 refine joinK_elim h (fun K2 hK h=>?_)
 refine sim_groupJ 4 8 false [16,17,18,19] (fun ρ w=>K2 (ρ 19) w) rfl rfl (fun T hT=>guardP_mono h (fun h=>?_) (fun h=>?_)) (fun σ w h=>?_)
 · refine zm ?_
   refine zc h c56 fun t17 w h=>?_
   refine zv h fun t18 w h=>?_
   refine zm<|zn ?_
   exact zt hT h
 · exact zt hT h
 subst hK
 refine joinK_elim h (fun K3 hK h=>?_)
 refine sim_groupJ 2 12 true [20,21] (fun ρ w=>K3 (ρ 21) w) rfl rfl (fun T hT=>guardP_mono h (fun h=>?_) (fun h=>?_)) (fun σ w h=>?_)
 · refine zv h fun t20 w h=>?_
   refine zv h fun t21 w h=>?_
   refine zn ?_
   exact zt hT h
 · exact zt hT h
 subst hK
 refine joinK_elim h (fun K4 hK h=>?_)
 refine sim_groupJ 1 8 false [22] (fun ρ w=>K4 (ρ 22) w) rfl rfl (fun T hT=>guardP_mono h (fun h=>?_) (fun h=>?_)) (fun σ w h=>?_)
 · refine sim_pick h rfl rfl rfl ?_;intro t22 h
   refine zn ?_
   exact zt hT h
 · exact zt hT h
 subst hK
 refine sim_seg 2 rfl ?_
 refine sim_pick h rfl rfl rfl ?_;intro t23 h
 refine zm<|zn ?_
 refine joinK_elim h (fun K5 hK h=>?_)
 refine sim_groupJ 4 17 false [25,26,27,28] (fun ρ w=>K5 (ρ 28) w) rfl rfl (fun T hT=>guardP_mono h (fun h=>?_) (fun h=>?_)) (fun σ w h=>?_)
 · refine zm ?_
   refine zc h c56 fun t26 w h=>?_
   refine zv h fun t27 w h=>?_
   refine zm<|zn ?_
   exact zt hT h
 · exact zt hT h
 subst hK
 refine joinK_elim h (fun K6 hK h=>?_)
 refine sim_groupJ 2 21 true [29,30] (fun ρ w=>K6 (ρ 30) w) rfl rfl (fun T hT=>guardP_mono h (fun h=>?_) (fun h=>?_)) (fun σ w h=>?_)
 · refine zv h fun t29 w h=>?_
   refine zv h fun t30 w h=>?_
   refine zn ?_
   exact zt hT h
 · exact zt hT h
 subst hK
 refine joinK_elim h (fun K7 hK h=>?_)
 refine sim_groupJ 1 17 false [31] (fun ρ w=>K7 (ρ 31) w) rfl rfl (fun T hT=>guardP_mono h (fun h=>?_) (fun h=>?_)) (fun σ w h=>?_)
 · refine sim_pick h rfl rfl rfl ?_;intro t31 h
   refine zn ?_
   exact zt hT h
 · exact zt hT h
 subst hK
 refine sim_seg 2 rfl ?_
 refine sim_pick h rfl rfl rfl ?_;intro t32 h
 refine zm<|zn ?_
 refine joinK_elim h (fun K8 hK h=>?_)
 refine sim_groupJ 4 26 false [34,35,36,37] (fun ρ w=>K8 (ρ 37) w) rfl rfl (fun T hT=>guardP_mono h (fun h=>?_) (fun h=>?_)) (fun σ w h=>?_)
 · refine zm ?_
   refine zc h c56 fun t35 w h=>?_
   refine zv h fun t36 w h=>?_
   refine zm<|zn ?_
   exact zt hT h
 · exact zt hT h
 subst hK
 refine joinK_elim h (fun K9 hK h=>?_)
 refine sim_groupJ 3 30 true [38,39,40] (fun ρ w=>K9 (ρ 40) w) rfl rfl (fun T hT=>guardP_mono h (fun h=>?_) (fun h=>?_)) (fun σ w h=>?_)
 · refine zv h fun t38 w h=>?_
   refine zv h fun t39 w h=>?_
   refine zb h fun t40 w h=>?_
   refine zn ?_
   exact zt hT h
 · exact zt hT h
 subst hK
 refine joinK_elim h (fun K10 hK h=>?_)
 refine sim_groupJ 1 26 false [41] (fun ρ w=>K10 (ρ 41) w) rfl rfl (fun T hT=>guardP_mono h (fun h=>?_) (fun h=>?_)) (fun σ w h=>?_)
 · refine sim_pick h rfl rfl rfl ?_;intro t41 h
   refine zn ?_
   exact zt hT h
 · exact zt hT h
 subst hK
 refine sim_seg 2 rfl ?_
 refine sim_pick h rfl rfl rfl ?_;intro t42 h
 refine zm<|zn ?_
 refine joinK_elim h (fun K11 hK h=>?_)
 refine sim_groupJ 4 36 false [44,45,46,47] (fun ρ w=>K11 (ρ 47) w) rfl rfl (fun T hT=>guardP_mono h (fun h=>?_) (fun h=>?_)) (fun σ w h=>?_)
 · refine zm ?_
   refine zc h c56 fun t45 w h=>?_
   refine zv h fun t46 w h=>?_
   refine zm<|zn ?_
   exact zt hT h
 · exact zt hT h
 subst hK
 refine joinK_elim h (fun K12 hK h=>?_)
 refine sim_groupJ 3 40 true [48,49,50] (fun ρ w=>K12 (ρ 50) w) rfl rfl (fun T hT=>guardP_mono h (fun h=>?_) (fun h=>?_)) (fun σ w h=>?_)
 · refine zv h fun t48 w h=>?_
   refine zv h fun t49 w h=>?_
   refine zb h fun t50 w h=>?_
   refine zn ?_
   exact zt hT h
 · exact zt hT h
 subst hK
 refine joinK_elim h (fun K13 hK h=>?_)
 refine sim_groupJ 1 36 false [51] (fun ρ w=>K13 (ρ 51) w) rfl rfl (fun T hT=>guardP_mono h (fun h=>?_) (fun h=>?_)) (fun σ w h=>?_)
 · refine sim_pick h rfl rfl rfl ?_;intro t51 h
   refine zn ?_
   exact zt hT h
 · exact zt hT h
 subst hK
 refine sim_seg 1 rfl ?_
 refine sim_pick h rfl rfl rfl ?_;intro t52 h
 refine zn<|sim_end<|zk ?_
 refine sim_cond h rfl (fun h=>?_) (fun h=>?_)
 · refine zs<|zr<|zm<|zn<|zk<|sim_ret<|sim_then_ret ?_
   exact body_ret1 rfl rfl h
 · refine sim_skip<|zk<|zs<|zs<|sim_regionG ?_
   refine sim_seg 4 rfl ?_
   refine zm ?_
   refine zc h c56 fun t54 w h=>?_
   refine zv h fun t55 w h=>?_
   refine zm<|zn ?_
   refine joinK_elim h (fun K14 hK h=>?_)
   refine sim_groupJ 5 3 true [57,58,59,60,61] (fun ρ w=>K14 (ρ 61) w) rfl rfl (fun T hT=>guardP_mono h (fun h=>?_) (fun h=>?_)) (fun σ w h=>?_)
   · refine zv h fun t57 w h=>?_
     refine zv h fun t58 w h=>?_
     refine zv h fun t59 w h=>?_
     refine zb h fun t60 w h=>?_
     refine zm<|zn ?_
     exact zt hT h
   · exact zt hT h
   subst hK
   refine joinK_elim h (fun K15 hK h=>?_)
   refine sim_groupJ 5 8 false [62,63,64,65,66] (fun ρ w=>K15 (ρ 66) w) rfl rfl (fun T hT=>guardP_mono h (fun h=>?_) (fun h=>?_)) (fun σ w h=>?_)
   · refine zv h fun t62 w h=>?_
     refine zv h fun t63 w h=>?_
     refine zv h fun t64 w h=>?_
     refine zx h fun t65 w h=>?_
     refine zb h fun t66 w h=>?_
     refine zn ?_
     exact zt hT h
   · exact zt hT h
   subst hK
   refine joinK_elim h (fun K16 hK h=>?_)
   refine sim_groupJ 1 3 true [67] (fun ρ w=>K16 (ρ 67) w) rfl rfl (fun T hT=>guardP_mono h (fun h=>?_) (fun h=>?_)) (fun σ w h=>?_)
   · refine sim_pick h rfl rfl rfl ?_;intro t67 h
     refine zn ?_
     exact zt hT h
   · exact zt hT h
   subst hK
   refine sim_seg 2 rfl ?_
   refine sim_pick h rfl rfl rfl ?_;intro t68 h
   refine zm<|zn ?_
   refine joinK_elim h (fun K17 hK h=>?_)
   refine sim_groupJ 4 16 false [70,71,72,73] (fun ρ w=>K17 (ρ 73) w) rfl rfl (fun T hT=>guardP_mono h (fun h=>?_) (fun h=>?_)) (fun σ w h=>?_)
   · refine zm ?_
     refine zc h c56 fun t71 w h=>?_
     refine zv h fun t72 w h=>?_
     refine zm<|zn ?_
     exact zt hT h
   · exact zt hT h
   subst hK
   refine joinK_elim h (fun K18 hK h=>?_)
   refine sim_groupJ 3 20 true [74,75,76] (fun ρ w=>K18 (ρ 76) w) rfl rfl (fun T hT=>guardP_mono h (fun h=>?_) (fun h=>?_)) (fun σ w h=>?_)
   · refine zv h fun t74 w h=>?_
     refine zv h fun t75 w h=>?_
     refine zb h fun t76 w h=>?_
     refine zn ?_
     exact zt hT h
   · exact zt hT h
   subst hK
   refine joinK_elim h (fun K19 hK h=>?_)
   refine sim_groupJ 1 16 false [77] (fun ρ w=>K19 (ρ 77) w) rfl rfl (fun T hT=>guardP_mono h (fun h=>?_) (fun h=>?_)) (fun σ w h=>?_)
   · refine sim_pick h rfl rfl rfl ?_;intro t77 h
     refine zn ?_
     exact zt hT h
   · exact zt hT h
   subst hK
   refine sim_seg 2 rfl ?_
   refine sim_pick h rfl rfl rfl ?_;intro t78 h
   refine zm<|zn ?_
   refine joinK_elim h (fun K20 hK h=>?_)
   refine sim_groupJ 4 26 false [80,81,82,83] (fun ρ w=>K20 (ρ 83) w) rfl rfl (fun T hT=>guardP_mono h (fun h=>?_) (fun h=>?_)) (fun σ w h=>?_)
   · refine zm ?_
     refine zc h c56 fun t81 w h=>?_
     refine zv h fun t82 w h=>?_
     refine zm<|zn ?_
     exact zt hT h
   · exact zt hT h
   subst hK
   refine joinK_elim h (fun K21 hK h=>?_)
   refine sim_groupJ 3 30 true [84,85,86] (fun ρ w=>K21 (ρ 86) w) rfl rfl (fun T hT=>guardP_mono h (fun h=>?_) (fun h=>?_)) (fun σ w h=>?_)
   · refine zv h fun t84 w h=>?_
     refine zv h fun t85 w h=>?_
     refine zb h fun t86 w h=>?_
     refine zn ?_
     exact zt hT h
   · exact zt hT h
   subst hK
   refine joinK_elim h (fun K22 hK h=>?_)
   refine sim_groupJ 1 26 false [87] (fun ρ w=>K22 (ρ 87) w) rfl rfl (fun T hT=>guardP_mono h (fun h=>?_) (fun h=>?_)) (fun σ w h=>?_)
   · refine sim_pick h rfl rfl rfl ?_;intro t87 h
     refine zn ?_
     exact zt hT h
   · exact zt hT h
   subst hK
   refine sim_seg 2 rfl ?_
   refine sim_pick h rfl rfl rfl ?_;intro t88 h
   refine zm<|zn ?_
   refine joinK_elim h (fun K23 hK h=>?_)
   refine sim_groupJ 4 36 false [90,91,92,93] (fun ρ w=>K23 (ρ 93) w) rfl rfl (fun T hT=>guardP_mono h (fun h=>?_) (fun h=>?_)) (fun σ w h=>?_)
   · refine zm ?_
     refine zc h c56 fun t91 w h=>?_
     refine zv h fun t92 w h=>?_
     refine zm<|zn ?_
     exact zt hT h
   · exact zt hT h
   subst hK
   refine joinK_elim h (fun K24 hK h=>?_)
   refine sim_groupJ 3 40 true [94,95,96] (fun ρ w=>K24 (ρ 96) w) rfl rfl (fun T hT=>guardP_mono h (fun h=>?_) (fun h=>?_)) (fun σ w h=>?_)
   · refine zv h fun t94 w h=>?_
     refine zv h fun t95 w h=>?_
     refine zb h fun t96 w h=>?_
     refine zn ?_
     exact zt hT h
   · exact zt hT h
   subst hK
   refine joinK_elim h (fun K25 hK h=>?_)
   refine sim_groupJ 1 36 false [97] (fun ρ w=>K25 (ρ 97) w) rfl rfl (fun T hT=>guardP_mono h (fun h=>?_) (fun h=>?_)) (fun σ w h=>?_)
   · refine sim_pick h rfl rfl rfl ?_;intro t97 h
     refine zn ?_
     exact zt hT h
   · exact zt hT h
   subst hK
   refine sim_seg 1 rfl ?_
   refine sim_pick h rfl rfl rfl ?_;intro t98 h
   refine zn<|sim_end<|zk ?_
   refine sim_cond h rfl (fun h=>?_) (fun h=>?_)
   · refine zs<|zr<|zm<|zn<|zk<|sim_ret<|sim_then_ret ?_
     exact body_ret1 rfl rfl h
   · refine sim_skip<|zk<|zs<|sim_regionG ?_
     refine sim_seg 3 rfl ?_
     refine zm ?_
     refine zc h c56 fun t100 w h=>?_
     refine zm<|zn ?_
     refine joinK_elim h (fun K26 hK h=>?_)
     refine sim_groupJ 4 2 false [102,103,104,105] (fun ρ w=>K26 (ρ 105) w) rfl rfl (fun T hT=>guardP_mono h (fun h=>?_) (fun h=>?_)) (fun σ w h=>?_)
     · refine zv h fun t102 w h=>?_
       refine zv h fun t103 w h=>?_
       refine zx h fun t104 w h=>?_
       refine zb h fun t105 w h=>?_
       refine zn ?_
       exact zt hT h
     · exact zt hT h
     subst hK
     refine sim_seg 2 rfl ?_
     refine sim_pick h rfl rfl rfl ?_;intro t106 h
     refine zm<|zn ?_
     refine joinK_elim h (fun K27 hK h=>?_)
     refine sim_groupJ 3 8 true [108,109,110] (fun ρ w=>K27 (ρ 110) w) rfl rfl (fun T hT=>guardP_mono h (fun h=>?_) (fun h=>?_)) (fun σ w h=>?_)
     · refine zm ?_
       refine zc h c56 fun t109 w h=>?_
       refine zm<|zn ?_
       exact zt hT h
     · exact zt hT h
     subst hK
     refine joinK_elim h (fun K28 hK h=>?_)
     refine sim_groupJ 3 11 false [111,112,113] (fun ρ w=>K28 (ρ 113) w) rfl rfl (fun T hT=>guardP_mono h (fun h=>?_) (fun h=>?_)) (fun σ w h=>?_)
     · refine zv h fun t111 w h=>?_
       refine zv h fun t112 w h=>?_
       refine zb h fun t113 w h=>?_
       refine zn ?_
       exact zt hT h
     · exact zt hT h
     subst hK
     refine joinK_elim h (fun K29 hK h=>?_)
     refine sim_groupJ 1 8 true [114] (fun ρ w=>K29 (ρ 114) w) rfl rfl (fun T hT=>guardP_mono h (fun h=>?_) (fun h=>?_)) (fun σ w h=>?_)
     · refine sim_pick h rfl rfl rfl ?_;intro t114 h
       refine zn ?_
       exact zt hT h
     · exact zt hT h
     subst hK
     refine sim_seg 2 rfl ?_
     refine sim_pick h rfl rfl rfl ?_;intro t115 h
     refine zm<|zn ?_
     refine joinK_elim h (fun K30 hK h=>?_)
     refine sim_groupJ 3 17 true [117,118,119] (fun ρ w=>K30 (ρ 119) w) rfl rfl (fun T hT=>guardP_mono h (fun h=>?_) (fun h=>?_)) (fun σ w h=>?_)
     · refine zm ?_
       refine zc h c56 fun t118 w h=>?_
       refine zm<|zn ?_
       exact zt hT h
     · exact zt hT h
     subst hK
     refine joinK_elim h (fun K31 hK h=>?_)
     refine sim_groupJ 3 20 false [120,121,122] (fun ρ w=>K31 (ρ 122) w) rfl rfl (fun T hT=>guardP_mono h (fun h=>?_) (fun h=>?_)) (fun σ w h=>?_)
     · refine zv h fun t120 w h=>?_
       refine zv h fun t121 w h=>?_
       refine zb h fun t122 w h=>?_
       refine zn ?_
       exact zt hT h
     · exact zt hT h
     subst hK
     refine joinK_elim h (fun K32 hK h=>?_)
     refine sim_groupJ 1 17 true [123] (fun ρ w=>K32 (ρ 123) w) rfl rfl (fun T hT=>guardP_mono h (fun h=>?_) (fun h=>?_)) (fun σ w h=>?_)
     · refine sim_pick h rfl rfl rfl ?_;intro t123 h
       refine zn ?_
       exact zt hT h
     · exact zt hT h
     subst hK
     refine sim_seg 2 rfl ?_
     refine sim_pick h rfl rfl rfl ?_;intro t124 h
     refine zm<|zn<|sim_end<|zk<|sim_ret ?_
     exact body_ret1 rfl rfl h
end Go.Proofs.YtiajhbbmgglmlaaGreat
namespace Go.Proofs.YtiajhbbmgglmlaaGreat
open Sw
open Go.RowKit (intOf Below)
theorem HT:hasB (usedS 1) 98=true∧hasB (usedS 1) 108=true∧hasB (usedS 1) 111=false∧hasB (usedS 1) 120=true∧hasB (usedS 1) 104=true∧hasB (usedS 1) 115=false∧hasB (usedS 1) 102=false∧hasB (usedS 1) 116=false∧hasB (usedS 1) 114=false∧hasB (usedS 1) 99=false∧hasB (usedS 1) 107=false∧hasB (usedS 1) 121=false∧hasB (usedS 2) 98=true∧hasB (usedS 2) 108=true∧hasB (usedS 2) 111=false∧hasB (usedS 2) 120=true∧hasB (usedS 2) 104=false∧hasB (usedS 2) 115=false∧hasB (usedS 2) 102=false∧hasB (usedS 2) 116=false∧hasB (usedS 2) 114=false∧hasB (usedS 2) 99=false∧hasB (usedS 2) 107=false∧hasB (usedS 2) 121=false∧hasB (usedS 3) 98=false∧hasB (usedS 3) 108=false∧hasB (usedS 3) 111=true∧hasB (usedS 3) 120=true∧hasB (usedS 3) 104=true∧hasB (usedS 3) 115=false∧hasB (usedS 3) 102=false∧hasB (usedS 3) 116=false∧hasB (usedS 3) 114=false∧hasB (usedS 3) 99=false∧hasB (usedS 3) 107=false∧hasB (usedS 3) 121=false∧hasB (usedS 4) 98=false∧hasB (usedS 4) 108=false∧hasB (usedS 4) 111=false∧hasB (usedS 4) 120=false∧hasB (usedS 4) 104=false∧hasB (usedS 4) 115=true∧hasB (usedS 4) 102=false∧hasB (usedS 4) 116=false∧hasB (usedS 4) 114=false∧hasB (usedS 4) 99=false∧hasB (usedS 4) 107=false∧hasB (usedS 4) 121=false∧hasB (usedS 5) 98=false∧hasB (usedS 5) 108=false∧hasB (usedS 5) 111=false∧hasB (usedS 5) 120=true∧hasB (usedS 5) 104=true∧hasB (usedS 5) 115=false∧hasB (usedS 5) 102=false∧hasB (usedS 5) 116=false∧hasB (usedS 5) 114=false∧hasB (usedS 5) 99=false∧hasB (usedS 5) 107=false∧hasB (usedS 5) 121=false∧hasB (usedS 6) 98=false∧hasB (usedS 6) 108=false∧hasB (usedS 6) 111=true∧hasB (usedS 6) 120=false∧hasB (usedS 6) 104=true∧hasB (usedS 6) 115=false∧hasB (usedS 6) 102=false∧hasB (usedS 6) 116=false∧hasB (usedS 6) 114=false∧hasB (usedS 6) 99=false∧hasB (usedS 6) 107=false∧hasB (usedS 6) 121=false∧hasB (usedS 7) 98=false∧hasB (usedS 7) 108=false∧hasB (usedS 7) 111=false∧hasB (usedS 7) 120=false∧hasB (usedS 7) 104=false∧hasB (usedS 7) 115=true∧hasB (usedS 7) 102=true∧hasB (usedS 7) 116=false∧hasB (usedS 7) 114=false∧hasB (usedS 7) 99=false∧hasB (usedS 7) 107=false∧hasB (usedS 7) 121=false∧hasB (usedS 8) 98=false∧hasB (usedS 8) 108=false∧hasB (usedS 8) 111=false∧hasB (usedS 8) 120=false∧hasB (usedS 8) 104=false∧hasB (usedS 8) 115=false∧hasB (usedS 8) 102=true∧hasB (usedS 8) 116=false∧hasB (usedS 8) 114=false∧hasB (usedS 8) 99=false∧hasB (usedS 8) 107=false∧hasB (usedS 8) 121=false∧hasB (usedS 9) 98=false∧hasB (usedS 9) 108=false∧hasB (usedS 9) 111=false∧hasB (usedS 9) 120=false∧hasB (usedS 9) 104=false∧hasB (usedS 9) 115=false∧hasB (usedS 9) 102=false∧hasB (usedS 9) 116=true∧hasB (usedS 9) 114=false∧hasB (usedS 9) 99=true∧hasB (usedS 9) 107=false∧hasB (usedS 9) 121=false∧hasB (usedS 10) 98=true∧hasB (usedS 10) 108=false∧hasB (usedS 10) 111=false∧hasB (usedS 10) 120=false∧hasB (usedS 10) 104=false∧hasB (usedS 10) 115=false∧hasB (usedS 10) 102=false∧hasB (usedS 10) 116=false∧hasB (usedS 10) 114=false∧hasB (usedS 10) 99=false∧hasB (usedS 10) 107=false∧hasB (usedS 10) 121=false∧hasB (usedS 11) 98=false∧hasB (usedS 11) 108=false∧hasB (usedS 11) 111=false∧hasB (usedS 11) 120=false∧hasB (usedS 11) 104=false∧hasB (usedS 11) 115=false∧hasB (usedS 11) 102=false∧hasB (usedS 11) 116=false∧hasB (usedS 11) 114=true∧hasB (usedS 11) 99=false∧hasB (usedS 11) 107=true∧hasB (usedS 11) 121=false∧hasB (usedS 12) 98=false∧hasB (usedS 12) 108=false∧hasB (usedS 12) 111=false∧hasB (usedS 12) 120=false∧hasB (usedS 12) 104=false∧hasB (usedS 12) 115=true∧hasB (usedS 12) 102=true∧hasB (usedS 12) 116=false∧hasB (usedS 12) 114=false∧hasB (usedS 12) 99=false∧hasB (usedS 12) 107=false∧hasB (usedS 12) 121=true:=by
 repeat' apply And.intro
 all_goals decide
theorem rzero_ret (w0:World) (v:Value) (f:FieldD) (hf:FieldVal w0 v f) (hk:1≤f.kind∧f.kind≤12):Ret Pg 43 #[v] w0 fun r w'=>r = .bool (zeroB f)∧Ext w0 w':=by
 obtain ⟨tv,cv,rfl,hT,hC,_,_⟩:=hf.op
 obtain ⟨At,ct,rfl,_⟩:=SliceOf.open hT
 obtain ⟨Ac,cc,rfl,_⟩:=SliceOf.open hC
 refine n34s (R:=retR _) ?_;unfold n34
 simp (disch:=try exact DI) only [↓PR,QR,Int.reduceBEq,Int.reduceBNe,Int.reduceLT,Int.reduceLE,Int.reduceGT,Int.reduceGE,Int.reduceNeg]
 have hBW:=ElemAt.new (w:=w0) (fieldCells f (.slice At f.terms.length ct) (.slice Ac f.cases.length cc)) (52)
 have eW:Ext w0 (w0.alloc (Obj.cells (List.toArray (fieldCells f (.slice At f.terms.length ct) (.slice Ac f.cases.length cc))) (52))):=(Ext.refl _).alloc _
 generalize (w0.alloc (Obj.cells (List.toArray (fieldCells f (.slice At f.terms.length ct) (.slice Ac f.cases.length cc))) (52)))=W at hBW eW ⊢
 have hcell:=hBW.c15 (Ext.refl W)
 simp (disch:=try exact DI) only [↓PR,QR,Int.reduceBEq,Int.reduceBNe,Int.reduceLT,Int.reduceLE,Int.reduceGT,Int.reduceGE,Int.reduceNeg,hcell]
 refine zcr (rused_ret _ f.kind hk.1 hk.2) fun w1 e1=>?_
 have hcell:=hBW.c15 e1
 have E:=eW.trans e1
 unfold zeroB
 have this:f.kind=1∨f.kind=2∨f.kind=3∨f.kind=4∨f.kind=5∨f.kind=6∨f.kind=7∨f.kind=8∨f.kind=9∨f.kind=10∨f.kind=11∨f.kind=12:=by omega
 clear hk hT hC e1 eW hBW
 rcases this with hk | hk | hk | hk | hk | hk | hk | hk | hk | hk | hk | hk
 all_goals
  simp only [hk,HT,Bool.true_or,Bool.false_or,Bool.true_and]
  repeat' first
   | exact ⟨by trivial,by first | trivial | exact E⟩
   | (refine callK_ret (rhas_ret _ _ _ (by decide)) ?_;rintro _ _ ⟨rfl,rfl⟩;simp (disch:=try exact DI) only [↓PR,QR,Int.reduceBEq,Int.reduceBNe,Int.reduceLT,Int.reduceLE,Int.reduceGT,Int.reduceGE,Int.reduceNeg,↓n34c1,↓n34c2,↓n34c3,↓n34c4,↓n34c5,↓n34c6,↓n34c7,↓n34c8,↓n34c9,↓n34c10,↓n34c11,↓n34c12,↓n34c13,↓n34c14,↓n34c15,↓n34c16,↓n34c17,↓n34c18,↓n34c19,↓n34c20,↓n34c21,↓n34c22,↓n34c23,↓n34c24,↓n34c25,HT, *])
   | (refine guard_cases (fun _=>?_) (fun _=>?_)<;>simp (disch:=try exact DI) only [↓PR,QR,Int.reduceBEq,Int.reduceBNe,Int.reduceLT,Int.reduceLE,Int.reduceGT,Int.reduceGE,Int.reduceNeg,↓n34c1,↓n34c2,↓n34c3,↓n34c4,↓n34c5,↓n34c6,↓n34c7,↓n34c8,↓n34c9,↓n34c10,↓n34c11,↓n34c12,↓n34c13,↓n34c14,↓n34c15,↓n34c16,↓n34c17,↓n34c18,↓n34c19,↓n34c20,↓n34c21,↓n34c22,↓n34c23,↓n34c24,↓n34c25,HT, *])
   | (refine cond_cases (fun _=>?_) (fun _=>?_)<;>simp (disch:=try exact DI) only [↓PR,QR,Int.reduceBEq,Int.reduceBNe,Int.reduceLT,Int.reduceLE,Int.reduceGT,Int.reduceGE,Int.reduceNeg,↓n34c1,↓n34c2,↓n34c3,↓n34c4,↓n34c5,↓n34c6,↓n34c7,↓n34c8,↓n34c9,↓n34c10,↓n34c11,↓n34c12,↓n34c13,↓n34c14,↓n34c15,↓n34c16,↓n34c17,↓n34c18,↓n34c19,↓n34c20,↓n34c21,↓n34c22,↓n34c23,↓n34c24,↓n34c25,HT, *])
end Go.Proofs.YtiajhbbmgglmlaaGreat
namespace Go.Proofs.YtiajhbbmgglmlaaGreat
open Sw
open Go.RowKit (intOf Below)
theorem append_one {α:Type} {t T n m:Nat} {z:Value} {agg:Bool} {enc:α→List Value} {v:Value} {l:List α} {base b:Nat} {w:World} {QP:List PanicEntry→World→Prop} {k:Value→World→Prop} (ht:Pg.underlying t=some (.slice T)) (hT:TyInfo Pg T agg n m z) (hby:m≤4096) (hz:z.cells.size=n) (h0:0 < n) (hn:∀ x,(enc x).length=n) (x:α) (h1:∀ u∈enc x,u.oneCell'=true)
 (hown:OwnE w base T n enc v l) (hc:ElemAt w b 0 (enc x)) (hbase:base≤w.heap.size) (hl:l.length≤1048576)
 (hk:∀ v' w',OwnE w' base T n enc v' (l++[x])→(∀ a,Ext a w→a.heap.size≤base→Ext a w')→k v' w') :
 opV Pg (Builtin.append_ #[t,t] t #[v,.slice (some ⟨b,0,none⟩) 1 1]) QP w k:=by
 refine op_appendE (l':=[x]) ht hT hz h0 hn (fun y hy=>by simp at hy;subst hy;exact h1) hown (fun j y hy=>?_) hbase ?_ (by simp;omega) (fun v' w' ho hg=>hk v' w' ho fun a e ha=>e.grown hg fun k hk=>Nat.le_trans ha ((World.ownsRow.lt hown k hk).1))
 · cases j with
   | zero=>simp at hy;subst hy;simpa using hc
   | succ j=>simp at hy
 · simp only [List.length_cons,List.length_nil]
   exact Nat.le_trans (Nat.mul_le_mul (Nat.add_le_add_right hl 1) hby) (by decide)
theorem op_boxA {P:Program} {QP:List PanicEntry→World→Prop} {w:World} {k:Value→World→Prop} (T:TypeId) (cs:Array Value):opV P (Instr.box T (.agg cs)) QP w k=k (.pointer (some ⟨w.heap.size,0,none⟩)) (w.alloc (.cells cs T)):=op_box T (.agg cs)
theorem open1 {α:Type} {w:World} {n:Nat} {E:World→List Value→α→Prop} {v:Value} {l:List α} (h:SliceOf w n E v l) {i:Nat} {x:α} (hi:l[i]?=some x) :
 ∃ b o c,v = .slice (some ⟨b,o,none⟩) l.length c∧l.length≤c∧c≤9223372036854775807∧l.length≤9223372036854775807∧i < l.length∧∀ k x,l[k]?=some x→∃ cs,cs.length=n∧ElemAt w b (o+k*n) cs∧E w cs x:=by
 obtain ⟨A,c,h1,h2,h3,h4⟩:=h
 obtain ⟨b,o,rfl,h5⟩:=h4 (by rintro rfl;cases hi)
 exact ⟨b,o,c,h1,h2,h3,by omega,(List.getElem?_eq_some_iff.1 hi).1,h5⟩
theorem all_take {α:Type} {p:α→Prop} {l:List α} {k:Nat} {x:α} (h:∀ y∈l.take k,p y) (hx:l[k]?=some x) (hp:p x):∀ y∈l.take (k+1),p y:=by
 rw [take_snoc hx]
 intro y hy
 rcases List.mem_append.1 hy with hy | hy
 · exact h y hy
 · rw [List.mem_singleton.1 hy];exact hp
def Dist (l:List FieldD):Prop:=l.Pairwise fun a b=>a.name≠b.name
theorem Dist.eq {l:List FieldD} (h:Dist l) {a b:FieldD} (ha:a∈l) (hb:b∈l) (hn:a.name=b.name):a=b:=by
 induction l with
 | nil=>cases ha
 | cons x l ih =>
  obtain ⟨h1,h2⟩:=List.pairwise_cons.1 h
  rcases List.mem_cons.1 ha with ha' | ha'<;>rcases List.mem_cons.1 hb with hb' | hb'
  · rw [ha',hb']
  · subst ha';exact absurd hn (h1 _ hb')
  · subst hb';exact absurd hn.symm (h1 _ ha')
  · exact ih h2 ha' hb'
theorem lastR_none {rp:List (ByteArray×Int×Int)} {s:ByteArray}:lastR rp s=none↔∀ q,(s,q) ∉ rp:=by
 constructor
 · intro h q hq
   unfold lastR at h
   rw [Option.map_eq_none_iff,List.find?_eq_none] at h
   exact h (s,q) (List.mem_reverse.2 hq) (by simp)
 · intro h
   cases hl:lastR rp s with
   | none=>rfl
   | some q=>exact absurd (lastP_mem hl) (h q)
theorem mem_numR {l:List FieldD} {s:ByteArray} {q:Int×Int}:(s,q)∈numR l↔∃ f∈l,numberB f=true∧f.name=s∧q=(f.low,highOf f):=by
 unfold numR
 simp only [List.mem_map,List.mem_filter,Prod.mk.injEq]
 constructor
 · rintro ⟨f,⟨h1,h2⟩,h3,h4⟩;exact ⟨f,h1,h2,h3,by rw [← h4]⟩
 · rintro ⟨f,h1,h2,h3,h4⟩;exact ⟨f,⟨h1,h2⟩,h3,by rw [h4]⟩
theorem num_first {bef:List FieldD} (hd:Dist bef) (s:ByteArray):(idx (fun g=>decide (g.name=s)) bef = -1∧lastR (numR bef) s=none) ∨
 ∃ (k:Nat) (g:FieldD),idx (fun g=>decide (g.name=s)) bef=k∧bef[k]?=some g∧lastR (numR bef) s=if numberB g then some (g.low,highOf g) else none:=by
 unfold idx
 cases h:bef.findIdx? (fun g=>decide (g.name=s)) with
 | none =>
  rw [List.findIdx?_eq_none_iff] at h
  refine .inl ⟨rfl,lastR_none.2 fun q hq=>?_⟩
  obtain ⟨f,hf,_,h3,_⟩:=mem_numR.1 hq
  simpa [h3] using h f hf
 | some k =>
  obtain ⟨hk,hp,_⟩:=List.findIdx?_eq_some_iff_getElem.1 h
  refine .inr ⟨k,bef[k],rfl,List.getElem?_eq_getElem hk,?_⟩
  have hg:bef[k]∈bef:=List.getElem_mem hk
  generalize bef[k]=g at hg hp
  simp only [decide_eq_true_eq] at hp
  cases hl:lastR (numR bef) s with
  | none =>
   rw [if_neg]
   intro hn
   exact lastR_none.1 hl _ (mem_numR.2 ⟨g,hg,hn,hp,rfl⟩)
  | some q =>
   obtain ⟨f,hf,h2,h3,h4⟩:=mem_numR.1 (lastP_mem hl)
   have:=hd.eq hf hg (h3.trans hp.symm)
   subst this
   rw [if_pos h2,h4]
theorem checked_congr {ps ps':List (ByteArray×Value)} {but:ByteArray} {p:Value→Bool}:∀ (ts:List TermD) (no:Bool),(∀ t∈ts,lastOf ps t.field=lastOf ps' t.field)→checkedF but ps p ts no=checkedF but ps' p ts no
 | [],no,_=>rfl
 | t::ts,no,h=>by
  have ih:=fun no=>checked_congr (but:=but) (p:=p) ts no fun t ht=>h t (List.mem_cons_of_mem _ ht)
  simp only [checkedF,h t (List.mem_cons_self ..),ih]
theorem numW_congr {f g:TermD→Int}:∀ (ts:List TermD) (n:Int),(∀ t∈ts,f t=g t)→numW n f ts=numW n g ts
 | [],n,_=>rfl
 | t::ts,n,h=>by
  have ih:=fun n=>numW_congr ts n fun t ht=>h t (List.mem_cons_of_mem _ ht)
  unfold numW at *
  simp only [List.foldl_cons,h t (List.mem_cons_self ..),ih]
theorem iv_congr {base:Int} {ts:List TermD} {rp rp':List (ByteArray×Int×Int)} (h:∀ t∈ts,lastR rp t.field=lastR rp' t.field):intervalE base ts rp=intervalE base ts rp'∧intervalL base ts rp=intervalL base ts rp'∧intervalH base ts rp=intervalH base ts rp':=by
 have he:intervalE base ts rp=intervalE base ts rp':=by
  unfold intervalE
  rw [checked_congr (ps':=RP rp') ts false fun t ht=>by rw [lastOf_RP,lastOf_RP,h t ht]]
 have hl:∀ least,numW base (endF rp least) ts=numW base (endF rp' least) ts:=fun least=>numW_congr ts base fun t ht=>by unfold endF;rw [h t ht]
 unfold intervalL intervalH
 rw [he,hl,hl]
 exact ⟨rfl,rfl,rfl⟩
def termR (rp:List (ByteArray×Int×Int)) (ts:List TermD):List (ByteArray×Int×Int):=ts.map fun t=>(t.field,rngT rp t)
theorem termR_last {rp:List (ByteArray×Int×Int)} {ts:List TermD} (h:∀ t∈ts,(lastR rp t.field).isSome=true) {t:TermD} (ht:t∈ts):lastR (termR rp ts) t.field=lastR rp t.field:=by
 have e:∀ t∈ts,lastR rp t.field=some (rngT rp t):=fun t ht=>by
  have:=h t ht
  unfold rngT
  cases hl:lastR rp t.field with
  | none=>rw [hl] at this;cases this
  | some q=>rfl
 cases hl:lastR (termR rp ts) t.field with
 | none=>exact absurd (List.mem_map.2 ⟨t,ht,rfl⟩) (lastR_none.1 hl (rngT rp t))
 | some q =>
  obtain ⟨u,hu,h2⟩:=List.mem_map.1 (lastP_mem hl)
  injection h2 with h2 h3
  rw [← h3,← e u hu,h2]
theorem namesC_zero {rp:List (ByteArray×Int×Int)}:∀ {ts:List TermD},(∀ t∈ts,(lastR rp t.field).isSome=true)→namesC rp ts=0
 | [],_=>rfl
 | t::ts,h=>by
  simp only [namesC,h t (List.mem_cons_self ..),namesC_zero fun t ht=>h t (List.mem_cons_of_mem _ ht)]
  rfl
theorem namesC_bad {rp:List (ByteArray×Int×Int)}:∀ {ts:List TermD} {t:TermD},t∈ts→lastR rp t.field=none→namesC rp ts=8
 | u::ts,t,ht,h=>by
  simp only [namesC]
  cases hu:(lastR rp u.field).isSome with
  | false=>rfl
  | true =>
   rcases List.mem_cons.1 ht with rfl | ht
   · rw [h] at hu;cases hu
   · rw [namesC_bad ht h];rfl
end Go.Proofs.YtiajhbbmgglmlaaGreat
namespace Go.Proofs.YtiajhbbmgglmlaaGreat
open Sw
open Go.RowKit (intOf Below)
theorem rsized_ret (w0:World) (v:Value) (m:MsgD) (i:Nat) (f:FieldD) (hm:MsgVal w0 v m) (hi:m.fields[i]?=some f) (hd:Dist (m.fields.take i)) (ht:f.terms.length≤1048576):Ret Pg 59 #[v,.int .i64 (i:Int)] w0 fun r w'=>r = .int .i64 (sizedC (numR (m.fields.take i)) f)∧Ext w0 w':=by
 obtain ⟨fv,rfl,hF⟩:=hm
 have hF0:=hF
 refine n30s (R:=retR _) ?_;unfold n30
 simp (disch:=try exact DI) only [↓PR,QR,Int.reduceBEq,Int.reduceBNe,Int.reduceLT,Int.reduceLE,Int.reduceGT,Int.reduceGE,Int.reduceNeg]
 have hBW:=ElemAt.new (w:=w0) (msgCells m fv) (45)
 have eW:Ext w0 (w0.alloc (Obj.cells (List.toArray (msgCells m fv)) (45))):=(Ext.refl _).alloc _
 generalize (w0.alloc (Obj.cells (List.toArray (msgCells m fv)) (45)))=W at hBW eW ⊢
 obtain ⟨b,o,c,rfl,hlc,hcm,hlm,hil,hel⟩:=open1 hF hi
 obtain ⟨cs,_,hA,hE⟩:=hel i f hi
 obtain ⟨tv,cv,rfl,hT,hC,ht1,hc1⟩:=hE.op
 have hT0:=hT
 obtain ⟨At,ct,rfl,hlct,hcmt,hlmt,helt⟩:=SliceOf.open hT
 have hcA:=hA.c15 eW
 simp (disch:=try exact DI) only [↓PR,QR,Int.reduceBEq,Int.reduceBNe,Int.reduceLT,Int.reduceLE,Int.reduceGT,Int.reduceGE,Int.reduceNeg,hBW.c2 (Ext.refl W),hcA]
 have hBX:=ElemAt.new (w:=W) ([.int .i64 f.base,.slice At f.terms.length ct]) (49)
 have eX:Ext W (W.alloc (Obj.cells (List.toArray ([.int .i64 f.base,.slice At f.terms.length ct])) (49))):=(Ext.refl _).alloc _
 generalize (W.alloc (Obj.cells (List.toArray ([.int .i64 f.base,.slice At f.terms.length ct])) (49)))=X at hBX eX ⊢
 refine zcr (rSizeValid_ret _ _ f.base f.terms ⟨_,rfl,TermsOf.ext hT0 (eW.trans eX)⟩) fun w1 e1=>?_
 have E1:Ext w0 w1:=eW.trans (eX.trans e1)
 unfold n30c8
 cases hs:sizeB f.base f.terms with
 | false =>
  simp (disch:=try exact DI) only [↓PR,QR,Int.reduceBEq,Int.reduceBNe,Int.reduceLT,Int.reduceLE,Int.reduceGT,Int.reduceGE,Int.reduceNeg]
  exact ⟨by unfold sizedC;rw [hs];rfl,E1⟩
 | true =>
 obtain ⟨_,h4,_⟩:=terms_names hs
 have hsz:sizedC (numR (m.fields.take i)) f=orC (namesC (numR (m.fields.take i)) f.terms) (needC (lenB f.base f.terms (numR (m.fields.take i))) 9):=by unfold sizedC;rw [hs];rfl
 rw [hsz]
 have hnf:=num_first hd
 generalize hrp:numR (m.fields.take i)=rp at hnf ⊢
 simp (disch:=try exact DI) only [↓PR,QR,Int.reduceBEq,Int.reduceBNe,Int.reduceLT,Int.reduceLE,Int.reduceGT,Int.reduceGE,Int.reduceNeg]
 refine loop2_intro (fun a b w'=>∃ (k:Nat) (sv:Value),a=sv∧b = .int .i64 k∧k≤f.terms.length∧Ext w1 w'∧OwnE w' w1.heap.size 129 3 ranCells sv (termR rp (f.terms.take k))∧∀ t∈f.terms.take k,(lastR rp t.field).isSome=true) (fun _ b _=>f.terms.length - (intOf b).toNat) ⟨0,_,rfl,rfl,by omega,Ext.refl _,OwnE.nil _ _ _ _ _,by simp⟩ ?_
 rintro sv _ w ⟨k,_,rfl,rfl,hk,e,hO,hin⟩
 have E:=E1.trans e
 have hcX:=hBX.c2 (e1.trans e)
 have hcW:=hBW.c2 (eX.trans (e1.trans e))
 unfold n30c7
 rcases drop_cases hk with ⟨x,hx,hdr,hlt,hdec⟩ | ⟨hk,hdr,hdec⟩
 · obtain ⟨bt,ot,cst,rfl,_,hAt,rfl⟩:=helt k x hx
   simp (disch:=try exact DI) only [↓PR,QR,Int.reduceBEq,Int.reduceBNe,Int.reduceLT,Int.reduceLE,Int.reduceGT,Int.reduceGE,Int.reduceNeg,hdec,hcX]
   refine drawK_intro ?_
   unfold n30c4
   simp (disch:=try exact DI) only [↓PR,QR,Int.reduceBEq,Int.reduceBNe,Int.reduceLT,Int.reduceLE,Int.reduceGT,Int.reduceGE,Int.reduceNeg,hcX,hcW,hAt.c2 E]
   refine zcr (rField_ret _ _ m x.field i ⟨_,rfl,hF0.ext ee⟩ (Nat.le_of_lt hil)) fun w2 e2=>?_
   refine ⟨e2,?_⟩
   unfold n30c3
   rcases hnf x.field with ⟨h1,h2⟩ | ⟨kk,g,h1,h2,h3⟩
   · rw [h1]
     simp (disch:=try exact DI) only [↓PR,QR,Int.reduceBEq,Int.reduceBNe,Int.reduceLT,Int.reduceLE,Int.reduceGT,Int.reduceGE,Int.reduceNeg]
     exact ⟨by rw [namesC_bad (List.mem_of_getElem? hx) h2];rfl,ee⟩
   · have hg:=take_get h2
     have hkk:kk < m.fields.length:=(List.getElem?_eq_some_iff.1 hg).1
     obtain ⟨csg,_,hAg,hEg⟩:=hel kk g hg
     obtain ⟨tg,cg,rfl,hTg,hCg,htg,hcg⟩:=hEg.op
     have f2:Ext w0 w2:=E.drew.trans e2
     have hcg2:=hAg.c15 f2
     have hcW2:=hBW.c2 (eX.trans (e1.trans (e.drew.trans e2)))
     have hcX2:=hBX.c2 (e1.trans (e.drew.trans e2))
     rw [h1]
     simp (disch:=try exact DI) only [↓PR,QR,Int.reduceBEq,Int.reduceBNe,Int.reduceLT,Int.reduceLE,Int.reduceGT,Int.reduceGE,Int.reduceNeg,show decide ((kk:Int) < 0)=false by simp,hcW2,hcg2]
     refine zcr (rNumber_ret _ _ g ⟨tg,cg,rfl,hTg.ext f2,hCg.ext f2⟩) fun w3 e3=>?_
     have f3:=f2.trans e3
     have hd0:decide ((kk:Int) < 0)=false:=by simp
     cases hn:numberB g with
     | false =>
      rw [hn,if_neg (by simp)] at h3
      simp (disch:=try exact DI) only [↓PR,QR,Int.reduceBEq,Int.reduceBNe,Int.reduceLT,Int.reduceLE,Int.reduceGT,Int.reduceGE,Int.reduceNeg,hd0]
      exact ⟨by rw [namesC_bad (List.mem_of_getElem? hx) h3];rfl,f3⟩
     | true =>
      rw [hn,if_pos rfl] at h3
      have eW3:Ext w1 w3:=e.drew.trans (e2.trans e3)
      simp (disch:=try exact DI) only [↓PR,QR,Int.reduceBEq,Int.reduceBNe,Int.reduceLT,Int.reduceLE,Int.reduceGT,Int.reduceGE,Int.reduceNeg,hd0]
      unfold n30c2
      simp (disch:=try exact DI) only [↓PR,QR,Int.reduceBEq,Int.reduceBNe,Int.reduceLT,Int.reduceLE,Int.reduceGT,Int.reduceGE,Int.reduceNeg,hBW.c2 (eX.trans (e1.trans eW3)),hAg.c15 f3]
      refine zcr (rRange_ret _ _ g ⟨tg,cg,rfl,hTg.ext f3,hCg.ext f3⟩) fun w4 e4=>?_
      have eW4:Ext w1 w4:=eW3.trans e4
      have f4:=f3.trans e4
      unfold n30c1
      simp (disch:=try exact DI) only [↓PR,QR,Int.reduceBEq,Int.reduceBNe,Int.reduceLT,Int.reduceLE,Int.reduceGT,Int.reduceGE,Int.reduceNeg,hBX.c2 (e1.trans eW4),hAt.c2 f4]
      have hO4:=hO.ext (((((Ext.refl w).drew.trans e2).trans e3).trans e4).alloc (Obj.cells #[.string x.field,.int .i64 g.low,.int .i64 (highOf g)] 129))
      have hlk:(termR rp (f.terms.take k)).length=k:=by unfold termR;rw [List.length_map,List.length_take];omega
      have sw:=eW4.size
      refine append_one Tryz.underlying127 ty129 by129 rfl (by decide) (fun _=>rfl) (x.field,g.low,highOf g) (by simp only [ranCells,List.forall_mem_cons];exact ⟨rfl,rfl,rfl,by simp⟩) hO4 (ElemAt.new _ _) (by simp only [World.size_alloc];omega) (by rw [hlk];omega) ?_
      intro v' w' hO' hext
      have eN:Ext w1 w':=hext w1 (eW4.alloc _) (Nat.le_refl _)
      simp (disch:=try exact DI) only [↓PR,QR,Int.reduceBEq,Int.reduceBNe,Int.reduceLT,Int.reduceLE,Int.reduceGT,Int.reduceGE,Int.reduceNeg]
      refine ⟨⟨k+1,v',rfl,rfl,by omega,eN,?_,all_take hin hx (by rw [h3];rfl)⟩,meas_lt hlt⟩
      have:termR rp (f.terms.take (k+1))=termR rp (f.terms.take k)++[(x.field,g.low,highOf g)]:=by
       unfold termR
       rw [take_snoc hx,List.map_append]
       simp only [List.map_cons,List.map_nil]
       rw [rng_some h3]
      rw [this]
      exact hO'
 · subst hk
   rw [List.take_length] at hO hin
   simp (disch:=try exact DI) only [↓PR,QR,Int.reduceBEq,Int.reduceBNe,Int.reduceLT,Int.reduceLE,Int.reduceGT,Int.reduceGE,Int.reduceNeg,hdec,hcX]
   have hs3:RansOf w sv (termR rp f.terms):=hO.slice (E:=ERan) (fun _=>rfl) (fun _ _=>rfl)
   have hcon:=iv_congr (base:=f.base) (rp:=termR rp f.terms) (rp':=rp) (ts:=f.terms) fun t ht=>termR_last hin ht
   refine zcr (rInterval_ret _ _ sv f.base f.terms (termR rp f.terms) ⟨_,rfl,hT0.ext E⟩ hs3 (fun t ht=>by rw [termR_last hin ht];exact hin t ht)) fun w2 e2=>?_
   have E2:=E.trans e2
   unfold ivOf
   rw [hcon.1,hcon.2.1,hcon.2.2,namesC_zero hin]
   unfold n30c6
   have hL:(intervalE f.base f.terms rp != 0||decide (intervalL f.base f.terms rp < 0)||decide (1048576 < intervalH f.base f.terms rp))=!lenB f.base f.terms rp:=by
    unfold lenB
    rw [Bool.eq_iff_iff]
    simp only [Bool.or_eq_true,bne_iff_ne,decide_eq_true_eq,Bool.not_eq_true',Bool.and_eq_false_iff,beq_eq_false_iff_ne,decide_eq_false_iff_not]
    omega
   simp (disch:=try exact DI) only [↓PR,QR,Int.reduceBEq,Int.reduceBNe,Int.reduceLT,Int.reduceLE,Int.reduceGT,Int.reduceGE,Int.reduceNeg,n30c5,hL]
   cases lenB f.base f.terms rp with
   | false=>simp (disch:=try exact DI) only [↓PR,QR,Int.reduceBEq,Int.reduceBNe,Int.reduceLT,Int.reduceLE,Int.reduceGT,Int.reduceGE,Int.reduceNeg];exact ⟨rfl,E2⟩
   | true=>simp (disch:=try exact DI) only [↓PR,QR,Int.reduceBEq,Int.reduceBNe,Int.reduceLT,Int.reduceLE,Int.reduceGT,Int.reduceGE,Int.reduceNeg];exact ⟨rfl,E2⟩
end Go.Proofs.YtiajhbbmgglmlaaGreat
namespace Go.Proofs.YtiajhbbmgglmlaaGreat
open Sw
open Go.RowKit (intOf Below)
theorem within2 {hi n a b:Int}:withinC hi n [a,b]=if a < n∨hi < a∨b < a∨hi < b then 7 else 0:=by
 by_cases h1:a < n<;>by_cases h2:hi < a<;>by_cases h3:b < a<;>by_cases h4:hi < b<;>simp [withinC,needC,orC, *]<;>omega
theorem idx_some {α:Type} {p:α→Bool} {l:List α}:decide (idx p l < 0)=!l.any p:=by
 rw [← idx_neg]
 by_cases h:idx p l < 0
 · have:¬ 0≤idx p l:=by omega
   simp [h,this]
 · have:0≤idx p l:=by omega
   simp [h,this]
theorem rcased_ret (w0:World) (v u:Value) (d:DefD) (n:Nat) (f:FieldD) (lo hi:Int) (deps:List (ByteArray×Int)) (hd:DefVal w0 v d) (hn:n≤d.msgs.length) (hf:FieldVal w0 u f) (hD:∀ s,(lastP deps s).isSome=(d.msgs.take n).any fun m=>decide (m.name=s)) (hlo : -4611686018427387904≤lo) (hhi:hi≤4611686018427387904) :
 Ret Pg 63 #[v,.int .i64 (n:Int),u,.int .i64 lo,.int .i64 hi] w0 fun r w'=>r = .int .i64 (orC (needC (decide (1≤(f.cases.length:Int))&&decide ((f.cases.length:Int)≤40)) 3) (casesL hi (vI deps) lo f.cases))∧Ext w0 w':=by
 obtain ⟨mv,rfl,hM⟩:=hd
 obtain ⟨tv,cv,rfl,hT,hC,ht1,hc1⟩:=hf.op
 refine n25s (R:=retR _) ?_;unfold n25
 rw [op_boxA]
 have hBW:=ElemAt.new (w:=w0) (defCells d mv) (24)
 have eW:Ext w0 (w0.alloc (Obj.cells (List.toArray (defCells d mv)) (24))):=(Ext.refl _).alloc _
 generalize (w0.alloc (Obj.cells (List.toArray (defCells d mv)) (24)))=W at hBW eW ⊢
 rw [op_boxA]
 have hBX:=ElemAt.new (w:=W) (fieldCells f tv cv) (52)
 have eX:Ext W (W.alloc (Obj.cells (List.toArray (fieldCells f tv cv)) (52))):=(Ext.refl _).alloc _
 generalize (W.alloc (Obj.cells (List.toArray (fieldCells f tv cv)) (52)))=X at hBX eX ⊢
 obtain ⟨A,c,rfl,hlc,hcm,hlm,hel⟩:=SliceOf.open hC
 have hcX:=hBX.c15 (Ext.refl X)
 simp (disch:=try exact DI) only [↓PR,QR,Int.reduceBEq,Int.reduceBNe,Int.reduceLT,Int.reduceLE,Int.reduceGT,Int.reduceGE,Int.reduceNeg,hcX]
 have hlen:(decide ((f.cases.length:Int) < 1)||decide (40 < (f.cases.length:Int)))=!(decide (1≤(f.cases.length:Int))&&decide ((f.cases.length:Int)≤40)):=by
  rw [Bool.eq_iff_iff];simp only [Bool.or_eq_true,decide_eq_true_eq,Bool.not_eq_true',Bool.and_eq_false_iff,decide_eq_false_iff_not];omega
 rw [hlen]
 have EX:Ext w0 X:=eW.trans eX
 cases hl:(decide (1≤(f.cases.length:Int))&&decide ((f.cases.length:Int)≤40)) with
 | false=>simp (disch:=try exact DI) only [↓PR,QR,Int.reduceBEq,Int.reduceBNe,Int.reduceLT,Int.reduceLE,Int.reduceGT,Int.reduceGE,Int.reduceNeg];exact ⟨rfl,EX⟩
 | true =>
 simp (disch:=try exact DI) only [↓PR,QR,Int.reduceBEq,Int.reduceBNe,Int.reduceLT,Int.reduceLE,Int.reduceGT,Int.reduceGE,Int.reduceNeg]
 refine loop1_intro (fun a w'=>∃ (k:Nat) (b:Int),a = .int .i64 k∧k≤f.cases.length∧Ext X w'∧casesL hi (vI deps) b (f.cases.drop k)=casesL hi (vI deps) lo f.cases∧lo≤b∧(k=0→b=lo)∧∀ j p,k=j+1→f.cases[j]?=some p→b=p.high+1) (fun b _=>f.cases.length - (intOf b).toNat) ⟨0,lo,rfl,by omega,Ext.refl _,rfl,Int.le_refl _,fun _=>rfl,fun j p h=>by omega⟩ ?_
 rintro _ w ⟨k,b,rfl,hk,e,hI,hb0,hb1,hb2⟩
 have hcX:=hBX.c15 e
 have E:=EX.trans e
 unfold n25c9
 rcases drop_cases hk with ⟨x,hx,hdr,hlt,hdec⟩ | ⟨hk,hdr,hdec⟩
 ·
  simp (disch:=try exact DI) only [↓PR,QR,Int.reduceBEq,Int.reduceBNe,Int.reduceLT,Int.reduceLE,Int.reduceGT,Int.reduceGE,Int.reduceNeg,hdec,hcX]
  obtain ⟨bc,oc,cc,hA,_,_,_,_,hel2⟩:=open1 hC hx
  injection hA with hA _ _
  subst hA
  obtain ⟨csc,_,hAc,rfl⟩:=hel2 k x hx
  have hcx:=hAc.c3 E
  unfold n25c8
  simp (disch:=try exact DI) only [↓PR,QR,Int.reduceBEq,Int.reduceBNe,Int.reduceLT,Int.reduceLE,Int.reduceGT,Int.reduceGE,Int.reduceNeg,hcX,hcx]
  have hBY:=ElemAt.new (w:=w) (caseCells x) (81)
  have eY:Ext w (w.alloc (Obj.cells (List.toArray (caseCells x)) (81))):=(Ext.refl _).alloc _
  generalize (w.alloc (Obj.cells (List.toArray (caseCells x)) (81)))=Y at hBY eY ⊢
  have hcY:=hBY.c3 (Ext.refl Y)
  have hcW:=hBW.c3 (eX.trans (e.trans eY))
  have EY:Ext w0 Y:=E.trans eY
  refine drawK_intro ?_
  rw [hdr] at hI
  simp only [casesL,within2] at hI
  have hI7:(x.low < b∨hi < x.low∨x.high < x.low∨hi < x.high)→casesL hi (vI deps) lo f.cases=7:=fun h=>by rw [← hI,if_pos h];rfl
  have hI0:¬ (x.low < b∨hi < x.low∨x.high < x.low∨hi < x.high)→orC (needC (lastOf (vI deps) x.of).isSome 8) (casesL hi (vI deps) (x.high+1) (f.cases.drop (k+1)))=casesL hi (vI deps) lo f.cases:=fun h=>by
   rw [← hI,if_neg h,wrap_ok (by omega) (by omega)];rfl
  clear hI
  unfold n25c7
  rcases k with _ | k'
  case' zero =>
   have hb:=hb1 rfl
   subst hb
   simp (disch:=try exact DI) only [↓PR,QR,Int.reduceBEq,Int.reduceBNe,Int.reduceLT,Int.reduceLE,Int.reduceGT,Int.reduceGE,Int.reduceNeg,hcY,hcX,↓n25c1,↓n25c2,↓n25c3,↓n25c4,↓n25c5,↓n25c6,↓n25c7,↓n25c8,↓n25c9,show decide ((0:Int) < ((0:Nat):Int))=false by decide]
   refine guard_cases (fun hg=>?_) (fun hg=>?_)
   all_goals simp (disch:=try exact DI) only [↓PR,QR,Int.reduceBEq,Int.reduceBNe,Int.reduceLT,Int.reduceLE,Int.reduceGT,Int.reduceGE,Int.reduceNeg,hg,hcW,hcY,↓n25c1,↓n25c2,↓n25c3,↓n25c4,↓n25c5,↓n25c6,↓n25c7,↓n25c8,↓n25c9]
   all_goals simp only [Bool.or_eq_true,Bool.or_eq_false_iff,decide_eq_true_eq,decide_eq_false_iff_not] at hg
   · exact ⟨by rw [hI7 (by omega)];rfl,EY.drew⟩
   have hI0:=hI0 (by omega)
  case' succ =>
   obtain ⟨p,hp⟩:=getElem?_lt (l:=f.cases) (k:=k') (by omega)
   have hb:=hb2 k' p rfl hp
   subst hb
   obtain ⟨csp,_,hAp,rfl⟩:=hel2 k' p hp
   have hcp:=hAp.c3 EY
   simp (disch:=try exact DI) only [↓PR,QR,Int.reduceBEq,Int.reduceBNe,Int.reduceLT,Int.reduceLE,Int.reduceGT,Int.reduceGE,Int.reduceNeg,hcY,hcp,hBX.c15 (e.trans eY),↓n25c1,↓n25c2,↓n25c3,↓n25c4,↓n25c5,↓n25c6,↓n25c7,↓n25c8,↓n25c9,show decide ((0:Int) < ((k'+1:Nat):Int))=true by simp only [decide_eq_true_eq];omega,show IntKind.i64.wrap (((k'+1:Nat):Int) - 1)=(k':Int) by rw [wrap_ok (by omega) (by omega)];omega]
   refine guard_cases (fun hg=>?_) (fun hg=>?_)
   all_goals simp (disch:=try exact DI) only [↓PR,QR,Int.reduceBEq,Int.reduceBNe,Int.reduceLT,Int.reduceLE,Int.reduceGT,Int.reduceGE,Int.reduceNeg,hg,hcW,hcY,↓n25c1,↓n25c2,↓n25c3,↓n25c4,↓n25c5,↓n25c6,↓n25c7,↓n25c8,↓n25c9]
   all_goals simp only [Bool.or_eq_true,Bool.or_eq_false_iff,decide_eq_true_eq,decide_eq_false_iff_not] at hg
   · exact ⟨by rw [hI7 (by omega)];rfl,EY.drew⟩
   refine cond_cases (fun hg2=>⟨_,rfl,by simp only [decide_eq_true_eq] at hg2;rw [hI7 (by omega)];rfl,EY.drew⟩) (fun hg2=>?_)
   simp only [decide_eq_false_iff_not] at hg2
   have hI0:=hI0 (by omega)
   simp (disch:=try exact DI) only [↓PR,QR,Int.reduceBEq,Int.reduceBNe,Int.reduceLT,Int.reduceLE,Int.reduceGT,Int.reduceGE,Int.reduceNeg,hcW,hcY,↓n25c1,↓n25c2,↓n25c3,↓n25c4,↓n25c5,↓n25c6,↓n25c7,↓n25c8,↓n25c9]
  all_goals
   refine zcr (rFind_ret _ _ d x.of n ⟨_,rfl,hM.ext EY.drew⟩ hn) fun w2 e2=>?_
   have e3:Ext X w2:=(e.trans eY).drew.trans e2
   rw [lastOf_vI,Option.isSome_map,hD] at hI0
   have hdi:=idx_some (p:=fun m:MsgD=>decide (m.name=x.of)) (l:=d.msgs.take n)
   cases hs:(d.msgs.take n).any (fun m=>decide (m.name=x.of)) with
   | false =>
    rw [hs] at hI0 hdi
    simp (disch:=try exact DI) only [↓PR,QR,Int.reduceBEq,Int.reduceBNe,Int.reduceLT,Int.reduceLE,Int.reduceGT,Int.reduceGE,Int.reduceNeg,hdi,↓n25c1,↓n25c2,↓n25c3,↓n25c4,↓n25c5,↓n25c6,↓n25c7,↓n25c8,↓n25c9]
    exact ⟨by rw [← hI0];rfl,EX.trans e3⟩
   | true =>
    rw [hs] at hI0 hdi
    simp (disch:=try exact DI) only [↓PR,QR,Int.reduceBEq,Int.reduceBNe,Int.reduceLT,Int.reduceLE,Int.reduceGT,Int.reduceGE,Int.reduceNeg,hdi,↓n25c1,↓n25c2,↓n25c3,↓n25c4,↓n25c5,↓n25c6,↓n25c7,↓n25c8,↓n25c9]
    exact ⟨⟨_,x.high+1,rfl,hlt,e3,hI0,by omega,fun h=>by omega,fun j p h hp=>by injection h with h;subst h;rw [hx] at hp;injection hp with hp;subst hp;rfl⟩,meas_lt hlt⟩
 · rw [hdr] at hI
   simp (disch:=try exact DI) only [↓PR,QR,Int.reduceBEq,Int.reduceBNe,Int.reduceLT,Int.reduceLE,Int.reduceGT,Int.reduceGE,Int.reduceNeg,hdec,hcX]
   exact ⟨by rw [← hI];rfl,E⟩
end Go.Proofs.YtiajhbbmgglmlaaGreat
namespace Go.Sw
open Go.RowKit (Below)
section
variable {P:Program} {QP:List PanicEntry→World→Prop} {w:World}
theorem op_appendL {α:Type} {t ty T n m:Nat} {z:Value} {agg:Bool} {enc:α→List Value} {v:Value} {l l':List α} {base:Nat} {k:Value→World→Prop}
 (ht:P.underlying t=some (.slice T)) (hT:TyInfo P T agg n m z) (hz:z.cells.size=n) (h0:0 < n) (hn:∀ x,(enc x).length=n) (h1:∀ x,x∈l'→∀ u∈enc x,u.oneCell'=true)
 (hown:OwnE w base T n enc v l) {b o c:Nat} (hc:∀ j x,l'[j]?=some x→ElemAt w b (o+j*n) (enc x)) (hbase:base≤w.heap.size) (hl':0 < l'.length) (hm:(l.length+l'.length)*m≤140737488355328) (hb:l.length+l'.length≤140737488355328)
 (hk:∀ g cap w',OwnE w' base T n enc (.slice (some ⟨g,0,none⟩) (l.length+l'.length) cap) (l++l')→w.grownBy w' v.ownBlock→(v.ownBlock=some g∨g=w.heap.size)→g < w'.heap.size→k (.slice (some ⟨g,0,none⟩) (l.length+l'.length) cap) w') :
 opV P (Builtin.append_ #[t,t] ty #[v,.slice (some ⟨b,o,none⟩) l'.length c]) QP w k:=by
 obtain ⟨⟨i,hi,hs,hby,hzz⟩,_⟩:=hT
 have hfl:(l'.flatMap enc).length=l'.length*n:=by
  clear hm hb hc h1 hk hl'
  induction l' with
  | nil=>simp
  | cons a l ih=>rw [List.flatMap_cons,List.length_append,hn,ih,List.length_cons,Nat.add_mul];omega
 have hcells:∀ j u,(l'.flatMap enc)[j]?=some u→w.cell? ((⟨b,o,none⟩:Addr).add j)=some u:=by
  intro j u hu
  have hj:j < l'.length*n:=by have:=(List.getElem?_eq_some_iff.1 hu).1;rwa [hfl] at this
  have hq:j / n < l'.length:=Nat.div_lt_of_lt_mul (by rw [Nat.mul_comm];exact hj)
  obtain ⟨x,hx⟩:=getElem?_lt hq
  have hjn:j % n < (enc x).length:=by rw [hn];exact Nat.mod_lt _ h0
  have hdm:j / n*n+j % n=j:=by rw [Nat.mul_comm];exact Nat.div_add_mod j n
  have hg:=flatMap_get hn l' (j / n) x (j % n) _ hx (List.getElem?_eq_getElem hjn)
  rw [hdm,hu] at hg
  injection hg with hg
  rw [Addr.add_lit]
  have:=hc _ _ hx (j % n) _ (List.getElem?_eq_getElem hjn)
  rw [hg,← this]
  congr 2;omega
 obtain ⟨g,cap,w',hr,ho,hg,hgl,hlt⟩:=run_append_lies (P:=P) (w:=w) t ty base T i z n m ht hi hzz hs hby hz h0 v l.length (l.flatMap enc) hown ⟨b,o,none⟩ l'.length c (l'.flatMap enc) hfl hcells
  (by intro u hu;obtain ⟨x,hx,hux⟩:=List.mem_flatMap.1 hu;exact h1 x hx u hux) hl' (by simp only [maxLen];omega) hm hbase _ rfl
 rw [opV_ok hr]
 refine hk g cap w' ?_ hg hgl hlt
 unfold OwnE
 rw [List.flatMap_append,List.length_append];exact ho
end
theorem OwnE.grown {α:Type} {w w':World} {lo n:Nat} {T:TypeId} {enc:α→List Value} {v:Value} {l:List α} {row:Option Nat} (h:OwnE w lo T n enc v l) (hg:w.grownBy w' row) (hne:∀ b,v.ownBlock=some b→row≠some b):OwnE w' lo T n enc v l:=by
 obtain ⟨h1,h2⟩:=h
 refine ⟨h1,?_⟩
 rcases h2 with h2 | ⟨g,cap,cur,hv,hb,hc,h3⟩
 · exact .inl h2
 · refine .inr ⟨g,cap,cur,hv,hb,?_,h3⟩
   rw [hg.block g (Array.getElem?_eq_some_iff.1 hc).1 (fun e=>hne g (by rw [hv];rfl) e.symm)]
   exact hc
end Go.Sw
namespace Go.Proofs.YtiajhbbmgglmlaaGreat
open Sw
open Go.RowKit (intOf Below)
def addS (o:List ByteArray) (s:ByteArray):List ByteArray:=if o.any (fun y=>decide (y=s)) then o else o++[s]
theorem dedup_snoc:∀ (l seen:List ByteArray) (s:ByteArray),dedupA seen (l++[s])=dedupA seen l++(if (seen++l).any (fun y=>decide (s=y)) then [] else [s])
 | [],seen,s=>by
  simp only [List.nil_append,dedupA,List.append_nil]
 | a::l,seen,s=>by
  simp only [List.cons_append,dedupA]
  rw [dedup_snoc l (seen++[a]) s]
  have:(seen++[a]++l)=seen++a::l:=by simp
  rw [this]
  split<;>simp
theorem mem_dedup:∀ (l seen:List ByteArray) (s:ByteArray),s∈dedupA seen l↔s∈l∧s ∉ seen
 | [],seen,s=>by simp [dedupA]
 | a::l,seen,s=>by
  simp only [dedupA]
  by_cases h:(seen.any fun y=>decide (a=y))=true
  · rw [if_pos h,mem_dedup l]
    have ha:a∈seen:=by obtain ⟨y,h1,h2⟩:=List.any_eq_true.1 h;simp at h2;subst h2;exact h1
    simp only [List.mem_append,List.mem_singleton,List.mem_cons,not_or]
    constructor
    · rintro ⟨h1,h2,h3⟩;exact ⟨.inr h1,h2⟩
    · rintro ⟨h1 | h1,h2⟩
      · subst h1;exact absurd ha h2
      · exact ⟨h1,h2,⟨fun (e:s=a)=>h2 (e ▸ ha),by simp⟩⟩
  · rw [if_neg h]
    have ha:a ∉ seen:=fun h2=>h (List.any_eq_true.2 ⟨a,h2,by simp⟩)
    simp only [List.mem_cons,mem_dedup l,List.mem_append,List.mem_singleton,not_or]
    by_cases e:s=a
    · subst e;simp [ha]
    · simp [e]
theorem dedup_fold (l:List ByteArray):dedupA [] l=l.foldl addS []:=by
 refine snoc_induct (motive:=fun l=>dedupA [] l=l.foldl addS []) rfl (fun l a ih=>?_) l
 rw [dedup_snoc,List.foldl_append,← ih,List.nil_append]
 show _=addS (dedupA [] l) a
 unfold addS
 have:((dedupA [] l).any fun y=>decide (y=a))=(l.any fun y=>decide (a=y)):=by
  rw [Bool.eq_iff_iff,List.any_eq_true,List.any_eq_true]
  constructor
  · rintro ⟨y,h1,h2⟩;simp at h2;subst h2;exact ⟨y,((mem_dedup l [] y).1 h1).1,by simp⟩
  · rintro ⟨y,h1,h2⟩;simp at h2;subst h2;exact ⟨a,(mem_dedup l [] a).2 ⟨h1,by simp⟩,by simp⟩
 rw [this]
 split<;>simp
theorem addS_len (o:List ByteArray) (s:ByteArray):o.length≤(addS o s).length∧(addS o s).length≤o.length+1:=by unfold addS;split<;>simp
theorem foldl_addS_len:∀ (l o:List ByteArray),(l.foldl addS o).length≤o.length+l.length
 | [],o=>by simp
 | s::l,o=>by
  have h1:=foldl_addS_len l (addS o s)
  have h2:=(addS_len o s).2
  simp only [List.foldl_cons,List.length_cons];omega
abbrev OwnS (w:World) (base:Nat) (v:Value) (l:List ByteArray):Prop:=OwnE w base 9 1 strEnc v l
theorem append_strL {w:World} {QP:List PanicEntry→World→Prop} {k:Value→World→Prop} {base:Nat} {v:Value} {l:List ByteArray} (s:ByteArray) {p:Nat} (hown:OwnS w base v l) (hp:w.heap[p]?=some (.cells #[.string s] 9 (0,0))) (hbase:base≤w.heap.size) (hl:l.length≤1048576)
 (hk:∀ v' w',OwnS w' base v' (l++[s])→w.grownBy w' v.ownBlock→(∀ b,v'.ownBlock=some b→v.ownBlock=some b∨b=w.heap.size)→k v' w') :
 opV Pg (Builtin.append_ #[69,69] 69 #[v,.slice (some ⟨p,0,none⟩) 1 1]) QP w k:=by
 have hby:=by9
 refine op_appendL (l':=[s]) Tryz.underlying69 ty9 rfl (by decide) (fun _=>rfl) (fun x _ u hu=>by simp at hu;subst hu;rfl) hown (fun j x hx=>?_) hbase (Nat.zero_lt_one) ?_ (by simp;omega) ?_
 · cases j with
   | zero =>
    simp at hx;subst hx
    intro j v hv
    rw [(cells_of_heap hp).1]
    simpa using hv
   | succ j=>simp at hx
 · simp only [List.length_cons,List.length_nil]
   exact Nat.le_trans (Nat.mul_le_mul (Nat.add_le_add_right hl 1) hby) (by decide)
 · intro g cap w' h1 h2 h3 h4
   refine hk _ w' h1 h2 (fun b hb=>?_)
   simp only [Value.ownBlock,Option.some.injEq] at hb
   subst hb
   exact h3
def Apart (v u:Value):Prop:=∀ b,v.ownBlock=some b→u.ownBlock≠some b
theorem OwnS.lt {w:World} {base:Nat} {v:Value} {l:List ByteArray} (h:OwnS w base v l):∀ b,v.ownBlock=some b→b < w.heap.size:=fun b hb=>(World.ownsRow.lt h b hb).2
theorem Apart.after {v u v':Value} {n:Nat} (h:Apart v u) (hu:∀ b,u.ownBlock=some b→b < n) (hv:∀ b,v'.ownBlock=some b→v.ownBlock=some b∨b=n):Apart v' u:=fun b hb e=>by
 rcases hv b hb with h1 | h1
 · exact h b h1 e
 · have:=hu b e;omega
def refsL (m:MsgD):List ByteArray:=dedupA [] (allRefs m.fields)
section
variable {W:World} {R:RT}
theorem rre_in2 {w:World} (e:Ext W w) (sv t6 t4:Value) (out L:List ByteArray) (hO:OwnS w W.heap.size sv out) (hL:OwnS w W.heap.size t6 L) (hA:Apart sv t6) (hlen:out.length+L.length≤1048576) (next1:Value→Value→World→Prop)
 (i:Nat) (hi:i < 9223372036854775807) (h4:t4 = .int .i64 (i:Int)) (hn:∀ sv' w',Ext W w'→OwnS w' W.heap.size sv' (L.foldl addS out)→next1 sv' (.int .i64 ((i+1:Nat):Int)) w') :
 loop2 (fun t3 t8 w next7=>n22c5 t3 t4 t6 t8 next1 next7 R w) sv (.int .i64 0) w:=by
 refine loop2_intro (fun a b w'=>∃ (k:Nat) (sv':Value),a=sv'∧b = .int .i64 k∧k≤L.length∧Ext W w'∧OwnS w' W.heap.size sv' ((L.take k).foldl addS out)∧OwnS w' W.heap.size t6 L∧Apart sv' t6) (fun _ b _=>L.length - (intOf b).toNat) ⟨0,sv,rfl,rfl,by omega,e,hO,hL,hA⟩ ?_
 rintro _ _ w1 ⟨k,sv',rfl,rfl,hk,e1,hO1,hL1,hA1⟩
 have hsl:=hL1.slice (E:=EStr) (fun _=>rfl) (fun _ _=>rfl)
 obtain ⟨A,c,h6,hlc,hcm,hlm,hel⟩:=SliceOf.open hsl
 unfold n22c5
 rcases drop_cases hk with ⟨x,hx,hd,hlt,hdec⟩ | ⟨hk,hd,hdec⟩
 · have hstep:(L.take (k+1)).foldl addS out=addS ((L.take k).foldl addS out) x:=by rw [take_snoc hx,List.foldl_append];rfl
   have hol:((L.take k).foldl addS out).length≤1048576:=by
    have:=foldl_addS_len (L.take k) out
    have h2:(L.take k).length≤L.length:=by rw [List.length_take];omega
    omega
   generalize ((L.take k).foldl addS out)=o1 at hO1 hstep hol
   obtain ⟨b6,o6,cs6,hA6,_,hE6,hcs6⟩:=hel k x hx
   subst h6 hA6
   subst hcs6
   simp (disch:=try exact DI) only [↓PR,QR,Int.reduceBEq,Int.reduceBNe,Int.reduceLT,Int.reduceLE,Int.reduceGT,Int.reduceGE,Int.reduceNeg,hdec]
   refine loop2_intro (fun a b w'=>∃ (j:Nat),a = .bool ((o1.take j).any fun y=>decide (y=x))∧b = .int .i64 j∧j≤o1.length∧Ext w1 w') (fun _ b _=>o1.length - (intOf b).toNat) ⟨0,by simp,rfl,by omega,Ext.refl _⟩ ?_
   rintro _ _ w2 ⟨j,rfl,rfl,hj,e2⟩
   have hso:=hO1.slice (E:=EStr) (fun _=>rfl) (fun _ _=>rfl)
   obtain ⟨A3,c3,h3,hlc3,hcm3,hlm3,hel3⟩:=SliceOf.open hso
   unfold n22c4
   rcases drop_cases hj with ⟨y,hy,hdj,hltj,hdecj⟩ | ⟨hj,hdj,hdecj⟩
   · obtain ⟨b3,o3,cs3,hA3,_,hE3,hcs3⟩:=hel3 j y hy
     subst h3 hA3
     subst hcs3
     have hany:((o1.take (j+1)).any fun y=>decide (y=x))=(((o1.take j).any fun y=>decide (y=x))||decide (y=x)):=by rw [take_snoc hy,List.any_append];simp
     simp (disch:=try exact DI) only [↓PR,QR,Int.reduceBEq,Int.reduceBNe,Int.reduceLT,Int.reduceLE,Int.reduceGT,Int.reduceGE,Int.reduceNeg,hdecj]
     refine drawK_intro ?_
     unfold n22c1
     generalize hsn:((o1.take j).any fun y=>decide (y=x))=sn at hany
     cases sn with
     | true =>
      simp (disch:=try exact DI) only [↓PR,QR,Int.reduceBEq,Int.reduceBNe,Int.reduceLT,Int.reduceLE,Int.reduceGT,Int.reduceGE,Int.reduceNeg]
      refine ⟨⟨j+1,?_,rfl,by omega,ee⟩,meas_lt hltj⟩
      rw [hany];rfl
     | false =>
      simp (disch:=try exact DI) only [↓PR,QR,Int.reduceBEq,Int.reduceBNe,Int.reduceLT,Int.reduceLE,Int.reduceGT,Int.reduceGE,Int.reduceNeg,hE3.c1 e2,hE6.c1 e2]
      refine ⟨⟨j+1,?_,rfl,by omega,ee⟩,meas_lt hltj⟩
      rw [hany];rfl
   · subst hj
     rw [List.take_length]
     have hadd:addS o1 x=if (o1.any fun y=>decide (y=x))=true then o1 else o1++[x]:=rfl
     rw [hadd] at hstep
     subst h3
     simp (disch:=try exact DI) only [↓PR,QR,Int.reduceBEq,Int.reduceBNe,Int.reduceLT,Int.reduceLE,Int.reduceGT,Int.reduceGE,Int.reduceNeg,hdecj]
     unfold n22c3
     generalize (o1.any fun y=>decide (y=x))=sn at hstep
     cases sn with
     | true =>
      rw [if_pos rfl] at hstep
      simp (disch:=try exact DI) only [↓PR,QR,Int.reduceBEq,Int.reduceBNe,Int.reduceLT,Int.reduceLE,Int.reduceGT,Int.reduceGE,Int.reduceNeg]
      exact ⟨⟨k+1,_,rfl,rfl,by omega,e1.trans e2,by rw [hstep];exact hO1.ext e2,hL1.ext e2,hA1⟩,meas_lt hlt⟩
     | false =>
      rw [if_neg (by simp)] at hstep
      simp (disch:=try exact DI) only [↓PR,QR,Int.reduceBEq,Int.reduceBNe,Int.reduceLT,Int.reduceLE,Int.reduceGT,Int.reduceGE,Int.reduceNeg,n22c2,hE6.c1 e2]
      have ea:Ext w1 (w2.alloc (Obj.cells #[.string x] 9)):=e2.alloc _
      have hsz:(w2.alloc (Obj.cells #[.string x] 9)).heap.size=w2.heap.size+1:=by simp only [World.size_alloc]
      have s1:=e1.size
      have s2:=e2.size
      refine append_strL x (hO1.ext ea) (heap_new w2 _ _) (by omega) hol ?_
      intro v' w' hO' hg hv'
      have ew:Ext W w':=(e1.trans ea).grown hg (fun b hb=>(World.ownsRow.lt hO1 b hb).1)
      simp (disch:=try exact DI) only [↓PR,QR,Int.reduceBEq,Int.reduceBNe,Int.reduceLT,Int.reduceLE,Int.reduceGT,Int.reduceGE,Int.reduceNeg]
      refine ⟨⟨k+1,v',rfl,rfl,by omega,ew,by rw [hstep];exact hO',(hL1.ext ea).grown hg (fun b hb e=>hA1 b e hb),hA1.after (fun b hb=>?_) hv'⟩,meas_lt hlt⟩
      have:=hL1.lt b hb
      omega
 · subst hk
   rw [List.take_length] at hO1
   subst h6
   rw [h4]
   simp (disch:=try exact DI) only [↓PR,QR,Int.reduceBEq,Int.reduceBNe,Int.reduceLT,Int.reduceLE,Int.reduceGT,Int.reduceGE,Int.reduceNeg,hdec]
   exact hn _ w1 e1 hO1
theorem rre_c8 {w:World} (e:Ext W w) (x:FieldD) (tv cv:Value) (p5:Nat) (o5:w.heap[p5]?=some (.cells (fieldCells x tv cv).toArray 52 (0,0))) (hC:CasesOf W cv x.cases) (sv t6 t4:Value) (out:List ByteArray) (hO:OwnS w W.heap.size sv out) (hlen:out.length+(refsF x).length≤1048576)
 (h6:(x.kind≠9∧OwnS w W.heap.size t6 (refsF x)∧Apart sv t6)∨(x.kind=9∧t6 = .slice none 0 0)) (next1:Value→Value→World→Prop) (i:Nat) (hi:i < 9223372036854775807) (h4:t4 = .int .i64 (i:Int))
 (hn:∀ sv' w',Ext W w'→OwnS w' W.heap.size sv' ((refsF x).foldl addS out)→next1 sv' (.int .i64 ((i+1:Nat):Int)) w') :
 loop2 (fun t6 t7 w next5=>n22c8 sv t4 (.pointer (some ⟨p5,0,none⟩)) t6 t7 next1 next5 R w) t6 (.int .i64 0) w:=by
 rcases h6 with ⟨hk,hL,hA⟩ | ⟨hk,rfl⟩
 · refine loop2_intro (fun a b w'=>a=t6∧b = .int .i64 0∧w'=w) (fun _ _ _=>0) ⟨rfl,rfl,rfl⟩ ?_
   rintro _ _ _ ⟨rfl,rfl,rfl⟩
   unfold n22c8
   have k9:(x.kind == 9)=false:=by simpa using hk
   simp (disch:=try exact DI) only [↓PR,QR,Int.reduceBEq,Int.reduceBNe,Int.reduceLT,Int.reduceLE,Int.reduceGT,Int.reduceGE,Int.reduceNeg,(cells_of_heap o5).1,k9,n22c7]
   exact rre_in2 e sv _ t4 out (refsF x) hO hL hA hlen next1 i hi h4 hn
 · have hr:refsF x=x.cases.map (·.of):=by unfold refsF;rw [if_neg (by omega),if_pos hk]
   have k9:(x.kind == 9)=true:=by simpa using hk
   obtain ⟨A,c,rfl,hlc,hcm,hlm,hel⟩:=SliceOf.open hC
   have l5:p5 < w.heap.size:=(Array.getElem?_eq_some_iff.1 o5).1
   rw [hr] at hlen hn
   simp only [List.length_map] at hlen
   refine loop2_intro (fun a b w'=>∃ (k:Nat) (u:Value),a=u∧b = .int .i64 k∧k≤x.cases.length∧Ext W w'∧w'.heap[p5]?=some (.cells (fieldCells x tv (.slice A x.cases.length c)).toArray 52 (0,0))∧OwnS w' w.heap.size u ((x.cases.take k).map (·.of))∧OwnS w' W.heap.size sv out∧w.heap.size≤w'.heap.size) (fun _ b _=>x.cases.length - (intOf b).toNat) ⟨0,_,rfl,rfl,by omega,e,o5,OwnE.nil _ _ _ _ _,hO,Nat.le_refl _⟩ ?_
   rintro u _ w1 ⟨k,_,rfl,rfl,hk1,e1,y5,hU,hO1,hs1⟩
   have hAp:Apart sv u:=fun b hb e=>by
    have h1:=hO.lt b hb
    have h2:=(World.ownsRow.lt hU b e).1
    omega
   unfold n22c8
   rcases drop_cases hk1 with ⟨y,hy,hd,hlt,hdec⟩ | ⟨hk1,hd,hdec⟩
   · obtain ⟨b,o,cs,rfl,hl,hA,rfl⟩:=hel k y hy
     simp (disch:=try exact DI) only [↓PR,QR,Int.reduceBEq,Int.reduceBNe,Int.reduceLT,Int.reduceLE,Int.reduceGT,Int.reduceGE,Int.reduceNeg,(cells_of_heap y5).1,k9,hdec,n22c7]
     unfold n22c6
     simp (disch:=try exact DI) only [↓PR,QR,Int.reduceBEq,Int.reduceBNe,Int.reduceLT,Int.reduceLE,Int.reduceGT,Int.reduceGE,Int.reduceNeg,(cells_of_heap y5).1,hA.c3 e1]
     have ea:Ext w1 (w1.alloc (Obj.cells #[.string y.of] 9)):=ee
     have hsz:(w1.alloc (Obj.cells #[.string y.of] 9)).heap.size=w1.heap.size+1:=by simp only [World.size_alloc]
     have sW:=e.size
     refine append_strL y.of (hU.ext ea) (heap_new w1 _ _) (by omega) (by rw [List.length_map,List.length_take];omega) ?_
     intro v' w' hO' hg hv'
     have ew:Ext W w':=(e1.trans ea).grown hg (fun b hb=>by have:=(World.ownsRow.lt hU b hb).1;omega)
     have hsw:=hg.size
     simp (disch:=try exact DI) only [↓PR,QR,Int.reduceBEq,Int.reduceBNe,Int.reduceLT,Int.reduceLE,Int.reduceGT,Int.reduceGE,Int.reduceNeg]
     refine ⟨⟨k+1,v',rfl,rfl,by omega,ew,?_,?_,(hO1.ext ea).grown hg (fun b hb e=>hAp b hb e),by omega⟩,meas_lt hlt⟩
     · rw [hg.block p5 (by omega) (fun e=>by have:=(World.ownsRow.lt hU p5 e.symm).1;omega)]
       exact ea.obj y5
     · rw [take_snoc hy,List.map_append];exact hO'
   · subst hk1
     rw [List.take_length] at hU
     simp (disch:=try exact DI) only [↓PR,QR,Int.reduceBEq,Int.reduceBNe,Int.reduceLT,Int.reduceLE,Int.reduceGT,Int.reduceGE,Int.reduceNeg,(cells_of_heap y5).1,k9,hdec,n22c7]
     exact rre_in2 e1 sv _ t4 out (x.cases.map (·.of)) hO1 (OwnE.base hU e.size) hAp (by simpa using hlen) next1 i hi h4 hn
theorem rRefers_ret (w0:World) (v:Value) (m:MsgD) (hm:MsgVal w0 v m) (hb:(allRefs m.fields).length≤1048576) :
 Ret Pg 25 #[v] w0 fun r w'=>OwnS w' w0.heap.size r (refsL m)∧Ext w0 w':=by
 obtain ⟨fv,rfl,hF⟩:=hm
 obtain ⟨A,c,rfl,hlc,hcm,hlm,hel⟩:=SliceOf.open hF
 refine n22s (R:=retR _) ?_;unfold n22
 simp (disch:=try exact DI) only [↓PR,QR,Int.reduceBEq,Int.reduceBNe,Int.reduceLT,Int.reduceLE,Int.reduceGT,Int.reduceGE,Int.reduceNeg]
 have hBW:=ElemAt.new (w:=w0) (msgCells m (.slice A m.fields.length c)) (45)
 have eW:Ext w0 (w0.alloc (Obj.cells (List.toArray (msgCells m (.slice A m.fields.length c))) (45))):=(Ext.refl _).alloc _
 generalize (w0.alloc (Obj.cells (List.toArray (msgCells m (.slice A m.fields.length c))) (45)))=W at hBW eW ⊢
 have hW:w0.heap.size≤W.heap.size:=eW.size
 refine loop2_intro (fun a b w'=>∃ (k:Nat) (sv:Value),a=sv∧b = .int .i64 k∧k≤m.fields.length∧Ext W w'∧OwnS w' W.heap.size sv (dedupA [] (allRefs (m.fields.take k)))) (fun _ b _=>m.fields.length - (intOf b).toNat) ⟨0,_,rfl,rfl,by omega,Ext.refl _,OwnE.nil _ _ _ _ _⟩ ?_
 rintro sv _ w1 ⟨k,_,rfl,rfl,hk,e,hO⟩
 have e':=eW.trans e
 have s1:=e.size
 unfold n22c13
 rcases drop_cases hk with ⟨x,hx,hd,hlt,hdec⟩ | ⟨hk,hd,hdec⟩
 · obtain ⟨b,o,cs,rfl,hl,hA,hE⟩:=hel k x hx
   obtain ⟨tv,cv,rfl,hT,hC,ht1,hc1⟩:=hE.op
   have hpre:allRefs (m.fields.take (k+1))=allRefs (m.fields.take k)++refsF x:=by unfold allRefs;rw [take_snoc hx,List.flatMap_append];simp
   have hle:(allRefs (m.fields.take k)).length+(refsF x).length≤1048576:=by
    have h1:(allRefs (m.fields.take (k+1))).length≤(allRefs m.fields).length:=by
     conv=>rhs;rw [← List.take_append_drop (k+1) m.fields]
     unfold allRefs
     rw [List.flatMap_append,List.length_append];omega
    rw [hpre,List.length_append] at h1;omega
   have hout:(dedupA [] (allRefs (m.fields.take k))).length≤(allRefs (m.fields.take k)).length:=by
    rw [dedup_fold];have:=foldl_addS_len (allRefs (m.fields.take k)) [];simpa using this
   have hle':(dedupA [] (allRefs (m.fields.take k))).length+(refsF x).length≤1048576:=by omega
   have hnext:dedupA [] (allRefs (m.fields.take (k+1)))=(refsF x).foldl addS (dedupA [] (allRefs (m.fields.take k))):=by rw [hpre,dedup_fold,dedup_fold,List.foldl_append]
   simp (disch:=try exact DI) only [↓PR,QR,Int.reduceBEq,Int.reduceBNe,Int.reduceLT,Int.reduceLE,Int.reduceGT,Int.reduceGE,Int.reduceNeg,hdec,hBW.c2]
   unfold n22c12
   simp (disch:=try exact DI) only [↓PR,QR,Int.reduceBEq,Int.reduceBNe,Int.reduceLT,Int.reduceLE,Int.reduceGT,Int.reduceGE,Int.reduceNeg,hBW.c2,hA.c15 e']
   have ea:Ext w1 (w1.alloc (Obj.cells (fieldCells x tv cv).toArray 52)):=ee
   have o5:=heap_new w1 (fieldCells x tv cv).toArray 52
   have hO2:=hO.ext ea
   have ew:=e.trans ea
   have hbn:∀ sv' w',Ext W w'→OwnS w' W.heap.size sv' ((refsF x).foldl addS (dedupA [] (allRefs (m.fields.take k))))→(∃ (k':Nat) (sv:Value),sv'=sv∧(Value.int .i64 ((k+1:Nat):Int)) = .int .i64 k'∧k'≤m.fields.length∧Ext W w'∧OwnS w' W.heap.size sv (dedupA [] (allRefs (m.fields.take k'))))∧m.fields.length - (intOf (Value.int .i64 ((k+1:Nat):Int))).toNat < m.fields.length - (intOf (Value.int .i64 (k:Int))).toNat :=
    fun sv' w' ew h=>⟨⟨k+1,sv',rfl,rfl,by omega,ew,by rw [hnext];exact h⟩,meas_lt hlt⟩
   have hCW:=CasesOf.ext hC eW
   have lo:∀ b,sv.ownBlock=some b→b < w1.heap.size:=fun b hb=>hO.lt b hb
   generalize hw2:(w1.alloc (Obj.cells (fieldCells x tv cv).toArray 52))=w2 at ea o5 hO2 ew
   have hs2:w2.heap.size=w1.heap.size+1:=by rw [← hw2];simp only [World.size_alloc]
   by_cases hr:x.kind=7∨x.kind=8∨x.kind=12
   · have hrf:refsF x=[x.of]:=by unfold refsF;rw [if_pos hr]
     have tail:joinK (fun (t6:Value) (w:World)=>loop2 (fun t6 t7 w next5=>n22c8 sv (.int .i64 (k:Int)) (.pointer (some ⟨w1.heap.size,0,none⟩)) t6 t7 (fun a0' a1' w'=>(∃ (k':Nat) (sv:Value),a0'=sv∧a1' = .int .i64 k'∧k'≤m.fields.length∧Ext W w'∧OwnS w' W.heap.size sv (dedupA [] (allRefs (m.fields.take k'))))∧m.fields.length - (intOf a1').toNat < m.fields.length - (intOf (Value.int .i64 (k:Int))).toNat) next5 (retR fun r w'=>OwnS w' w0.heap.size r (refsL m)∧Ext w0 w') w) t6 (.int .i64 0) w) fun K4=>n22c9 (.pointer (some ⟨w1.heap.size,0,none⟩)) K4 (retR fun r w'=>OwnS w' w0.heap.size r (refsL m)∧Ext w0 w') w2:=by
      rw [joinK_eq]
      unfold n22c9
      simp (disch:=try exact DI) only [↓PR,QR,Int.reduceBEq,Int.reduceBNe,Int.reduceLT,Int.reduceLE,Int.reduceGT,Int.reduceGE,Int.reduceNeg,(cells_of_heap o5).1]
      have eb:Ext w2 (w2.alloc (Obj.cells #[.string x.of] 9)):=ee
      have hsb:(w2.alloc (Obj.cells #[.string x.of] 9)).heap.size=w2.heap.size+1:=by simp only [World.size_alloc]
      refine append_strL x.of (OwnE.nil _ W.heap.size _ _ _) (heap_new w2 _ _) (by omega) (by decide) ?_
      intro v' w' hO' hg hv'
      have eg:Ext w1 w':=(ea.trans eb).grown hg (fun b hb=>by cases hb)
      refine rre_c8 (e.trans eg) x tv cv w1.heap.size ?_ hCW sv v' _ _ (hO.ext eg) hle' (.inl ⟨by omega,by rw [hrf];exact hO',fun b hb e=>?_⟩) _ k (by omega) rfl hbn
      · exact (Ext.grown (Ext.refl _) hg (fun b hb=>by cases hb)).obj (eb.obj o5)
      · rcases hv' b e with h1 | h1
        · cases h1
        · have:=lo b hb;omega
     rw [joinK_eq] at tail
     rcases hr with h7 | h8 | h12
     · have k7:(x.kind == 7)=true:=by simpa using h7
       simp (disch:=try exact DI) only [↓PR,QR,Int.reduceBEq,Int.reduceBNe,Int.reduceLT,Int.reduceLE,Int.reduceGT,Int.reduceGE,Int.reduceNeg,k7,n22c11,n22c10]
       exact tail
     · have k7:(x.kind == 7)=false:=by simp;omega
       have k8:(x.kind == 8)=true:=by simpa using h8
       simp (disch:=try exact DI) only [↓PR,QR,Int.reduceBEq,Int.reduceBNe,Int.reduceLT,Int.reduceLE,Int.reduceGT,Int.reduceGE,Int.reduceNeg,k7,k8,n22c11,n22c10,(cells_of_heap o5).1]
       exact tail
     · have k7:(x.kind == 7)=false:=by simp;omega
       have k8:(x.kind == 8)=false:=by simp;omega
       have k12:(x.kind == 12)=true:=by simpa using h12
       simp (disch:=try exact DI) only [↓PR,QR,Int.reduceBEq,Int.reduceBNe,Int.reduceLT,Int.reduceLE,Int.reduceGT,Int.reduceGE,Int.reduceNeg,k7,k8,k12,n22c11,n22c10,(cells_of_heap o5).1]
       exact tail
   · have k7:(x.kind == 7)=false:=by simp;omega
     have k8:(x.kind == 8)=false:=by simp;omega
     have k12:(x.kind == 12)=false:=by simp;omega
     simp (disch:=try exact DI) only [↓PR,QR,Int.reduceBEq,Int.reduceBNe,Int.reduceLT,Int.reduceLE,Int.reduceGT,Int.reduceGE,Int.reduceNeg,k7,k8,k12,n22c11,n22c10,(cells_of_heap o5).1]
     refine rre_c8 ew x tv cv w1.heap.size o5 hCW sv _ _ _ hO2 hle' ?_ _ k (by omega) rfl hbn
     by_cases h9:x.kind=9
     · exact .inr ⟨h9,rfl⟩
     · have hrf:refsF x=[]:=by unfold refsF;rw [if_neg hr,if_neg h9]
       exact .inl ⟨h9,by rw [hrf];exact OwnE.nil _ _ _ _ _,fun b _ e=>by cases e⟩
 · subst hk
   rw [List.take_length] at hO
   simp (disch:=try exact DI) only [↓PR,QR,Int.reduceBEq,Int.reduceBNe,Int.reduceLT,Int.reduceLE,Int.reduceGT,Int.reduceGE,Int.reduceNeg,hdec,hBW.c2]
   exact ⟨OwnE.base hO hW,ee⟩
end
end Go.Proofs.YtiajhbbmgglmlaaGreat
namespace Go.Proofs.YtiajhbbmgglmlaaGreat
open Sw
open Go.RowKit (intOf Below)
def Sub {β:Type} (a b:List (ByteArray×β)):Prop:=∀ s v,lastP a s=some v→lastP b s=some v
section
variable {β:Type}
theorem Sub.refl (a:List (ByteArray×β)):Sub a a:=fun _ _ h=>h
theorem Sub.trans {a b c:List (ByteArray×β)} (h:Sub a b) (k:Sub b c):Sub a c:=fun s v x=>k s v (h s v x)
theorem Sub.snoc {a:List (ByteArray×β)} {p:ByteArray×β} (h:lastP a p.1=none):Sub a (a++[p]):=fun s v x=>by
 rw [lastP_snoc]
 by_cases e:p.1=s
 · subst e;rw [h] at x;cases x
 · rw [if_neg e];exact x
theorem Sub.is {a b:List (ByteArray×β)} (h:Sub a b) {s:ByteArray} (k:(lastP a s).isSome=true):(lastP b s).isSome=true:=by
 obtain ⟨v,hv⟩:=Option.isSome_iff_exists.1 k
 rw [h s v hv];rfl
theorem Sub.eq {a b:List (ByteArray×β)} (h:Sub a b) {s:ByteArray} (k:(lastP a s).isSome=true):lastP b s=lastP a s:=by
 obtain ⟨v,hv⟩:=Option.isSome_iff_exists.1 k
 rw [h s v hv,hv]
theorem lastP_none {l:List (ByteArray×β)} {s:ByteArray}:lastP l s=none↔∀ p∈l,p.1≠s:=by
 unfold lastP
 rw [Option.map_eq_none_iff,List.find?_eq_none]
 simp
end
theorem isI (deps:List (ByteArray×Int)) (s:ByteArray):(lastOf (vI deps) s).isSome=(lastP deps s).isSome:=by rw [lastOf_vI];simp
theorem orC_iff {a b:Int}:orC a b=0↔a=0∧b=0:=by
 unfold orC
 split
 · rename_i h;simp [h]
 · rename_i h;simp [h]
theorem needC_iff {b:Bool} {c:Int} (hc:c≠0):needC b c=0↔b=true:=by
 unfold needC
 cases b<;>simp [hc]
theorem mem_dedupA {s:ByteArray}:∀ {l seen:List ByteArray},s∈dedupA seen l→s∈l
 | [],_,h=>by cases h
 | x::l,seen,h=>by
  unfold dedupA at h
  split at h
  · exact List.mem_cons_of_mem _ (mem_dedupA h)
  · rcases List.mem_cons.1 h with rfl | h
    · exact List.mem_cons_self
    · exact List.mem_cons_of_mem _ (mem_dedupA h)
section
variable {deps deps':List (ByteArray×Int)} {strs strs':List (ByteArray×Bool)}
theorem casesL_mono (hd:Sub deps deps') (hi:Int):∀ (l:List CaseD) (lo:Int),casesL hi (vI deps) lo l=0→casesL hi (vI deps') lo l=0∧∀ c∈l,(lastP deps c.of).isSome=true
 | [],_,_=>⟨rfl,fun _ h=>by cases h⟩
 | x::l,lo,h=>by
  simp only [casesL,orC_iff,needC_iff (show (8:Int)≠0 by decide),isI] at h ⊢
  obtain ⟨h1,h2,h3⟩:=h
  obtain ⟨i1,i2⟩:=casesL_mono hd hi l _ h3
  refine ⟨⟨h1,hd.is h2,i1⟩,fun c hc=>?_⟩
  rcases List.mem_cons.1 hc with rfl | hc
  · exact h2
  · exact i2 c hc
theorem strB_some {s:ByteArray} (h:strB (vB strs) s=true):lastP strs s=some true:=by
 rw [strB_vB] at h
 cases hl:lastP strs s with
 | none=>rw [hl] at h;cases h
 | some b=>rw [hl] at h;simp at h;rw [h]
theorem examine_mono (hd:Sub deps deps') (hs:Sub strs strs') {bef:List FieldD} {f:FieldD} (h:examineC bef (vI deps) (vB strs) f=0):examineC bef (vI deps') (vB strs') f=0:=by
 unfold examineC at h ⊢
 simp only [orC_iff] at h ⊢
 refine ⟨h.1,h.2.1,h.2.2.1,h.2.2.2.1,?_⟩
 obtain ⟨_,_,_,_,h⟩:=h
 unfold checkC at h ⊢
 by_cases k1:f.kind=1
 · rw [if_pos k1] at h ⊢;exact h
 rw [if_neg k1] at h ⊢
 by_cases k2:f.kind=2
 · rw [if_pos k2] at h ⊢;exact h
 rw [if_neg k2] at h ⊢
 by_cases k3:f.kind=3
 · rw [if_pos k3] at h ⊢;exact h
 rw [if_neg k3] at h ⊢
 by_cases k4:f.kind=4
 · rw [if_pos k4] at h ⊢;exact h
 rw [if_neg k4] at h ⊢
 by_cases k5:f.kind=5
 · rw [if_pos k5] at h ⊢;exact h
 rw [if_neg k5] at h ⊢
 by_cases k6:f.kind=6
 · rw [if_pos k6] at h ⊢;exact h
 rw [if_neg k6] at h ⊢
 by_cases k7:f.kind=7
 · rw [if_pos k7] at h ⊢
   simp only [orC_iff,needC_iff (show (8:Int)≠0 by decide),isI] at h ⊢
   exact ⟨hd.is h.1,h.2⟩
 rw [if_neg k7] at h ⊢
 by_cases k8:f.kind=8
 · rw [if_pos k8] at h ⊢
   simp only [needC_iff (show (8:Int)≠0 by decide),isI] at h ⊢
   exact hd.is h
 rw [if_neg k8] at h ⊢
 by_cases k9:f.kind=9
 · rw [if_pos k9] at h ⊢
   unfold casesC at h ⊢
   simp only [orC_iff] at h ⊢
   exact ⟨h.1,h.2.1,(casesL_mono hd _ _ _ h.2.2).1⟩
 rw [if_neg k9] at h ⊢
 by_cases k10:f.kind=10
 · rw [if_pos k10] at h ⊢;exact h
 rw [if_neg k10] at h ⊢
 by_cases k11:f.kind=11
 · rw [if_pos k11] at h ⊢;exact h
 rw [if_neg k11] at h ⊢
 by_cases k12:f.kind=12
 · rw [if_pos k12] at h ⊢
   simp only [orC_iff,needC_iff (show (8:Int)≠0 by decide)] at h ⊢
   refine ⟨h.1,?_,h.2.2⟩
   rw [strB_vB,hs _ _ (strB_some h.2.1)];rfl
 rw [if_neg k12]
theorem examine_refs (hds:∀ s,(lastP strs s).isSome=true→(lastP deps s).isSome=true) {bef:List FieldD} {f:FieldD} (h:examineC bef (vI deps) (vB strs) f=0):∀ s∈refsF f,(lastP deps s).isSome=true:=by
 intro s hs
 unfold examineC at h
 simp only [orC_iff] at h
 obtain ⟨_,_,_,_,h⟩:=h
 unfold checkC at h
 unfold refsF at hs
 split at hs
 · rename_i hk
   simp only [List.mem_singleton] at hs
   subst hs
   rcases hk with hk | hk | hk
   · rw [if_neg (by omega),if_neg (by omega),if_neg (by omega),if_neg (by omega),if_neg (by omega),if_neg (by omega),if_pos hk] at h
     simp only [orC_iff,needC_iff (show (8:Int)≠0 by decide),isI] at h
     exact h.1
   · rw [if_neg (by omega),if_neg (by omega),if_neg (by omega),if_neg (by omega),if_neg (by omega),if_neg (by omega),if_neg (by omega),if_pos hk] at h
     simp only [needC_iff (show (8:Int)≠0 by decide),isI] at h
     exact h
   · rw [if_neg (by omega),if_neg (by omega),if_neg (by omega),if_neg (by omega),if_neg (by omega),if_neg (by omega),if_neg (by omega),if_neg (by omega),if_neg (by omega),if_neg (by omega),if_neg (by omega),if_pos hk] at h
     simp only [orC_iff,needC_iff (show (8:Int)≠0 by decide)] at h
     exact hds _ (by rw [strB_some h.2.1];rfl)
 · split at hs
   · rename_i hk
     obtain ⟨c,hc,rfl⟩:=List.mem_map.1 hs
     rw [if_neg (by omega),if_neg (by omega),if_neg (by omega),if_neg (by omega),if_neg (by omega),if_neg (by omega),if_neg (by omega),if_neg (by omega),if_pos hk] at h
     unfold casesC at h
     simp only [orC_iff] at h
     exact (casesL_mono (Sub.refl deps) _ _ _ h.2.2).2 c hc
   · cases hs
theorem fields_mono (hd:Sub deps deps') (hs:Sub strs strs') (hds:∀ s,(lastP strs s).isSome=true→(lastP deps s).isSome=true):∀ (l bef:List FieldD),(fieldsP deps strs bef l).2=0→fieldsP deps' strs' bef l=(-1,0)∧∀ s∈allRefs l,(lastP deps s).isSome=true
 | [],bef,h=>⟨rfl,fun s hs=>by cases hs⟩
 | f::l,bef,h=>by
  unfold fieldsP at h ⊢
  by_cases h0:examineC bef (vI deps) (vB strs) f=0
  · rw [if_pos h0] at h
    rw [if_pos (examine_mono hd hs h0)]
    obtain ⟨i1,i2⟩:=fields_mono hd hs hds l _ h
    refine ⟨i1,fun s hs=>?_⟩
    rcases List.mem_append.1 (show s∈refsF f++allRefs l from hs) with hs | hs
    · exact examine_refs hds h0 s hs
    · exact i2 s hs
  · rw [if_neg h0] at h;exact absurd h h0
theorem next_parts {m:MsgD} (h:(nextP deps strs m).2=0):nameB m.name=true∧lastP deps m.name=none∧(1≤m.fields.length∧m.fields.length≤40)∧(fieldsP deps strs [] m.fields).2=0∧depthM deps m < 16:=by
 have hl:=nextP_low h
 unfold nextP at h
 by_cases h1:nameB m.name=true
 · rw [if_pos h1] at h
   by_cases h2:(lastP deps m.name).isSome=true
   · rw [if_pos h2] at h;exact absurd h (by decide)
   · rw [if_neg h2] at h
     by_cases h3:1≤m.fields.length∧m.fields.length≤40
     · rw [if_pos h3] at h
       refine ⟨h1,by simpa using h2,h3,?_,hl⟩
       unfold tailP at h
       split at h
       · assumption
       · contradiction
     · rw [if_neg h3] at h;exact absurd h (by decide)
 · rw [if_neg h1] at h;exact absurd h (by decide)
end
section
variable {deps:List (ByteArray×Int)} {strs:List (ByteArray×Bool)}
theorem msgs_cons0 {m:MsgD} {l:List MsgD} {i:Nat} (h:(nextP deps strs m).2=0):msgsP deps strs i (m::l)=msgsP (stepD deps m) (stepS strs m) (i+1) l:=if_pos h
theorem msgs_cons1 {m:MsgD} {l:List MsgD} {i:Nat} (h:¬ (nextP deps strs m).2=0):msgsP deps strs i (m::l)=((i:Int),nextP deps strs m):=if_neg h
theorem msgs_append (r:List MsgD):∀ (l:List MsgD) (deps:List (ByteArray×Int)) (strs:List (ByteArray×Bool)) (i:Nat),((msgsP deps strs i l).2.2=0→msgsP deps strs i (l++r)=msgsP (l.foldl stepD deps) (l.foldl stepS strs) (i+l.length) r)∧((msgsP deps strs i l).2.2≠0→msgsP deps strs i (l++r)=msgsP deps strs i l)
 | [],deps,strs,i=>⟨fun _=>rfl,fun h=>absurd rfl h⟩
 | m::l,deps,strs,i=>by
  have ih:=msgs_append r l (stepD deps m) (stepS strs m) (i+1)
  by_cases h:(nextP deps strs m).2=0
  · rw [msgs_cons0 h,List.cons_append,msgs_cons0 h]
    simp only [List.foldl_cons,List.length_cons]
    rw [show i+(l.length+1)=i+1+l.length by omega]
    exact ih
  · rw [msgs_cons1 h,List.cons_append,msgs_cons1 h]
    exact ⟨fun k=>absurd k h,fun _=>rfl⟩
theorem msgs_at {l:List MsgD} {deps:List (ByteArray×Int)} {strs:List (ByteArray×Bool)} {i:Nat} (h:(msgsP deps strs i l).2.2=0) {k:Nat} {m:MsgD} (hk:l[k]?=some m):(nextP ((l.take k).foldl stepD deps) ((l.take k).foldl stepS strs) m).2=0∧(msgsP deps strs i (l.take k)).2.2=0:=by
 have hl:l=l.take k++m::l.drop (k+1):=by
  have:=(List.take_append_drop k l).symm
  rw [List.drop_eq_getElem_cons (List.getElem?_eq_some_iff.1 hk).1] at this
  rw [(List.getElem?_eq_some_iff.1 hk).2] at this
  exact this
 rw [hl] at h
 by_cases h0:(msgsP deps strs i (l.take k)).2.2=0
 · rw [(msgs_append _ _ _ _ _).1 h0] at h
   refine ⟨?_,h0⟩
   by_cases h1:(nextP ((l.take k).foldl stepD deps) ((l.take k).foldl stepS strs) m).2=0
   · exact h1
   · rw [msgs_cons1 h1] at h;exact absurd h h1
 · rw [(msgs_append _ _ _ _ _).2 h0] at h;exact absurd h h0
theorem deps_snoc (l:List MsgD) (m:MsgD):depsOf (l++[m])=depsOf l++[(m.name,depthM (depsOf l) m+1)]:=by unfold depsOf;rw [List.foldl_append];rfl
theorem strs_snoc (l:List MsgD) (m:MsgD):strsOf (l++[m])=strsOf l++[(m.name,strictM (strsOf l) m)]:=by unfold strsOf;rw [List.foldl_append];rfl
theorem fold_names:∀ (l:List MsgD) (a:List (ByteArray×Int)) (b:List (ByteArray×Bool)),(l.foldl stepD a).map (·.1)=a.map (·.1)++l.map (·.name)∧(l.foldl stepS b).map (·.1)=b.map (·.1)++l.map (·.name)
 | [],a,b=>by simp
 | m::l,a,b=>by
  have ih:=fold_names l (stepD a m) (stepS b m)
  simp only [List.foldl_cons,List.map_cons]
  rw [ih.1,ih.2]
  simp [stepD,stepS]
theorem isD {l:List MsgD} {s:ByteArray}:(lastP (depsOf l) s).isSome=true↔∃ m∈l,m.name=s:=by
 have h1:=(fold_names l [] []).1
 rw [← Option.ne_none_iff_isSome,ne_eq,lastP_none]
 constructor
 · intro h
   apply Classical.byContradiction
   intro hn
   apply h
   intro p hp he
   have:p.1∈(depsOf l).map (·.1):=List.mem_map.2 ⟨p,hp,rfl⟩
   rw [show depsOf l=l.foldl stepD [] from rfl,h1] at this
   obtain ⟨m,hm,hme⟩:=List.mem_map.1 (show p.1∈l.map (·.name) by simpa using this)
   exact hn ⟨m,hm,hme.trans he⟩
 · rintro ⟨m,hm,rfl⟩ h
   have:m.name∈(depsOf l).map (·.1):=by rw [show depsOf l=l.foldl stepD [] from rfl,h1];simpa using ⟨m,hm,rfl⟩
   obtain ⟨p,hp,hpe⟩:=List.mem_map.1 this
   exact h p hp hpe
theorem isS {l:List MsgD} {s:ByteArray}:(lastP (strsOf l) s).isSome=true↔∃ m∈l,m.name=s:=by
 have h1:=(fold_names l [] []).2
 rw [← Option.ne_none_iff_isSome,ne_eq,lastP_none]
 constructor
 · intro h
   apply Classical.byContradiction
   intro hn
   apply h
   intro p hp he
   have:p.1∈(strsOf l).map (·.1):=List.mem_map.2 ⟨p,hp,rfl⟩
   rw [show strsOf l=l.foldl stepS [] from rfl,h1] at this
   obtain ⟨m,hm,hme⟩:=List.mem_map.1 (show p.1∈l.map (·.name) by simpa using this)
   exact hn ⟨m,hm,hme.trans he⟩
 · rintro ⟨m,hm,rfl⟩ h
   have:m.name∈(strsOf l).map (·.1):=by rw [show strsOf l=l.foldl stepS [] from rfl,h1];simpa using ⟨m,hm,rfl⟩
   obtain ⟨p,hp,hpe⟩:=List.mem_map.1 this
   exact h p hp hpe
def Fine (l:List MsgD):Prop:=(msgsP [] [] 0 l).2.2=0
theorem Fine.next {l:List MsgD} (h:Fine l) {k:Nat} {m:MsgD} (hk:l[k]?=some m):(nextP (depsOf (l.take k)) (strsOf (l.take k)) m).2=0:=(msgs_at h hk).1
theorem Fine.take {l:List MsgD} (h:Fine l) (k:Nat):Fine (l.take k):=by
 by_cases hk:k < l.length
 · obtain ⟨m,hm⟩:=getElem?_lt hk
   exact (msgs_at h hm).2
 · rw [List.take_of_length_le (by omega)];exact h
theorem Fine.sub {l:List MsgD} (h:Fine l):∀ (n k:Nat),Sub (depsOf (l.take k)) (depsOf (l.take (k+n)))∧Sub (strsOf (l.take k)) (strsOf (l.take (k+n)))
 | 0,k=>⟨Sub.refl _,Sub.refl _⟩
 | n+1,k=>by
  have ih:=h.sub n k
  rw [← Nat.add_assoc]
  by_cases hk:k+n < l.length
  · obtain ⟨m,hm⟩:=getElem?_lt hk
    have h2:=(next_parts (h.next hm)).2.1
    rw [take_snoc hm,deps_snoc,strs_snoc]
    refine ⟨ih.1.trans (Sub.snoc h2),ih.2.trans (Sub.snoc ?_)⟩
    show lastP (strsOf (l.take (k+n))) m.name=none
    rw [← Option.not_isSome_iff_eq_none,isS,← isD,Option.not_isSome_iff_eq_none]
    exact h2
  · rw [List.take_of_length_le (show l.length≤k+n+1 by omega)]
    rw [List.take_of_length_le (show l.length≤k+n by omega)] at ih
    exact ih
theorem Fine.suball {l:List MsgD} (h:Fine l) (k:Nat):Sub (depsOf (l.take k)) (depsOf l)∧Sub (strsOf (l.take k)) (strsOf l):=by
 have:=h.sub l.length k
 rw [List.take_of_length_le (show l.length≤k+l.length by omega)] at this
 exact this
theorem Fine.depth {l:List MsgD} (h:Fine l) {k:Nat} {m:MsgD} (hk:l[k]?=some m):lastP (depsOf l) m.name=some (depthM (depsOf (l.take k)) m+1):=by
 refine (h.suball (k+1)).1 _ _ ?_
 rw [take_snoc hk,deps_snoc,lastP_snoc,if_pos rfl]
theorem Fine.low {l:List MsgD} (h:Fine l):∀ k,Low (depsOf (l.take k))
 | 0=>fun p hp=>by simp [depsOf] at hp
 | k+1=>by
  by_cases hk:k < l.length
  · obtain ⟨m,hm⟩:=getElem?_lt hk
    rw [take_snoc hm,show depsOf (l.take k++[m])=stepD (depsOf (l.take k)) m from deps_snoc _ _]
    exact (h.low k).step (h.next hm)
  · rw [List.take_of_length_le (show l.length≤k+1 by omega)]
    have:=h.low k
    rw [List.take_of_length_le (show l.length≤k by omega)] at this
    exact this
theorem mem_refsM {m:MsgD} {s:ByteArray} (h:s∈refsM m):s∈allRefs m.fields:=mem_dedupA h
theorem ds_of (l:List MsgD) (s:ByteArray) (h:(lastP (strsOf l) s).isSome=true):(lastP (depsOf l) s).isSome=true:=isD.2 (isS.1 h)
end
section
variable {d:DefD}
theorem check_fine (h:(checkP d).2.2=0):nameB d.name=true∧(1≤d.msgs.length∧d.msgs.length≤60)∧Fine d.msgs∧(lastP (depsOf d.msgs) d.start).isSome=true:=by
 unfold checkP at h
 by_cases h1:nameB d.name=true
 · rw [if_pos h1] at h
   by_cases h2:1≤d.msgs.length∧d.msgs.length≤60
   · rw [if_pos h2] at h
     unfold endP at h
     by_cases h3:(msgsP [] [] 0 d.msgs).2.2=0
     · rw [if_pos h3] at h
       by_cases h4:(lastP (depsOf d.msgs) d.start).isSome=true
       · exact ⟨h1,h2,h3,h4⟩
       · rw [if_neg h4] at h;exact absurd h (by decide)
     · rw [if_neg h3] at h;exact absurd h h3
   · rw [if_neg h2] at h;exact absurd h (by decide)
 · rw [if_neg h1] at h;exact absurd h (by decide)
theorem depth_at (h:(checkP d).2.2=0) {k:Nat} {m:MsgD} (hk:d.msgs[k]?=some m):depthP d k=(depthM (depsOf (d.msgs.take k)) m+1,0):=by
 obtain ⟨h1,h2,h3,h4⟩:=check_fine h
 have hlt:=(List.getElem?_eq_some_iff.1 hk).1
 unfold depthP
 rw [if_neg (by omega),if_neg (by omega)]
 have:nameAt d (k:Int)=m.name:=by unfold nameAt;rw [Int.toNat_natCast,hk]
 rw [this,h3.depth hk]
 rfl
end
end Go.Proofs.YtiajhbbmgglmlaaGreat
namespace Go.Proofs.YtiajhbbmgglmlaaGreat
open Sw
open Go.RowKit (intOf Below)
def DistM (l:List MsgD):Prop:=l.Pairwise fun a b=>a.name≠b.name
theorem keys_strs:∀ (l:List MsgD) (a:List (ByteArray×Bool)),(l.foldl stepS a).map (·.1)=a.map (·.1)++l.map (·.name)
 | [],a=>by simp
 | m::l,a=>by rw [List.foldl_cons,keys_strs l,stepS,List.map_append];simp
theorem keys_deps:∀ (l:List MsgD) (a:List (ByteArray×Int)),(l.foldl stepD a).map (·.1)=a.map (·.1)++l.map (·.name)
 | [],a=>by simp
 | m::l,a=>by rw [List.foldl_cons,keys_deps l,stepD,List.map_append];simp
theorem first_last {β:Type} {ps:List (ByteArray×β)} {l:List MsgD} (hp:ps.map (·.1)=l.map (·.name)) (hd:DistM l) (s:ByteArray):(idx (fun m:MsgD=>decide (m.name=s)) l = -1∧lastP ps s=none)∨∃ (k:Nat) (b:β),idx (fun m:MsgD=>decide (m.name=s)) l=k∧k < l.length∧ps[k]?=some (s,b)∧lastP ps s=some b:=by
 have hlen:ps.length=l.length:=by simpa using congrArg List.length hp
 have hk:∀ (k:Nat) (m:MsgD),l[k]?=some m→∃ b,ps[k]?=some (m.name,b):=by
  intro k m hm
  obtain ⟨q,hq⟩:=getElem?_lt (l:=ps) (k:=k) (by rw [hlen];exact (List.getElem?_eq_some_iff.1 hm).1)
  have:=congrArg (fun x=>x[k]?) hp
  simp only [List.getElem?_map,hm,hq,Option.map_some] at this
  injection this with this
  exact ⟨q.2,by rw [hq,← this]⟩
 have hin:∀ q∈ps,∃ (k:Nat) (m:MsgD),l[k]?=some m∧ps[k]?=some q∧m.name=q.1:=by
  intro q hq
  obtain ⟨k,hkq⟩:=List.getElem?_of_mem hq
  obtain ⟨m,hm⟩:=getElem?_lt (l:=l) (k:=k) (by rw [← hlen];exact (List.getElem?_eq_some_iff.1 hkq).1)
  obtain ⟨b,hb⟩:=hk k m hm
  rw [hkq] at hb
  injection hb with hb
  exact ⟨k,m,hm,hkq,by rw [hb]⟩
 have hone:∀ (k j:Nat) (a b:MsgD),l[k]?=some a→l[j]?=some b→a.name=b.name→k=j:=by
  intro k j a b ha hb hn
  obtain ⟨h1,ha'⟩:=List.getElem?_eq_some_iff.1 ha
  obtain ⟨h2,hb'⟩:=List.getElem?_eq_some_iff.1 hb
  have hpw:=List.pairwise_iff_getElem.1 hd
  rcases Nat.lt_trichotomy k j with h | h | h
  · have:=hpw k j h1 h2 h;rw [ha',hb'] at this;exact absurd hn this
  · exact h
  · have:=hpw j k h2 h1 h;rw [ha',hb'] at this;exact absurd hn.symm this
 unfold idx
 cases h:l.findIdx? (fun m=>decide (m.name=s)) with
 | none =>
  rw [List.findIdx?_eq_none_iff] at h
  refine .inl ⟨rfl,?_⟩
  cases hl:lastP ps s with
  | none=>rfl
  | some b =>
   obtain ⟨k,m,h1,_,h3⟩:=hin _ (lastP_mem hl)
   simpa [h3] using h m (List.mem_of_getElem? h1)
 | some k =>
  obtain ⟨hkl,hpk,_⟩:=List.findIdx?_eq_some_iff_getElem.1 h
  simp only [decide_eq_true_eq] at hpk
  obtain ⟨b,hb⟩:=hk k _ (List.getElem?_eq_getElem hkl)
  rw [hpk] at hb
  refine .inr ⟨k,b,rfl,hkl,hb,?_⟩
  cases hl:lastP ps s with
  | none =>
   have hmem:=List.mem_of_getElem? hb
   unfold lastP at hl
   rw [Option.map_eq_none_iff,List.find?_eq_none] at hl
   exact absurd (hl (s,b) (List.mem_reverse.2 hmem)) (by simp)
  | some b' =>
   obtain ⟨j,m,h1,h2,h3⟩:=hin _ (lastP_mem hl)
   have:=hone k j _ m (List.getElem?_eq_getElem hkl) h1 (hpk.trans h3.symm)
   subst this
   rw [hb] at h2
   injection h2 with h2
   injection h2 with _ h2
   rw [h2]
abbrev boolEnc (b:Bool):List Value:=[.bool b]
abbrev OwnB (w:World) (base:Nat) (v:Value) (l:List Bool):Prop:=OwnE w base 4 1 boolEnc v l
theorem keysS (l:List MsgD):(strsOf l).map (·.1)=l.map (·.name):=by unfold strsOf;rw [keys_strs];rfl
theorem keysD (l:List MsgD):(depsOf l).map (·.1)=l.map (·.name):=by unfold depsOf;rw [keys_deps];rfl
end Go.Proofs.YtiajhbbmgglmlaaGreat
namespace Go.Proofs.YtiajhbbmgglmlaaGreat
open Sw
open Go.RowKit (intOf Below)
def RefsIn (l:List MsgD) (n:Nat):Prop:=∀ (k:Nat) (m:MsgD),k < n→l[k]?=some m→∀ s∈refsL m,((l.take k).any fun m=>decide (m.name=s))=true
theorem rStricts_ret (w0:World) (v:Value) (d:DefD) (n:Nat) (hd:DefVal w0 v d) (hn:n≤d.msgs.length) (hN:DistM (d.msgs.take n)) (hR:RefsIn d.msgs n) (hb:∀ m∈d.msgs,(allRefs m.fields).length≤1048576) (hn1:n≤1048576) :
 Ret Pg 11 #[v,.int .i64 (n:Int)] w0 fun r w'=>SliceOf w' 1 EBool r ((strsOf (d.msgs.take n)).map (·.2))∧Ext w0 w':=by
 obtain ⟨mv,rfl,hM⟩:=hd
 refine n23s (R:=retR _) ?_;unfold n23
 rw [op_boxA]
 have hBW:=ElemAt.new (w:=w0) (defCells d mv) (24)
 have eW:Ext w0 (w0.alloc (Obj.cells (List.toArray (defCells d mv)) (24))):=(Ext.refl _).alloc _
 generalize (w0.alloc (Obj.cells (List.toArray (defCells d mv)) (24)))=W at hBW eW ⊢
 refine loop2_intro (fun a b w'=>∃ k:Nat,b = .int .i64 k∧k≤n∧Ext W w'∧OwnB w' W.heap.size a ((strsOf (d.msgs.take k)).map (·.2))) (fun _ b _=>n - (intOf b).toNat) ⟨0,rfl,by omega,Ext.refl _,OwnE.nil _ _ _ _ _⟩ ?_
 rintro out _ w ⟨k,rfl,hk,e,hO⟩
 have E:=eW.trans e
 unfold n23c8
 by_cases hkn:k < n
 · have d1:decide ((k:Int) < (n:Int))=true:=by simp only [decide_eq_true_eq];omega
   obtain ⟨m,hm⟩:=getElem?_lt (l:=d.msgs) (k:=k) (by omega)
   have hM0:=hM
   obtain ⟨bm,om,cm,rfl,hlc,hcm,hlm,hkl,hel⟩:=open1 hM hm
   obtain ⟨csm,_,hAm,hEm⟩:=hel k m hm
   obtain ⟨fv,rfl,hF⟩:=hEm
   have hF0:=hF
   obtain ⟨Af,cf,rfl,hlf,hcf,hlmf,helf⟩:=SliceOf.open hF
   simp (disch:=try exact DI) only [↓PR,QR,Int.reduceBEq,Int.reduceBNe,Int.reduceLT,Int.reduceLE,Int.reduceGT,Int.reduceGE,Int.reduceNeg,d1]
   refine loop2_intro (fun a b w'=>∃ i:Nat,a = .bool ((m.fields.take i).all fun f=>!f.loose)∧b = .int .i64 i∧i≤m.fields.length∧Ext w w') (fun _ b _=>m.fields.length - (intOf b).toNat) ⟨0,by simp,rfl,by omega,Ext.refl _⟩ ?_
   rintro _ _ w2 ⟨i,rfl,rfl,hi,e2⟩
   have hcW:=hBW.c3 (e.trans e2)
   have hcm2:=hAm.c2 (E.trans e2)
   unfold n23c7
   rcases drop_cases hi with ⟨x,hx,hdr,hlt,hdec⟩ | ⟨hi,hdr,hdec⟩
   · have hall:((m.fields.take (i+1)).all fun f=>!f.loose)=(((m.fields.take i).all fun f=>!f.loose)&&!x.loose):=by rw [take_snoc hx,List.all_append];simp
     obtain ⟨bf,of,csf,rfl,_,hAf,hEf⟩:=helf i x hx
     obtain ⟨tf,cf',rfl,hTf,hCf,_,_⟩:=hEf.op
     have hcf:=hAf.c15 (E.trans e2)
     simp (disch:=try exact DI) only [↓PR,QR,Int.reduceBEq,Int.reduceBNe,Int.reduceLT,Int.reduceLE,Int.reduceGT,Int.reduceGE,Int.reduceNeg,hcW,hcm2,hdec]
     unfold n23c6
     cases hs:(m.fields.take i).all (fun f=>!f.loose) with
     | false =>
      rw [hs] at hall
      simp (disch:=try exact DI) only [↓PR,QR,Int.reduceBEq,Int.reduceBNe,Int.reduceLT,Int.reduceLE,Int.reduceGT,Int.reduceGE,Int.reduceNeg]
      exact ⟨⟨i+1,by rw [hall];rfl,rfl,hlt,e2⟩,meas_lt hlt⟩
     | true =>
      rw [hs] at hall
      simp (disch:=try exact DI) only [↓PR,QR,Int.reduceBEq,Int.reduceBNe,Int.reduceLT,Int.reduceLE,Int.reduceGT,Int.reduceGE,Int.reduceNeg,hcW,hcm2,hcf,n23c1]
      exact ⟨⟨i+1,by rw [hall];rfl,rfl,hlt,e2⟩,meas_lt hlt⟩
   · subst hi
     rw [List.take_length]
     simp (disch:=try exact DI) only [↓PR,QR,Int.reduceBEq,Int.reduceBNe,Int.reduceLT,Int.reduceLE,Int.reduceGT,Int.reduceGE,Int.reduceNeg,hcW,hcm2,hdec]
     unfold n23c5
     simp (disch:=try exact DI) only [↓PR,QR,Int.reduceBEq,Int.reduceBNe,Int.reduceLT,Int.reduceLE,Int.reduceGT,Int.reduceGE,Int.reduceNeg,hcW,hcm2]
     refine callK_ret (rRefers_ret _ _ m ⟨_,rfl,hF0.ext (E.trans e2)⟩ (hb m (List.mem_of_getElem? hm))) ?_
     rintro rv w3 ⟨hS,e3⟩
     have e23:=e2.trans e3
     have hSl:=hS.slice (E:=EStr) (fun _=>rfl) (fun _ _=>rfl)
     obtain ⟨Ar,cr,rfl,hlr,hcr,hlmr,helr⟩:=SliceOf.open hSl
     have hsM:strictM (strsOf (d.msgs.take k)) m=((m.fields.all fun f=>!f.loose)&&(refsL m).all fun s=>(lastP (strsOf (d.msgs.take k)) s).getD false):=rfl
     generalize hA:(m.fields.all fun f=>!f.loose)=A0 at hsM ⊢
     have hDk:DistM (d.msgs.take k):=by
      have:=List.Pairwise.sublist (List.take_sublist k (d.msgs.take n)) hN
      rwa [List.take_take,Nat.min_eq_left (by omega)] at this
     refine loop2_intro (fun a b w'=>∃ j:Nat,a = .bool (A0&&((refsL m).take j).all fun s=>(lastP (strsOf (d.msgs.take k)) s).getD false)∧b = .int .i64 j∧j≤(refsL m).length∧Ext w3 w') (fun _ b _=>(refsL m).length - (intOf b).toNat) ⟨0,by simp,rfl,by omega,Ext.refl _⟩ ?_
     rintro _ _ w4 ⟨j,rfl,rfl,hj,e4⟩
     have e24:=e23.trans e4
     unfold n23c4
     rcases drop_cases hj with ⟨s,hx,hdr,hlt,hdec⟩ | ⟨hj,hdr,hdec⟩
     · obtain ⟨bs,os,css,rfl,_,hAs,rfl⟩:=helr j s hx
       have hall:(A0&&((refsL m).take (j+1)).all fun s=>(lastP (strsOf (d.msgs.take k)) s).getD false)=((A0&&((refsL m).take j).all fun s=>(lastP (strsOf (d.msgs.take k)) s).getD false)&&(lastP (strsOf (d.msgs.take k)) s).getD false):=by rw [take_snoc hx,List.all_append];simp [Bool.and_assoc]
       simp (disch:=try exact DI) only [↓PR,QR,Int.reduceBEq,Int.reduceBNe,Int.reduceLT,Int.reduceLE,Int.reduceGT,Int.reduceGE,Int.reduceNeg,hdec]
       refine drawK_intro ?_
       unfold n23c2
       generalize (A0&&((refsL m).take j).all fun s=>(lastP (strsOf (d.msgs.take k)) s).getD false)=B at hall ⊢
       cases B with
       | false =>
        simp (disch:=try exact DI) only [↓PR,QR,Int.reduceBEq,Int.reduceBNe,Int.reduceLT,Int.reduceLE,Int.reduceGT,Int.reduceGE,Int.reduceNeg]
        exact ⟨⟨j+1,by rw [hall];rfl,rfl,hlt,e4.drew⟩,meas_lt hlt⟩
       | true =>
        simp (disch:=try exact DI) only [↓PR,QR,Int.reduceBEq,Int.reduceBNe,Int.reduceLT,Int.reduceLE,Int.reduceGT,Int.reduceGE,Int.reduceNeg,hBW.c3 (e.trans e24),hAs.c1 e4]
        refine zcr (rFind_ret _ _ d s k ⟨_,rfl,hM0.ext (E.trans e24).drew⟩ (by omega)) fun w5 e5=>?_
        refine ⟨e5,?_⟩
        have hex:=hR k m hkn hm s (List.mem_of_getElem? hx)
        rcases first_last (keysS (d.msgs.take k)) hDk s with ⟨h1,_⟩ | ⟨q,b,h1,h2,h3,h4⟩
        · have:=idx_neg (p:=fun m:MsgD=>decide (m.name=s)) (l:=d.msgs.take k)
          rw [hex,h1] at this
          exact absurd this (by decide)
        · rw [h1]
          have hO4:=(hO.ext e24).slice (E:=EBool) (fun _=>rfl) (fun _ _=>rfl)
          have hq:((strsOf (d.msgs.take k)).map (·.2))[q]?=some b:=by rw [List.getElem?_map,h3];rfl
          obtain ⟨bo,oo,co,rfl,_,_,_,hql,helo⟩:=open1 hO4 hq
          obtain ⟨cso,_,hAo,rfl⟩:=helo q b hq
          rw [h4] at hall
          simp (disch:=try exact DI) only [↓PR,QR,Int.reduceBEq,Int.reduceBNe,Int.reduceLT,Int.reduceLE,Int.reduceGT,Int.reduceGE,Int.reduceNeg,hAo.c1 (Ext.refl _)]
          exact ⟨⟨j+1,by rw [hall];rfl,rfl,hlt,e4.drew.trans e5⟩,meas_lt hlt⟩
     · subst hj
       rw [List.take_length,← hsM]
       simp (disch:=try exact DI) only [↓PR,QR,Int.reduceBEq,Int.reduceBNe,Int.reduceLT,Int.reduceLE,Int.reduceGT,Int.reduceGE,Int.reduceNeg,hdec]
       unfold n23c3
       simp (disch:=try exact DI) only [↓PR,QR,Int.reduceBEq,Int.reduceBNe,Int.reduceLT,Int.reduceLE,Int.reduceGT,Int.reduceGE,Int.reduceNeg]
       have sw:=e24.size
       have s0:=e.size
       have hlk:((strsOf (d.msgs.take k)).map (·.2)).length=k:=by
        have:=congrArg List.length (keysS (d.msgs.take k))
        simp only [List.length_map,List.length_take] at this ⊢
        omega
       refine append_one Tryz.underlying33 ty4 by4 rfl (by decide) (fun _=>rfl) (strictM (strsOf (d.msgs.take k)) m) (by simp only [boolEnc,List.forall_mem_cons];exact ⟨rfl,by simp⟩) (hO.ext (e24.alloc (Obj.cells #[.bool (strictM (strsOf (d.msgs.take k)) m)] 4))) (ElemAt.new _ _) (by simp only [World.size_alloc];omega) (by rw [hlk];omega) ?_
       intro v' w' hO' hext
       have eN:Ext W w':=hext W ((e.trans e24).alloc _) (Nat.le_refl _)
       simp (disch:=try exact DI) only [↓PR,QR,Int.reduceBEq,Int.reduceBNe,Int.reduceLT,Int.reduceLE,Int.reduceGT,Int.reduceGE,Int.reduceNeg]
       refine ⟨⟨k+1,rfl,by omega,eN,?_⟩,meas_lt hkn⟩
       rw [take_snoc hm,strs_snoc,List.map_append]
       exact hO'
 · have hke:k=n:=by omega
   subst hke
   have d1:decide ((k:Int) < (k:Int))=false:=by simp
   simp (disch:=try exact DI) only [↓PR,QR,Int.reduceBEq,Int.reduceBNe,Int.reduceLT,Int.reduceLE,Int.reduceGT,Int.reduceGE,Int.reduceNeg,d1]
   exact ⟨hO.slice (fun _=>rfl) (fun _ _=>rfl),E⟩
end Go.Proofs.YtiajhbbmgglmlaaGreat
namespace Go.Proofs.YtiajhbbmgglmlaaGreat
open Sw
def n28c1 (t8 t52 t56:Value) (K2:World→Prop) (R:RT) (w:World):Prop :=
 pickK t52 (.bool true) t56 fun t57 =>
 joinK (fun (t61:Value) (w:World) =>
 pickK t57 (.bool true) t61 fun t62 =>
 condP t62 (
 R (.returned (.int .i64 7)) w) (
 K2 w)) fun K5 =>
 guardP t57 false (
 F0 52 t8 6 R w fun t59 w =>
 L0 3 t59 R w fun t60 w =>
 B0 .gtr 3 true t60 (.int .i64 1048576) R w fun t61 w =>
 K5 t61 w) (
 K5 undef w)
def n28c2 (t8 t47 t51:Value) (K2:World→Prop) (R:RT) (w:World):Prop :=
 pickK t47 (.bool true) t51 fun t52 =>
 joinK (fun (t56:Value) (w:World) =>
 n28c1 t8 t52 t56 K2 R w) fun K4 =>
 guardP t52 false (
 F0 52 t8 6 R w fun t54 w =>
 L0 3 t54 R w fun t55 w =>
 B0 .lss 3 true t55 (.int .i64 0) R w fun t56 w =>
 K4 t56 w) (
 K4 undef w)
def n28c3 (t2 t7 t79:Value) (R:RT) (w:World):Prop :=
 B0 .lss 3 true t79 (.int .i64 0) R w fun t80 w =>
 condP t80 (
 R (.returned (.int .i64 8)) w) (
 L0 45 t7 R w fun t81 w =>
 C0 59 #[t81,t2] R w fun t83 w =>
 R (.returned t83) w)
def n28c4 (t1 t3 t8 t123:Value) (R:RT) (w:World):Prop :=
 opV Pg (Instr.extract t123 0) (panK R) w fun t124 w =>
 opV Pg (Instr.extract t123 1) (panK R) w fun t125 w =>
 L0 24 t3 R w fun t126 w =>
 L0 52 t8 R w fun t128 w =>
 C0 63 #[t126,t1,t128,t124,t125] R w fun t131 w =>
 R (.returned t131) w
def n28c5 (t1 t3 t7 t8 t98:Value) (R:RT) (w:World):Prop :=
 F0 45 t7 1 R w fun t118 w =>
 L0 43 t118 R w fun t119 w =>
 X0 43 t119 t98 R w fun t121 w =>
 L0 52 t121 R w fun t122 w =>
 C0 62 #[t122] R w fun t123 w =>
 n28c4 t1 t3 t8 t123 R w
def n28c6 (t1 t2 t3 t7 t8 t98 t100 t108:Value) (R:RT) (w:World):Prop :=
 pickK t100 (.bool true) t108 fun t109 =>
 joinK (fun (t115:Value) (w:World) =>
 pickK t109 (.bool true) t115 fun t116 =>
 condP t116 (
 R (.returned (.int .i64 8)) w) (
 n28c5 t1 t3 t7 t8 t98 R w)) fun K8 =>
 guardP t109 false (
 L0 45 t7 R w fun t111 w =>
 F0 52 t8 9 R w fun t112 w =>
 L0 9 t112 R w fun t113 w =>
 C0 61 #[t111,t113,t2] R w fun t115 w =>
 K8 t115 w) (
 K8 undef w)
def n28c7 (t1 t2 t3 t7 t8 t98:Value) (R:RT) (w:World):Prop :=
 B0 .lss 3 true t98 (.int .i64 0) R w fun t100 w =>
 joinK (fun (t108:Value) (w:World) =>
 n28c6 t1 t2 t3 t7 t8 t98 t100 t108 R w) fun K7 =>
 guardP t100 false (
 F0 45 t7 1 R w fun t102 w =>
 L0 43 t102 R w fun t103 w =>
 X0 43 t103 t98 R w fun t105 w =>
 L0 52 t105 R w fun t106 w =>
 C0 60 #[t106] R w fun t107 w =>
 opV Pg (Op.unary .not t107) (panK R) w fun t108 w =>
 K7 t108 w) (
 K7 undef w)
def n28c8 (t141 t151 t155:Value) (K2:World→Prop) (R:RT) (w:World):Prop :=
 joinK (fun (t156:Value) (w:World) =>
 pickK t141 t156 (.bool false) fun t157 =>
 condP t157 (
 R (.returned (.int .i64 6)) w) (
 K2 w)) fun K14 =>
 guardP t141 true (
 pickK t151 (.bool true) t155 fun t156 =>
 K14 t156 w) (
 K14 undef w)
def n28c9 (t8 t141 t151:Value) (K2:World→Prop) (R:RT) (w:World):Prop :=
 joinK (fun (t155:Value) (w:World) =>
 n28c8 t141 t151 t155 K2 R w) fun K13 =>
 guardP t151 false (
 F0 52 t8 2 R w fun t152 w =>
 L0 3 t152 R w fun t153 w =>
 B0 .rem 3 true t153 (.int .i64 8) R w fun t154 w =>
 B0 .neq 3 true t154 (.int .i64 0) R w fun t155 w =>
 K13 t155 w) (
 K13 undef w)
def n28c10 (t8 t141 t146:Value) (K2:World→Prop) (R:RT) (w:World):Prop :=
 joinK (fun (t149:Value) (w:World) =>
 joinK (fun (t151:Value) (w:World) =>
 n28c9 t8 t141 t151 K2 R w) fun K12 =>
 guardP t141 true (
 pickK t146 (.bool true) t149 fun t150 =>
 K12 t150 w) (
 K12 undef w)) fun K11 =>
 guardP t146 false (
 F0 52 t8 2 R w fun t147 w =>
 L0 3 t147 R w fun t148 w =>
 B0 .gtr 3 true t148 (.int .i64 512) R w fun t149 w =>
 K11 t149 w) (
 K11 undef w)
def n28c11 (t8 t136 t140:Value) (K2:World→Prop) (R:RT) (w:World):Prop :=
 pickK t136 t140 (.bool false) fun t141 =>
 joinK (fun (t146:Value) (w:World) =>
 n28c10 t8 t141 t146 K2 R w) fun K10 =>
 guardP t141 true (
 F0 52 t8 2 R w fun t143 w =>
 L0 3 t143 R w fun t144 w =>
 B0 .lss 3 true t144 (.int .i64 8) R w fun t145 w =>
 K10 t145 w) (
 K10 undef w)
def n28c12 (t2 t7 t8:Value) (K2:World→Prop) (R:RT) (w:World):Prop :=
 L0 45 t7 R w fun t168 w =>
 F0 52 t8 10 R w fun t169 w =>
 L0 9 t169 R w fun t170 w =>
 C0 42 #[t168,t170,t2] R w fun t172 w =>
 B0 .lss 3 true t172 (.int .i64 0) R w fun t173 w =>
 condP t173 (
 R (.returned (.int .i64 8)) w) (
 K2 w)
def n28c13 (t2 t7 t190 t198:Value) (R:RT) (w:World):Prop :=
 pickK t190 (.bool true) t198 fun t199 =>
 condP t199 (
 R (.returned (.int .i64 8)) w) (
 L0 45 t7 R w fun t200 w =>
 C0 59 #[t200,t2] R w fun t202 w =>
 R (.returned t202) w)
def n28c14 (t188 t194:Value) (K17:KV) (R:RT) (w:World):Prop :=
 X0 33 t194 t188 R w fun t196 w =>
 L0 4 t196 R w fun t197 w =>
 opV Pg (Op.unary .not t197) (panK R) w fun t198 w =>
 K17 t198 w
def n28c15 (t1 t2 t3 t7 t188:Value) (R:RT) (w:World):Prop :=
 B0 .lss 3 true t188 (.int .i64 0) R w fun t190 w =>
 joinK (fun (t198:Value) (w:World) =>
 n28c13 t2 t7 t190 t198 R w) fun K17 =>
 guardP t190 false (
 L0 24 t3 R w fun t192 w =>
 C0 11 #[t192,t1] R w fun t194 w =>
 n28c14 t188 t194 K17 R w) (
 K17 undef w)
def n28c16 (t1 t2 t3 t7 t8:Value) (R:RT) (w:World):Prop :=
 L0 24 t3 R w fun t184 w =>
 F0 52 t8 8 R w fun t185 w =>
 L0 9 t185 R w fun t186 w =>
 C0 26 #[t184,t186,t1] R w fun t188 w =>
 n28c15 t1 t2 t3 t7 t188 R w
def n28c17 (t1 t2 t3 t7 t8:Value) (R:RT) (w:World):Prop :=
 F0 52 t8 13 R w fun t176 w =>
 L0 3 t176 R w fun t177 w =>
 B0 .lss 3 true t177 (.int .i64 0) R w fun t178 w =>
 joinK (fun (t182:Value) (w:World) =>
 pickK t178 (.bool true) t182 fun t183 =>
 condP t183 (
 R (.returned (.int .i64 7)) w) (
 n28c16 t1 t2 t3 t7 t8 R w)) fun K16 =>
 guardP t178 false (
 F0 52 t8 13 R w fun t180 w =>
 L0 3 t180 R w fun t181 w =>
 B0 .gtr 3 true t181 (.int .i64 4294967295) R w fun t182 w =>
 K16 t182 w) (
 K16 undef w)
def n28c18 (t2 t7 t8:Value) (K2:World→Prop) (R:RT) (w:World):Prop :=
 F0 52 t8 12 R w fun t160 w =>
 L0 3 t160 R w fun t161 w =>
 B0 .lss 3 true t161 (.int .i64 1) R w fun t162 w =>
 joinK (fun (t166:Value) (w:World) =>
 pickK t162 (.bool true) t166 fun t167 =>
 condP t167 (
 R (.returned (.int .i64 7)) w) (
 n28c12 t2 t7 t8 K2 R w)) fun K15 =>
 guardP t162 false (
 F0 52 t8 12 R w fun t164 w =>
 L0 3 t164 R w fun t165 w =>
 B0 .gtr 3 true t165 (.int .i64 3) R w fun t166 w =>
 K15 t166 w) (
 K15 undef w)
def n28c19 (t8:Value) (K2:World→Prop) (R:RT) (w:World):Prop :=
 F0 52 t8 2 R w fun t134 w =>
 L0 3 t134 R w fun t135 w =>
 B0 .neq 3 true t135 (.int .i64 2) R w fun t136 w =>
 joinK (fun (t140:Value) (w:World) =>
 n28c11 t8 t136 t140 K2 R w) fun K9 =>
 guardP t136 true (
 F0 52 t8 2 R w fun t138 w =>
 L0 3 t138 R w fun t139 w =>
 B0 .neq 3 true t139 (.int .i64 4) R w fun t140 w =>
 K9 t140 w) (
 K9 undef w)
def n28c20 (t1 t2 t3 t7 t8 t24:Value) (K2:World→Prop) (R:RT) (w:World):Prop :=
 B0 .eql 3 true t24 (.int .i64 11) R w fun t159 w =>
 condP t159 (
 n28c18 t2 t7 t8 K2 R w) (
 B0 .eql 3 true t24 (.int .i64 12) R w fun t175 w =>
 condP t175 (
 n28c17 t1 t2 t3 t7 t8 R w) (
 K2 w))
def n28c21 (t1 t2 t3 t7 t8:Value) (R:RT) (w:World):Prop :=
 L0 45 t7 R w fun t94 w =>
 F0 52 t8 9 R w fun t95 w =>
 L0 9 t95 R w fun t96 w =>
 C0 42 #[t94,t96,t2] R w fun t98 w =>
 n28c7 t1 t2 t3 t7 t8 t98 R w
def n28c22 (t1 t3 t8:Value) (K2:World→Prop) (R:RT) (w:World):Prop :=
 L0 24 t3 R w fun t86 w =>
 F0 52 t8 8 R w fun t87 w =>
 L0 9 t87 R w fun t88 w =>
 C0 26 #[t86,t88,t1] R w fun t90 w =>
 B0 .lss 3 true t90 (.int .i64 0) R w fun t91 w =>
 condP t91 (
 R (.returned (.int .i64 8)) w) (
 K2 w)
def n28c23 (t1 t2 t3 t7 t8 t24:Value) (K2:World→Prop) (R:RT) (w:World):Prop :=
 B0 .eql 3 true t24 (.int .i64 9) R w fun t93 w =>
 condP t93 (
 n28c21 t1 t2 t3 t7 t8 R w) (
 B0 .eql 3 true t24 (.int .i64 10) R w fun t133 w =>
 condP t133 (
 n28c19 t8 K2 R w) (
 n28c20 t1 t2 t3 t7 t8 t24 K2 R w))
def n28c24 (t1 t2 t3 t7 t8:Value) (R:RT) (w:World):Prop :=
 L0 24 t3 R w fun t75 w =>
 F0 52 t8 8 R w fun t76 w =>
 L0 9 t76 R w fun t77 w =>
 C0 26 #[t75,t77,t1] R w fun t79 w =>
 n28c3 t2 t7 t79 R w
def n28c25 (t8:Value) (K2:World→Prop) (R:RT) (w:World):Prop :=
 F0 52 t8 6 R w fun t65 w =>
 L0 3 t65 R w fun t66 w =>
 B0 .lss 3 true t66 (.int .i64 2) R w fun t67 w =>
 joinK (fun (t71:Value) (w:World) =>
 pickK t67 (.bool true) t71 fun t72 =>
 condP t72 (
 R (.returned (.int .i64 7)) w) (
 K2 w)) fun K6 =>
 guardP t67 false (
 F0 52 t8 6 R w fun t69 w =>
 L0 3 t69 R w fun t70 w =>
 B0 .gtr 3 true t70 (.int .i64 1048576) R w fun t71 w =>
 K6 t71 w) (
 K6 undef w)
def n28c26 (t1 t2 t3 t7 t8 t24:Value) (K2:World→Prop) (R:RT) (w:World):Prop :=
 B0 .eql 3 true t24 (.int .i64 7) R w fun t74 w =>
 condP t74 (
 n28c24 t1 t2 t3 t7 t8 R w) (
 B0 .eql 3 true t24 (.int .i64 8) R w fun t85 w =>
 condP t85 (
 n28c22 t1 t3 t8 K2 R w) (
 n28c23 t1 t2 t3 t7 t8 t24 K2 R w))
def n28c27 (t8:Value) (K2:World→Prop) (R:RT) (w:World):Prop :=
 F0 52 t8 5 R w fun t45 w =>
 L0 3 t45 R w fun t46 w =>
 B0 .lss 3 true t46 (.int .i64 0) R w fun t47 w =>
 joinK (fun (t51:Value) (w:World) =>
 n28c2 t8 t47 t51 K2 R w) fun K3 =>
 guardP t47 false (
 F0 52 t8 5 R w fun t49 w =>
 L0 3 t49 R w fun t50 w =>
 B0 .gtr 3 true t50 (.int .i64 255) R w fun t51 w =>
 K3 t51 w) (
 K3 undef w)
def n28c28 (t1 t2 t3 t7 t8 t24:Value) (K2:World→Prop) (R:RT) (w:World):Prop :=
 B0 .eql 3 true t24 (.int .i64 5) R w fun t44 w =>
 condP t44 (
 n28c27 t8 K2 R w) (
 B0 .eql 3 true t24 (.int .i64 6) R w fun t64 w =>
 condP t64 (
 n28c25 t8 K2 R w) (
 n28c26 t1 t2 t3 t7 t8 t24 K2 R w))
def n28c29 (t8:Value) (K2:World→Prop) (R:RT) (w:World):Prop :=
 F0 52 t8 5 R w fun t32 w =>
 L0 3 t32 R w fun t33 w =>
 F0 52 t8 6 R w fun t34 w =>
 L0 3 t34 R w fun t35 w =>
 C0 58 #[t33,t35] R w fun t36 w =>
 opV Pg (Op.unary .not t36) (panK R) w fun t37 w =>
 condP t37 (
 R (.returned (.int .i64 7)) w) (
 K2 w)
def n28c30 (t1 t2 t3 t7 t8 t24:Value) (K2:World→Prop) (R:RT) (w:World):Prop :=
 B0 .eql 3 true t24 (.int .i64 4) R w fun t39 w =>
 condP t39 (
 L0 45 t7 R w fun t40 w =>
 C0 59 #[t40,t2] R w fun t42 w =>
 R (.returned t42) w) (
 n28c28 t1 t2 t3 t7 t8 t24 K2 R w)
def n28c31 (t1 t2 t3 t7 t8 t24:Value) (R:RT) (w:World):Prop :=
 B0 .eql 3 true t24 (.int .i64 3) R w fun t31 w =>
 joinK (fun (w:World) =>
 R (.returned (.int .i64 0)) w) fun K2 =>
 condP t31 (
 n28c29 t8 K2 R w) (
 n28c30 t1 t2 t3 t7 t8 t24 K2 R w)
def n28c32 (t1 t2 t3 t7 t8 t24 t25:Value) (R:RT) (w:World):Prop :=
 condP t25 (
 L0 52 t8 R w fun t28 w =>
 C0 57 #[t28] R w fun t29 w =>
 R (.returned t29) w) (
 n28c31 t1 t2 t3 t7 t8 t24 R w)
def n28 (t0 t1 t2:Value) (R:RT) (w:World):Prop :=
 opV Pg (Instr.box 24 t0) (panK R) w fun t3 w =>
 F0 24 t3 1 R w fun t13 w =>
 L0 22 t13 R w fun t14 w =>
 X0 22 t14 t1 R w fun t16 w =>
 L0 45 t16 R w fun t17 w =>
 opV Pg (Instr.alloc 45 true (.tuple #[])) (panK R) w fun t7 w =>
 opU Pg (Instr.storeAt 45 t7 t17) (panK R) w fun w =>
 F0 45 t7 1 R w fun t18 w =>
 L0 43 t18 R w fun t19 w =>
 X0 43 t19 t2 R w fun t21 w =>
 L0 52 t21 R w fun t22 w =>
 opV Pg (Instr.alloc 52 true (.tuple #[])) (panK R) w fun t8 w =>
 opU Pg (Instr.storeAt 52 t8 t22) (panK R) w fun w =>
 F0 52 t8 1 R w fun t23 w =>
 L0 46 t23 R w fun t24 w =>
 B0 .eql 3 true t24 (.int .i64 1) R w fun t26 w =>
 joinK (fun (t25:Value) (w:World) =>
 n28c32 t1 t2 t3 t7 t8 t24 t25 R w) fun K1 =>
 condP t26 (
 K1 t26 w) (
 B0 .eql 3 true t24 (.int .i64 2) R w fun t27 w =>
 K1 t27 w)
theorem n28s {t0 t1 t2:Value} {R:RT} {w:World} (h:n28 t0 t1 t2 R w):Calls Pg 44 #[t0,t1,t2] w R:=by
 refine calls_of_den (args:=[t0,t1,t2]) Tryz.func44 rfl (Nat.le_of_ble_eq_true rfl) ?_
 unfold n28 at h
 refine zs<|zr ?_
 refine zv h fun t3 w h=>?_
 refine zm<|zn<|zk<|zs<|zr ?_
 refine zv h fun t13 w h=>?_
 refine zv h fun t14 w h=>?_
 refine zm ?_
 refine zv h fun t16 w h=>?_
 refine zv h fun t17 w h=>?_
 refine zv h fun t7 w h=>?_
 refine zu h fun w h=>?_
 refine zn<|zk<|zs<|zr ?_
 refine zv h fun t18 w h=>?_
 refine zv h fun t19 w h=>?_
 refine zm ?_
 refine zv h fun t21 w h=>?_
 refine zv h fun t22 w h=>?_
 refine zv h fun t8 w h=>?_
 refine zu h fun w h=>?_
 refine zn<|zk<|zs<|zs<|zr ?_
 refine zv h fun t23 w h=>?_
 refine zv h fun t24 w h=>?_
 refine zn<|zk<|sim_block<|zs<|zs<|zr ?_
 refine zb h fun t26 w h=>?_
 refine zm<|zn<|zk ?_
 refine joinK_elim h (fun K1 hK h=>?_)
 refine sim_joinQ [25,27] (fun ρ w=>K1 (ρ 25) w) (fun _ hkK1=>?_) (fun σ w h=>?_)
 · refine sim_cond h rfl (fun h=>?_) (fun h=>?_)
   · refine sim_skip<|zk ?_
     exact zt hkK1 h
   · refine zr ?_
     refine zb h fun t27 w h=>?_
     refine zm<|zn<|zk ?_
     exact zt hkK1 h
 subst hK
 refine zk ?_
 refine sim_cond h rfl (fun h=>?_) (fun h=>?_)
 · refine zs<|zr ?_
   refine zv h fun t28 w h=>?_
   refine zc h c57 fun t29 w h=>?_
   refine zm<|zn<|zk<|sim_ret<|sim_block_ret<|sim_then_ret ?_
   exact body_ret1 rfl rfl h
 · refine zs<|zr ?_
   refine zb h fun t31 w h=>?_
   refine zm<|zn<|zk ?_
   refine joinK_elim h (fun K2 hK h=>?_)
   refine sim_joinQ [6,9,10,11,12,32,33,34,35,36,37,38,39,40,41,42,43,44,45,46,47,48,49,50,51,52,53,54,55,56,57,58,59,60,61,62,63,64,65,66,67,68,69,70,71,72,73,74,75,76,77,78,79,80,81,82,83,84,85,86,87,88,89,90,91,92,93,94,95,96,97,98,99,100,101,102,103,104,105,106,107,108,109,110,111,112,113,114,115,116,117,118,119,120,121,122,123,124,125,126,127,128,129,130,131,132,133,134,135,136,137,138,139,140,141,142,143,144,145,146,147,148,149,150,151,152,153,154,155,156,157,158,159,160,161,162,163,164,165,166,167,168,169,170,171,172,173,174,175,176,177,178,179,180,181,182,183,184,185,186,187,188,189,190,191,192,193,194,195,196,197,198,199,200,201,202] (fun ρ w=>K2 w) (fun _ hkK2=>?_) (fun σ w h=>?_)
   · refine sim_cond h rfl (fun h=>?_) (fun h=>?_)
     · refine zs<|zr ?_
       refine zv h fun t32 w h=>?_
       refine zv h fun t33 w h=>?_
       refine zv h fun t34 w h=>?_
       refine zv h fun t35 w h=>?_
       refine zc h c58 fun t36 w h=>?_
       refine zv h fun t37 w h=>?_
       refine zn<|zk ?_
       refine sim_cond h rfl (fun h=>?_) (fun h=>?_)
       · refine zs<|zr<|zm<|zn<|zk<|sim_ret<|sim_then_ret<|sim_block_ret<|sim_then_ret ?_
         exact body_ret1 rfl rfl h
       · refine sim_skip<|zk ?_
         exact zt hkK2 h
     · refine zs<|zr ?_
       refine zb h fun t39 w h=>?_
       refine zm<|zn<|zk ?_
       refine sim_cond h rfl (fun h=>?_) (fun h=>?_)
       · refine zs<|zr ?_
         refine zv h fun t40 w h=>?_
         refine zm ?_
         refine zc h c59 fun t42 w h=>?_
         refine zm<|zn<|zk<|sim_ret<|sim_then_ret<|sim_block_ret<|sim_then_ret ?_
         exact body_ret1 rfl rfl h
       · refine zs<|zr ?_
         refine zb h fun t44 w h=>?_
         refine zm<|zn<|zk ?_
         refine sim_cond h rfl (fun h=>?_) (fun h=>?_)
         · refine zs<|sim_regionG ?_
           refine sim_seg 4 rfl ?_
           refine zv h fun t45 w h=>?_
           refine zv h fun t46 w h=>?_
           refine zb h fun t47 w h=>?_
           refine zm<|zn ?_
           refine joinK_elim h (fun K3 hK h=>?_)
           refine sim_groupJ 3 3 false [49,50,51] (fun ρ w=>K3 (ρ 51) w) rfl rfl (fun T hT=>guardP_mono h (fun h=>?_) (fun h=>?_)) (fun σ w h=>?_)
           · refine zv h fun t49 w h=>?_
             refine zv h fun t50 w h=>?_
             refine zb h fun t51 w h=>?_
             refine zn ?_
             exact zt hT h
           · exact zt hT h
           subst hK
           refine sim_seg 2 rfl ?_
           refine sim_pick h rfl rfl rfl ?_;intro t52 h
           refine zm<|zn ?_
           refine joinK_elim h (fun K4 hK h=>?_)
           refine sim_groupJ 3 8 false [54,55,56] (fun ρ w=>K4 (ρ 56) w) rfl rfl (fun T hT=>guardP_mono h (fun h=>?_) (fun h=>?_)) (fun σ w h=>?_)
           · refine zv h fun t54 w h=>?_
             refine zv h fun t55 w h=>?_
             refine zb h fun t56 w h=>?_
             refine zn ?_
             exact zt hT h
           · exact zt hT h
           subst hK
           refine sim_seg 2 rfl ?_
           refine sim_pick h rfl rfl rfl ?_;intro t57 h
           refine zm<|zn ?_
           refine joinK_elim h (fun K5 hK h=>?_)
           refine sim_groupJ 3 13 false [59,60,61] (fun ρ w=>K5 (ρ 61) w) rfl rfl (fun T hT=>guardP_mono h (fun h=>?_) (fun h=>?_)) (fun σ w h=>?_)
           · refine zv h fun t59 w h=>?_
             refine zv h fun t60 w h=>?_
             refine zb h fun t61 w h=>?_
             refine zn ?_
             exact zt hT h
           · exact zt hT h
           subst hK
           refine sim_seg 1 rfl ?_
           refine sim_pick h rfl rfl rfl ?_;intro t62 h
           refine zn<|sim_end<|zk ?_
           refine sim_cond h rfl (fun h=>?_) (fun h=>?_)
           · refine zs<|zr<|zm<|zn<|zk<|sim_ret<|sim_then_ret<|sim_block_ret<|sim_then_ret ?_
             exact body_ret1 rfl rfl h
           · refine sim_skip<|zk ?_
             exact zt hkK2 h
         · refine zs<|zr ?_
           refine zb h fun t64 w h=>?_
           refine zm<|zn<|zk ?_
           refine sim_cond h rfl (fun h=>?_) (fun h=>?_)
           · refine zs<|sim_regionG ?_
             refine sim_seg 4 rfl ?_
             refine zv h fun t65 w h=>?_
             refine zv h fun t66 w h=>?_
             refine zb h fun t67 w h=>?_
             refine zm<|zn ?_
             refine joinK_elim h (fun K6 hK h=>?_)
             refine sim_groupJ 3 3 false [69,70,71] (fun ρ w=>K6 (ρ 71) w) rfl rfl (fun T hT=>guardP_mono h (fun h=>?_) (fun h=>?_)) (fun σ w h=>?_)
             · refine zv h fun t69 w h=>?_
               refine zv h fun t70 w h=>?_
               refine zb h fun t71 w h=>?_
               refine zn ?_
               exact zt hT h
             · exact zt hT h
             subst hK
             refine sim_seg 1 rfl ?_
             refine sim_pick h rfl rfl rfl ?_;intro t72 h
             refine zn<|sim_end<|zk ?_
             refine sim_cond h rfl (fun h=>?_) (fun h=>?_)
             · refine zs<|zr<|zm<|zn<|zk<|sim_ret<|sim_then_ret<|sim_block_ret<|sim_then_ret ?_
               exact body_ret1 rfl rfl h
             · refine sim_skip<|zk ?_
               exact zt hkK2 h
           · refine zs<|zr ?_
             refine zb h fun t74 w h=>?_
             refine zm<|zn<|zk ?_
             refine sim_cond h rfl (fun h=>?_) (fun h=>?_)
             · refine zs<|zs<|zr ?_
               refine zv h fun t75 w h=>?_
               refine zv h fun t76 w h=>?_
               refine zv h fun t77 w h=>?_
               refine zm ?_
               refine zc h c26 fun t79 w h=>?_
               refine zb h fun t80 w h=>?_
               refine zn<|zk ?_
               refine sim_cond h rfl (fun h=>?_) (fun h=>?_)
               · refine zs<|zr<|zm<|zn<|zk<|sim_ret<|sim_then_ret<|sim_then_ret<|sim_block_ret<|sim_then_ret ?_
                 exact body_ret1 rfl rfl h
               · refine sim_skip<|zk<|zs<|zr ?_
                 refine zv h fun t81 w h=>?_
                 refine zm ?_
                 refine zc h c59 fun t83 w h=>?_
                 refine zm<|zn<|zk<|sim_ret<|sim_then_ret<|sim_block_ret<|sim_then_ret ?_
                 exact body_ret1 rfl rfl h
             · refine zs<|zr ?_
               refine zb h fun t85 w h=>?_
               refine zm<|zn<|zk ?_
               refine sim_cond h rfl (fun h=>?_) (fun h=>?_)
               · refine zs<|zr ?_
                 refine zv h fun t86 w h=>?_
                 refine zv h fun t87 w h=>?_
                 refine zv h fun t88 w h=>?_
                 refine zm ?_
                 refine zc h c26 fun t90 w h=>?_
                 refine zb h fun t91 w h=>?_
                 refine zn<|zk ?_
                 refine sim_cond h rfl (fun h=>?_) (fun h=>?_)
                 · refine zs<|zr<|zm<|zn<|zk<|sim_ret<|sim_then_ret<|sim_block_ret<|sim_then_ret ?_
                   exact body_ret1 rfl rfl h
                 · refine sim_skip<|zk ?_
                   exact zt hkK2 h
               · refine zs<|zr ?_
                 refine zb h fun t93 w h=>?_
                 refine zm<|zn<|zk ?_
                 refine sim_cond h rfl (fun h=>?_) (fun h=>?_)
                 · refine zs<|zr ?_
                   refine zv h fun t94 w h=>?_
                   refine zv h fun t95 w h=>?_
                   refine zv h fun t96 w h=>?_
                   refine zm ?_
                   refine zc h c42 fun t98 w h=>?_
                   refine zm<|zn<|zk<|zs<|zs<|sim_regionG ?_
                   refine sim_seg 3 rfl ?_
                   refine zm ?_
                   refine zb h fun t100 w h=>?_
                   refine zm<|zn ?_
                   refine joinK_elim h (fun K7 hK h=>?_)
                   refine sim_groupJ 7 2 false [102,103,104,105,106,107,108] (fun ρ w=>K7 (ρ 108) w) rfl rfl (fun T hT=>guardP_mono h (fun h=>?_) (fun h=>?_)) (fun σ w h=>?_)
                   · refine zv h fun t102 w h=>?_
                     refine zv h fun t103 w h=>?_
                     refine zm ?_
                     refine zv h fun t105 w h=>?_
                     refine zv h fun t106 w h=>?_
                     refine zc h c60 fun t107 w h=>?_
                     refine zv h fun t108 w h=>?_
                     refine zn ?_
                     exact zt hT h
                   · exact zt hT h
                   subst hK
                   refine sim_seg 2 rfl ?_
                   refine sim_pick h rfl rfl rfl ?_;intro t109 h
                   refine zm<|zn ?_
                   refine joinK_elim h (fun K8 hK h=>?_)
                   refine sim_groupJ 5 11 false [111,112,113,114,115] (fun ρ w=>K8 (ρ 115) w) rfl rfl (fun T hT=>guardP_mono h (fun h=>?_) (fun h=>?_)) (fun σ w h=>?_)
                   · refine zv h fun t111 w h=>?_
                     refine zv h fun t112 w h=>?_
                     refine zv h fun t113 w h=>?_
                     refine zm ?_
                     refine zc h c61 fun t115 w h=>?_
                     refine zn ?_
                     exact zt hT h
                   · exact zt hT h
                   subst hK
                   refine sim_seg 1 rfl ?_
                   refine sim_pick h rfl rfl rfl ?_;intro t116 h
                   refine zn<|sim_end<|zk ?_
                   refine sim_cond h rfl (fun h=>?_) (fun h=>?_)
                   · refine zs<|zr<|zm<|zn<|zk<|sim_ret<|sim_then_ret<|sim_then_ret<|sim_block_ret<|sim_then_ret ?_
                     exact body_ret1 rfl rfl h
                   · refine sim_skip<|zk<|zs<|zr ?_
                     refine zv h fun t118 w h=>?_
                     refine zv h fun t119 w h=>?_
                     refine zm ?_
                     refine zv h fun t121 w h=>?_
                     refine zv h fun t122 w h=>?_
                     refine zc h c62 fun t123 w h=>?_
                     refine zm ?_
                     refine zv h fun t124 w h=>?_
                     refine zv h fun t125 w h=>?_
                     refine zm<|zm<|zn<|zk<|zs<|zr ?_
                     refine zv h fun t126 w h=>?_
                     refine zm ?_
                     refine zv h fun t128 w h=>?_
                     refine zm<|zm ?_
                     refine zc h c63 fun t131 w h=>?_
                     refine zm<|zn<|zk<|sim_ret<|sim_then_ret<|sim_block_ret<|sim_then_ret ?_
                     exact body_ret1 rfl rfl h
                 · refine zs<|zr ?_
                   refine zb h fun t133 w h=>?_
                   refine zm<|zn<|zk ?_
                   refine sim_cond h rfl (fun h=>?_) (fun h=>?_)
                   · refine zs<|sim_regionG ?_
                     refine sim_seg 4 rfl ?_
                     refine zv h fun t134 w h=>?_
                     refine zv h fun t135 w h=>?_
                     refine zb h fun t136 w h=>?_
                     refine zm<|zn ?_
                     refine joinK_elim h (fun K9 hK h=>?_)
                     refine sim_groupJ 3 3 true [138,139,140] (fun ρ w=>K9 (ρ 140) w) rfl rfl (fun T hT=>guardP_mono h (fun h=>?_) (fun h=>?_)) (fun σ w h=>?_)
                     · refine zv h fun t138 w h=>?_
                       refine zv h fun t139 w h=>?_
                       refine zb h fun t140 w h=>?_
                       refine zn ?_
                       exact zt hT h
                     · exact zt hT h
                     subst hK
                     refine sim_seg 2 rfl ?_
                     refine sim_pick h rfl rfl rfl ?_;intro t141 h
                     refine zm<|zn ?_
                     refine joinK_elim h (fun K10 hK h=>?_)
                     refine sim_groupJ 4 8 true [143,144,145,146] (fun ρ w=>K10 (ρ 146) w) rfl rfl (fun T hT=>guardP_mono h (fun h=>?_) (fun h=>?_)) (fun σ w h=>?_)
                     · refine zv h fun t143 w h=>?_
                       refine zv h fun t144 w h=>?_
                       refine zb h fun t145 w h=>?_
                       refine zm<|zn ?_
                       exact zt hT h
                     · exact zt hT h
                     subst hK
                     refine joinK_elim h (fun K11 hK h=>?_)
                     refine sim_groupJ 3 12 false [147,148,149] (fun ρ w=>K11 (ρ 149) w) rfl rfl (fun T hT=>guardP_mono h (fun h=>?_) (fun h=>?_)) (fun σ w h=>?_)
                     · refine zv h fun t147 w h=>?_
                       refine zv h fun t148 w h=>?_
                       refine zb h fun t149 w h=>?_
                       refine zn ?_
                       exact zt hT h
                     · exact zt hT h
                     subst hK
                     refine joinK_elim h (fun K12 hK h=>?_)
                     refine sim_groupJ 2 8 true [150,151] (fun ρ w=>K12 (ρ 151) w) rfl rfl (fun T hT=>guardP_mono h (fun h=>?_) (fun h=>?_)) (fun σ w h=>?_)
                     · refine sim_pick h rfl rfl rfl ?_;intro t150 h
                       refine zm<|zn ?_
                       exact zt hT h
                     · exact zt hT h
                     subst hK
                     refine joinK_elim h (fun K13 hK h=>?_)
                     refine sim_groupJ 4 17 false [152,153,154,155] (fun ρ w=>K13 (ρ 155) w) rfl rfl (fun T hT=>guardP_mono h (fun h=>?_) (fun h=>?_)) (fun σ w h=>?_)
                     · refine zv h fun t152 w h=>?_
                       refine zv h fun t153 w h=>?_
                       refine zb h fun t154 w h=>?_
                       refine zb h fun t155 w h=>?_
                       refine zn ?_
                       exact zt hT h
                     · exact zt hT h
                     subst hK
                     refine joinK_elim h (fun K14 hK h=>?_)
                     refine sim_groupJ 1 8 true [156] (fun ρ w=>K14 (ρ 156) w) rfl rfl (fun T hT=>guardP_mono h (fun h=>?_) (fun h=>?_)) (fun σ w h=>?_)
                     · refine sim_pick h rfl rfl rfl ?_;intro t156 h
                       refine zn ?_
                       exact zt hT h
                     · exact zt hT h
                     subst hK
                     refine sim_seg 1 rfl ?_
                     refine sim_pick h rfl rfl rfl ?_;intro t157 h
                     refine zn<|sim_end<|zk ?_
                     refine sim_cond h rfl (fun h=>?_) (fun h=>?_)
                     · refine zs<|zr<|zm<|zn<|zk<|sim_ret<|sim_then_ret<|sim_block_ret<|sim_then_ret ?_
                       exact body_ret1 rfl rfl h
                     · refine sim_skip<|zk ?_
                       exact zt hkK2 h
                   · refine zs<|zr ?_
                     refine zb h fun t159 w h=>?_
                     refine zm<|zn<|zk ?_
                     refine sim_cond h rfl (fun h=>?_) (fun h=>?_)
                     · refine zs<|zs<|sim_regionG ?_
                       refine sim_seg 4 rfl ?_
                       refine zv h fun t160 w h=>?_
                       refine zv h fun t161 w h=>?_
                       refine zb h fun t162 w h=>?_
                       refine zm<|zn ?_
                       refine joinK_elim h (fun K15 hK h=>?_)
                       refine sim_groupJ 3 3 false [164,165,166] (fun ρ w=>K15 (ρ 166) w) rfl rfl (fun T hT=>guardP_mono h (fun h=>?_) (fun h=>?_)) (fun σ w h=>?_)
                       · refine zv h fun t164 w h=>?_
                         refine zv h fun t165 w h=>?_
                         refine zb h fun t166 w h=>?_
                         refine zn ?_
                         exact zt hT h
                       · exact zt hT h
                       subst hK
                       refine sim_seg 1 rfl ?_
                       refine sim_pick h rfl rfl rfl ?_;intro t167 h
                       refine zn<|sim_end<|zk ?_
                       refine sim_cond h rfl (fun h=>?_) (fun h=>?_)
                       · refine zs<|zr<|zm<|zn<|zk<|sim_ret<|sim_then_ret<|sim_then_ret<|sim_block_ret<|sim_then_ret ?_
                         exact body_ret1 rfl rfl h
                       · refine sim_skip<|zk<|zs<|zr ?_
                         refine zv h fun t168 w h=>?_
                         refine zv h fun t169 w h=>?_
                         refine zv h fun t170 w h=>?_
                         refine zm ?_
                         refine zc h c42 fun t172 w h=>?_
                         refine zb h fun t173 w h=>?_
                         refine zn<|zk ?_
                         refine sim_cond h rfl (fun h=>?_) (fun h=>?_)
                         · refine zs<|zr<|zm<|zn<|zk<|sim_ret<|sim_then_ret<|sim_block_ret<|sim_then_ret ?_
                           exact body_ret1 rfl rfl h
                         · refine sim_skip<|zk ?_
                           exact zt hkK2 h
                     · refine zs<|zr ?_
                       refine zb h fun t175 w h=>?_
                       refine zm<|zn<|zk ?_
                       refine sim_cond h rfl (fun h=>?_) (fun h=>?_)
                       · refine zs<|zs<|sim_regionG ?_
                         refine sim_seg 4 rfl ?_
                         refine zv h fun t176 w h=>?_
                         refine zv h fun t177 w h=>?_
                         refine zb h fun t178 w h=>?_
                         refine zm<|zn ?_
                         refine joinK_elim h (fun K16 hK h=>?_)
                         refine sim_groupJ 3 3 false [180,181,182] (fun ρ w=>K16 (ρ 182) w) rfl rfl (fun T hT=>guardP_mono h (fun h=>?_) (fun h=>?_)) (fun σ w h=>?_)
                         · refine zv h fun t180 w h=>?_
                           refine zv h fun t181 w h=>?_
                           refine zb h fun t182 w h=>?_
                           refine zn ?_
                           exact zt hT h
                         · exact zt hT h
                         subst hK
                         refine sim_seg 1 rfl ?_
                         refine sim_pick h rfl rfl rfl ?_;intro t183 h
                         refine zn<|sim_end<|zk ?_
                         refine sim_cond h rfl (fun h=>?_) (fun h=>?_)
                         · refine zs<|zr<|zm<|zn<|zk<|sim_ret<|sim_then_ret<|sim_then_ret<|sim_block_ret<|sim_then_ret ?_
                           exact body_ret1 rfl rfl h
                         · refine sim_skip<|zk<|zs<|zr ?_
                           refine zv h fun t184 w h=>?_
                           refine zv h fun t185 w h=>?_
                           refine zv h fun t186 w h=>?_
                           refine zm ?_
                           refine zc h c26 fun t188 w h=>?_
                           refine zm<|zn<|zk<|zs<|zs<|sim_regionG ?_
                           refine sim_seg 3 rfl ?_
                           refine zm ?_
                           refine zb h fun t190 w h=>?_
                           refine zm<|zn ?_
                           refine joinK_elim h (fun K17 hK h=>?_)
                           refine sim_groupJ 7 2 false [192,193,194,195,196,197,198] (fun ρ w=>K17 (ρ 198) w) rfl rfl (fun T hT=>guardP_mono h (fun h=>?_) (fun h=>?_)) (fun σ w h=>?_)
                           · refine zv h fun t192 w h=>?_
                             refine zm ?_
                             refine zc h c11 fun t194 w h=>?_
                             refine zm ?_
                             refine zv h fun t196 w h=>?_
                             refine zv h fun t197 w h=>?_
                             refine zv h fun t198 w h=>?_
                             refine zn ?_
                             exact zt hT h
                           · exact zt hT h
                           subst hK
                           refine sim_seg 1 rfl ?_
                           refine sim_pick h rfl rfl rfl ?_;intro t199 h
                           refine zn<|sim_end<|zk ?_
                           refine sim_cond h rfl (fun h=>?_) (fun h=>?_)
                           · refine zs<|zr<|zm<|zn<|zk<|sim_ret<|sim_then_ret<|sim_then_ret<|sim_block_ret<|sim_then_ret ?_
                             exact body_ret1 rfl rfl h
                           · refine sim_skip<|zk<|zs<|zr ?_
                             refine zv h fun t200 w h=>?_
                             refine zm ?_
                             refine zc h c59 fun t202 w h=>?_
                             refine zm<|zn<|zk<|sim_ret<|sim_then_ret<|sim_block_ret<|sim_then_ret ?_
                             exact body_ret1 rfl rfl h
                       · refine sim_skip<|zk ?_
                         exact zt hkK2 h
   subst hK
   refine sim_block_normal<|zk<|zs<|zr<|zm<|zn<|zk<|sim_ret ?_
   exact body_ret1 rfl rfl h
end Go.Proofs.YtiajhbbmgglmlaaGreat
namespace Go.Proofs.YtiajhbbmgglmlaaGreat
open Sw
open Go.RowKit (intOf Below)
theorem anyD (l:List MsgD) (hd:DistM l) (s:ByteArray):(lastP (depsOf l) s).isSome=l.any fun m=>decide (m.name=s):=by
 rcases first_last (keysD l) hd s with ⟨h1,h2⟩ | ⟨k,b,h1,_,_,h2⟩
 · rw [h2,← idx_neg,h1];rfl
 · rw [h2,← idx_neg,h1];simp
theorem wide_within {lo hi:Int}:withinC 34359738367 0 [lo,hi]=if wideB lo hi then 0 else 7:=by
 rw [within2]
 unfold wideB
 by_cases h1:0≤lo<;>by_cases h2:lo≤hi<;>by_cases h3:hi < 34359738368<;>simp [*]<;>omega
theorem within1 {hi n a:Int}:withinC hi n [a]=if a < n∨hi < a then 7 else 0:=by
 by_cases h1:a < n<;>by_cases h2:hi < a<;>simp [withinC,needC,orC, *]<;>omega
theorem rkinds_ret (w0:World) (v:Value) (d:DefD) (n i:Nat) (m:MsgD) (f:FieldD) (hd:DefVal w0 v d) (hm:d.msgs[n]?=some m) (hi:m.fields[i]?=some f) (hN:DistM (d.msgs.take n)) (hR:RefsIn d.msgs n) (hD:Dist (m.fields.take i)) (hb:calm d) (hn1:n≤1048576)
 (hg:∀ g∈m.fields.take i,numberB g=true → -4611686018427387904≤g.low∧highOf g≤4611686018427387904) (hk:1≤f.kind∧f.kind≤12) :
 Ret Pg 44 #[v,.int .i64 (n:Int),.int .i64 (i:Int)] w0 fun r w'=>r = .int .i64 (checkC (m.fields.take i) (vI (depsOf (d.msgs.take n))) (vB (strsOf (d.msgs.take n))) f)∧Ext w0 w':=by
 obtain ⟨mv,rfl,hM⟩:=hd
 have hM0:=hM
 have hmem:=List.mem_of_getElem? hm
 have hfm:=List.mem_of_getElem? hi
 have hft:=(hb m hmem).2 f hfm
 refine n28s (R:=retR _) ?_;unfold n28
 rw [op_boxA]
 have hBW:=ElemAt.new (w:=w0) (defCells d mv) (24)
 have eW:Ext w0 (w0.alloc (Obj.cells (List.toArray (defCells d mv)) (24))):=(Ext.refl _).alloc _
 generalize (w0.alloc (Obj.cells (List.toArray (defCells d mv)) (24)))=W at hBW eW ⊢
 obtain ⟨bm,om,cm,rfl,_,_,_,hnl,hel⟩:=open1 hM hm
 obtain ⟨csm,_,hAm,hEm⟩:=hel n m hm
 obtain ⟨fv,rfl,hF⟩:=hEm
 have hF0:=hF
 have hf1:=SliceOf.oneCell hF
 simp (disch:=try exact DI) only [↓PR,QR,Int.reduceBEq,Int.reduceBNe,Int.reduceLT,Int.reduceLE,Int.reduceGT,Int.reduceGE,Int.reduceNeg,hBW.c3 (Ext.refl W),hAm.c2 eW]
 have hBX:=ElemAt.new (w:=W) (msgCells m fv) (45)
 have eX:Ext W (W.alloc (Obj.cells (List.toArray (msgCells m fv)) (45))):=(Ext.refl _).alloc _
 generalize (W.alloc (Obj.cells (List.toArray (msgCells m fv)) (45)))=X at hBX eX ⊢
 obtain ⟨bf,of,cf,rfl,_,_,_,hil,helf⟩:=open1 hF hi
 obtain ⟨csf,_,hAf,hEf⟩:=helf i f hi
 obtain ⟨tv,cv,rfl,hT,hC,ht1,hc1⟩:=hEf.op
 simp (disch:=try exact DI) only [↓PR,QR,Int.reduceBEq,Int.reduceBNe,Int.reduceLT,Int.reduceLE,Int.reduceGT,Int.reduceGE,Int.reduceNeg,hBX.c2 (Ext.refl X),hAf.c15 (eW.trans eX)]
 have hBY:=ElemAt.new (w:=X) (fieldCells f tv cv) (52)
 have eY:Ext X (X.alloc (Obj.cells (List.toArray (fieldCells f tv cv)) (52))):=(Ext.refl _).alloc _
 generalize (X.alloc (Obj.cells (List.toArray (fieldCells f tv cv)) (52)))=Y at hBY eY ⊢
 have hcY:=hBY.c15 (Ext.refl Y)
 have EY:Ext w0 Y:=eW.trans (eX.trans eY)
 have this:f.kind=1∨f.kind=2∨f.kind=3∨f.kind=4∨f.kind=5∨f.kind=6∨f.kind=7∨f.kind=8∨f.kind=9∨f.kind=10∨f.kind=11∨f.kind=12:=by omega
 have hdv:∀ w,Ext Y w→DefVal w (.agg (defCells d (.slice (some ⟨bm,om,none⟩) d.msgs.length cm)).toArray) d:=fun w e=>⟨_,rfl,hM0.ext (EY.trans e)⟩
 have hmv:∀ w,Ext Y w→MsgVal w (.agg (msgCells m (.slice (some ⟨bf,of,none⟩) m.fields.length cf)).toArray) m:=fun w e=>⟨_,rfl,hF0.ext (EY.trans e)⟩
 have hfv:∀ w,Ext Y w→FieldVal w (.agg (fieldCells f tv cv).toArray) f:=fun w e=>⟨_,_,rfl,hT.ext (EY.trans e),hC.ext (EY.trans e)⟩
 generalize hDD:vI (depsOf (d.msgs.take n))=D
 generalize hSS:vB (strsOf (d.msgs.take n))=S
 rcases this with hk | hk | hk | hk | hk | hk | hk | hk | hk | hk | hk | hk
 all_goals rw [show fieldCells f tv cv=[.string f.name,.int .i64 f.kind,.int .i64 f.bits,.bool f.little,.bool f.loose,.int .i64 f.low,.int .i64 f.high,.int .i64 f.base,tv,.string f.of,.string f.tag,.string f.fr,cv,.int .i64 f.check,.int .i64 f.key] from rfl,hk] at hfv
 all_goals simp (disch:=try exact DI) only [↓PR,QR,Int.reduceBEq,Int.reduceBNe,Int.reduceLT,Int.reduceLE,Int.reduceGT,Int.reduceGE,Int.reduceNeg,hcY,hBX.c2 eY,hBW.c3 (eX.trans eY),hk,↓n28c1,↓n28c2,↓n28c3,↓n28c4,↓n28c5,↓n28c6,↓n28c7,↓n28c8,↓n28c9,↓n28c10,↓n28c11,↓n28c12,↓n28c13,↓n28c14,↓n28c15,↓n28c16,↓n28c17,↓n28c18,↓n28c19,↓n28c20,↓n28c21,↓n28c22,↓n28c23,↓n28c24,↓n28c25,↓n28c26,↓n28c27,↓n28c28,↓n28c29,↓n28c30,↓n28c31,↓n28c32]
 · have hcc:checkC (m.fields.take i) D S f=numC f:=by rw [numC_one hk];unfold checkC;rw [hk];rfl
   refine zcr (rnumber_ret _ _ f (hfv _ (Ext.refl Y))) fun w1 e1=>?_
   exact ⟨_,rfl,by rw [hcc],EY.trans e1⟩
 · have hcc:checkC (m.fields.take i) D S f=numC f:=by rw [numC_two hk];unfold checkC;rw [hk];rfl
   refine zcr (rnumber_ret _ _ f (hfv _ (Ext.refl Y))) fun w1 e1=>?_
   exact ⟨_,rfl,by rw [hcc],EY.trans e1⟩
 · have hcc:checkC (m.fields.take i) D S f=if wideB f.low f.high then 0 else 7:=by rw [← wide_within];unfold checkC;rw [hk];rfl
   refine zcr (rwide_ret _ _ _) fun w1 e1=>?_
   cases hw:wideB f.low f.high<;>rw [hw] at hcc<;>simp (disch:=try exact DI) only [↓PR,QR,Int.reduceBEq,Int.reduceBNe,Int.reduceLT,Int.reduceLE,Int.reduceGT,Int.reduceGE,Int.reduceNeg]<;>exact ⟨by rw [hcc];rfl,EY.trans e1⟩
 · have hcc:checkC (m.fields.take i) D S f=sizedC (numR (m.fields.take i)) f:=by unfold checkC;rw [hk];rfl
   refine zcr (rsized_ret _ _ m i f (hmv _ (Ext.refl Y)) hi hD hft) fun w1 e1=>?_
   exact ⟨_,rfl,by rw [hcc],EY.trans e1⟩
 · have hcc:checkC (m.fields.take i) D S f=if (decide (f.low < 0)||decide (255 < f.low)||decide (f.high < 0)||decide (1048576 < f.high)) then 7 else 0:=by
    rw [show checkC (m.fields.take i) D S f=orC (withinC 255 0 [f.low]) (withinC 1048576 0 [f.high]) by unfold checkC;rw [hk];rfl,within1,within1]
    by_cases h1:f.low < 0<;>by_cases h2:255 < f.low<;>by_cases h3:f.high < 0<;>by_cases h4:1048576 < f.high<;>simp [orC, *]
   refine cond_cases (fun h=>⟨_,rfl,by rw [hcc,if_pos h],EY⟩) (fun h=>⟨_,rfl,by rw [hcc,if_neg (by rw [h];decide)],EY⟩)
 · have hcc:checkC (m.fields.take i) D S f=if (decide (f.high < 2)||decide (1048576 < f.high)) then 7 else 0:=by
    rw [show checkC (m.fields.take i) D S f=withinC 1048576 2 [f.high] by unfold checkC;rw [hk];rfl,within1]
    by_cases h3:f.high < 2<;>by_cases h4:1048576 < f.high<;>simp [orC, *]
   refine cond_cases (fun h=>⟨_,rfl,by rw [hcc,if_pos h],EY⟩) (fun h=>⟨_,rfl,by rw [hcc,if_neg (by rw [h];decide)],EY⟩)
 · have hcc:checkC (m.fields.take i) D S f=orC (needC (lastOf (vI (depsOf (d.msgs.take n))) f.of).isSome 8) (sizedC (numR (m.fields.take i)) f):=by rw [← hDD];unfold checkC;rw [hk];rfl
   refine zcr (rFind_ret _ _ d f.of n (hdv _ (Ext.refl Y)) (Nat.le_of_lt hnl)) fun w1 e1=>?_
   have hdi:=idx_some (p:=fun m:MsgD=>decide (m.name=f.of)) (l:=d.msgs.take n)
   rw [lastOf_vI,Option.isSome_map,anyD _ hN] at hcc
   cases hs:(d.msgs.take n).any (fun m=>decide (m.name=f.of)) with
   | false =>
    rw [hs] at hdi hcc
    simp (disch:=try exact DI) only [↓PR,QR,Int.reduceBEq,Int.reduceBNe,Int.reduceLT,Int.reduceLE,Int.reduceGT,Int.reduceGE,Int.reduceNeg,hdi,↓n28c1,↓n28c2,↓n28c3,↓n28c4,↓n28c5,↓n28c6,↓n28c7,↓n28c8,↓n28c9,↓n28c10,↓n28c11,↓n28c12,↓n28c13,↓n28c14,↓n28c15,↓n28c16,↓n28c17,↓n28c18,↓n28c19,↓n28c20,↓n28c21,↓n28c22,↓n28c23,↓n28c24,↓n28c25,↓n28c26,↓n28c27,↓n28c28,↓n28c29,↓n28c30,↓n28c31,↓n28c32]
    exact ⟨by rw [hcc];rfl,EY.trans e1⟩
   | true =>
    rw [hs] at hdi hcc
    simp (disch:=try exact DI) only [↓PR,QR,Int.reduceBEq,Int.reduceBNe,Int.reduceLT,Int.reduceLE,Int.reduceGT,Int.reduceGE,Int.reduceNeg,hdi,hBX.c2 (eY.trans e1),↓n28c1,↓n28c2,↓n28c3,↓n28c4,↓n28c5,↓n28c6,↓n28c7,↓n28c8,↓n28c9,↓n28c10,↓n28c11,↓n28c12,↓n28c13,↓n28c14,↓n28c15,↓n28c16,↓n28c17,↓n28c18,↓n28c19,↓n28c20,↓n28c21,↓n28c22,↓n28c23,↓n28c24,↓n28c25,↓n28c26,↓n28c27,↓n28c28,↓n28c29,↓n28c30,↓n28c31,↓n28c32]
    refine zcr (rsized_ret _ _ m i f (hmv _ e1) hi hD hft) fun w2 e2=>?_
    exact ⟨_,rfl,by rw [hcc];rfl,EY.trans (e1.trans e2)⟩
 · have hcc:checkC (m.fields.take i) D S f=needC (lastOf (vI (depsOf (d.msgs.take n))) f.of).isSome 8:=by rw [← hDD];unfold checkC;rw [hk];rfl
   refine zcr (rFind_ret _ _ d f.of n (hdv _ (Ext.refl Y)) (Nat.le_of_lt hnl)) fun w1 e1=>?_
   have hdi:=idx_some (p:=fun m:MsgD=>decide (m.name=f.of)) (l:=d.msgs.take n)
   rw [lastOf_vI,Option.isSome_map,anyD _ hN] at hcc
   cases hs:(d.msgs.take n).any (fun m=>decide (m.name=f.of)) with
   | false =>
    rw [hs] at hdi hcc
    simp (disch:=try exact DI) only [↓PR,QR,Int.reduceBEq,Int.reduceBNe,Int.reduceLT,Int.reduceLE,Int.reduceGT,Int.reduceGE,Int.reduceNeg,hdi,↓n28c1,↓n28c2,↓n28c3,↓n28c4,↓n28c5,↓n28c6,↓n28c7,↓n28c8,↓n28c9,↓n28c10,↓n28c11,↓n28c12,↓n28c13,↓n28c14,↓n28c15,↓n28c16,↓n28c17,↓n28c18,↓n28c19,↓n28c20,↓n28c21,↓n28c22,↓n28c23,↓n28c24,↓n28c25,↓n28c26,↓n28c27,↓n28c28,↓n28c29,↓n28c30,↓n28c31,↓n28c32]
    exact ⟨by rw [hcc];rfl,EY.trans e1⟩
   | true =>
    rw [hs] at hdi hcc
    simp (disch:=try exact DI) only [↓PR,QR,Int.reduceBEq,Int.reduceBNe,Int.reduceLT,Int.reduceLE,Int.reduceGT,Int.reduceGE,Int.reduceNeg,hdi,↓n28c1,↓n28c2,↓n28c3,↓n28c4,↓n28c5,↓n28c6,↓n28c7,↓n28c8,↓n28c9,↓n28c10,↓n28c11,↓n28c12,↓n28c13,↓n28c14,↓n28c15,↓n28c16,↓n28c17,↓n28c18,↓n28c19,↓n28c20,↓n28c21,↓n28c22,↓n28c23,↓n28c24,↓n28c25,↓n28c26,↓n28c27,↓n28c28,↓n28c29,↓n28c30,↓n28c31,↓n28c32]
    exact ⟨by rw [hcc];rfl,EY.trans e1⟩
 · have hcc:checkC (m.fields.take i) D S f=casesC (m.fields.take i) (vI (depsOf (d.msgs.take n))) f:=by rw [← hDD];unfold checkC;rw [hk];rfl
   refine zcr (rField_ret _ _ m f.tag i (hmv _ (Ext.refl Y)) (Nat.le_of_lt hil)) fun w1 e1=>?_
   have E1:=EY.trans e1
   unfold casesC at hcc
   rcases num_first hD f.tag with ⟨h1,h2⟩ | ⟨k,g,h1,h2,h3⟩
   · rw [h1]
     rw [h2] at hcc
     simp (disch:=try exact DI) only [↓PR,QR,Int.reduceBEq,Int.reduceBNe,Int.reduceLT,Int.reduceLE,Int.reduceGT,Int.reduceGE,Int.reduceNeg,↓n28c1,↓n28c2,↓n28c3,↓n28c4,↓n28c5,↓n28c6,↓n28c7,↓n28c8,↓n28c9,↓n28c10,↓n28c11,↓n28c12,↓n28c13,↓n28c14,↓n28c15,↓n28c16,↓n28c17,↓n28c18,↓n28c19,↓n28c20,↓n28c21,↓n28c22,↓n28c23,↓n28c24,↓n28c25,↓n28c26,↓n28c27,↓n28c28,↓n28c29,↓n28c30,↓n28c31,↓n28c32]
     exact ⟨by rw [hcc];rfl,E1⟩
   · have hgk:=take_get h2
     have hgm:=List.mem_of_getElem? h2
     obtain ⟨csg,_,hAg,hEg⟩:=helf k g hgk
     have hkl:k < m.fields.length:=(List.getElem?_eq_some_iff.1 hgk).1
     obtain ⟨tg,cg,rfl,hTg,hCg,_,_⟩:=hEg.op
     have hd0:decide ((k:Int) < 0)=false:=by simp
     rw [h1]
     simp (disch:=try exact DI) only [↓PR,QR,Int.reduceBEq,Int.reduceBNe,Int.reduceLT,Int.reduceLE,Int.reduceGT,Int.reduceGE,Int.reduceNeg,hd0,hBX.c2 (eY.trans e1),hAg.c15 E1,↓n28c1,↓n28c2,↓n28c3,↓n28c4,↓n28c5,↓n28c6,↓n28c7,↓n28c8,↓n28c9,↓n28c10,↓n28c11,↓n28c12,↓n28c13,↓n28c14,↓n28c15,↓n28c16,↓n28c17,↓n28c18,↓n28c19,↓n28c20,↓n28c21,↓n28c22,↓n28c23,↓n28c24,↓n28c25,↓n28c26,↓n28c27,↓n28c28,↓n28c29,↓n28c30,↓n28c31,↓n28c32]
     refine zcr (rNumber_ret _ _ g ⟨_,_,rfl,hTg.ext E1,hCg.ext E1⟩) fun w2 e2=>?_
     cases hng:numberB g with
     | false =>
      rw [hng,if_neg (by simp)] at h3
      rw [h3] at hcc
      simp (disch:=try exact DI) only [↓PR,QR,Int.reduceBEq,Int.reduceBNe,Int.reduceLT,Int.reduceLE,Int.reduceGT,Int.reduceGE,Int.reduceNeg,hd0,↓n28c1,↓n28c2,↓n28c3,↓n28c4,↓n28c5,↓n28c6,↓n28c7,↓n28c8,↓n28c9,↓n28c10,↓n28c11,↓n28c12,↓n28c13,↓n28c14,↓n28c15,↓n28c16,↓n28c17,↓n28c18,↓n28c19,↓n28c20,↓n28c21,↓n28c22,↓n28c23,↓n28c24,↓n28c25,↓n28c26,↓n28c27,↓n28c28,↓n28c29,↓n28c30,↓n28c31,↓n28c32]
      exact ⟨by rw [hcc];rfl,E1.trans e2⟩
     | true =>
     rw [hng,if_pos rfl] at h3
     rw [h3] at hcc
     have f2:Ext Y w2:=e1.trans e2
     simp (disch:=try exact DI) only [↓PR,QR,Int.reduceBEq,Int.reduceBNe,Int.reduceLT,Int.reduceLE,Int.reduceGT,Int.reduceGE,Int.reduceNeg,hd0,hBX.c2 (eY.trans f2),hBY.c15 f2,↓n28c1,↓n28c2,↓n28c3,↓n28c4,↓n28c5,↓n28c6,↓n28c7,↓n28c8,↓n28c9,↓n28c10,↓n28c11,↓n28c12,↓n28c13,↓n28c14,↓n28c15,↓n28c16,↓n28c17,↓n28c18,↓n28c19,↓n28c20,↓n28c21,↓n28c22,↓n28c23,↓n28c24,↓n28c25,↓n28c26,↓n28c27,↓n28c28,↓n28c29,↓n28c30,↓n28c31,↓n28c32]
     refine zcr (rtagged_ret _ _ m f.tag i (hmv _ f2) (Nat.le_of_lt hil)) fun w3 e3=>?_
     have f3:=f2.trans e3
     cases htg:(m.fields.take i).any (taggedP f.tag) with
     | true =>
      rw [htg] at hcc
      simp (disch:=try exact DI) only [↓PR,QR,Int.reduceBEq,Int.reduceBNe,Int.reduceLT,Int.reduceLE,Int.reduceGT,Int.reduceGE,Int.reduceNeg,hd0,↓n28c1,↓n28c2,↓n28c3,↓n28c4,↓n28c5,↓n28c6,↓n28c7,↓n28c8,↓n28c9,↓n28c10,↓n28c11,↓n28c12,↓n28c13,↓n28c14,↓n28c15,↓n28c16,↓n28c17,↓n28c18,↓n28c19,↓n28c20,↓n28c21,↓n28c22,↓n28c23,↓n28c24,↓n28c25,↓n28c26,↓n28c27,↓n28c28,↓n28c29,↓n28c30,↓n28c31,↓n28c32]
      exact ⟨by rw [hcc];rfl,EY.trans f3⟩
     | false =>
     rw [htg] at hcc
     simp (disch:=try exact DI) only [↓PR,QR,Int.reduceBEq,Int.reduceBNe,Int.reduceLT,Int.reduceLE,Int.reduceGT,Int.reduceGE,Int.reduceNeg,hd0,hBX.c2 (eY.trans f3),hAg.c15 (EY.trans f3),↓n28c1,↓n28c2,↓n28c3,↓n28c4,↓n28c5,↓n28c6,↓n28c7,↓n28c8,↓n28c9,↓n28c10,↓n28c11,↓n28c12,↓n28c13,↓n28c14,↓n28c15,↓n28c16,↓n28c17,↓n28c18,↓n28c19,↓n28c20,↓n28c21,↓n28c22,↓n28c23,↓n28c24,↓n28c25,↓n28c26,↓n28c27,↓n28c28,↓n28c29,↓n28c30,↓n28c31,↓n28c32]
     refine zcr (rRange_ret _ _ g ⟨_,_,rfl,hTg.ext (EY.trans f3),hCg.ext (EY.trans f3)⟩) fun w4 e4=>?_
     have f4:=f3.trans e4
     simp (disch:=try exact DI) only [↓PR,QR,Int.reduceBEq,Int.reduceBNe,Int.reduceLT,Int.reduceLE,Int.reduceGT,Int.reduceGE,Int.reduceNeg,hBW.c3 (eX.trans (eY.trans f4)),hBY.c15 f4,↓n28c1,↓n28c2,↓n28c3,↓n28c4,↓n28c5,↓n28c6,↓n28c7,↓n28c8,↓n28c9,↓n28c10,↓n28c11,↓n28c12,↓n28c13,↓n28c14,↓n28c15,↓n28c16,↓n28c17,↓n28c18,↓n28c19,↓n28c20,↓n28c21,↓n28c22,↓n28c23,↓n28c24,↓n28c25,↓n28c26,↓n28c27,↓n28c28,↓n28c29,↓n28c30,↓n28c31,↓n28c32]
     have hgb:=hg g hgm hng
     refine zcr (rcased_ret _ _ _ d n f g.low (highOf g) (depsOf (d.msgs.take n)) (hdv _ f4) (Nat.le_of_lt hnl) ⟨_,_,rfl,hT.ext (EY.trans f4),hC.ext (EY.trans f4)⟩ (anyD _ hN) hgb.1 hgb.2) fun w5 e5=>?_
     exact ⟨_,rfl,by rw [hcc];rfl,EY.trans (f4.trans e5)⟩
 · have hcc:checkC (m.fields.take i) D S f=needC (padB f) 6:=by unfold checkC;rw [hk];rfl
   have hP:padB f=!((f.bits != 2&&f.bits != 4)&&(decide (f.bits < 8)||decide (512 < f.bits)||f.bits.tmod 8 != 0)):=by
    unfold padB
    rw [show decide (f.bits < 8)=!decide (8≤f.bits) by rw [Bool.eq_iff_iff];simp,show decide (512 < f.bits)=!decide (f.bits≤512) by rw [Bool.eq_iff_iff];simp,bne,bne,bne]
    generalize (f.bits == 2)=a1
    generalize (f.bits == 4)=a2
    generalize decide (8≤f.bits)=a3
    generalize decide (f.bits≤512)=a4
    generalize (f.bits.tmod 8 == 0)=a5
    cases a1<;>cases a2<;>cases a3<;>cases a4<;>cases a5<;>rfl
   rw [hP] at hcc
   clear hP
   repeat' first
    | exact ⟨by rw [hcc];rfl,EY⟩
    | (refine guard_cases (fun hg=>?_) (fun hg=>?_)<;>(try rw [hg] at hcc)<;>simp (disch:=try exact DI) only [↓PR,QR,Int.reduceBEq,Int.reduceBNe,Int.reduceLT,Int.reduceLE,Int.reduceGT,Int.reduceGE,Int.reduceNeg,hg,hcY,↓n28c1,↓n28c2,↓n28c3,↓n28c4,↓n28c5,↓n28c6,↓n28c7,↓n28c8,↓n28c9,↓n28c10,↓n28c11,↓n28c12,↓n28c13,↓n28c14,↓n28c15,↓n28c16,↓n28c17,↓n28c18,↓n28c19,↓n28c20,↓n28c21,↓n28c22,↓n28c23,↓n28c24,↓n28c25,↓n28c26,↓n28c27,↓n28c28,↓n28c29,↓n28c30,↓n28c31,↓n28c32])
    | (refine cond_cases (fun hg=>?_) (fun hg=>?_)<;>(try rw [hg] at hcc)<;>simp (disch:=try exact DI) only [↓PR,QR,Int.reduceBEq,Int.reduceBNe,Int.reduceLT,Int.reduceLE,Int.reduceGT,Int.reduceGE,Int.reduceNeg,hg,↓n28c1,↓n28c2,↓n28c3,↓n28c4,↓n28c5,↓n28c6,↓n28c7,↓n28c8,↓n28c9,↓n28c10,↓n28c11,↓n28c12,↓n28c13,↓n28c14,↓n28c15,↓n28c16,↓n28c17,↓n28c18,↓n28c19,↓n28c20,↓n28c21,↓n28c22,↓n28c23,↓n28c24,↓n28c25,↓n28c26,↓n28c27,↓n28c28,↓n28c29,↓n28c30,↓n28c31,↓n28c32])
 · have hcc:checkC (m.fields.take i) D S f=orC (withinC 3 1 [f.check]) (needC ((m.fields.take i).any fun o=>decide (o.name=f.fr)) 8):=by unfold checkC;rw [hk];rfl
   rw [within1] at hcc
   refine cond_cases (fun h=>⟨_,rfl,by rw [hcc,if_pos (by simpa using h)];rfl,EY⟩) (fun h=>?_)
   rw [if_neg (by simpa using h)] at hcc
   simp (disch:=try exact DI) only [↓PR,QR,Int.reduceBEq,Int.reduceBNe,Int.reduceLT,Int.reduceLE,Int.reduceGT,Int.reduceGE,Int.reduceNeg,hBX.c2 eY,hcY,↓n28c1,↓n28c2,↓n28c3,↓n28c4,↓n28c5,↓n28c6,↓n28c7,↓n28c8,↓n28c9,↓n28c10,↓n28c11,↓n28c12,↓n28c13,↓n28c14,↓n28c15,↓n28c16,↓n28c17,↓n28c18,↓n28c19,↓n28c20,↓n28c21,↓n28c22,↓n28c23,↓n28c24,↓n28c25,↓n28c26,↓n28c27,↓n28c28,↓n28c29,↓n28c30,↓n28c31,↓n28c32]
   refine zcr (rField_ret _ _ m f.fr i (hmv _ (Ext.refl Y)) (Nat.le_of_lt hil)) fun w1 e1=>?_
   have hdi:=idx_some (p:=fun m:FieldD=>decide (m.name=f.fr)) (l:=m.fields.take i)
   cases hs:(m.fields.take i).any (fun m=>decide (m.name=f.fr))<;>rw [hs] at hdi hcc<;>simp (disch:=try exact DI) only [↓PR,QR,Int.reduceBEq,Int.reduceBNe,Int.reduceLT,Int.reduceLE,Int.reduceGT,Int.reduceGE,Int.reduceNeg,hdi,↓n28c1,↓n28c2,↓n28c3,↓n28c4,↓n28c5,↓n28c6,↓n28c7,↓n28c8,↓n28c9,↓n28c10,↓n28c11,↓n28c12,↓n28c13,↓n28c14,↓n28c15,↓n28c16,↓n28c17,↓n28c18,↓n28c19,↓n28c20,↓n28c21,↓n28c22,↓n28c23,↓n28c24,↓n28c25,↓n28c26,↓n28c27,↓n28c28,↓n28c29,↓n28c30,↓n28c31,↓n28c32]<;>exact ⟨by rw [hcc];rfl,EY.trans e1⟩
 · have hcc:checkC (m.fields.take i) D S f=orC (withinC 4294967295 0 [f.key]) (orC (needC (strB (vB (strsOf (d.msgs.take n))) f.of) 8) (sizedC (numR (m.fields.take i)) f)):=by rw [← hSS];unfold checkC;rw [hk];rfl
   rw [within1,strB_vB] at hcc
   refine cond_cases (fun h=>⟨_,rfl,by rw [hcc,if_pos (by simpa using h)];rfl,EY⟩) (fun h=>?_)
   rw [if_neg (by simpa using h)] at hcc
   simp (disch:=try exact DI) only [↓PR,QR,Int.reduceBEq,Int.reduceBNe,Int.reduceLT,Int.reduceLE,Int.reduceGT,Int.reduceGE,Int.reduceNeg,hBW.c3 (eX.trans eY),hcY,↓n28c1,↓n28c2,↓n28c3,↓n28c4,↓n28c5,↓n28c6,↓n28c7,↓n28c8,↓n28c9,↓n28c10,↓n28c11,↓n28c12,↓n28c13,↓n28c14,↓n28c15,↓n28c16,↓n28c17,↓n28c18,↓n28c19,↓n28c20,↓n28c21,↓n28c22,↓n28c23,↓n28c24,↓n28c25,↓n28c26,↓n28c27,↓n28c28,↓n28c29,↓n28c30,↓n28c31,↓n28c32]
   refine zcr (rFind_ret _ _ d f.of n (hdv _ (Ext.refl Y)) (Nat.le_of_lt hnl)) fun w1 e1=>?_
   rcases first_last (keysS (d.msgs.take n)) hN f.of with ⟨h1,h2⟩ | ⟨k,b,h1,_,h3,h4⟩
   · rw [h1]
     rw [h2] at hcc
     simp (disch:=try exact DI) only [↓PR,QR,Int.reduceBEq,Int.reduceBNe,Int.reduceLT,Int.reduceLE,Int.reduceGT,Int.reduceGE,Int.reduceNeg,↓n28c1,↓n28c2,↓n28c3,↓n28c4,↓n28c5,↓n28c6,↓n28c7,↓n28c8,↓n28c9,↓n28c10,↓n28c11,↓n28c12,↓n28c13,↓n28c14,↓n28c15,↓n28c16,↓n28c17,↓n28c18,↓n28c19,↓n28c20,↓n28c21,↓n28c22,↓n28c23,↓n28c24,↓n28c25,↓n28c26,↓n28c27,↓n28c28,↓n28c29,↓n28c30,↓n28c31,↓n28c32]
     exact ⟨by rw [hcc];rfl,EY.trans e1⟩
   · rw [h1]
     rw [h4] at hcc
     have hd0:decide ((k:Int) < 0)=false:=by simp
     simp (disch:=try exact DI) only [↓PR,QR,Int.reduceBEq,Int.reduceBNe,Int.reduceLT,Int.reduceLE,Int.reduceGT,Int.reduceGE,Int.reduceNeg,hd0,hBW.c3 (eX.trans (eY.trans e1)),↓n28c1,↓n28c2,↓n28c3,↓n28c4,↓n28c5,↓n28c6,↓n28c7,↓n28c8,↓n28c9,↓n28c10,↓n28c11,↓n28c12,↓n28c13,↓n28c14,↓n28c15,↓n28c16,↓n28c17,↓n28c18,↓n28c19,↓n28c20,↓n28c21,↓n28c22,↓n28c23,↓n28c24,↓n28c25,↓n28c26,↓n28c27,↓n28c28,↓n28c29,↓n28c30,↓n28c31,↓n28c32]
     refine callK_ret (rStricts_ret _ _ d n (hdv _ e1) (Nat.le_of_lt hnl) hN hR (fun m hm=>(hb m hm).1) hn1) ?_
     rintro _ w2 ⟨hO,e2⟩
     have hq:((strsOf (d.msgs.take n)).map (·.2))[k]?=some b:=by rw [List.getElem?_map,h3];rfl
     obtain ⟨bo,oo,co,rfl,_,_,_,hql,helo⟩:=open1 hO hq
     obtain ⟨cso,_,hAo,rfl⟩:=helo k b hq
     cases b with
     | false =>
      simp (disch:=try exact DI) only [↓PR,QR,Int.reduceBEq,Int.reduceBNe,Int.reduceLT,Int.reduceLE,Int.reduceGT,Int.reduceGE,Int.reduceNeg,hd0,hAo.c1 (Ext.refl _),↓n28c1,↓n28c2,↓n28c3,↓n28c4,↓n28c5,↓n28c6,↓n28c7,↓n28c8,↓n28c9,↓n28c10,↓n28c11,↓n28c12,↓n28c13,↓n28c14,↓n28c15,↓n28c16,↓n28c17,↓n28c18,↓n28c19,↓n28c20,↓n28c21,↓n28c22,↓n28c23,↓n28c24,↓n28c25,↓n28c26,↓n28c27,↓n28c28,↓n28c29,↓n28c30,↓n28c31,↓n28c32]
      exact ⟨by rw [hcc];rfl,EY.trans (e1.trans e2)⟩
     | true =>
      simp (disch:=try exact DI) only [↓PR,QR,Int.reduceBEq,Int.reduceBNe,Int.reduceLT,Int.reduceLE,Int.reduceGT,Int.reduceGE,Int.reduceNeg,hd0,hAo.c1 (Ext.refl _),hBX.c2 (eY.trans (e1.trans e2)),↓n28c1,↓n28c2,↓n28c3,↓n28c4,↓n28c5,↓n28c6,↓n28c7,↓n28c8,↓n28c9,↓n28c10,↓n28c11,↓n28c12,↓n28c13,↓n28c14,↓n28c15,↓n28c16,↓n28c17,↓n28c18,↓n28c19,↓n28c20,↓n28c21,↓n28c22,↓n28c23,↓n28c24,↓n28c25,↓n28c26,↓n28c27,↓n28c28,↓n28c29,↓n28c30,↓n28c31,↓n28c32]
      refine zcr (rsized_ret _ _ m i f (hmv _ (e1.trans e2)) hi hD hft) fun w3 e3=>?_
      exact ⟨_,rfl,by rw [hcc];rfl,EY.trans (e1.trans (e2.trans e3))⟩
end Go.Proofs.YtiajhbbmgglmlaaGreat
namespace Go.Proofs.YtiajhbbmgglmlaaGreat
open Sw
open Go.RowKit (intOf Below)
theorem rfield_ret (w0:World) (v:Value) (d:DefD) (n i:Nat) (m:MsgD) (f:FieldD) (hd:DefVal w0 v d) (hm:d.msgs[n]?=some m) (hi:m.fields[i]?=some f) (hN:DistM (d.msgs.take n)) (hR:RefsIn d.msgs n) (hD:Dist (m.fields.take i)) (hb:calm d) (hn1:n≤1048576)
 (hg:∀ g∈m.fields.take i,numberB g=true → -4611686018427387904≤g.low∧highOf g≤4611686018427387904) :
 Ret Pg 33 #[v,.int .i64 (n:Int),.int .i64 (i:Int)] w0 fun r w'=>r = .int .i64 (examineC (m.fields.take i) (vI (depsOf (d.msgs.take n))) (vB (strsOf (d.msgs.take n))) f)∧Ext w0 w':=by
 obtain ⟨mv,rfl,hM⟩:=hd
 have hM0:=hM
 refine n26s (R:=retR _) ?_;unfold n26
 rw [op_boxA]
 have hBW:=ElemAt.new (w:=w0) (defCells d mv) (24)
 have eW:Ext w0 (w0.alloc (Obj.cells (List.toArray (defCells d mv)) (24))):=(Ext.refl _).alloc _
 generalize (w0.alloc (Obj.cells (List.toArray (defCells d mv)) (24)))=W at hBW eW ⊢
 obtain ⟨bm,om,cm,rfl,_,_,_,hnl,hel⟩:=open1 hM hm
 obtain ⟨csm,_,hAm,hEm⟩:=hel n m hm
 obtain ⟨fv,rfl,hF⟩:=hEm
 have hF0:=hF
 obtain ⟨bf,of,cf,rfl,_,_,_,hil,helf⟩:=open1 hF hi
 obtain ⟨csf,_,hAf,hEf⟩:=helf i f hi
 obtain ⟨tv,cv,rfl,hT,hC,ht1,hc1⟩:=hEf.op
 simp (disch:=try exact DI) only [↓PR,QR,Int.reduceBEq,Int.reduceBNe,Int.reduceLT,Int.reduceLE,Int.reduceGT,Int.reduceGE,Int.reduceNeg,hBW.c3 (Ext.refl W),hAm.c2 eW,hAf.c15 eW]
 have hBX:=ElemAt.new (w:=W) (fieldCells f tv cv) (52)
 have eX:Ext W (W.alloc (Obj.cells (List.toArray (fieldCells f tv cv)) (52))):=(Ext.refl _).alloc _
 generalize (W.alloc (Obj.cells (List.toArray (fieldCells f tv cv)) (52)))=X at hBX eX ⊢
 have EX:Ext w0 X:=eW.trans eX
 unfold examineC
 refine zcr (rName_ret _ _) fun w1 e1=>?_
 have E1:=EX.trans e1
 cases hnm:nameB f.name with
 | false=>simp (disch:=try exact DI) only [↓PR,QR,Int.reduceBEq,Int.reduceBNe,Int.reduceLT,Int.reduceLE,Int.reduceGT,Int.reduceGE,Int.reduceNeg];exact ⟨rfl,E1⟩
 | true =>
 simp (disch:=try exact DI) only [↓PR,QR,Int.reduceBEq,Int.reduceBNe,Int.reduceLT,Int.reduceLE,Int.reduceGT,Int.reduceGE,Int.reduceNeg]
 refine drawK_intro ?_
 simp (disch:=try exact DI) only [↓PR,QR,Int.reduceBEq,Int.reduceBNe,Int.reduceLT,Int.reduceLE,Int.reduceGT,Int.reduceGE,Int.reduceNeg,hBW.c3 (eX.trans e1),hBX.c15 e1,hAm.c2 E1,↓n26c1,↓n26c2,↓n26c3,↓n26c4]
 refine zcr (rField_ret _ _ m f.name i ⟨_,rfl,hF0.ext E1.drew⟩ (Nat.le_of_lt hil)) fun w2 e2=>?_
 have e12:=e1.drew.trans e2
 refine ⟨e2,?_⟩
 have hdi:=idx_neg (p:=fun m:FieldD=>decide (m.name=f.name)) (l:=m.fields.take i)
 cases hs:(m.fields.take i).any (fun m=>decide (m.name=f.name)) with
 | true =>
  rw [hs] at hdi
  simp (disch:=try exact DI) only [↓PR,QR,Int.reduceBEq,Int.reduceBNe,Int.reduceLT,Int.reduceLE,Int.reduceGT,Int.reduceGE,Int.reduceNeg,hdi,↓n26c1,↓n26c2,↓n26c3,↓n26c4]
  exact ⟨rfl,EX.trans e12⟩
 | false =>
 rw [hs] at hdi
 simp (disch:=try exact DI) only [↓PR,QR,Int.reduceBEq,Int.reduceBNe,Int.reduceLT,Int.reduceLE,Int.reduceGT,Int.reduceGE,Int.reduceNeg,hdi,hBX.c15 e12,↓n26c1,↓n26c2,↓n26c3,↓n26c4]
 have hkk:(decide (f.kind < 1)||decide (12 < f.kind))=!decide (1≤f.kind∧f.kind≤12):=by
  rw [Bool.eq_iff_iff];simp only [Bool.or_eq_true,decide_eq_true_eq,Bool.not_eq_true',decide_eq_false_iff_not];omega
 rw [hkk]
 cases hk:decide (1≤f.kind∧f.kind≤12) with
 | false=>simp (disch:=try exact DI) only [↓PR,QR,Int.reduceBEq,Int.reduceBNe,Int.reduceLT,Int.reduceLE,Int.reduceGT,Int.reduceGE,Int.reduceNeg];exact ⟨rfl,EX.trans e12⟩
 | true =>
 have hk':1≤f.kind∧f.kind≤12:=by simpa using hk
 simp (disch:=try exact DI) only [↓PR,QR,Int.reduceBEq,Int.reduceBNe,Int.reduceLT,Int.reduceLE,Int.reduceGT,Int.reduceGE,Int.reduceNeg,hBX.c15 e12]
 refine zcr (rzero_ret _ _ f ⟨_,_,rfl,hT.ext (EX.trans e12),hC.ext (EX.trans e12)⟩ hk') fun w3 e3=>?_
 have e13:=e12.trans e3
 rw [zeroB_clear hk']
 cases hz:decide (clearK f=bareF f) with
 | false=>simp (disch:=try exact DI) only [↓PR,QR,Int.reduceBEq,Int.reduceBNe,Int.reduceLT,Int.reduceLE,Int.reduceGT,Int.reduceGE,Int.reduceNeg,↓n26c1,↓n26c2,↓n26c3,↓n26c4];exact ⟨rfl,EX.trans e13⟩
 | true =>
 simp (disch:=try exact DI) only [↓PR,QR,Int.reduceBEq,Int.reduceBNe,Int.reduceLT,Int.reduceLE,Int.reduceGT,Int.reduceGE,Int.reduceNeg,hBW.c3 (eX.trans e13),↓n26c1,↓n26c2,↓n26c3,↓n26c4]
 refine zcr (rkinds_ret _ _ d n i m f ⟨_,rfl,hM0.ext (EX.trans e13)⟩ hm hi hN hR hD hb hn1 hg hk') fun w4 e4=>?_
 exact ⟨_,rfl,rfl,EX.trans (e13.trans e4)⟩
end Go.Proofs.YtiajhbbmgglmlaaGreat
namespace Go.Proofs.YtiajhbbmgglmlaaGreat
open Sw
open Go.RowKit (intOf Below)
theorem Fine.dist {l:List MsgD} (h:Fine l):DistM l:=by
 refine List.pairwise_iff_getElem.2 fun i j hi hj hij hn=>?_
 have h6:=(next_parts (h.next (List.getElem?_eq_getElem hj))).2.1
 rw [← Option.not_isSome_iff_eq_none,isD] at h6
 exact h6 ⟨l[i],List.mem_of_getElem? (i:=i) (by rw [List.getElem?_take,if_pos hij];exact List.getElem?_eq_getElem hi),hn⟩
theorem next_refs {deps:List (ByteArray×Int)} {strs:List (ByteArray×Bool)} (hds:∀ s,(lastP strs s).isSome=true→(lastP deps s).isSome=true) {m:MsgD} (h:(fieldsP deps strs [] m.fields).2=0):∀ s∈refsL m,(lastP deps s).isSome=true :=
 fun s hs=>(fields_mono (Sub.refl _) (Sub.refl _) hds _ _ h).2 s (mem_refsM hs)
theorem any_isD {l:List MsgD} {s:ByteArray} (h:(lastP (depsOf l) s).isSome=true):(l.any fun m=>decide (m.name=s))=true:=by
 obtain ⟨m,hm,hn⟩:=isD.1 h
 exact List.any_eq_true.2 ⟨m,hm,by simpa using hn⟩
theorem Fine.refsIn {l:List MsgD} {n:Nat} (h:Fine (l.take n)):RefsIn l n:=by
 intro k m hk hm s hs
 have hm':(l.take n)[k]?=some m:=by rw [List.getElem?_take,if_pos hk];exact hm
 obtain ⟨_,_,_,h4,_⟩:=next_parts (h.next hm')
 rw [List.take_take,Nat.min_eq_left (by omega)] at h4
 exact any_isD (next_refs (ds_of _) h4 s hs)
def FineF (deps:List (ByteArray×Int)) (strs:List (ByteArray×Bool)) (l:List FieldD):Prop:=∀ (j:Nat) (f:FieldD),l[j]?=some f→examineC (l.take j) (vI deps) (vB strs) f=0
section
variable {deps:List (ByteArray×Int)} {strs:List (ByteArray×Bool)} {l:List FieldD}
theorem exam_parts {bef:List FieldD} {D S:List (ByteArray×Value)} {f:FieldD} (h:examineC bef D S f=0):(bef.any fun o=>decide (o.name=f.name))=false∧checkC bef D S f=0:=by
 unfold examineC at h
 obtain ⟨_,h⟩:=orC_iff.1 h
 obtain ⟨h2,h⟩:=orC_iff.1 h
 obtain ⟨_,h⟩:=orC_iff.1 h
 obtain ⟨_,h⟩:=orC_iff.1 h
 exact ⟨by simpa using (needC_iff (by decide)).1 h2,h⟩
theorem FineF.dist (h:FineF deps strs l):Dist l:=by
 refine List.pairwise_iff_getElem.2 fun i j hi hj hij hn=>?_
 have h6:=(exam_parts (h j _ (List.getElem?_eq_getElem hj))).1
 rw [List.any_eq_false] at h6
 exact h6 l[i] (List.mem_of_getElem? (i:=i) (by rw [List.getElem?_take,if_pos hij];exact List.getElem?_eq_getElem hi)) (by simpa using hn)
theorem FineF.step {k:Nat} {f:FieldD} (h:FineF deps strs (l.take k)) (hk:l[k]?=some f) (hf:examineC (l.take k) (vI deps) (vB strs) f=0):FineF deps strs (l.take (k+1)):=by
 intro j g hg
 rw [List.getElem?_take] at hg
 split at hg
 · rename_i hj
   rw [List.take_take,Nat.min_eq_left (by omega)]
   by_cases hjk:j=k
   · subst hjk;rw [hk] at hg;injection hg with hg;subst hg;exact hf
   · have:=h j g (by rw [List.getElem?_take,if_pos (by omega)];exact hg)
     rwa [List.take_take,Nat.min_eq_left (by omega)] at this
 · cases hg
theorem pow_bits {n:Int} (h1:1≤n) (h2:n≤32):(2:Int) ^ n.toNat≤4294967296:=by
 have hle:n.toNat≤32:=by omega
 have hq:(2:Nat) ^ n.toNat≤2 ^ 32:=Nat.pow_le_pow_right (by decide) hle
 have hc:(2:Int) ^ n.toNat=((2 ^ n.toNat:Nat):Int):=by simp
 rw [hc]
 have:(2:Nat) ^ 32=4294967296:=rfl
 omega
theorem num_bounds {bef:List FieldD} {D S:List (ByteArray×Value)} {g:FieldD} (h:checkC bef D S g=0) (hn:numberB g=true):0≤g.low∧g.low≤highOf g∧highOf g≤34359738367:=by
 unfold numberB at hn
 simp only [Bool.or_eq_true,beq_iff_eq] at hn
 unfold highOf
 rcases hn with (hk | hk) | hk
 · rw [show checkC bef D S g=orC (needC (bitsB g) 6) (withinC (topF g) 0 [g.low,g.high]) by unfold checkC;rw [hk];rfl] at h
   obtain ⟨h1,h2⟩:=orC_iff.1 h
   have hb:=(needC_iff (by decide)).1 h1
   unfold bitsB at hb
   simp only [Bool.and_eq_true,decide_eq_true_eq] at hb
   have hp:=pow_bits hb.1.1 hb.1.2
   rw [within2] at h2
   unfold topF at h2
   split at h2
   · cases h2
   · rw [hk]
     show 0≤g.low∧g.low≤g.high∧g.high≤34359738367
     omega
 · rw [show checkC bef D S g=orC (needC (bitsB g) 6) (withinC (topF g) 0 [g.low]) by unfold checkC;rw [hk];rfl] at h
   obtain ⟨h1,h2⟩:=orC_iff.1 h
   have hb:=(needC_iff (by decide)).1 h1
   unfold bitsB at hb
   simp only [Bool.and_eq_true,decide_eq_true_eq] at hb
   have hp:=pow_bits hb.1.1 hb.1.2
   rw [within1] at h2
   unfold topF at h2
   split at h2
   · cases h2
   · rw [hk]
     show 0≤g.low∧g.low≤g.low∧g.low≤34359738367
     omega
 · rw [show checkC bef D S g=withinC 34359738367 0 [g.low,g.high] by unfold checkC;rw [hk];rfl,within2] at h
   split at h
   · cases h
   · rw [hk]
     show 0≤g.low∧g.low≤g.high∧g.high≤34359738367
     omega
theorem FineF.bounds (h:FineF deps strs l):∀ g∈l,numberB g=true → -4611686018427387904≤g.low∧highOf g≤4611686018427387904:=by
 intro g hg hn
 obtain ⟨j,hj⟩:=List.getElem?_of_mem hg
 have:=num_bounds (exam_parts (h j g hj)).2 hn
 omega
end
def DRow (w:World) (b:Nat) (L:List Int):Prop:=w.heap[b]?=some (.cells (L.map fun n=>Value.int .i64 n).toArray 3 (0,0))
theorem DRow.ext {w w':World} {b:Nat} {L:List Int} (h:DRow w b L) (e:Ext w w'):DRow w' b L:=e.obj h
theorem DRow.cell {w:World} {b:Nat} {L:List Int} (h:DRow w b L) {k:Nat} {n:Int} (hk:L[k]?=some n):w.cell? ⟨b,k*1,none⟩=some (.int .i64 n):=by
 rw [(cells_of_heap h).1];simp [hk]
theorem DRow.free {w:World} {b:Nat} {L:List Int} (h:DRow w b L) (k:Nat):w.frozen? ⟨b,k,none⟩=false:=(cells_of_heap h).2 k
theorem DRow.set {w:World} {b:Nat} {L:List Int} (h:DRow w b L) (k:Nat) (n:Int):DRow (w.setCell ⟨b,k*1,none⟩ (.int .i64 n)) b (L.set k n):=by
 rw [Nat.mul_one]
 have:=heap_set (o:=k) h (.int .i64 n)
 unfold DRow
 rw [this]
 congr 2
 rw [List.setIfInBounds_toArray,List.map_set]
end Go.Proofs.YtiajhbbmgglmlaaGreat
namespace Go.Proofs.YtiajhbbmgglmlaaGreat
open Sw
open Go.RowKit (intOf Below)
theorem op_makeInts {QP:List PanicEntry→World→Prop} {w:World} {k:Value→World→Prop} (n:Nat) (hn:n≤1048576):opV Pg (Instr.makeSlice 85 (.int .i64 (n:Int)) (.int .i64 (n:Int))) QP w k =
 k (.slice (some ⟨w.heap.size,0,none⟩) n n) (w.alloc (.cells ((List.replicate n (0:Int)).map fun n=>Value.int .i64 n).toArray 3)):=by
 obtain ⟨⟨i,hi,hs,hby,hz⟩,_⟩:=ty3
 have h1:=by3
 rw [opV_ok (run_make_row (P:=Pg) 85 3 i _ Tryz.underlying85 hi hz hs rfl .i64 .i64 n (by rw [hby];exact Nat.le_trans (Nat.mul_le_mul h1 hn) (by decide)) (by omega) w)]
 congr 3
 rw [List.map_replicate,← toList_madeCells_one]
section
variable {w0 W w:World} {d:DefD} {mv:Value} (hBW:ElemAt W w0.heap.size 0 (defCells d mv)) (eW:Ext w0 W) (hM:MsgsOf w0 mv d.msgs)
 include hBW eW hM
theorem rcheck_refs {k N lo bd:Nat} {m:MsgD} {L:List Int} {rv t2:Value} {R:RT} {next2:Value→World→Prop} (hkl:k < d.msgs.length) (hN:DistM (d.msgs.take k)) (hrefs:∀ s∈refsL m,(lastP (depsOf (d.msgs.take k)) s).isSome=true) (e:Ext W w) (hbd:W.heap.size≤bd) (hL:DRow w bd L) (hlen:L.length=N)
 (hLk:∀ (j:Nat) (n:Int),((depsOf (d.msgs.take k)).map (·.2))[j]?=some n→L[j]?=some n∧j < k) (h0:L[k]?=some 0) (hS:OwnS w lo rv (refsL m)) (hlo:bd < lo)
 (hn:∀ w',Ext W w'→DRow w' bd (L.set k (depthM (depsOf (d.msgs.take k)) m))→n16c6 t2 (.int .i64 (k:Int)) (.slice (some ⟨bd,0,none⟩) N N) next2 R w') :
 loop1 (fun t10 w next5=>n16c7 (.pointer (some ⟨w0.heap.size,0,none⟩)) t2 (.int .i64 (k:Int)) t10 (.slice (some ⟨bd,0,none⟩) N N) rv next2 next5 R w) (.int .i64 0) w:=by
 have hkN:k < N:=by rw [← hlen];exact (List.getElem?_eq_some_iff.1 h0).1
 refine loop1_intro (fun a w'=>∃ j:Nat,a = .int .i64 j∧j≤(refsL m).length∧Ext W w'∧DRow w' bd (L.set k (((refsL m).take j).foldl (fun d' s=>maxI d' ((lastP (depsOf (d.msgs.take k)) s).getD 0)) 0))∧OwnS w' lo rv (refsL m)) (fun b _=>(refsL m).length - (intOf b).toNat) ⟨0,rfl,by omega,e,by
  have:L.set k (((refsL m).take 0).foldl (fun d' s=>maxI d' ((lastP (depsOf (d.msgs.take k)) s).getD 0)) 0)=L:=by
   refine List.ext_getElem? fun j=>?_
   rw [List.getElem?_set]
   split
   · rename_i h;subst h;rw [h0];simp [hlen,hkN]
   · rfl
  rw [this];exact hL,hS⟩ ?_
 rintro _ w1 ⟨j,rfl,hj,e1,hL1,hS1⟩
 have hSl:=hS1.slice (E:=EStr) (fun _=>rfl) (fun _ _=>rfl)
 obtain ⟨Ar,cr,rfl,hlr,hcr,hlmr,helr⟩:=SliceOf.open hSl
 have E1:=eW.trans e1
 unfold n16c7
 rcases drop_cases hj with ⟨s,hx,hdr,hlt,hdec⟩ | ⟨hj,hdr,hdec⟩
 · obtain ⟨bs,os,css,rfl,_,hAs,rfl⟩:=helr j s hx
   have hstep:((refsL m).take (j+1)).foldl (fun d' s=>maxI d' ((lastP (depsOf (d.msgs.take k)) s).getD 0)) 0=maxI (((refsL m).take j).foldl (fun d' s=>maxI d' ((lastP (depsOf (d.msgs.take k)) s).getD 0)) 0) ((lastP (depsOf (d.msgs.take k)) s).getD 0):=by rw [take_snoc hx,List.foldl_append];rfl
   generalize (((refsL m).take j).foldl (fun d' s=>maxI d' ((lastP (depsOf (d.msgs.take k)) s).getD 0)) 0)=c at hL1 hstep
   have hck:(L.set k c)[k]?=some c:=by rw [List.getElem?_set,if_pos rfl,if_pos (by omega)]
   simp (disch:=try exact DI) only [↓PR,QR,Int.reduceBEq,Int.reduceBNe,Int.reduceLT,Int.reduceLE,Int.reduceGT,Int.reduceGE,Int.reduceNeg,hdec]
   refine drawK_intro ?_
   unfold n16c4
   simp (disch:=try exact DI) only [↓PR,QR,Int.reduceBEq,Int.reduceBNe,Int.reduceLT,Int.reduceLE,Int.reduceGT,Int.reduceGE,Int.reduceNeg,hL1.cell hck,hBW.c3 e1,hAs.c1 (Ext.refl w1)]
   refine zcr (rFind_ret _ _ d s k ⟨_,rfl,hM.ext E1.drew⟩ (Nat.le_of_lt hkl)) fun w2 e2=>?_
   have e12:Ext w1 w2:=(Ext.refl w1).drew.trans e2
   refine narrowK_same e2 ?_
   unfold n16c3
   rcases first_last (keysD (d.msgs.take k)) hN s with ⟨_,h2⟩ | ⟨q,b,h1,_,h3,h4⟩
   · have:=hrefs s (List.mem_of_getElem? hx)
     rw [h2] at this
     cases this
   · obtain ⟨hLq,hqk⟩:=hLk q b (by rw [List.getElem?_map,h3];rfl)
     have hcq:(L.set k c)[q]?=some b:=by rw [List.getElem?_set,if_neg (by omega)];exact hLq
     rw [h1]
     have hq2:q < N:=by omega
     have hL2:=hL1.ext e12
     simp (disch:=try exact DI) only [↓PR,QR,Int.reduceBEq,Int.reduceBNe,Int.reduceLT,Int.reduceLE,Int.reduceGT,Int.reduceGE,Int.reduceNeg,hL1.cell hcq,hL2.cell hck,hL2.free]
     refine turnK_intro ?_
     simp (disch:=try exact DI) only [↓PR,QR,Int.reduceBEq,Int.reduceBNe,Int.reduceLT,Int.reduceLE,Int.reduceGT,Int.reduceGE,Int.reduceNeg]
     refine ⟨⟨j+1,rfl,hlt,(e1.trans e12).setCell hbd _,?_,((hS1.ext e12).range.only (Only.setCell w2 bd _ _) (.inr (.inl hlo))).1⟩,meas_lt hlt⟩
     rw [hstep,h4]
     have:=hL2.set k (if b > c then b else c)
     rw [List.set_set] at this
     exact this
 · subst hj
   rw [List.take_length] at hL1
   simp (disch:=try exact DI) only [↓PR,QR,Int.reduceBEq,Int.reduceBNe,Int.reduceLT,Int.reduceLE,Int.reduceGT,Int.reduceGE,Int.reduceNeg,hdec]
   exact hn w1 e1 hL1
end
end Go.Proofs.YtiajhbbmgglmlaaGreat
namespace Go.Proofs.YtiajhbbmgglmlaaGreat
open Sw
open Go.RowKit (intOf Below)
theorem flaw_out {w0 w:World} {bt:Nat} {x0 x1 x2:Value} {QP QP':List PanicEntry→World→Prop} {k:Value→World→Prop} (e:Ext w0 w) (hb:w0.heap.size≤bt) (h:w.heap[bt]?=some (.cells #[x0,x1,x2] 39 (0,0))) (a f c:Int) (hk:∀ w',Ext w0 w'→k (flawVal a f c) w') :
 opV Pg (Instr.build 39 #[(0,.int .i64 a),(1,.int .i64 f),(2,.int .i64 c)]) QP w fun t w=>opU Pg (Instr.storeAt 39 (.pointer (some ⟨bt,0,none⟩)) t) QP' w fun w=>qW Pg 39 (.pointer (some ⟨bt,0,none⟩)) w fun r0=>k r0 w:=by
 simp (disch:=try exact DI) only [↓PR,QR,Int.reduceBEq,Int.reduceBNe,Int.reduceLT,Int.reduceLE,Int.reduceGT,Int.reduceGE,Int.reduceNeg,(cells_of_heap h).1,(cells_of_heap h).2]
 exact hk _ (((e.setCell hb _).setCell hb _).setCell hb _)
theorem flaw_tup {d:DefD} {a f c:Int} (h:checkP d=(a,f,c)) (h0:c≠0):Value.tuple #[flawVal a f c,.bool true] = .tuple #[flawOf (checkP d),.bool (flawedB d)]:=by
 unfold flawedB flawOf
 rw [h]
 simp [h0]
theorem msgs_split {l:List MsgD} {k:Nat} (h:Fine (l.take k)) (hk:k≤l.length):msgsP [] [] 0 l=msgsP (depsOf (l.take k)) (strsOf (l.take k)) k (l.drop k):=by
 have:=(msgs_append (l.drop k) (l.take k) [] [] 0).1 h
 rw [List.take_append_drop] at this
 rw [this,List.length_take,Nat.min_eq_left hk,Nat.zero_add]
 rfl
theorem Fine.step {l:List MsgD} {k:Nat} {m:MsgD} (h:Fine (l.take k)) (hm:l[k]?=some m) (h0:(nextP (depsOf (l.take k)) (strsOf (l.take k)) m).2=0):Fine (l.take (k+1)):=by
 rw [take_snoc hm]
 unfold Fine
 rw [(msgs_append [m] (l.take k) [] [] 0).1 h]
 show (msgsP (depsOf (l.take k)) (strsOf (l.take k)) _ [m]).2.2=0
 rw [msgs_cons0 h0]
 rfl
theorem check_bad {d:DefD} {k:Nat} {m:MsgD} {a c:Int} (h1:nameB d.name=true) (h2:1≤d.msgs.length∧d.msgs.length≤60) (h:Fine (d.msgs.take k)) (hm:d.msgs[k]?=some m) (hn:nextP (depsOf (d.msgs.take k)) (strsOf (d.msgs.take k)) m=(a,c)) (h0:c≠0):checkP d=((k:Int),a,c):=by
 have hk:=(List.getElem?_eq_some_iff.1 hm).1
 unfold checkP
 rw [if_pos h1,if_pos h2,msgs_split h (Nat.le_of_lt hk),List.drop_eq_getElem_cons hk,msgs_cons1 (by rw [(List.getElem?_eq_some_iff.1 hm).2,hn];exact h0),(List.getElem?_eq_some_iff.1 hm).2,hn]
 unfold endP
 rw [if_neg h0]
def depL (l:List MsgD) (k:Nat):List Int:=(depsOf (l.take k)).map (·.2)++List.replicate (l.length - k) 0
theorem depD_len (l:List MsgD) {k:Nat} (hk:k≤l.length):((depsOf (l.take k)).map (·.2)).length=k:=by
 have:=congrArg List.length (keysD (l.take k))
 simp only [List.length_map,List.length_take] at this ⊢
 omega
theorem depL_len (l:List MsgD) {k:Nat} (hk:k≤l.length):(depL l k).length=l.length:=by
 unfold depL
 rw [List.length_append,depD_len l hk,List.length_replicate];omega
theorem depL_zero (l:List MsgD) {k:Nat} (hk:k < l.length):(depL l k)[k]?=some 0:=by
 unfold depL
 rw [List.getElem?_append_right (by rw [depD_len l (by omega)];omega),depD_len l (by omega),List.getElem?_replicate,if_pos (by omega)]
theorem depL_old (l:List MsgD) {k:Nat} (hk:k < l.length) (j:Nat) (n:Int) (h:((depsOf (l.take k)).map (·.2))[j]?=some n):(depL l k)[j]?=some n∧j < k:=by
 have hj:=(List.getElem?_eq_some_iff.1 h).1
 rw [depD_len l (by omega)] at hj
 unfold depL
 rw [List.getElem?_append_left (by rw [depD_len l (by omega)];exact hj)]
 exact ⟨h,hj⟩
theorem depL_step {l:List MsgD} {k:Nat} {m:MsgD} (hm:l[k]?=some m):(depL l k).set k (depthM (depsOf (l.take k)) m+1)=depL l (k+1):=by
 have hk:=(List.getElem?_eq_some_iff.1 hm).1
 unfold depL
 rw [List.set_append_right _ _ (by rw [depD_len l (by omega)];omega),depD_len l (by omega),Nat.sub_self,take_snoc hm,deps_snoc,List.map_append,List.append_assoc]
 congr 1
 rw [show l.length - k=(l.length - (k+1))+1 by omega,List.replicate_succ]
 rfl
theorem field_split {deps:List (ByteArray×Int)} {strs:List (ByteArray×Bool)}:∀ (l:List FieldD) (bef:List FieldD) (k:Nat),(∀ (j:Nat) (f:FieldD),j < k→l[j]?=some f→examineC (bef++l.take j) (vI deps) (vB strs) f=0)→fieldsP deps strs (bef++l.take k) (l.drop k)=fieldsP deps strs bef l
 | [],bef,k,_=>by simp
 | f::l,bef,0,_=>by simp
 | f::l,bef,k+1,h=>by
  have h0:=h 0 f (by omega) rfl
  rw [List.take_zero,List.append_nil] at h0
  have ih:=field_split l (bef++[f]) k fun j g hj hg=>by
   have:=h (j+1) g (by omega) (by simpa using hg)
   rw [List.take_succ_cons] at this
   rw [List.append_assoc];exact this
  rw [List.take_succ_cons,List.drop_succ_cons,fieldsP,if_pos h0,← ih,List.append_assoc]
  rfl
theorem FineF.fields {deps:List (ByteArray×Int)} {strs:List (ByteArray×Bool)} {l:List FieldD} {k:Nat} (h:FineF deps strs (l.take k)):fieldsP deps strs (l.take k) (l.drop k)=fieldsP deps strs [] l:=by
 have:=field_split (deps:=deps) (strs:=strs) l [] k fun j f hj hf=>by
  have:=h j f (by rw [List.getElem?_take,if_pos hj];exact hf)
  rwa [List.take_take,Nat.min_eq_left (by omega)] at this
 simpa using this
end Go.Proofs.YtiajhbbmgglmlaaGreat
namespace Go.Proofs.YtiajhbbmgglmlaaGreat
open Sw
open Go.RowKit (intOf Below)
theorem rCheck_ret (w0:World) (v:Value) (d:DefD) (hd:DefVal w0 v d) (hb:calm d):Ret Pg 14 #[v] w0 fun r w'=>r = .tuple #[flawOf (checkP d),.bool (flawedB d)]∧Ext w0 w':=by
 obtain ⟨mv,rfl,hM⟩:=hd
 have hM0:=hM
 refine n16s (R:=retR _) ?_;unfold n16
 rw [op_boxA]
 have hBW:=ElemAt.new (w:=w0) (defCells d mv) (24)
 have eW:Ext w0 (w0.alloc (Obj.cells (List.toArray (defCells d mv)) (24))):=(Ext.refl _).alloc _
 generalize (w0.alloc (Obj.cells (List.toArray (defCells d mv)) (24)))=W at hBW eW ⊢
 obtain ⟨A,cm,rfl,hlc,hcm,hlm,hel⟩:=SliceOf.open hM
 have sB:w0.heap.size < W.heap.size:=World.block_lt_of_cell? W ⟨w0.heap.size,0,none⟩ (hBW.c3 (Ext.refl W)).1
 simp (disch:=try exact DI) only [↓PR,QR,Int.reduceBEq,Int.reduceBNe,Int.reduceLT,Int.reduceLE,Int.reduceGT,Int.reduceGE,Int.reduceNeg,hBW.c3 (Ext.refl W)]
 have oV:=heap_new W #[.int .i64 0,.int .i64 0,.int .i64 0] 39
 have eV:Ext W (W.alloc (.cells #[.int .i64 0,.int .i64 0,.int .i64 0] 39)):=(Ext.refl W).alloc _
 have sV:(W.alloc (.cells #[.int .i64 0,.int .i64 0,.int .i64 0] 39)).heap.size=W.heap.size+1:=World.size_alloc _ _
 generalize W.alloc (.cells #[.int .i64 0,.int .i64 0,.int .i64 0] 39)=V at oV eV sV ⊢
 have EV:Ext w0 V:=eW.trans eV
 have sW:=eW.size
 refine zcr (rName_ret _ _) fun w1 e1=>?_
 have E1:=EV.trans e1
 cases hnm:nameB d.name with
 | false =>
  have hc:checkP d=(-1,-1,1):=by unfold checkP;rw [hnm];rfl
  simp (disch:=try exact DI) only [↓PR,QR,Int.reduceBEq,Int.reduceBNe,Int.reduceLT,Int.reduceLE,Int.reduceGT,Int.reduceGE,Int.reduceNeg]
  unfold n16c23
  exact flaw_out E1 sW (e1.obj oV) _ _ _ fun w' e'=>⟨_,rfl,flaw_tup hc (by decide),e'⟩
 | true =>
 simp (disch:=try exact DI) only [↓PR,QR,Int.reduceBEq,Int.reduceBNe,Int.reduceLT,Int.reduceLE,Int.reduceGT,Int.reduceGE,Int.reduceNeg,hBW.c3 (eV.trans e1),n16c24]
 have hlen:(decide ((d.msgs.length:Int) < 1)||decide (60 < (d.msgs.length:Int)))=!decide (1≤d.msgs.length∧d.msgs.length≤60):=by
  rw [Bool.eq_iff_iff];simp only [Bool.or_eq_true,decide_eq_true_eq,Bool.not_eq_true',decide_eq_false_iff_not];omega
 rw [hlen]
 by_cases hl:1≤d.msgs.length∧d.msgs.length≤60
 case neg =>
  have hc:checkP d=(-1,-1,3):=by unfold checkP;rw [hnm,if_pos rfl,if_neg hl]
  simp (disch:=try exact DI) only [↓PR,QR,Int.reduceBEq,Int.reduceBNe,Int.reduceLT,Int.reduceLE,Int.reduceGT,Int.reduceGE,Int.reduceNeg,show decide (1≤d.msgs.length∧d.msgs.length≤60)=false by simpa using hl]
  unfold n16c21
  exact flaw_out E1 sW (e1.obj oV) _ _ _ fun w' e'=>⟨_,rfl,flaw_tup hc (by decide),e'⟩
 case pos =>
 simp (disch:=try exact DI) only [↓PR,QR,Int.reduceBEq,Int.reduceBNe,Int.reduceLT,Int.reduceLE,Int.reduceGT,Int.reduceGE,Int.reduceNeg,show decide (1≤d.msgs.length∧d.msgs.length≤60)=true by simpa using hl]
 unfold n16c22
 simp (disch:=try exact DI) only [↓PR,QR,Int.reduceBEq,Int.reduceBNe,Int.reduceLT,Int.reduceLE,Int.reduceGT,Int.reduceGE,Int.reduceNeg,hBW.c3 (eV.trans e1)]
 rw [op_makeInts _ (by omega)]
 have oD:DRow (w1.alloc (.cells ((List.replicate d.msgs.length (0:Int)).map fun n=>Value.int .i64 n).toArray 3)) w1.heap.size (depL d.msgs 0):=heap_new w1 _ _
 have eD:Ext w1 (w1.alloc (.cells ((List.replicate d.msgs.length (0:Int)).map fun n=>Value.int .i64 n).toArray 3)):=(Ext.refl w1).alloc _
 generalize w1.alloc (.cells ((List.replicate d.msgs.length (0:Int)).map fun n=>Value.int .i64 n).toArray 3)=w2 at oD eD ⊢
 have sw1:=e1.size
 generalize hbd:w1.heap.size=bd at oD sw1 ⊢
 have e2:Ext V w2:=e1.trans eD
 refine loop1_intro (fun a w'=>∃ k:Nat,a = .int .i64 k∧k≤d.msgs.length∧Ext V w'∧DRow w' bd (depL d.msgs k)∧Fine (d.msgs.take k)) (fun b _=>d.msgs.length - (intOf b).toNat) ⟨0,rfl,by omega,e2,oD,rfl⟩ ?_
 rintro _ w ⟨k,rfl,hk,e,hL,hfine⟩
 have E:=EV.trans e
 have hcW:=hBW.c3 (eV.trans e)
 unfold n16c20
 rcases drop_cases hk with ⟨m,hm,hdr,hlt,hdec⟩ | ⟨hk,hdr,hdec⟩
 · obtain ⟨bm,om,csm,rfl,_,hAm,fv,rfl,hF⟩:=hel k m hm
   have hF0:=hF
   obtain ⟨Af,cf,rfl,hlf,hcf,hlmf,helf⟩:=SliceOf.open hF
   have hdist:=hfine.dist
   have hbad:=fun (a c:Int)=>check_bad (d:=d) (k:=k) (m:=m) (a:=a) (c:=c) hnm hl hfine hm
   simp (disch:=try exact DI) only [↓PR,QR,Int.reduceBEq,Int.reduceBNe,Int.reduceLT,Int.reduceLE,Int.reduceGT,Int.reduceGE,Int.reduceNeg,hdec,hcW,hAm.c2 E,n16c19]
   have hBY:=ElemAt.new (w:=w) (msgCells m (.slice Af m.fields.length cf)) (45)
   have eY:Ext w (w.alloc (Obj.cells (List.toArray (msgCells m (.slice Af m.fields.length cf))) (45))):=(Ext.refl _).alloc _
   generalize (w.alloc (Obj.cells (List.toArray (msgCells m (.slice Af m.fields.length cf))) (45)))=Y at hBY eY ⊢
   have eY':Ext V Y:=e.trans eY
   refine zcr (rName_ret _ _) fun w3 e3=>?_
   have f3:Ext V w3:=eY'.trans e3
   cases hmn:nameB m.name with
   | false =>
    have hc:=hbad (-1) 1 (by unfold nextP;rw [hmn];rfl) (by decide)
    simp (disch:=try exact DI) only [↓PR,QR,Int.reduceBEq,Int.reduceBNe,Int.reduceLT,Int.reduceLE,Int.reduceGT,Int.reduceGE,Int.reduceNeg]
    unfold n16c14
    exact flaw_out (EV.trans f3) sW (f3.obj oV) _ _ _ fun w' e'=>⟨_,rfl,flaw_tup hc (by decide),e'⟩
   | true =>
   simp (disch:=try exact DI) only [↓PR,QR,Int.reduceBEq,Int.reduceBNe,Int.reduceLT,Int.reduceLE,Int.reduceGT,Int.reduceGE,Int.reduceNeg,hBW.c3 (eV.trans f3),hBY.c2 e3,n16c15]
   refine zcr (rFind_ret _ _ d m.name k ⟨_,rfl,hM0.ext (EV.trans f3)⟩ hk) fun w4 e4=>?_
   have f4:=f3.trans e4
   have hdi:=idx_neg (p:=fun x:MsgD=>decide (x.name=m.name)) (l:=d.msgs.take k)
   rw [← anyD _ hdist] at hdi
   cases hls:(lastP (depsOf (d.msgs.take k)) m.name).isSome with
   | true =>
    rw [hls] at hdi
    have hc:=hbad (-1) 2 (by unfold nextP;rw [hmn,hls];rfl) (by decide)
    simp (disch:=try exact DI) only [↓PR,QR,Int.reduceBEq,Int.reduceBNe,Int.reduceLT,Int.reduceLE,Int.reduceGT,Int.reduceGE,Int.reduceNeg,hdi]
    unfold n16c12
    exact flaw_out (EV.trans f4) sW (f4.obj oV) _ _ _ fun w' e'=>⟨_,rfl,flaw_tup hc (by decide),e'⟩
   | false =>
   rw [hls] at hdi
   have hcY4:=hBY.c2 (e3.trans e4)
   simp (disch:=try exact DI) only [↓PR,QR,Int.reduceBEq,Int.reduceBNe,Int.reduceLT,Int.reduceLE,Int.reduceGT,Int.reduceGE,Int.reduceNeg,hdi,hcY4,↓n16c1,↓n16c2,↓n16c3,↓n16c4,↓n16c5,↓n16c6,↓n16c7,↓n16c8,↓n16c9,↓n16c10,↓n16c11,↓n16c12,↓n16c13,↓n16c14,↓n16c15,↓n16c16,↓n16c17,↓n16c18,↓n16c19,↓n16c20,↓n16c21,↓n16c22,↓n16c23,↓n16c24]
   have hlen2:(decide ((m.fields.length:Int) < 1)||decide (40 < (m.fields.length:Int)))=!decide (1≤m.fields.length∧m.fields.length≤40):=by
    rw [Bool.eq_iff_iff];simp only [Bool.or_eq_true,decide_eq_true_eq,Bool.not_eq_true',decide_eq_false_iff_not];omega
   rw [hlen2]
   by_cases hl2:1≤m.fields.length∧m.fields.length≤40
   case neg =>
    have hc:=hbad (-1) 3 (by unfold nextP;rw [hmn,hls,if_pos rfl,if_neg (by simp),if_neg hl2]) (by decide)
    rw [show decide (1≤m.fields.length∧m.fields.length≤40)=false by simpa using hl2]
    exact flaw_out (EV.trans f4) sW (f4.obj oV) _ _ _ fun w' e'=>⟨_,rfl,flaw_tup hc (by decide),e'⟩
   case pos =>
   have hnx:nextP (depsOf (d.msgs.take k)) (strsOf (d.msgs.take k)) m=tailP (depsOf (d.msgs.take k)) m (fieldsP (depsOf (d.msgs.take k)) (strsOf (d.msgs.take k)) [] m.fields):=by
    unfold nextP;rw [hmn,hls,if_pos rfl,if_neg (by simp),if_pos hl2]
   rw [show decide (1≤m.fields.length∧m.fields.length≤40)=true by simpa using hl2]
   simp (disch:=try exact DI) only [↓PR,QR,Int.reduceBEq,Int.reduceBNe,Int.reduceLT,Int.reduceLE,Int.reduceGT,Int.reduceGE,Int.reduceNeg]
   refine loop1_intro (fun a w'=>∃ i:Nat,a = .int .i64 i∧i≤m.fields.length∧Ext w4 w'∧FineF (depsOf (d.msgs.take k)) (strsOf (d.msgs.take k)) (m.fields.take i)) (fun b _=>m.fields.length - (intOf b).toNat) ⟨0,rfl,by omega,Ext.refl _,by intro j f h;simp at h⟩ ?_
   rintro _ w5 ⟨i,rfl,hi,e5,hff⟩
   have f5:=f4.trans e5
   have hsp:=hff.fields
   unfold n16c9
   rcases drop_cases hi with ⟨f,hx,hdf,hltf,hdecf⟩ | ⟨hi,hdf,hdecf⟩
   · rw [hdf,fieldsP] at hsp
     simp (disch:=try exact DI) only [↓PR,QR,Int.reduceBEq,Int.reduceBNe,Int.reduceLT,Int.reduceLE,Int.reduceGT,Int.reduceGE,Int.reduceNeg,hdecf,hBY.c2 (e3.trans (e4.trans e5)),hBW.c3 (eV.trans f5)]
     refine zcr (rfield_ret _ _ d k i m f ⟨_,rfl,hM0.ext (EV.trans f5)⟩ hm hx hdist hfine.refsIn hff.dist hb (by omega) hff.bounds) fun w6 e6=>?_
     have f6:=f5.trans e6
     by_cases h0:examineC (m.fields.take i) (vI (depsOf (d.msgs.take k))) (vB (strsOf (d.msgs.take k))) f=0
     · simp (disch:=try exact DI) only [↓PR,QR,Int.reduceBEq,Int.reduceBNe,Int.reduceLT,Int.reduceLE,Int.reduceGT,Int.reduceGE,Int.reduceNeg,h0,n16c2,show ((0:Int) != 0)=false from rfl]
       exact ⟨⟨i+1,rfl,hltf,e5.trans e6,hff.step hx h0⟩,meas_lt hltf⟩
     · rw [if_neg h0,List.length_take,Nat.min_eq_left (by omega)] at hsp
       have hc:=hbad i _ (by rw [hnx,← hsp];unfold tailP;rw [if_neg h0]) h0
       simp (disch:=try exact DI) only [↓PR,QR,Int.reduceBEq,Int.reduceBNe,Int.reduceLT,Int.reduceLE,Int.reduceGT,Int.reduceGE,Int.reduceNeg,n16c2,show (examineC (m.fields.take i) (vI (depsOf (d.msgs.take k))) (vB (strsOf (d.msgs.take k))) f != 0)=true by simpa using h0]
       unfold n16c1
       exact flaw_out (EV.trans f6) sW (f6.obj oV) _ _ _ fun w' e'=>⟨_,rfl,flaw_tup hc h0,e'⟩
   · subst hi
     rw [hdf,fieldsP] at hsp
     rw [← hsp] at hnx
     have hfd:(fieldsP (depsOf (d.msgs.take k)) (strsOf (d.msgs.take k)) [] m.fields).2=0:=by rw [← hsp]
     simp (disch:=try exact DI) only [↓PR,QR,Int.reduceBEq,Int.reduceBNe,Int.reduceLT,Int.reduceLE,Int.reduceGT,Int.reduceGE,Int.reduceNeg,hdecf,hBY.c2 (e3.trans (e4.trans e5))]
     have hkl:k < d.msgs.length:=(List.getElem?_eq_some_iff.1 hm).1
     have hlow:=hfine.low k
     rw [List.take_take,Nat.min_self] at hlow
     have hdm:=foldl_maxI (fun s=>(lastP (depsOf (d.msgs.take k)) s).getD 0) (refsM m) 0 (by decide) (fun s _=>hlow.get s) (by decide)
     have hlo5:bd < w5.heap.size:=by
      have:=(Array.getElem?_eq_some_iff.1 hL).1
      have h1:=eY.size
      have h2:=e3.size
      have h3:=e4.size
      have h4:=e5.size
      omega
     unfold n16c8
     simp (disch:=try exact DI) only [↓PR,QR,Int.reduceBEq,Int.reduceBNe,Int.reduceLT,Int.reduceLE,Int.reduceGT,Int.reduceGE,Int.reduceNeg,hBY.c2 (e3.trans (e4.trans e5))]
     refine callK_ret (rRefers_ret _ _ m ⟨_,rfl,hF0.ext (EV.trans (e.trans (eY.trans (e3.trans (e4.trans e5)))))⟩ (hb m (List.mem_of_getElem? hm)).1) ?_
     rintro rv w6 ⟨hS,e6⟩
     have f6:=f5.trans e6
     have hL6:DRow w6 bd (depL d.msgs k):=((((hL.ext eY).ext e3).ext e4).ext e5).ext e6
     refine rcheck_refs (hBW.ext eV) EV hM0 hkl hdist (next_refs (ds_of _) hfd) f6 (by omega) hL6 (depL_len _ (by omega)) (depL_old _ hkl) (depL_zero _ hkl) hS hlo5 ?_
     intro w7 f7 hL7
     have hdp:0≤depthM (depsOf (d.msgs.take k)) m∧depthM (depsOf (d.msgs.take k)) m≤16:=hdm
     have hst:=depL_step hm
     generalize hDM:depthM (depsOf (d.msgs.take k)) m=dm at hL7 hdp hst
     have hlL:=depL_len d.msgs (k:=k) (by omega)
     have hc7:=hL7.cell (k:=k) (n:=dm) (by rw [List.getElem?_set,if_pos rfl,if_pos (by omega)])
     have hL8:=hL7.set k (dm+1)
     rw [List.set_set,hst] at hL8
     unfold n16c6
     simp (disch:=try exact DI) only [↓PR,QR,Int.reduceBEq,Int.reduceBNe,Int.reduceLT,Int.reduceLE,Int.reduceGT,Int.reduceGE,Int.reduceNeg,hc7,hL7.free,show IntKind.i64.wrap (dm+1)=dm+1 from wrap_ok (by omega) (by omega)]
     have f8:Ext V (w7.setCell ⟨bd,k*1,none⟩ (.int .i64 (dm+1))):=f7.setCell (by omega) _
     have htl:nextP (depsOf (d.msgs.take k)) (strsOf (d.msgs.take k)) m=if dm < 16 then (-1,0) else (-1,10):=by rw [hnx];unfold tailP;rw [if_pos rfl,hDM]
     by_cases h16:dm < 16
     · rw [if_pos h16] at htl
       simp (disch:=try exact DI) only [↓PR,QR,Int.reduceBEq,Int.reduceBNe,Int.reduceLT,Int.reduceLE,Int.reduceGT,Int.reduceGE,Int.reduceNeg,show decide (16 < dm+1)=false by simp only [decide_eq_false_iff_not];omega]
       rw [wrap_ok (by omega) (by omega)]
       exact ⟨⟨k+1,rfl,hlt,f8,hL8,hfine.step hm (by rw [htl])⟩,meas_lt hlt⟩
     · rw [if_neg h16] at htl
       have hc:=hbad _ _ htl (by decide)
       simp (disch:=try exact DI) only [↓PR,QR,Int.reduceBEq,Int.reduceBNe,Int.reduceLT,Int.reduceLE,Int.reduceGT,Int.reduceGE,Int.reduceNeg,show decide (16 < dm+1)=true by simp only [decide_eq_true_eq];omega]
       rw [wrap_ok (by omega) (by omega)]
       unfold n16c5
       exact flaw_out (EV.trans f8) sW (f8.obj oV) _ _ _ fun w' e'=>⟨_,rfl,flaw_tup hc (by decide),e'⟩
 · subst hk
   rw [List.take_length] at hfine
   have hmp:msgsP [] [] 0 d.msgs=(0,0,0):=by
    have:=msgs_split (l:=d.msgs) (k:=d.msgs.length) (by rw [List.take_length];exact hfine) (Nat.le_refl _)
    rw [this,List.drop_length];rfl
   have hcp:checkP d=if (lastP (depsOf d.msgs) d.start).isSome then (0,0,0) else (-1,-1,11):=by
    unfold checkP;rw [if_pos hnm,if_pos hl,hmp];rfl
   simp (disch:=try exact DI) only [↓PR,QR,Int.reduceBEq,Int.reduceBNe,Int.reduceLT,Int.reduceLE,Int.reduceGT,Int.reduceGE,Int.reduceNeg,hdec,hcW,n16c18]
   refine zcr (rFind_ret _ _ d d.start d.msgs.length ⟨_,rfl,hM0.ext E⟩ (Nat.le_refl _)) fun w3 e3=>?_
   have f3:=e.trans e3
   have hdi:=idx_some (p:=fun x:MsgD=>decide (x.name=d.start)) (l:=d.msgs.take d.msgs.length)
   rw [← anyD _ (by rw [List.take_length];exact hfine.dist)] at hdi
   rw [List.take_length] at hdi
   cases hls:(lastP (depsOf d.msgs) d.start).isSome with
   | false =>
    rw [hls] at hdi hcp
    simp (disch:=try exact DI) only [↓PR,QR,Int.reduceBEq,Int.reduceBNe,Int.reduceLT,Int.reduceLE,Int.reduceGT,Int.reduceGE,Int.reduceNeg,hdi,List.take_length]
    unfold n16c16
    exact flaw_out (EV.trans f3) sW (f3.obj oV) _ _ _ fun w' e'=>⟨_,rfl,flaw_tup hcp (by decide),e'⟩
   | true =>
    rw [hls] at hdi hcp
    simp (disch:=try exact DI) only [↓PR,QR,Int.reduceBEq,Int.reduceBNe,Int.reduceLT,Int.reduceLE,Int.reduceGT,Int.reduceGE,Int.reduceNeg,hdi,List.take_length,n16c17,(cells_of_heap (f3.obj oV)).1,(cells_of_heap (f3.obj oV)).2]
    rw [if_pos rfl] at hcp
    exact ⟨by unfold flawedB flawOf;rw [hcp];rfl,(((EV.trans f3).setCell sW _).setCell sW _).setCell sW _⟩
end Go.Proofs.YtiajhbbmgglmlaaGreat
namespace Go.Proofs.YtiajhbbmgglmlaaGreat
open Sw
open Go.RowKit (intOf Below)
theorem rValid_ret (w0:World) (v:Value) (d:DefD) (hd:DefVal w0 v d) (hb:calm d):Ret Pg 9 #[v] w0 fun r w'=>r = .bool (!flawedB d)∧Ext w0 w':=by
 obtain ⟨mv,rfl,hM⟩:=hd
 have hm1:=SliceOf.oneCell hM
 refine n24s (R:=retR _) ?_;unfold n24
 simp (disch:=try exact DI) only [↓PR,QR,Int.reduceBEq,Int.reduceBNe,Int.reduceLT,Int.reduceLE,Int.reduceGT,Int.reduceGE,Int.reduceNeg]
 refine zcr (rCheck_ret _ _ d ⟨mv,rfl,hM.ext ee⟩ hb) fun w1 e1=>?_
 unfold n24c1
 simp (disch:=try exact DI) only [↓PR,QR,Int.reduceBEq,Int.reduceBNe,Int.reduceLT,Int.reduceLE,Int.reduceGT,Int.reduceGE,Int.reduceNeg]
 exact ⟨by first | trivial | rfl,ee⟩
end Go.Proofs.YtiajhbbmgglmlaaGreat
namespace Go.Proofs.YtiajhbbmgglmlaaGreat
open Sw
open Go.RowKit (intOf Below)
theorem rDepth_ret (d:DefD) (hf:Fine d.msgs) (hb:calm d):∀ (k:Nat) (m:MsgD) (w0:World) (v:Value),d.msgs[k]?=some m→DefVal w0 v d→Ret Pg 10 #[v,.int .i64 (k:Int)] w0 fun r w'=>r = .int .i64 (depthM (depsOf (d.msgs.take k)) m+1)∧Ext w0 w':=by
 intro k
 induction k using Nat.strongRecOn with
 | _ k ih =>
 intro m w0 v hm hd
 obtain ⟨mv,rfl,hM⟩:=hd
 have hfk:=hf.take k
 have hN:=hfk.dist
 have hrefs:=hfk.refsIn
 have hlow:=hf.low k
 have hdm:=foldl_maxI (fun s=>(lastP (depsOf (d.msgs.take k)) s).getD 0) (refsM m) 0 (by decide) (fun s _=>hlow.get s) (by decide)
 have hnx:=(next_parts (hf.next hm)).2.2.2.1
 refine n17s (R:=retR _) ?_;unfold n17
 rw [op_boxA]
 have hBW:=ElemAt.new (w:=w0) (defCells d mv) (24)
 have eW:Ext w0 (w0.alloc (Obj.cells (List.toArray (defCells d mv)) (24))):=(Ext.refl _).alloc _
 generalize (w0.alloc (Obj.cells (List.toArray (defCells d mv)) (24)))=W at hBW eW ⊢
 have hM0:=hM
 obtain ⟨bm,om,cm,rfl,_,_,_,hkl,hel⟩:=open1 hM hm
 obtain ⟨csm,_,hAm,fv,rfl,hF⟩:=hel k m hm
 simp (disch:=try exact DI) only [↓PR,QR,Int.reduceBEq,Int.reduceBNe,Int.reduceLT,Int.reduceLE,Int.reduceGT,Int.reduceGE,Int.reduceNeg,hBW.c3 (Ext.refl W),hAm.c2 eW]
 refine callK_ret (rRefers_ret _ _ m ⟨_,rfl,hF.ext eW⟩ (hb m (List.mem_of_getElem? hm)).1) ?_
 rintro rv w1 ⟨hS,e1⟩
 have hSl:=hS.slice (E:=EStr) (fun _=>rfl) (fun _ _=>rfl)
 obtain ⟨Ar,cr,rfl,hlr,hcr,hlmr,helr⟩:=SliceOf.open hSl
 refine loop2_intro (fun a b w'=>∃ j:Nat,a = .int .i64 (((refsL m).take j).foldl (fun d' s=>maxI d' ((lastP (depsOf (d.msgs.take k)) s).getD 0)) 0)∧b = .int .i64 j∧j≤(refsL m).length∧Ext w1 w') (fun _ b _=>(refsL m).length - (intOf b).toNat) ⟨0,rfl,rfl,by omega,Ext.refl _⟩ ?_
 rintro _ _ w ⟨j,rfl,rfl,hj,e⟩
 have E:=eW.trans (e1.trans e)
 unfold n17c3
 rcases drop_cases hj with ⟨s,hx,hdr,hlt,hdec⟩ | ⟨hj,hdr,hdec⟩
 · obtain ⟨bs,os,css,rfl,_,hAs,rfl⟩:=helr j s hx
   have hstep:((refsL m).take (j+1)).foldl (fun d' s=>maxI d' ((lastP (depsOf (d.msgs.take k)) s).getD 0)) 0=maxI (((refsL m).take j).foldl (fun d' s=>maxI d' ((lastP (depsOf (d.msgs.take k)) s).getD 0)) 0) ((lastP (depsOf (d.msgs.take k)) s).getD 0):=by rw [take_snoc hx,List.foldl_append];rfl
   generalize (((refsL m).take j).foldl (fun d' s=>maxI d' ((lastP (depsOf (d.msgs.take k)) s).getD 0)) 0)=c at hstep ⊢
   simp (disch:=try exact DI) only [↓PR,QR,Int.reduceBEq,Int.reduceBNe,Int.reduceLT,Int.reduceLE,Int.reduceGT,Int.reduceGE,Int.reduceNeg,hdec]
   refine drawK_intro ?_
   unfold n17c2
   simp (disch:=try exact DI) only [↓PR,QR,Int.reduceBEq,Int.reduceBNe,Int.reduceLT,Int.reduceLE,Int.reduceGT,Int.reduceGE,Int.reduceNeg,hBW.c3 (e1.trans e),hAs.c1 e]
   refine zcr (rFind_ret _ _ d s k ⟨_,rfl,hM0.ext E.drew⟩ (Nat.le_of_lt hkl)) fun w2 e2=>?_
   have e12:=e.drew.trans e2
   refine ⟨e2,?_⟩
   have hex:=next_refs (ds_of _) hnx s (List.mem_of_getElem? hx)
   rcases first_last (keysD (d.msgs.take k)) hN s with ⟨_,h2⟩ | ⟨q,b,h1,hqk,h3,h4⟩
   · rw [h2] at hex;cases hex
   · rw [List.length_take] at hqk
     obtain ⟨mq,hq⟩:=getElem?_lt (l:=d.msgs) (k:=q) (by omega)
     have hname:mq.name=s:=by
      have:=congrArg (fun l=>l[q]?) (keysD (d.msgs.take k))
      simp only [List.getElem?_map,h3,Option.map_some,List.getElem?_take,if_pos (show q < k by omega),hq] at this
      injection this with this
      exact this.symm
     have hdq:=hfk.depth (k:=q) (m:=mq) (by rw [List.getElem?_take,if_pos (by omega)];exact hq)
     rw [hname,h4,List.take_take,Nat.min_eq_left (by omega)] at hdq
     injection hdq with hdq
     rw [h1]
     unfold n17c1
     refine zcr (ih q (by omega) mq w2 _ hq ⟨_,rfl,hM0.ext (eW.trans (e1.trans e12))⟩) fun w3 e3=>?_
     refine ⟨e2.trans e3,?_⟩
     rw [← hdq]
     simp (disch:=try exact DI) only [↓PR,QR,Int.reduceBEq,Int.reduceBNe,Int.reduceLT,Int.reduceLE,Int.reduceGT,Int.reduceGE,Int.reduceNeg]
     exact ⟨⟨j+1,by rw [hstep,h4];rfl,rfl,hlt,e12.trans e3⟩,meas_lt hlt⟩
 · subst hj
   rw [List.take_length]
   have hdp:0≤depthM (depsOf (d.msgs.take k)) m∧depthM (depsOf (d.msgs.take k)) m≤16:=hdm
   have hdd:(refsL m).foldl (fun d' s=>maxI d' ((lastP (depsOf (d.msgs.take k)) s).getD 0)) 0=depthM (depsOf (d.msgs.take k)) m:=rfl
   rw [hdd]
   simp (disch:=try exact DI) only [↓PR,QR,Int.reduceBEq,Int.reduceBNe,Int.reduceLT,Int.reduceLE,Int.reduceGT,Int.reduceGE,Int.reduceNeg,hdec,show IntKind.i64.wrap (depthM (depsOf (d.msgs.take k)) m+1)=depthM (depsOf (d.msgs.take k)) m+1 from wrap_ok (by omega) (by omega)]
   exact ⟨by trivial,E⟩
end Go.Proofs.YtiajhbbmgglmlaaGreat
namespace Go.Proofs.YtiajhbbmgglmlaaGreat
open Sw
open Go.RowKit (intOf Below)
theorem SchemaDepths_ret (w0:World) (v:Value) (d:DefD) (at_:Int) (hd:DefVal w0 v d) (hsm:DefSm d):Ret Pg 3 #[v,.int .i64 at_] w0 fun r w'=>r = .bool true∧Ext w0 w':=by
 obtain ⟨mv,rfl,hM⟩:=hd
 refine n4s (R:=retR _) ?_;unfold n4
 rw [op_boxA]
 have hBW:=ElemAt.new (w:=w0) (defCells d mv) (24)
 have eW:Ext w0 (w0.alloc (Obj.cells (List.toArray (defCells d mv)) (24))):=(Ext.refl _).alloc _
 generalize (w0.alloc (Obj.cells (List.toArray (defCells d mv)) (24)))=W at hBW eW ⊢
 have hM0:=hM
 obtain ⟨A,cm,rfl,hlc,hcm,hlm,hel⟩:=SliceOf.open hM
 have hbe:∀ b:Bool,(b == b)=true:=fun b=>by cases b<;>rfl
 have hie:∀ n:Int,(n == n)=true:=fun n=>by simp
 simp (disch:=try exact DI) only [↓PR,QR,Int.reduceBEq,Int.reduceBNe,Int.reduceLT,Int.reduceLE,Int.reduceGT,Int.reduceGE,Int.reduceNeg,hBW.c3 (Ext.refl W)]
 refine callK_ret (fits_ret _ _ d ⟨_,rfl,hM0.ext eW⟩ hsm) ?_
 rintro _ w1 ⟨b,rfl,hfit,e1⟩
 have E1:=eW.trans e1
 cases b with
 | false =>
  simp (disch:=try exact DI) only [↓PR,QR,Int.reduceBEq,Int.reduceBNe,Int.reduceLT,Int.reduceLE,Int.reduceGT,Int.reduceGE,Int.reduceNeg,hBW.c3 e1,↓n4c1,↓n4c2,↓n4c3,↓n4c4,↓n4c5,↓n4c6,↓n4c7,↓n4c8,↓n4c9,↓n4c10,↓n4c11,↓n4c12,↓n4c13,↓n4c14,↓n4c15,↓n4c16,↓n4c17,↓n4c18,↓n4c19]
  refine zcr (known_ret _) fun w2 e2=>?_
  exact ⟨_,rfl,rfl,E1.trans e2⟩
 | true =>
 have hfit:=hfit rfl
 have hcalm:=fits_calm hfit
 simp (disch:=try exact DI) only [↓PR,QR,Int.reduceBEq,Int.reduceBNe,Int.reduceLT,Int.reduceLE,Int.reduceGT,Int.reduceGE,Int.reduceNeg,hBW.c3 e1,↓n4c1,↓n4c2,↓n4c3,↓n4c4,↓n4c5,↓n4c6,↓n4c7,↓n4c8,↓n4c9,↓n4c10,↓n4c11,↓n4c12,↓n4c13,↓n4c14,↓n4c15,↓n4c16,↓n4c17,↓n4c18,↓n4c19]
 refine cond_cases (fun h12=>?_) (fun h12=>?_)
 · refine zcr (known_ret _) fun w2 e2=>?_
   exact ⟨_,rfl,rfl,E1.trans e2⟩
 simp only [decide_eq_false_iff_not] at h12
 simp (disch:=try exact DI) only [↓PR,QR,Int.reduceBEq,Int.reduceBNe,Int.reduceLT,Int.reduceLE,Int.reduceGT,Int.reduceGE,Int.reduceNeg,hBW.c3 e1]
 refine zcr (Depth_ret _ d at_ ⟨_,rfl,hM0.ext E1⟩ hcalm) fun w2 e2=>?_
 have e12:=e1.trans e2
 simp (disch:=try exact DI) only [↓PR,QR,Int.reduceBEq,Int.reduceBNe,Int.reduceLT,Int.reduceLE,Int.reduceGT,Int.reduceGE,Int.reduceNeg,hBW.c3 e12,↓n4c1,↓n4c2,↓n4c3,↓n4c4,↓n4c5,↓n4c6,↓n4c7,↓n4c8,↓n4c9,↓n4c10,↓n4c11,↓n4c12,↓n4c13,↓n4c14,↓n4c15,↓n4c16,↓n4c17,↓n4c18,↓n4c19]
 refine zcr (Strict_ret _ d at_ ⟨_,rfl,hM0.ext (eW.trans e12)⟩ hcalm) fun w3 e3=>?_
 have e13:=e12.trans e3
 simp (disch:=try exact DI) only [↓PR,QR,Int.reduceBEq,Int.reduceBNe,Int.reduceLT,Int.reduceLE,Int.reduceGT,Int.reduceGE,Int.reduceNeg,hBW.c3 e13,↓n4c1,↓n4c2,↓n4c3,↓n4c4,↓n4c5,↓n4c6,↓n4c7,↓n4c8,↓n4c9,↓n4c10,↓n4c11,↓n4c12,↓n4c13,↓n4c14,↓n4c15,↓n4c16,↓n4c17,↓n4c18,↓n4c19]
 refine zcr (rValid_ret _ _ d ⟨_,rfl,hM0.ext (eW.trans e13)⟩ hcalm) fun w4 e4=>?_
 have e14:=e13.trans e4
 have E4:=eW.trans e14
 by_cases hf:(checkP d).2.2≠0
 · have h1:depthP d at_=(0,2):=by unfold depthP;rw [if_pos hf]
   have h2:strictP d at_=(false,2):=by unfold strictP;rw [if_pos hf]
   rw [h1,h2]
   simp (disch:=try exact DI) only [↓PR,QR,Int.reduceBEq,Int.reduceBNe,Int.reduceLT,Int.reduceLE,Int.reduceGT,Int.reduceGE,Int.reduceNeg,show decide ((checkP d).2.2≠0)=true from decide_eq_true hf,↓n4c1,↓n4c2,↓n4c3,↓n4c4,↓n4c5,↓n4c6,↓n4c7,↓n4c8,↓n4c9,↓n4c10,↓n4c11,↓n4c12,↓n4c13,↓n4c14,↓n4c15,↓n4c16,↓n4c17,↓n4c18,↓n4c19]
   refine zcr (known_ret _) fun w5 e5=>?_
   simp (disch:=try exact DI) only [↓PR,QR,Int.reduceBEq,Int.reduceBNe,Int.reduceLT,Int.reduceLE,Int.reduceGT,Int.reduceGE,Int.reduceNeg]
   exact ⟨by trivial,E4.trans e5⟩
 have h0:(checkP d).2.2=0:=Decidable.not_not.1 hf
 by_cases hr:at_ < 0∨(d.msgs.length:Int)≤at_
 · have h1:depthP d at_=(0,3):=by unfold depthP;rw [if_neg hf,if_pos hr]
   have h2:strictP d at_=(false,3):=by unfold strictP;rw [if_neg hf,if_pos hr]
   have h3:(decide (at_ < 0)||decide ((d.msgs.length:Int)≤at_))=true:=by simpa using hr
   rw [h1,h2]
   simp (disch:=try exact DI) only [↓PR,QR,Int.reduceBEq,Int.reduceBNe,Int.reduceLT,Int.reduceLE,Int.reduceGT,Int.reduceGE,Int.reduceNeg,show decide ((checkP d).2.2≠0)=false from decide_eq_false hf,h3,hBW.c3 e14,↓n4c1,↓n4c2,↓n4c3,↓n4c4,↓n4c5,↓n4c6,↓n4c7,↓n4c8,↓n4c9,↓n4c10,↓n4c11,↓n4c12,↓n4c13,↓n4c14,↓n4c15,↓n4c16,↓n4c17,↓n4c18,↓n4c19]
   refine zcr (known_ret _) fun w5 e5=>?_
   simp (disch:=try exact DI) only [↓PR,QR,Int.reduceBEq,Int.reduceBNe,Int.reduceLT,Int.reduceLE,Int.reduceGT,Int.reduceGE,Int.reduceNeg]
   exact ⟨by trivial,E4.trans e5⟩
 have h3:(decide (at_ < 0)||decide ((d.msgs.length:Int)≤at_))=false:=by
  rw [Bool.or_eq_false_iff];exact ⟨decide_eq_false (by omega),decide_eq_false (by omega)⟩
 obtain ⟨k,rfl⟩:∃ k:Nat,at_=k:=⟨at_.toNat,by omega⟩
 obtain ⟨m,hm⟩:=getElem?_lt (l:=d.msgs) (k:=k) (by omega)
 obtain ⟨_,_,hfine,_⟩:=check_fine h0
 have hkl:k < d.msgs.length:=by omega
 have hdist:=hfine.dist
 have h1:depthP d (k:Int)=(depthM (depsOf (d.msgs.take k)) m+1,0):=depth_at h0 hm
 have hs:=first_last (keysS d.msgs) hdist m.name
 have hnm:nameAt d (k:Int)=m.name:=by unfold nameAt;rw [Int.toNat_natCast,hm]
 have hget:(strsOf d.msgs)[k]?=some (m.name,(lastP (strsOf d.msgs) m.name).getD false):=by
  rcases hs with ⟨h,_⟩ | ⟨q,b,h,hq,h5,h6⟩
  · have:=idx_neg (p:=fun x:MsgD=>decide (x.name=m.name)) (l:=d.msgs)
    rw [h,show (d.msgs.any fun x=>decide (x.name=m.name))=true from List.any_eq_true.2 ⟨m,List.mem_of_getElem? hm,by simp⟩] at this
    exact absurd this (by decide)
  · have hqk:q=k:=by
     have hqn:=congrArg (fun l=>l[q]?) (keysS d.msgs)
     obtain ⟨x,hx⟩:=getElem?_lt (l:=d.msgs) (k:=q) hq
     simp only [List.getElem?_map,h5,Option.map_some,hx] at hqn
     injection hqn with hqn
     have hpw:=List.pairwise_iff_getElem.1 hdist
     obtain ⟨g1,g2⟩:=List.getElem?_eq_some_iff.1 hx
     obtain ⟨g3,g4⟩:=List.getElem?_eq_some_iff.1 hm
     rcases Nat.lt_trichotomy q k with h | h | h
     · have:=hpw q k g1 g3 h;rw [g2,g4] at this;exact absurd hqn.symm this
     · exact h
     · have:=hpw k q g3 g1 h;rw [g2,g4] at this;exact absurd hqn this
    subst hqk
    rw [h5,h6];rfl
 have h2:strictP d (k:Int)=((lastP (strsOf d.msgs) m.name).getD false,0):=by unfold strictP;rw [if_neg hf,if_neg hr,hnm]
 rw [h1,h2]
 simp (disch:=try exact DI) only [↓PR,QR,Int.reduceBEq,Int.reduceBNe,Int.reduceLT,Int.reduceLE,Int.reduceGT,Int.reduceGE,Int.reduceNeg,show decide ((checkP d).2.2≠0)=false from decide_eq_false hf,h3,hBW.c3 e14,↓n4c1,↓n4c2,↓n4c3,↓n4c4,↓n4c5,↓n4c6,↓n4c7,↓n4c8,↓n4c9,↓n4c10,↓n4c11,↓n4c12,↓n4c13,↓n4c14,↓n4c15,↓n4c16,↓n4c17,↓n4c18,↓n4c19]
 refine zcr (rDepth_ret d hfine hcalm k m _ _ hm ⟨_,rfl,hM0.ext E4⟩) fun w5 e5=>?_
 have e15:=e14.trans e5
 simp (disch:=try exact DI) only [↓PR,QR,Int.reduceBEq,Int.reduceBNe,Int.reduceLT,Int.reduceLE,Int.reduceGT,Int.reduceGE,Int.reduceNeg,hie,hBW.c3 e15,↓n4c1,↓n4c2,↓n4c3,↓n4c4,↓n4c5,↓n4c6,↓n4c7,↓n4c8,↓n4c9,↓n4c10,↓n4c11,↓n4c12,↓n4c13,↓n4c14,↓n4c15,↓n4c16,↓n4c17,↓n4c18,↓n4c19]
 refine callK_ret (rStricts_ret _ _ d d.msgs.length ⟨_,rfl,hM0.ext (eW.trans e15)⟩ (Nat.le_refl _) (by rw [List.take_length];exact hdist) (by have:=(hfine.take d.msgs.length).refsIn (l:=d.msgs);exact this) (fun m hm=>(hcalm m hm).1) (by omega)) ?_
 rintro _ w6 ⟨hO,e6⟩
 have hq:((strsOf (d.msgs.take d.msgs.length)).map (·.2))[k]?=some ((lastP (strsOf d.msgs) m.name).getD false):=by rw [List.take_length,List.getElem?_map,hget];rfl
 obtain ⟨bo,oo,co,rfl,_,_,_,hql,helo⟩:=open1 hO hq
 obtain ⟨cso,_,hAo,rfl⟩:=helo k _ hq
 simp (disch:=try exact DI) only [↓PR,QR,Int.reduceBEq,Int.reduceBNe,Int.reduceLT,Int.reduceLE,Int.reduceGT,Int.reduceGE,Int.reduceNeg,hAo.c1 (Ext.refl _),hbe,hie,↓n4c1,↓n4c2,↓n4c3,↓n4c4,↓n4c5,↓n4c6,↓n4c7,↓n4c8,↓n4c9,↓n4c10,↓n4c11,↓n4c12,↓n4c13,↓n4c14,↓n4c15,↓n4c16,↓n4c17,↓n4c18,↓n4c19]
 refine zcr (known_ret _) fun w7 e7=>?_
 simp (disch:=try exact DI) only [↓PR,QR,Int.reduceBEq,Int.reduceBNe,Int.reduceLT,Int.reduceLE,Int.reduceGT,Int.reduceGE,Int.reduceNeg]
 exact ⟨by trivial,eW.trans (e15.trans (e6.trans e7))⟩
end Go.Proofs.YtiajhbbmgglmlaaGreat
namespace Go.Proofs.YtiajhbbmgglmlaaGreat
open Sw
open Go.ChangeShapes Go.WideShapes Go.RowKit Go.ChangeAt Go.Deep
theorem depths_own:ownKnob Pg.godebug=none:=by kernel_rfl
theorem depths_laidOut:laidOutB Pg=true:=by kernel_rfl
theorem depths_lifted (os:Os) (started:os.Started) (H:Type) (enc:TypeId×Value→H) :
 ReturnsInHanded {} Tryz.checked os 3 .any (Rows.schemaDepthsSpec.pre6 enc Pg Tryz.f3 Rows.schemaDepthsRow.domain false) (Rows.schemaDepthsSpec.post enc Pg Tryz.f3 false true false false):=by
 refine returnsInHanded_of_change_sized (C:=Tryz.checked) depths_own started (by kernel_rfl) Tryz.func3
  (ChangeSpec.witness6 (enc:=enc) (C:=Tryz.checked) false ⟨#[],#[.agg #[.string ByteArray.empty,.slice none 0 0,.string ByteArray.empty],.int .i64 0],[]⟩ 8 (by kernel_rfl) (by kernel_rfl) (by kernel_rfl) (by kernel_rfl)) ?_
 intro W base args ds gs before hval hW _ hsz _
 have hW':=hW
 obtain ⟨p,q,hA0,hV,rfl,_,_⟩:=hW
 have hA:DataW.TrodAll enc Pg W 0 (fun _=>true) true Tryz.f3.params.toList args.toList ds p:=hA0
 rw [Tryz.params3] at hA hval hsz
 obtain ⟨v0,vs0,d0,ds0,p0,q0,ha0,rfl,rfl,h0,r0⟩:=trodAll_cons hA
 obtain ⟨v1,vs1,d1,ds1,p1,q1,ha1,rfl,rfl,h1,r1⟩:=trodAll_cons r0
 obtain ⟨rfl,rfl,rfl⟩:=trodAll_nil r1
 subst ha1
 obtain rfl:args = #[v0,v1]:=by cases args;simp_all
 obtain ⟨f0,hf0,hs0⟩:=def_val (hval 0 _ v0 rfl rfl) h0 (reached_of (j:=0) hsz rfl rfl)
 obtain ⟨n1,rfl,_,_,hw1⟩:=open_int Tryz.underlying3 (hval 1 _ v1 rfl rfl) h1
 refine Calls.mono (SchemaDepths_ret W v0 f0 n1 hf0 hs0) fun e W' ⟨v,he,hv,hx⟩=>?_
 subst he hv
 exact ⟨_,rfl,law_post depths_laidOut (by decide +kernel) rfl hW' hx rfl Tryz.underlying4 rfl rfl rfl⟩
theorem depths_holds:Rows.SchemaDepthsSaid :=
 OpenClaim.holds_of_wide 3 Tryz.f3 rfl rfl rfl rfl rfl rfl rfl ⟨rfl,rfl,rfl,rfl,rfl⟩ rfl rfl rfl rfl rfl (by kernel_rfl) Tryz.func3 (by kernel_rfl)
  (of_decide_eq_true (by kernel_rfl)) (by unfold Func.isWrapper;first | (rw [if_pos (by decide +kernel)];kernel_rfl) | (rw [if_neg (by decide +kernel)];exact ⟨rfl,rfl⟩))
  (fun os started H enc _=>depths_lifted os started H enc)
end Go.Proofs.YtiajhbbmgglmlaaGreat
