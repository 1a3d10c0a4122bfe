/-
  Lemmas for the claim.
-/
import Derived.Test.YtiajhbbmgglmlaaGreatFg3
set_option linter.all false
set_option maxHeartbeats 4000000
set_option maxRecDepth 100000
namespace Go.Proofs.YtiajhbbmgglmlaaGreat
open Sw
def n11c1 (t0 t3 t28 t34:Value) (next3:KV) (R:RT) (w:World):Prop :=
 pickK t28 t34 (.bool false) fun t35 =>
 joinK (fun (t40:Value) (w:World) =>
 pickK t35 t40 (.bool false) fun t41 =>
 condP t41 (
 R (.returned (.bool false)) w) (
 B0 .add 3 true t3 (.int .i64 1) R w fun t23 w =>
 next3 t23 w)) fun K5 =>
 guardP t35 true (
 opV Pg (Instr.index 9 t0 t3) (panK R) w fun t39 w =>
 opV Pg (binS .neq 5 true t39 (.int .u8 95)) (panK R) w fun t40 w =>
 K5 t40 w) (
 K5 undef w)
def n11c2 (t0 t3 t27:Value) (next3:KV) (R:RT) (w:World):Prop :=
 opV Pg (Op.unary .not t27) (panK R) w fun t28 w =>
 joinK (fun (t34:Value) (w:World) =>
 n11c1 t0 t3 t28 t34 next3 R w) fun K4 =>
 guardP t28 true (
 opV Pg (Instr.index 9 t0 t3) (panK R) w fun t32 w =>
 C0 41 #[t32] R w fun t33 w =>
 opV Pg (Op.unary .not t33) (panK R) w fun t34 w =>
 K4 t34 w) (
 K4 undef w)
def n11c3 (t0 t3:Value) (next3:KV) (R:RT) (w:World):Prop :=
 opV Pg (Builtin.len_ #[9] 3 #[t0]) (panK R) w fun t20 w =>
 B0 .lss 3 false t3 t20 R w fun t21 w =>
 condP t21 (
 opV Pg (Instr.index 9 t0 t3) (panK R) w fun t26 w =>
 C0 40 #[t26] R w fun t27 w =>
 n11c2 t0 t3 t27 next3 R w) (
 R (.returned (.bool true)) w)
def n11c4 (t0 t6 t10:Value) (R:RT) (w:World):Prop :=
 pickK t6 (.bool true) t10 fun t11 =>
 joinK (fun (t16:Value) (w:World) =>
 pickK t11 (.bool true) t16 fun t17 =>
 condP t17 (
 R (.returned (.bool false)) w) (
 loop1 (fun t3 w next3 =>
 n11c3 t0 t3 next3 R w) (.int .i64 0) w)) fun K2 =>
 guardP t11 false (
 opV Pg (Instr.index 9 t0 (.int .i64 0)) (panK R) w fun t14 w =>
 C0 40 #[t14] R w fun t15 w =>
 opV Pg (Op.unary .not t15) (panK R) w fun t16 w =>
 K2 t16 w) (
 K2 undef w)
def n11 (t0:Value) (R:RT) (w:World):Prop :=
 opV Pg (Builtin.len_ #[9] 3 #[t0]) (panK R) w fun t5 w =>
 B0 .lss 3 true t5 (.int .i64 1) R w fun t6 w =>
 joinK (fun (t10:Value) (w:World) =>
 n11c4 t0 t6 t10 R w) fun K1 =>
 guardP t6 false (
 opV Pg (Builtin.len_ #[9] 3 #[t0]) (panK R) w fun t9 w =>
 B0 .gtr 3 true t9 (.int .i64 32) R w fun t10 w =>
 K1 t10 w) (
 K1 undef w)
theorem n11s {t0:Value} {R:RT} {w:World} (h:n11 t0 R w):Calls Pg 32 #[t0] w R:=by
 refine calls_of_den (args:=[t0]) Tryz.func32 rfl (Nat.le_of_ble_eq_true rfl) ?_
 unfold n11 at h
 refine zs<|zr<|zm<|zn<|zk<|zs<|zs<|sim_regionG ?_
 refine sim_seg 4 rfl ?_
 refine zm ?_
 refine zx h fun t5 w h=>?_
 refine zb h fun t6 w h=>?_
 refine zm<|zn ?_
 refine joinK_elim h (fun K1 hK h=>?_)
 refine sim_groupJ 3 3 false [8,9,10] (fun ρ w=>K1 (ρ 10) w) rfl rfl (fun T hT=>guardP_mono h (fun h=>?_) (fun h=>?_)) (fun σ w h=>?_)
 · refine zm ?_
   refine zx h fun t9 w h=>?_
   refine zb h fun t10 w h=>?_
   refine zn ?_
   exact zt hT h
 · exact zt hT h
 subst hK
 refine sim_seg 2 rfl ?_
 refine sim_pick h rfl rfl rfl ?_;intro t11 h
 refine zm<|zn ?_
 refine joinK_elim h (fun K2 hK h=>?_)
 refine sim_groupJ 4 8 false [13,14,15,16] (fun ρ w=>K2 (ρ 16) w) rfl rfl (fun T hT=>guardP_mono h (fun h=>?_) (fun h=>?_)) (fun σ w h=>?_)
 · refine zm ?_
   refine zv h fun t14 w h=>?_
   refine zc h c40 fun t15 w h=>?_
   refine zv h fun t16 w h=>?_
   refine zn ?_
   exact zt hT h
 · exact zt hT h
 subst hK
 refine sim_seg 1 rfl ?_
 refine sim_pick h rfl rfl rfl ?_;intro t17 h
 refine zn<|sim_end<|zk ?_
 refine sim_cond h rfl (fun h=>?_) (fun h=>?_)
 · refine zs<|zr<|zm<|zn<|zk<|sim_ret<|sim_then_ret ?_
   exact body_ret1 rfl rfl h
 · refine sim_skip<|zk<|zs<|zs<|zr<|zm<|zn<|zk<|sim_block ?_
   obtain ⟨I,μ,h0,hr⟩:=h
   refine sim_loop [2,3,18,19,20,21,22,23,24,25,26,27,28,29,30,31,32,33,34,35,36,37,38,39,40,41] (by kernel_rfl) (fun ρ w=>I (ρ 3) w) (fun ρ w=>μ (ρ 3) w) h0 (fun σ w hI=>?_)
   have h:=hr _ _ hI
   clear hr h0 hI
   refine zs<|zs<|zr<|zm<|zm ?_
   refine zx h fun t20 w h=>?_
   refine zb h fun t21 w h=>?_
   refine zn<|zk ?_
   refine sim_cond h rfl (fun h=>?_) (fun h=>?_)
   · refine sim_skip<|zk<|zs<|sim_block<|zs<|sim_regionG ?_
     refine sim_seg 6 rfl ?_
     refine zm<|zm ?_
     refine zv h fun t26 w h=>?_
     refine zc h c40 fun t27 w h=>?_
     refine zv h fun t28 w h=>?_
     refine zm<|zn ?_
     refine joinK_elim h (fun K4 hK h=>?_)
     refine sim_groupJ 5 5 true [30,31,32,33,34] (fun ρ w=>K4 (ρ 34) w) rfl rfl (fun T hT=>guardP_mono h (fun h=>?_) (fun h=>?_)) (fun σ w h=>?_)
     · refine zm<|zm ?_
       refine zv h fun t32 w h=>?_
       refine zc h c41 fun t33 w h=>?_
       refine zv h fun t34 w h=>?_
       refine zn ?_
       exact zt hT h
     · exact zt hT h
     subst hK
     refine sim_seg 2 rfl ?_
     refine sim_pick h rfl rfl rfl ?_;intro t35 h
     refine zm<|zn ?_
     refine joinK_elim h (fun K5 hK h=>?_)
     refine sim_groupJ 4 12 true [37,38,39,40] (fun ρ w=>K5 (ρ 40) w) rfl rfl (fun T hT=>guardP_mono h (fun h=>?_) (fun h=>?_)) (fun σ w h=>?_)
     · refine zm<|zm ?_
       refine zv h fun t39 w h=>?_
       refine zb h fun t40 w h=>?_
       refine zn ?_
       exact zt hT h
     · exact zt hT h
     subst hK
     refine sim_seg 1 rfl ?_
     refine sim_pick h rfl rfl rfl ?_;intro t41 h
     refine zn<|sim_end<|zk ?_
     refine sim_cond h rfl (fun h=>?_) (fun h=>?_)
     · refine zs<|zr<|zm<|zn<|zk<|sim_ret<|sim_block_ret<|sim_then_ret<|sim_then_ret<|sim_block_ret<|sim_then_ret ?_
       exact body_ret1 rfl rfl h
     · refine sim_skip<|sim_block_normal<|zk<|zr<|zm ?_
       refine zb h fun t23 w h=>?_
       refine zm<|zn<|zk ?_
       exact ⟨rfl,h⟩
   · refine sim_exit<|sim_then_exit<|sim_then_exit<|sim_block_hit<|zk<|zs<|zr<|zm<|zn<|zk<|sim_ret ?_
     exact body_ret1 rfl rfl h
def n27c1 (t1 t2 t3 t40:Value) (R:RT) (w:World):Prop :=
 opV Pg (Op.unary .not t40) (panK R) w fun t41 w =>
 condP t41 (
 R (.returned (.int .i64 5)) w) (
 L0 24 t3 R w fun t42 w =>
 C0 44 #[t42,t1,t2] R w fun t45 w =>
 R (.returned t45) w)
def n27c2 (t1 t2 t3 t7 t33 t37:Value) (R:RT) (w:World):Prop :=
 pickK t33 (.bool true) t37 fun t38 =>
 condP t38 (
 R (.returned (.int .i64 4)) w) (
 L0 52 t7 R w fun t39 w =>
 C0 43 #[t39] R w fun t40 w =>
 n27c1 t1 t2 t3 t40 R w)
def n27c3 (t1 t2 t3 t7:Value) (R:RT) (w:World):Prop :=
 F0 52 t7 1 R w fun t31 w =>
 L0 46 t31 R w fun t32 w =>
 B0 .lss 46 true t32 (.int .i64 1) R w fun t33 w =>
 joinK (fun (t37:Value) (w:World) =>
 n27c2 t1 t2 t3 t7 t33 t37 R w) fun K2 =>
 guardP t33 false (
 F0 52 t7 1 R w fun t35 w =>
 L0 46 t35 R w fun t36 w =>
 B0 .gtr 46 true t36 (.int .i64 12) R w fun t37 w =>
 K2 t37 w) (
 K2 undef w)
def n27c4 (t1 t2 t3 t7:Value) (C1:World→Prop) (R:RT) (w:World):Prop :=
 qV Pg C1 (Instr.fieldAt 24 t3 1) fun t21 =>
 qV Pg C1 (Instr.loadAt 22 t21) fun t22 =>
 qV Pg C1 (Instr.indexAt 22 t22 t1) fun t24 =>
 qV Pg C1 (Instr.loadAt 45 t24) fun t25 =>
 qV Pg C1 (Instr.fieldAt 52 t7 0) fun t26 =>
 qV Pg C1 (Instr.loadAt 9 t26) fun t27 =>
 C0 42 #[t25,t27,t2] R w fun t29 w =>
 C1 w∧(
 qV Pg C1 (binS .geq 3 true t29 (.int .i64 0)) fun t30 =>
 condP t30 (
 R (.returned (.int .i64 2)) w) (
 n27c3 t1 t2 t3 t7 R w))
def n27 (t0 t1 t2:Value) (R:RT) (w:World):Prop :=
 opV Pg (Instr.box 24 t0) (panK R) w fun t3 w =>
 F0 24 t3 1 R w fun t8 w =>
 L0 22 t8 R w fun t9 w =>
 X0 22 t9 t1 R w fun t11 w =>
 F0 45 t11 1 R w fun t12 w =>
 L0 43 t12 R w fun t13 w =>
 X0 43 t13 t2 R w fun t15 w =>
 L0 52 t15 R w fun t16 w =>
 opV Pg (Instr.alloc 52 true (.tuple #[])) (panK R) w fun t7 w =>
 opU Pg (Instr.storeAt 52 t7 t16) (panK R) w fun w =>
 F0 52 t7 0 R w fun t17 w =>
 L0 9 t17 R w fun t18 w =>
 C0 32 #[t18] R w fun t19 w =>
 opV Pg (Op.unary .not t19) (panK R) w fun t20 w =>
 condP t20 (
 R (.returned (.int .i64 1)) w) (
 drawK w fun C1 w =>
 n27c4 t1 t2 t3 t7 C1 R w)
theorem n27s {t0 t1 t2:Value} {R:RT} {w:World} (h:n27 t0 t1 t2 R w):Calls Pg 33 #[t0,t1,t2] w R:=by
 refine calls_of_den (args:=[t0,t1,t2]) Tryz.func33 rfl (Nat.le_of_ble_eq_true rfl) ?_
 unfold n27 at h
 refine zs<|zr ?_
 refine zv h fun t3 w h=>?_
 refine zm<|zn<|zk<|zs<|zr ?_
 refine zv h fun t8 w h=>?_
 refine zv h fun t9 w h=>?_
 refine zm ?_
 refine zv h fun t11 w h=>?_
 refine zv h fun t12 w h=>?_
 refine zv h fun t13 w h=>?_
 refine zm ?_
 refine zv h fun t15 w h=>?_
 refine zv h fun t16 w h=>?_
 refine zv h fun t7 w h=>?_
 refine zu h fun w h=>?_
 refine zn<|zk<|zs<|zs<|zr ?_
 refine zv h fun t17 w h=>?_
 refine zv h fun t18 w h=>?_
 refine zc h c32 fun t19 w h=>?_
 refine zv h fun t20 w h=>?_
 refine zn<|zk ?_
 refine sim_cond h rfl (fun h=>?_) (fun h=>?_)
 · refine zs<|zr<|zm<|zn<|zk<|sim_ret<|sim_then_ret ?_
   exact body_ret1 rfl rfl h
 · refine sim_skip<|zk<|zs<|zs ?_
   obtain ⟨C1,hC,h⟩:=h
   refine sim_draw [21,22,23,24,25,26,27,28,29,30] (by kernel_rfl) (by kernel_rfl) C1 ?_
   refine ze 0 hC h fun t21 h=>?_
   refine ze 1 hC h fun t22 h=>?_
   refine zw 2 hC ?_
   refine ze 3 hC h fun t24 h=>?_
   refine ze 4 hC h fun t25 h=>?_
   refine ze 5 hC h fun t26 h=>?_
   refine ze 6 hC h fun t27 h=>?_
   refine zw 7 hC ?_
   refine sim_dloud 8 rfl (by kernel_rfl) (fun _ _=>rfl) ?_
   refine sim_call h c42 rfl (fun _ _ h _ _=>⟨rfl,h⟩) ?_;intro t29 w h
   refine zn ?_
   obtain ⟨hC,h⟩:=h
   refine ⟨hC,?_⟩
   obtain ⟨t30,hv,h⟩:=h
   refine sim_dsilent 9 hC rfl (by kernel_rfl) (by kernel_rfl) (fun _ _=>rfl) rfl (Sw.qV_bin rfl rfl rfl hv) ?_
   refine sim_dend (by kernel_rfl) ?_
   refine zk ?_
   refine sim_cond h rfl (fun h=>?_) (fun h=>?_)
   · refine zs<|zr<|zm<|zn<|zk<|sim_ret<|sim_then_ret ?_
     exact body_ret1 rfl rfl h
   · refine sim_skip<|zk<|zs<|zs<|sim_regionG ?_
     refine sim_seg 4 rfl ?_
     refine zv h fun t31 w h=>?_
     refine zv h fun t32 w h=>?_
     refine zb h fun t33 w h=>?_
     refine zm<|zn ?_
     refine joinK_elim h (fun K2 hK h=>?_)
     refine sim_groupJ 3 3 false [35,36,37] (fun ρ w=>K2 (ρ 37) w) rfl rfl (fun T hT=>guardP_mono h (fun h=>?_) (fun h=>?_)) (fun σ w h=>?_)
     · refine zv h fun t35 w h=>?_
       refine zv h fun t36 w h=>?_
       refine zb h fun t37 w h=>?_
       refine zn ?_
       exact zt hT h
     · exact zt hT h
     subst hK
     refine sim_seg 1 rfl ?_
     refine sim_pick h rfl rfl rfl ?_;intro t38 h
     refine zn<|sim_end<|zk ?_
     refine sim_cond h rfl (fun h=>?_) (fun h=>?_)
     · refine zs<|zr<|zm<|zn<|zk<|sim_ret<|sim_then_ret ?_
       exact body_ret1 rfl rfl h
     · refine sim_skip<|zk<|zs<|zs<|zr ?_
       refine zv h fun t39 w h=>?_
       refine zc h c43 fun t40 w h=>?_
       refine zv h fun t41 w h=>?_
       refine zn<|zk ?_
       refine sim_cond h rfl (fun h=>?_) (fun h=>?_)
       · refine zs<|zr<|zm<|zn<|zk<|sim_ret<|sim_then_ret ?_
         exact body_ret1 rfl rfl h
       · refine sim_skip<|zk<|zs<|zr ?_
         refine zv h fun t42 w h=>?_
         refine zm<|zm ?_
         refine zc h c44 fun t45 w h=>?_
         refine zm<|zn<|zk<|sim_ret ?_
         exact body_ret1 rfl rfl h
def n24c1 (t2 t3 t86 t92:Value) (R:RT) (w:World):Prop :=
 pickK t86 t92 (.bool false) fun t93 =>
 joinK (fun (t99:Value) (w:World) =>
 pickK t93 t99 (.bool false) fun t100 =>
 R (.returned t100) w) fun K13 =>
 guardP t93 true (
 F0 52 t2 13 R w fun t95 w =>
 L0 3 t95 R w fun t96 w =>
 F0 52 t3 13 R w fun t97 w =>
 L0 3 t97 R w fun t98 w =>
 B0 .eql 3 false t96 t98 R w fun t99 w =>
 K13 t99 w) (
 K13 undef w)
def n24c2 (t2 t3 t79 t85:Value) (R:RT) (w:World):Prop :=
 pickK t79 t85 (.bool false) fun t86 =>
 joinK (fun (t92:Value) (w:World) =>
 n24c1 t2 t3 t86 t92 R w) fun K12 =>
 guardP t86 true (
 F0 52 t2 12 R w fun t88 w =>
 L0 3 t88 R w fun t89 w =>
 F0 52 t3 12 R w fun t90 w =>
 L0 3 t90 R w fun t91 w =>
 B0 .eql 3 false t89 t91 R w fun t92 w =>
 K12 t92 w) (
 K12 undef w)
def n24c3 (t2 t3 t72 t78:Value) (R:RT) (w:World):Prop :=
 pickK t72 t78 (.bool false) fun t79 =>
 joinK (fun (t85:Value) (w:World) =>
 n24c2 t2 t3 t79 t85 R w) fun K11 =>
 guardP t79 true (
 F0 52 t2 11 R w fun t81 w =>
 L0 50 t81 R w fun t82 w =>
 F0 52 t3 11 R w fun t83 w =>
 L0 50 t83 R w fun t84 w =>
 C0 46 #[t82,t84] R w fun t85 w =>
 K11 t85 w) (
 K11 undef w)
def n24c4 (t2 t3 t65 t71:Value) (R:RT) (w:World):Prop :=
 pickK t65 t71 (.bool false) fun t72 =>
 joinK (fun (t78:Value) (w:World) =>
 n24c3 t2 t3 t72 t78 R w) fun K10 =>
 guardP t72 true (
 F0 52 t2 10 R w fun t74 w =>
 L0 9 t74 R w fun t75 w =>
 F0 52 t3 10 R w fun t76 w =>
 L0 9 t76 R w fun t77 w =>
 B0 .eql 9 false t75 t77 R w fun t78 w =>
 K10 t78 w) (
 K10 undef w)
def n24c5 (t2 t3 t58 t64:Value) (R:RT) (w:World):Prop :=
 pickK t58 t64 (.bool false) fun t65 =>
 joinK (fun (t71:Value) (w:World) =>
 n24c4 t2 t3 t65 t71 R w) fun K9 =>
 guardP t65 true (
 F0 52 t2 9 R w fun t67 w =>
 L0 9 t67 R w fun t68 w =>
 F0 52 t3 9 R w fun t69 w =>
 L0 9 t69 R w fun t70 w =>
 B0 .eql 9 false t68 t70 R w fun t71 w =>
 K9 t71 w) (
 K9 undef w)
def n24c6 (t2 t3 t51 t57:Value) (R:RT) (w:World):Prop :=
 pickK t51 t57 (.bool false) fun t58 =>
 joinK (fun (t64:Value) (w:World) =>
 n24c5 t2 t3 t58 t64 R w) fun K8 =>
 guardP t58 true (
 F0 52 t2 8 R w fun t60 w =>
 L0 9 t60 R w fun t61 w =>
 F0 52 t3 8 R w fun t62 w =>
 L0 9 t62 R w fun t63 w =>
 B0 .eql 9 false t61 t63 R w fun t64 w =>
 K8 t64 w) (
 K8 undef w)
def n24c7 (t2 t3 t44 t50:Value) (R:RT) (w:World):Prop :=
 pickK t44 t50 (.bool false) fun t51 =>
 joinK (fun (t57:Value) (w:World) =>
 n24c6 t2 t3 t51 t57 R w) fun K7 =>
 guardP t51 true (
 F0 52 t2 7 R w fun t53 w =>
 L0 49 t53 R w fun t54 w =>
 F0 52 t3 7 R w fun t55 w =>
 L0 49 t55 R w fun t56 w =>
 C0 45 #[t54,t56] R w fun t57 w =>
 K7 t57 w) (
 K7 undef w)
def n24c8 (t2 t3 t37 t43:Value) (R:RT) (w:World):Prop :=
 pickK t37 t43 (.bool false) fun t44 =>
 joinK (fun (t50:Value) (w:World) =>
 n24c7 t2 t3 t44 t50 R w) fun K6 =>
 guardP t44 true (
 F0 52 t2 6 R w fun t46 w =>
 L0 3 t46 R w fun t47 w =>
 F0 52 t3 6 R w fun t48 w =>
 L0 3 t48 R w fun t49 w =>
 B0 .eql 3 false t47 t49 R w fun t50 w =>
 K6 t50 w) (
 K6 undef w)
def n24c9 (t2 t3 t30 t36:Value) (R:RT) (w:World):Prop :=
 pickK t30 t36 (.bool false) fun t37 =>
 joinK (fun (t43:Value) (w:World) =>
 n24c8 t2 t3 t37 t43 R w) fun K5 =>
 guardP t37 true (
 F0 52 t2 5 R w fun t39 w =>
 L0 3 t39 R w fun t40 w =>
 F0 52 t3 5 R w fun t41 w =>
 L0 3 t41 R w fun t42 w =>
 B0 .eql 3 false t40 t42 R w fun t43 w =>
 K5 t43 w) (
 K5 undef w)
def n24c10 (t2 t3 t23 t29:Value) (R:RT) (w:World):Prop :=
 pickK t23 t29 (.bool false) fun t30 =>
 joinK (fun (t36:Value) (w:World) =>
 n24c9 t2 t3 t30 t36 R w) fun K4 =>
 guardP t30 true (
 F0 52 t2 4 R w fun t32 w =>
 L0 4 t32 R w fun t33 w =>
 F0 52 t3 4 R w fun t34 w =>
 L0 4 t34 R w fun t35 w =>
 B0 .eql 4 false t33 t35 R w fun t36 w =>
 K4 t36 w) (
 K4 undef w)
def n24c11 (t2 t3 t16 t22:Value) (R:RT) (w:World):Prop :=
 pickK t16 t22 (.bool false) fun t23 =>
 joinK (fun (t29:Value) (w:World) =>
 n24c10 t2 t3 t23 t29 R w) fun K3 =>
 guardP t23 true (
 F0 52 t2 3 R w fun t25 w =>
 L0 4 t25 R w fun t26 w =>
 F0 52 t3 3 R w fun t27 w =>
 L0 4 t27 R w fun t28 w =>
 B0 .eql 4 false t26 t28 R w fun t29 w =>
 K3 t29 w) (
 K3 undef w)
def n24c12 (t2 t3 t9 t15:Value) (R:RT) (w:World):Prop :=
 pickK t9 t15 (.bool false) fun t16 =>
 joinK (fun (t22:Value) (w:World) =>
 n24c11 t2 t3 t16 t22 R w) fun K2 =>
 guardP t16 true (
 F0 52 t2 2 R w fun t18 w =>
 L0 3 t18 R w fun t19 w =>
 F0 52 t3 2 R w fun t20 w =>
 L0 3 t20 R w fun t21 w =>
 B0 .eql 3 false t19 t21 R w fun t22 w =>
 K2 t22 w) (
 K2 undef w)
def n24 (t0 t1:Value) (R:RT) (w:World):Prop :=
 opV Pg (Instr.box 52 t0) (panK R) w fun t2 w =>
 opV Pg (Instr.box 52 t1) (panK R) w fun t3 w =>
 F0 52 t2 0 R w fun t5 w =>
 L0 9 t5 R w fun t6 w =>
 F0 52 t3 0 R w fun t7 w =>
 L0 9 t7 R w fun t8 w =>
 B0 .eql 9 false t6 t8 R w fun t9 w =>
 joinK (fun (t15:Value) (w:World) =>
 n24c12 t2 t3 t9 t15 R w) fun K1 =>
 guardP t9 true (
 F0 52 t2 1 R w fun t11 w =>
 L0 46 t11 R w fun t12 w =>
 F0 52 t3 1 R w fun t13 w =>
 L0 46 t13 R w fun t14 w =>
 B0 .eql 46 false t12 t14 R w fun t15 w =>
 K1 t15 w) (
 K1 undef w)
theorem n24s {t0 t1:Value} {R:RT} {w:World} (h:n24 t0 t1 R w):Calls Pg 34 #[t0,t1] w R:=by
 refine calls_of_den (args:=[t0,t1]) Tryz.func34 rfl (Nat.le_of_ble_eq_true rfl) ?_
 unfold n24 at h
 refine zs<|zr ?_
 refine zv h fun t2 w h=>?_
 refine zv h fun t3 w h=>?_
 refine zm<|zn<|zk<|zs<|sim_regionG ?_
 refine sim_seg 6 rfl ?_
 refine zv h fun t5 w h=>?_
 refine zv h fun t6 w h=>?_
 refine zv h fun t7 w h=>?_
 refine zv h fun t8 w h=>?_
 refine zb h fun t9 w h=>?_
 refine zm<|zn ?_
 refine joinK_elim h (fun K1 hK h=>?_)
 refine sim_groupJ 5 5 true [11,12,13,14,15] (fun ρ w=>K1 (ρ 15) w) rfl rfl (fun T hT=>guardP_mono h (fun h=>?_) (fun h=>?_)) (fun σ w h=>?_)
 · refine zv h fun t11 w h=>?_
   refine zv h fun t12 w h=>?_
   refine zv h fun t13 w h=>?_
   refine zv h fun t14 w h=>?_
   refine zb h fun t15 w h=>?_
   refine zn ?_
   exact zt hT h
 · exact zt hT h
 subst hK
 refine sim_seg 2 rfl ?_
 refine sim_pick h rfl rfl rfl ?_;intro t16 h
 refine zm<|zn ?_
 refine joinK_elim h (fun K2 hK h=>?_)
 refine sim_groupJ 5 12 true [18,19,20,21,22] (fun ρ w=>K2 (ρ 22) w) rfl rfl (fun T hT=>guardP_mono h (fun h=>?_) (fun h=>?_)) (fun σ w h=>?_)
 · refine zv h fun t18 w h=>?_
   refine zv h fun t19 w h=>?_
   refine zv h fun t20 w h=>?_
   refine zv h fun t21 w h=>?_
   refine zb h fun t22 w h=>?_
   refine zn ?_
   exact zt hT h
 · exact zt hT h
 subst hK
 refine sim_seg 2 rfl ?_
 refine sim_pick h rfl rfl rfl ?_;intro t23 h
 refine zm<|zn ?_
 refine joinK_elim h (fun K3 hK h=>?_)
 refine sim_groupJ 5 19 true [25,26,27,28,29] (fun ρ w=>K3 (ρ 29) w) rfl rfl (fun T hT=>guardP_mono h (fun h=>?_) (fun h=>?_)) (fun σ w h=>?_)
 · refine zv h fun t25 w h=>?_
   refine zv h fun t26 w h=>?_
   refine zv h fun t27 w h=>?_
   refine zv h fun t28 w h=>?_
   refine zb h fun t29 w h=>?_
   refine zn ?_
   exact zt hT h
 · exact zt hT h
 subst hK
 refine sim_seg 2 rfl ?_
 refine sim_pick h rfl rfl rfl ?_;intro t30 h
 refine zm<|zn ?_
 refine joinK_elim h (fun K4 hK h=>?_)
 refine sim_groupJ 5 26 true [32,33,34,35,36] (fun ρ w=>K4 (ρ 36) w) rfl rfl (fun T hT=>guardP_mono h (fun h=>?_) (fun h=>?_)) (fun σ w h=>?_)
 · refine zv h fun t32 w h=>?_
   refine zv h fun t33 w h=>?_
   refine zv h fun t34 w h=>?_
   refine zv h fun t35 w h=>?_
   refine zb h fun t36 w h=>?_
   refine zn ?_
   exact zt hT h
 · exact zt hT h
 subst hK
 refine sim_seg 2 rfl ?_
 refine sim_pick h rfl rfl rfl ?_;intro t37 h
 refine zm<|zn ?_
 refine joinK_elim h (fun K5 hK h=>?_)
 refine sim_groupJ 5 33 true [39,40,41,42,43] (fun ρ w=>K5 (ρ 43) w) rfl rfl (fun T hT=>guardP_mono h (fun h=>?_) (fun h=>?_)) (fun σ w h=>?_)
 · refine zv h fun t39 w h=>?_
   refine zv h fun t40 w h=>?_
   refine zv h fun t41 w h=>?_
   refine zv h fun t42 w h=>?_
   refine zb h fun t43 w h=>?_
   refine zn ?_
   exact zt hT h
 · exact zt hT h
 subst hK
 refine sim_seg 2 rfl ?_
 refine sim_pick h rfl rfl rfl ?_;intro t44 h
 refine zm<|zn ?_
 refine joinK_elim h (fun K6 hK h=>?_)
 refine sim_groupJ 5 40 true [46,47,48,49,50] (fun ρ w=>K6 (ρ 50) w) rfl rfl (fun T hT=>guardP_mono h (fun h=>?_) (fun h=>?_)) (fun σ w h=>?_)
 · refine zv h fun t46 w h=>?_
   refine zv h fun t47 w h=>?_
   refine zv h fun t48 w h=>?_
   refine zv h fun t49 w h=>?_
   refine zb h fun t50 w h=>?_
   refine zn ?_
   exact zt hT h
 · exact zt hT h
 subst hK
 refine sim_seg 2 rfl ?_
 refine sim_pick h rfl rfl rfl ?_;intro t51 h
 refine zm<|zn ?_
 refine joinK_elim h (fun K7 hK h=>?_)
 refine sim_groupJ 5 47 true [53,54,55,56,57] (fun ρ w=>K7 (ρ 57) w) rfl rfl (fun T hT=>guardP_mono h (fun h=>?_) (fun h=>?_)) (fun σ w h=>?_)
 · refine zv h fun t53 w h=>?_
   refine zv h fun t54 w h=>?_
   refine zv h fun t55 w h=>?_
   refine zv h fun t56 w h=>?_
   refine zc h c45 fun t57 w h=>?_
   refine zn ?_
   exact zt hT h
 · exact zt hT h
 subst hK
 refine sim_seg 2 rfl ?_
 refine sim_pick h rfl rfl rfl ?_;intro t58 h
 refine zm<|zn ?_
 refine joinK_elim h (fun K8 hK h=>?_)
 refine sim_groupJ 5 54 true [60,61,62,63,64] (fun ρ w=>K8 (ρ 64) w) rfl rfl (fun T hT=>guardP_mono h (fun h=>?_) (fun h=>?_)) (fun σ w h=>?_)
 · refine zv h fun t60 w h=>?_
   refine zv h fun t61 w h=>?_
   refine zv h fun t62 w h=>?_
   refine zv h fun t63 w h=>?_
   refine zb h fun t64 w h=>?_
   refine zn ?_
   exact zt hT h
 · exact zt hT h
 subst hK
 refine sim_seg 2 rfl ?_
 refine sim_pick h rfl rfl rfl ?_;intro t65 h
 refine zm<|zn ?_
 refine joinK_elim h (fun K9 hK h=>?_)
 refine sim_groupJ 5 61 true [67,68,69,70,71] (fun ρ w=>K9 (ρ 71) w) rfl rfl (fun T hT=>guardP_mono h (fun h=>?_) (fun h=>?_)) (fun σ w h=>?_)
 · refine zv h fun t67 w h=>?_
   refine zv h fun t68 w h=>?_
   refine zv h fun t69 w h=>?_
   refine zv h fun t70 w h=>?_
   refine zb h fun t71 w h=>?_
   refine zn ?_
   exact zt hT h
 · exact zt hT h
 subst hK
 refine sim_seg 2 rfl ?_
 refine sim_pick h rfl rfl rfl ?_;intro t72 h
 refine zm<|zn ?_
 refine joinK_elim h (fun K10 hK h=>?_)
 refine sim_groupJ 5 68 true [74,75,76,77,78] (fun ρ w=>K10 (ρ 78) w) rfl rfl (fun T hT=>guardP_mono h (fun h=>?_) (fun h=>?_)) (fun σ w h=>?_)
 · refine zv h fun t74 w h=>?_
   refine zv h fun t75 w h=>?_
   refine zv h fun t76 w h=>?_
   refine zv h fun t77 w h=>?_
   refine zb h fun t78 w h=>?_
   refine zn ?_
   exact zt hT h
 · exact zt hT h
 subst hK
 refine sim_seg 2 rfl ?_
 refine sim_pick h rfl rfl rfl ?_;intro t79 h
 refine zm<|zn ?_
 refine joinK_elim h (fun K11 hK h=>?_)
 refine sim_groupJ 5 75 true [81,82,83,84,85] (fun ρ w=>K11 (ρ 85) w) rfl rfl (fun T hT=>guardP_mono h (fun h=>?_) (fun h=>?_)) (fun σ w h=>?_)
 · refine zv h fun t81 w h=>?_
   refine zv h fun t82 w h=>?_
   refine zv h fun t83 w h=>?_
   refine zv h fun t84 w h=>?_
   refine zc h c46 fun t85 w h=>?_
   refine zn ?_
   exact zt hT h
 · exact zt hT h
 subst hK
 refine sim_seg 2 rfl ?_
 refine sim_pick h rfl rfl rfl ?_;intro t86 h
 refine zm<|zn ?_
 refine joinK_elim h (fun K12 hK h=>?_)
 refine sim_groupJ 5 82 true [88,89,90,91,92] (fun ρ w=>K12 (ρ 92) w) rfl rfl (fun T hT=>guardP_mono h (fun h=>?_) (fun h=>?_)) (fun σ w h=>?_)
 · refine zv h fun t88 w h=>?_
   refine zv h fun t89 w h=>?_
   refine zv h fun t90 w h=>?_
   refine zv h fun t91 w h=>?_
   refine zb h fun t92 w h=>?_
   refine zn ?_
   exact zt hT h
 · exact zt hT h
 subst hK
 refine sim_seg 2 rfl ?_
 refine sim_pick h rfl rfl rfl ?_;intro t93 h
 refine zm<|zn ?_
 refine joinK_elim h (fun K13 hK h=>?_)
 refine sim_groupJ 5 89 true [95,96,97,98,99] (fun ρ w=>K13 (ρ 99) w) rfl rfl (fun T hT=>guardP_mono h (fun h=>?_) (fun h=>?_)) (fun σ w h=>?_)
 · refine zv h fun t95 w h=>?_
   refine zv h fun t96 w h=>?_
   refine zv h fun t97 w h=>?_
   refine zv h fun t98 w h=>?_
   refine zb h fun t99 w h=>?_
   refine zn ?_
   exact zt hT h
 · exact zt hT h
 subst hK
 refine sim_seg 2 rfl ?_
 refine sim_pick h rfl rfl rfl ?_;intro t100 h
 refine zm<|zn<|sim_end<|zk<|sim_ret ?_
 exact body_ret1 rfl rfl h
def n88c1 (t5 t6 t8:Value) (K2:World→Prop) (R:RT) (w:World):Prop :=
 F0 52 t5 0 R w fun t23 w =>
 L0 9 t23 R w fun t24 w =>
 L0 58 t6 R w fun t25 w =>
 opU Pg (Instr.mapUpdate 55 t8 t24 t25) (panK R) w fun w =>
 K2 w
def n88c2 (t5 t8 t11 t17:Value) (next1:KV) (R:RT) (w:World):Prop :=
 opV Pg (Instr.extract t17 0) (panK R) w fun t18 w =>
 opV Pg (Instr.extract t17 1) (panK R) w fun t19 w =>
 opV Pg (Instr.alloc 58 true (.tuple #[])) (panK R) w fun t6 w =>
 opU Pg (Instr.storeAt 58 t6 t18) (panK R) w fun w =>
 B0 .eql 27 true t19 (.int .i64 0) R w fun t21 w =>
 joinK (fun (w:World) =>
 B0 .add 3 true t11 (.int .i64 1) R w fun t26 w =>
 next1 t26 w) fun K2 =>
 condP t21 (
 n88c1 t5 t6 t8 K2 R w) (
 K2 w)
def n88c3 (t0 t8 t11:Value) (next1:KV) (R:RT) (w:World):Prop :=
 X0 43 t0 t11 R w fun t13 w =>
 L0 52 t13 R w fun t14 w =>
 opV Pg (Instr.alloc 52 true (.tuple #[])) (panK R) w fun t5 w =>
 opU Pg (Instr.storeAt 52 t5 t14) (panK R) w fun w =>
 L0 52 t5 R w fun t16 w =>
 C0 47 #[t16] R w fun t17 w =>
 n88c2 t5 t8 t11 t17 next1 R w
def n88 (t0:Value) (R:RT) (w:World):Prop :=
 opV Pg (Instr.makeMap 55 none) (panK R) w fun t8 w =>
 opV Pg (Builtin.len_ #[43] 3 #[t0]) (panK R) w fun t10 w =>
 loop1 (fun t11 w next1 =>
 B0 .lss 3 false t11 t10 R w fun t12 w =>
 condP t12 (
 n88c3 t0 t8 t11 next1 R w) (
 R (.returned t8) w)) (.int .i64 0) w
theorem n88s {t0:Value} {R:RT} {w:World} (h:n88 t0 R w):Calls Pg 35 #[t0] w R:=by
 refine calls_of_den (args:=[t0]) Tryz.func35 rfl (Nat.le_of_ble_eq_true rfl) ?_
 unfold n88 at h
 refine zs<|zr<|zm<|zn<|zk<|zs<|zr ?_
 refine zv h fun t8 w h=>?_
 refine zm<|zn<|zk<|zs<|zs<|zr<|zm ?_
 refine zx h fun t10 w h=>?_
 refine zm<|zn<|zk<|sim_block ?_
 obtain ⟨I,μ,h0,hr⟩:=h
 refine sim_loop [5,6,7,11,12,13,14,15,16,17,18,19,20,21,22,23,24,25,26] (by kernel_rfl) (fun ρ w=>I (ρ 11) w) (fun ρ w=>μ (ρ 11) w) h0 (fun σ w hI=>?_)
 have h:=hr _ _ hI
 clear hr h0 hI
 refine zs<|zr ?_
 refine zb h fun t12 w h=>?_
 refine zn<|zk<|zs ?_
 refine sim_cond h rfl (fun h=>?_) (fun h=>?_)
 · refine sim_skip<|zk<|zs<|sim_block<|zs<|zr ?_
   refine zv h fun t13 w h=>?_
   refine zv h fun t14 w h=>?_
   refine zv h fun t5 w h=>?_
   refine zu h fun w h=>?_
   refine zn<|zk<|zs<|zr ?_
   refine zv h fun t16 w h=>?_
   refine zc h c47 fun t17 w h=>?_
   refine zm ?_
   refine zv h fun t18 w h=>?_
   refine zv h fun t19 w h=>?_
   refine zv h fun t6 w h=>?_
   refine zu h fun w h=>?_
   refine zm<|zn<|zk<|zs<|zr<|zm ?_
   refine zb h fun t21 w h=>?_
   refine zn<|zk ?_
   refine joinK_elim h (fun K2 hK h=>?_)
   refine sim_joinQ [22,23,24,25] (fun ρ w=>K2 w) (fun _ hkK2=>?_) (fun σ w h=>?_)
   · refine sim_cond h rfl (fun h=>?_) (fun h=>?_)
     · refine zr<|zm ?_
       refine zv h fun t23 w h=>?_
       refine zv h fun t24 w h=>?_
       refine zv h fun t25 w h=>?_
       refine zu h fun w h=>?_
       refine zn<|zk ?_
       exact zt hkK2 h
     · refine sim_skip<|zk ?_
       exact zt hkK2 h
   subst hK
   refine sim_block_normal<|zk<|zr ?_
   refine zb h fun t26 w h=>?_
   refine zm<|zn<|zk ?_
   exact ⟨rfl,h⟩
 · refine sim_exit<|sim_then_exit<|sim_then_exit<|sim_block_hit<|zk<|zs<|zr<|zm<|zm<|zn<|zk<|sim_ret ?_
   exact body_ret1 rfl rfl h
def n61c1 (t0 t1 t3:Value) (K1:World→Prop) (R:RT) (w:World):Prop :=
 opV Pg (Instr.typeAssert t3 20 39 true) (panK R) w fun t8 w =>
 opV Pg (Instr.extract t8 0) (panK R) w fun t9 w =>
 opV Pg (Instr.extract t8 1) (panK R) w fun t10 w =>
 opU Pg (Instr.storeAt 39 t0 t9) (panK R) w fun w =>
 opU Pg (Instr.storeAt 4 t1 t10) (panK R) w fun w =>
 L0 4 t1 R w fun t11 w =>
 opV Pg (Op.unary .not t11) (panK R) w fun t12 w =>
 condP t12 (
 opV Pg (Instr.panic t3) (panK R) w fun _ w =>
 False) (
 K1 w)
def n61 (t0 t1 t3:Value) (R:RT) (w:World):Prop :=
 opV Pg (binS .neq 20 true t3 .nilIface) (panK R) w fun t5 w =>
 joinK (fun (w:World) =>
 R (.returned (.tuple #[])) w) fun K1 =>
 condP t5 (
 n61c1 t0 t1 t3 K1 R w) (
 K1 w)
theorem n61s {t0 t1:Value} {u:FrameMode} {R:Ending→FrameMode→World→Prop} {w:World} (h:n61 t0 t1 (Sw.recM u).1 (fun e w=>R e (Sw.recM u).2 w) w):CallsDIn Fence.wide 0 Pg 36 #[t0,t1] u w R:=by
 refine calls_of_denR (args:=[t0,t1]) (d:=3) Tryz.func36 rfl (Nat.le_of_ble_eq_true rfl) rfl rfl rfl rfl ?_
 generalize (Sw.recM u).1=t3 at h ⊢
 generalize hR:(fun e w=>R e (Sw.recM u).2 w)=R' at h ⊢
 clear hR
 revert h
 generalize R'=R
 intro h
 unfold n61 at h
 refine zm<|zn<|zs<|zr<|zm ?_
 refine zb h fun t5 w h=>?_
 refine zn<|zk ?_
 refine joinK_elim h (fun K1 hK h=>?_)
 refine sim_joinQ [6,7,8,9,10,11,12,13] (fun ρ w=>K1 w) (fun _ hkK1=>?_) (fun σ w h=>?_)
 · refine sim_cond h rfl (fun h=>?_) (fun h=>?_)
   · refine zs<|zr<|zm ?_
     refine zv h fun t8 w h=>?_
     refine zm ?_
     refine zv h fun t9 w h=>?_
     refine zv h fun t10 w h=>?_
     refine zu h fun w h=>?_
     refine zu h fun w h=>?_
     refine zn<|zk<|zs<|zr ?_
     refine zv h fun t11 w h=>?_
     refine zv h fun t12 w h=>?_
     refine zn<|zk ?_
     refine sim_cond h rfl (fun h=>?_) (fun h=>?_)
     · refine zr<|zm ?_
       refine zv h fun _ w h=>?_
       refine zn ?_
       exact h.elim
     · refine sim_skip<|zk ?_
       exact zt hkK1 h
   · refine sim_skip<|zk ?_
     exact zt hkK1 h
 subst hK
 refine body_normal ?_
 exact body_ret0 rfl h
def n55c1 (t0 t2:Value) (C1:World→Prop) (R:RT) (w:World):Prop :=
 qN Pg C1 (nilN t0) fun t9 =>
 qV Pg C1 (Instr.fieldAt 65 t9 3) fun t10 =>
 qV Pg C1 (Instr.loadAt 3 t10) fun t11 =>
 qN Pg C1 (nilN t0) fun t13 =>
 qV Pg C1 (Instr.fieldAt 65 t13 4) fun t14 =>
 qV Pg C1 (Instr.loadAt 3 t14) fun t15 =>
 qV Pg C1 (Instr.build 39 #[(0,t11),(1,t15),(2,t2)]) fun t17 =>
 qV Pg C1 (Instr.makeInterface 39 t17) fun t18 =>
 opV Pg (Instr.panic t18) (panK R) w fun _ w =>
 False
def n55 (t0 t1 t2:Value) (R:RT) (w:World):Prop :=
 opV Pg (Op.unary .not t1) (panK R) w fun t7 w =>
 condP t7 (
 drawK w fun C1 w =>
 n55c1 t0 t2 C1 R w) (
 R (.returned (.tuple #[])) w)
theorem n55s {t0 t1 t2:Value} {R:RT} {w:World} (h:n55 t0 t1 t2 R w):Calls Pg 37 #[t0,t1,t2] w R:=by
 refine calls_of_den (args:=[t0,t1,t2]) Tryz.func37 rfl (Nat.le_of_ble_eq_true rfl) ?_
 unfold n55 at h
 refine zs<|zr<|zm ?_
 refine zv h fun t7 w h=>?_
 refine zn<|zk ?_
 refine sim_cond h rfl (fun h=>?_) (fun h=>?_)
 · obtain ⟨C1,hC,h⟩:=h
   refine sim_draw [8,9,10,11,12,13,14,15,16,17,18] (by kernel_rfl) (by kernel_rfl) C1 ?_
   refine zw 0 hC ?_
   obtain ⟨t9,hv,h⟩:=h
   refine sim_dsilent 1 hC rfl (by kernel_rfl) (by kernel_rfl) (fun _ _=>rfl) rfl (Sw.qN_run rfl hv) ?_
   refine ze 2 hC h fun t10 h=>?_
   refine ze 3 hC h fun t11 h=>?_
   refine zw 4 hC ?_
   obtain ⟨t13,hv,h⟩:=h
   refine sim_dsilent 5 hC rfl (by kernel_rfl) (by kernel_rfl) (fun _ _=>rfl) rfl (Sw.qN_run rfl hv) ?_
   refine ze 6 hC h fun t14 h=>?_
   refine ze 7 hC h fun t15 h=>?_
   refine zw 8 hC ?_
   obtain ⟨t17,hv,h⟩:=h
   refine sim_dsilent 9 hC rfl (by kernel_rfl) (by kernel_rfl) (fun _ _=>rfl) rfl (Sw.qV_build rfl hv) ?_
   refine ze 10 hC h fun t18 h=>?_
   refine sim_dloud 11 rfl (by kernel_rfl) (fun _ _=>rfl) ?_
   refine sim_val h rfl rfl (fun _ _ h _ _=>⟨rfl,h⟩) ?_;intro _ w h
   refine zn ?_
   exact h.elim
 · refine sim_skip ?_
   refine body_normal ?_
   exact body_ret0 rfl h
end Go.Proofs.YtiajhbbmgglmlaaGreat
namespace Go.Proofs.YtiajhbbmgglmlaaGreat
open Sw
open Go.RowKit (intOf Below)
def numPairs (l:List FieldD):List (ByteArray×Value):=(l.filter numberB).map fun f=>(f.name,rangeVal f.low (highOf f))
theorem numPairs_snoc (l:List FieldD) (f:FieldD):numPairs (l++[f])=numPairs l++(if numberB f then [(f.name,rangeVal f.low (highOf f))] else []):=by
 unfold numPairs
 rw [List.filter_append,List.map_append]
 cases h:numberB f<;>simp [List.filter_cons,h]
theorem take_snoc {α:Type} {l:List α} {k:Nat} {x:α} (hx:l[k]?=some x):l.take (k+1)=l.take k++[x]:=by
 rw [List.take_add_one,hx];rfl
theorem ranges_ret (w0:World) (v:Value) (l:List FieldD) (hs:FieldsOf w0 v l) :
 Ret Pg 35 #[v] w0 fun r w'=>∃ m,r = .map (some m)∧w0.heap.size≤m∧MapOf w' m (numPairs l)∧Ext w0 w':=by
 obtain ⟨A,c,rfl,hlc,hcm,hlm,hel⟩:=SliceOf.open hs
 refine n88s (R:=retR _) ?_;unfold n88
 simp (disch:=try exact DI) only [↓PR,QR,Int.reduceBEq,Int.reduceBNe,Int.reduceLT,Int.reduceLE,Int.reduceGT,Int.reduceGE,Int.reduceNeg]
 have hM0:=MapOf.new w0
 have e0:Ext w0 (w0.alloc (.map #[] 0)):=ee
 refine loop1_intro (fun a0 w=>∃ (k:Nat) , a0 = .int .i64 (k:Int)∧k≤l.length∧Ext w0 w∧MapOf w w0.heap.size (numPairs (l.take k))) (fun a0 _=>l.length - (intOf a0).toNat) ⟨0,rfl,Nat.zero_le _,ee,hM0⟩ ?_
 rintro _ w ⟨k,rfl,hk,e,hI⟩
 have se:=e.size
 rcases drop_cases hk with ⟨x,hx,hd,hlt,hdec⟩ | ⟨hk,hd,hdec⟩
 · obtain ⟨b,o,cs,rfl,hl,hA,hE⟩:=hel k x hx
   obtain ⟨tv,cv,rfl,hT,hC,ht1,hc1⟩:=hE.op
   have hlt2:=hI.lt
   simp (disch:=try exact DI) only [↓PR,QR,Int.reduceBEq,Int.reduceBNe,Int.reduceLT,Int.reduceLE,Int.reduceGT,Int.reduceGE,Int.reduceNeg,↓n88c1,↓n88c2,↓n88c3,hdec,hA.c15]
   refine zcr (Range_ret _ _ x ⟨tv,cv,rfl,TermsOf.ext hT ee,CasesOf.ext hC ee⟩) fun w1 e1=>?_
   have s1:=e1.size
   try simp only [World.size_alloc,World.size_setCell,World.size_drew,World.putObj_size,Sw.putW_size] at s1
   have hI1:=(hI.ext ((Ext.refl w).alloc _)).ext e1
   have hI2:∀ o,MapOf (w1.alloc o) w0.heap.size (numPairs (l.take k)):=fun o=>hI1.ext ((Ext.refl w1).alloc _)
   cases hn:numberB x with
   | false =>
    simp (disch:=try exact DI) only [↓PR,QR,Int.reduceBEq,Int.reduceBNe,Int.reduceLT,Int.reduceLE,Int.reduceGT,Int.reduceGE,Int.reduceNeg,↓n88c1,↓n88c2,↓n88c3,e1.cellQ,e1.frozenQ,rangeVal]
    have hf:=hI2 (.cells #[.int .i64 0,.int .i64 0] 58)
    rw [show numPairs (l.take k)=numPairs (l.take (k+1)) by rw [take_snoc hx,numPairs_snoc,hn];simp] at hf
    exact ⟨⟨k+1,rfl,by omega,ee,hf⟩,meas_lt hlt⟩
   | true =>
    simp (disch:=try exact DI) only [↓PR,QR,Int.reduceBEq,Int.reduceBNe,Int.reduceLT,Int.reduceLE,Int.reduceGT,Int.reduceGE,Int.reduceNeg,↓n88c1,↓n88c2,↓n88c3,e1.cellQ,e1.frozenQ,rangeVal]
    have hf:=hI2 (.cells #[.int .i64 x.low,.int .i64 (highOf x)] 58)
    rw [op_updateO Tryz.underlying55 Tryz.underlying9 hf]
    have hg:=hf.put x.name (rangeVal x.low (highOf x))
    have eg:Ext w0 (putW (w1.alloc (.cells #[.int .i64 x.low,.int .i64 (highOf x)] 58)) w0.heap.size (numPairs (l.take k)) x.name (rangeVal x.low (highOf x))):=Ext.putW ee (Nat.le_refl _) _ _
    rw [show numPairs (l.take k)++[(x.name,rangeVal x.low (highOf x))]=numPairs (l.take (k+1)) by rw [take_snoc hx,numPairs_snoc,hn];simp] at hg
    simp (disch:=try exact DI) only [↓PR,QR,Int.reduceBEq,Int.reduceBNe,Int.reduceLT,Int.reduceLE,Int.reduceGT,Int.reduceGE,Int.reduceNeg,↓n88c1,↓n88c2,↓n88c3]
    exact ⟨⟨k+1,rfl,by omega,ee,hg⟩,meas_lt hlt⟩
 · subst hk
   simp (disch:=try exact DI) only [↓PR,QR,Int.reduceBEq,Int.reduceBNe,Int.reduceLT,Int.reduceLE,Int.reduceGT,Int.reduceGE,Int.reduceNeg,↓n88c1,↓n88c2,↓n88c3,hdec]
   rw [List.take_length] at hI
   exact ⟨_,rfl,Nat.le_refl _,hI,e⟩
theorem Ranges_ret (w0:World) (v:Value) (m:MsgD) (hm:MsgVal w0 v m) :
 Ret Pg 19 #[v] w0 fun r w'=>∃ b,r = .map (some b)∧w0.heap.size≤b∧MapOf w' b (numPairs m.fields)∧Ext w0 w':=by
 obtain ⟨fv,rfl,hF⟩:=hm
 refine n46s (R:=retR _) ?_;unfold n46
 simp (disch:=try exact DI) only [↓PR,QR,Int.reduceBEq,Int.reduceBNe,Int.reduceLT,Int.reduceLE,Int.reduceGT,Int.reduceGE,Int.reduceNeg,Sw.joinK_eq]
 refine callK_ret (ranges_ret _ _ m.fields (hF.ext ee)) ?_
 rintro _ w1 ⟨b,rfl,hb,hM,e1⟩
 simp (disch:=try exact DI) only [↓PR,QR,Int.reduceBEq,Int.reduceBNe,Int.reduceLT,Int.reduceLE,Int.reduceGT,Int.reduceGE,Int.reduceNeg,Sw.joinK_eq]
 refine ⟨_,rfl,?_,hM,ee⟩
 simp at hb
 omega
def TermsAt (w:World) (pb:Nat) (tv:Value) (ts:List TermD):Prop:=w.cell? ⟨pb,0,none⟩=some tv∧TermsOf w tv ts∧∀ A m c,tv = .slice (some A) m c→pb < A.block
theorem TermsAt.ext {w w':World} {pb:Nat} {tv:Value} {ts:List TermD} (h:TermsAt w pb tv ts) (e:Ext w w'):TermsAt w' pb tv ts:=⟨e.cell h.1,TermsOf.ext h.2.1 e,h.2.2⟩
theorem TermsAt.set {w:World} {pb:Nat} {tv:Value} {ts:List TermD} (h:TermsAt w pb tv ts) {b o:Nat} (hb:b < pb) (u:Value):TermsAt (w.setCell ⟨b,o,none⟩ u) pb tv ts :=
 ⟨by rw [cell_set_other (by omega)];exact h.1,SliceOf.setOther h.2.1 u (fun A m c e=>by have:=h.2.2 A m c e;omega) (fun _ _ h=>h),h.2.2⟩
theorem Names_ret (w0:World) (v:Value) (base:Int) (ts:List TermD) (hs:SizeVal w0 v base ts) (hb:ts.length≤1048576) :
 Ret Pg 113 #[v] w0 fun r w'=>∃ pb tv,r = .func (.func 120) #[] #[.pointer (some ⟨pb,0,none⟩)]∧TermsAt w' pb tv (if sizeB base ts then ts else [])∧w0.heap.size≤pb∧Ext w0 w':=by
 obtain ⟨tv,rfl,hT⟩:=hs
 have ht1:=SliceOf.oneCell hT
 refine n96s (R:=retR _) ?_;unfold n96
 simp (disch:=try exact DI) only [↓PR,QR,Int.reduceBEq,Int.reduceBNe,Int.reduceLT,Int.reduceLE,Int.reduceGT,Int.reduceGE,Int.reduceNeg,↓n96c1]
 refine zcr (Valid_ret _ _ base ts ⟨tv,rfl,TermsOf.ext hT ee⟩) fun w1 e1=>?_
 have s1:=e1.size
 try simp only [World.size_alloc,World.size_setCell,World.size_drew,World.putObj_size,Sw.putW_size] at s1
 cases hv:sizeB base ts with
 | false =>
  simp (disch:=try exact DI) only [↓PR,QR,Int.reduceBEq,Int.reduceBNe,Int.reduceLT,Int.reduceLE,Int.reduceGT,Int.reduceGE,Int.reduceNeg,↓n96c1]
  refine ⟨_,_,rfl,⟨e1.cell (by simp (disch:=try exact DI) only [↓PR,QR,Int.reduceBEq,Int.reduceBNe,Int.reduceLT,Int.reduceLE,Int.reduceGT,Int.reduceGE,Int.reduceNeg]),SliceOf.nil _ _ _,fun A m c e=>by cases e⟩,by omega,ee⟩
 | true =>
  simp (disch:=try exact DI) only [↓PR,QR,Int.reduceBEq,Int.reduceBNe,Int.reduceLT,Int.reduceLE,Int.reduceGT,Int.reduceGE,Int.reduceNeg,↓n96c1,e1.cellQ,e1.frozenQ]
  obtain ⟨cssT,hrawT,hmatesT⟩:=SliceOf.raw hT
  refine callK_ret (Clone_Term_ret _ tv cssT (hrawT.ext keptRaw ee) (fun y hy=>by obtain ⟨m,_,hm⟩:=hmatesT.mem hy;exact hm.one) (by rw [hmatesT.1];exact hb)) ?_
  rintro t8 w2 ⟨hO,e2⟩
  have s2:=e2.size
  have hO':=OwnE.mates hO (hmatesT.imp fun _ _ h=>h)
  have hS:=hO'.slice (E:=ETerm) (fun _=>rfl) (fun _ _=>rfl)
  have h8:=SliceOf.oneCell hS
  have hTy:TypeAt w2 (w0.heap.size+1) 47:=(TypeAt.ext (w:=(w0.alloc _).alloc (.cells #[.slice none 0 0] 47)) ⟨_,_,by have:=heap_new (w0.alloc (.cells #[.int .i64 base,tv] 49)) #[.slice none 0 0] 47;rw [World.size_alloc] at this;exact this⟩ (e1.trans e2))
  simp (disch:=try exact DI) only [↓PR,QR,Int.reduceBEq,Int.reduceBNe,Int.reduceLT,Int.reduceLE,Int.reduceGT,Int.reduceGE,Int.reduceNeg,↓n96c1,e1.cellQ,e1.frozenQ,e2.cellQ,e2.frozenQ]
  have hS2:=((hO'.range.only (Only.setCell w2 (w0.heap.size+1) 0 t8) (.inr (.inl (by omega)))).1).slice (E:=ETerm) (fun _=>rfl) (fun _ _=>rfl)
  refine ⟨_,t8,rfl,⟨?_,hS2,fun A m c e=>by subst e;have:=hO'.lt A.block rfl;omega⟩,by omega,ee⟩
  simp (disch:=try exact DI) only [↓PR,QR,Int.reduceBEq,Int.reduceBNe,Int.reduceLT,Int.reduceLE,Int.reduceGT,Int.reduceGE,Int.reduceNeg,e1.cellQ,e1.frozenQ,e2.cellQ,e2.frozenQ]
def namesX (ts:List TermD) (k:Nat):Value:=match ts[k]? with
 | some t => .string t.field
 | none=>undef
theorem Names_seq (pb:Nat) (tv:Value) (ts:List TermD):SeqIt Pg 120 #[.pointer (some ⟨pb,0,none⟩)] ts.length (namesX ts) (fun w=>TermsAt w pb tv ts):=by
 intro yv J Jx Jp w hFP hJe hJx hstep h0
 obtain ⟨hc,hT,_⟩:=hFP 0 w h0
 obtain ⟨A,c,rfl,hlc,hcm,hlm,hel⟩:=SliceOf.open hT
 refine n97s (t0:=yv) (t1 := .pointer (some ⟨pb,0,none⟩)) ?_
 unfold n97
 simp (disch:=try exact DI) only [↓PR,QR,Int.reduceBEq,Int.reduceBNe,Int.reduceLT,Int.reduceLE,Int.reduceGT,Int.reduceGE,Int.reduceNeg,hc]
 refine loop1_intro (fun i w=>∃ k:Nat,i = .int .i64 k∧k≤ts.length∧J k w) (fun i _=>ts.length - (intOf i).toNat) ⟨0,rfl,by omega,h0⟩ ?_
 rintro i w' ⟨k,rfl,hk,hJ⟩
 rcases drop_cases hk with ⟨x,hx,hd,hlt,hdec⟩ | ⟨hk,hd,hdec⟩
 · obtain ⟨_,hT',_⟩:=hFP k w' hJ
   obtain ⟨A',c',hv,_,_,_,hel'⟩:=SliceOf.open hT'
   injection hv with hv _ hv'
   subst hv hv'
   obtain ⟨b,o,cs,rfl,hl,hA,rfl⟩:=hel' k x hx
   have er:=Ext.refl w'
   simp (disch:=try exact DI) only [↓PR,QR,Int.reduceBEq,Int.reduceBNe,Int.reduceLT,Int.reduceLE,Int.reduceGT,Int.reduceGE,Int.reduceNeg,↓n97c1,↓n97c2,hdec,hA.c2]
   have hs:=hstep k hlt _ (hJe k w' _ hJ ((Ext.refl w').alloc (.cells #[.string x.field,.int .i64 x.factor] 78)))
   rw [show namesX ts k = .string x.field by unfold namesX;rw [hx]] at hs
   refine callV_mono hs (fun ch w h=>h) ?_
   rintro v w2 (⟨rfl,h2⟩ | ⟨rfl,h2⟩)
   · simp (disch:=try exact DI) only [↓PR,QR,Int.reduceBEq,Int.reduceBNe,Int.reduceLT,Int.reduceLE,Int.reduceGT,Int.reduceGE,Int.reduceNeg,↓n97c1,↓n97c2]
     exact ⟨⟨k+1,rfl,by omega,h2⟩,meas_lt hlt⟩
   · simp (disch:=try exact DI) only [↓PR,QR,Int.reduceBEq,Int.reduceBNe,Int.reduceLT,Int.reduceLE,Int.reduceGT,Int.reduceGE,Int.reduceNeg,↓n97c1,↓n97c2]
     exact .inr h2
 · subst hk
   simp (disch:=try exact DI) only [↓PR,QR,Int.reduceBEq,Int.reduceBNe,Int.reduceLT,Int.reduceLE,Int.reduceGT,Int.reduceGE,Int.reduceNeg,↓n97c1,↓n97c2,hdec]
   exact .inl hJ
theorem TermsAt.lasts (B pb:Nat) (tv:Value) (ts:List TermD):Lasts B (fun w=>TermsAt w pb tv ts) :=
 Lasts.and (Lasts.cell B) (Lasts.and ⟨fun _ _ h e=>TermsOf.ext h e,fun _ _ _ _ _ h hl=>SliceOf.putLoop (fun _ _ h=>h) hl h⟩ (Lasts.const _ _))
def checkedF (but:ByteArray) (ps:List (ByteArray×Value)) (p:Value→Bool):List TermD→Bool→Int
 | [],no=>if no then 9 else 0
 | t::ts,no=>if t.field=but then checkedF but ps p ts no else match lastOf ps t.field with
  | none=>checkedF but ps p ts true
  | some v=>if p v then checkedF but ps p ts no else 2
theorem checked_Range_ret (w0:World) (v:Value) (base:Int) (ts:List TermD) (but:ByteArray) (m:Nat) (ps:List (ByteArray×Value)) (g:FuncId) (caps:Array Value) (p:Value→Bool) (hs:SizeVal w0 v base ts) (hb:ts.length≤1048576)
 (hm:MapOf w0 m ps) (hr:∀ k v,lastOf ps k=some v→∃ lo hi,v=rangeVal lo hi) (hg:Callable Pg g) (hc:∀ w lo hi,Ext w0 w→Ret Pg g (#[rangeVal lo hi]++caps) w fun r w'=>r = .bool (p (rangeVal lo hi))∧Ext w w') :
 Ret Pg 122 #[v,.string but,.map (some m),.func (.func g) #[] caps] w0 fun r w'=>r = .int .i64 (if sizeB base ts then checkedF but ps p ts false else 2)∧Ext w0 w':=by
 obtain ⟨tv,rfl,hT⟩:=hs
 have ht1:=SliceOf.oneCell hT
 have hmlt:=hm.lt
 refine n101s (R:=retR _) ?_;unfold n101
 simp (disch:=try exact DI) only [↓PR,QR,Int.reduceBEq,Int.reduceBNe,Int.reduceLT,Int.reduceLE,Int.reduceGT,Int.reduceGE,Int.reduceNeg,↓n101c1,↓n101c2,↓n101c3,↓n101c4,↓n101c5,↓n101c6]
 refine zcr (Valid_ret _ _ base ts ⟨tv,rfl,TermsOf.ext hT ee⟩) fun w1 e1=>?_
 have s1:=e1.size
 try simp only [World.size_alloc,World.size_setCell,World.size_drew,World.putObj_size,Sw.putW_size] at s1
 cases hv:sizeB base ts with
 | false =>
  simp (disch:=try exact DI) only [↓PR,QR,Int.reduceBEq,Int.reduceBNe,Int.reduceLT,Int.reduceLE,Int.reduceGT,Int.reduceGE,Int.reduceNeg,↓n101c1,↓n101c2,↓n101c3,↓n101c4,↓n101c5,↓n101c6,e1.cellQ,e1.frozenQ,outX_nil,retV,resOne]
  exact ⟨by first | trivial | rfl,ee⟩
 | true =>
  simp (disch:=try exact DI) only [↓PR,QR,Int.reduceBEq,Int.reduceBNe,Int.reduceLT,Int.reduceLE,Int.reduceGT,Int.reduceGE,Int.reduceNeg,↓n101c1,↓n101c2,↓n101c3,↓n101c4,↓n101c5,↓n101c6,e1.cellQ,e1.frozenQ]
  refine callK_ret (Names_ret _ _ base ts ⟨tv,rfl,TermsOf.ext hT ee⟩ hb) ?_
  rintro _ w2 ⟨pb,tv2,rfl,hTA,hpb,e2⟩
  rw [hv] at hTA
  simp only [if_true] at hTA
  have s2:=e2.size
  simp only [World.size_alloc] at s2 hpb
  have o5:w2.heap[w0.heap.size+1]?=some (.cells #[.string but] 9 (0,0)):=by simp (disch:=try exact DI) only [↓PR,QR,Int.reduceBEq,Int.reduceBNe,Int.reduceLT,Int.reduceLE,Int.reduceGT,Int.reduceGE,Int.reduceNeg,e1.heapQ,e2.heapQ]
  have o6:w2.heap[w0.heap.size+1+1]?=some (.cells #[.map (some m)] 55 (0,0)):=by simp (disch:=try exact DI) only [↓PR,QR,Int.reduceBEq,Int.reduceBNe,Int.reduceLT,Int.reduceLE,Int.reduceGT,Int.reduceGE,Int.reduceNeg,e1.heapQ,e2.heapQ]
  have o7:w2.heap[w0.heap.size+1+1+1]?=some (.cells #[.func (.func g) #[] caps] 150 (0,0)):=by simp (disch:=try exact DI) only [↓PR,QR,Int.reduceBEq,Int.reduceBNe,Int.reduceLT,Int.reduceLE,Int.reduceGT,Int.reduceGE,Int.reduceNeg,e1.heapQ,e2.heapQ]
  have o8:w2.heap[w0.heap.size+1+1+1+1]?=some (.cells #[.int .i64 0] 27 (0,0)):=by simp (disch:=try exact DI) only [↓PR,QR,Int.reduceBEq,Int.reduceBNe,Int.reduceLT,Int.reduceLE,Int.reduceGT,Int.reduceGE,Int.reduceNeg,e1.heapQ,e2.heapQ]
  have o9:w2.heap[w1.heap.size]?=some (.cells #[.bool false] 4 (0,0)):=by simp (disch:=try exact DI) only [↓PR,QR,Int.reduceBEq,Int.reduceBNe,Int.reduceLT,Int.reduceLE,Int.reduceGT,Int.reduceGE,Int.reduceNeg,e1.heapQ,e2.heapQ]
  have eW:Ext w0 w2:=ee
  simp only [World.size_alloc]
  unfold n101c4
  let I:Nat→World→Prop:=fun k w=>Ext w0 w∧w.heap[w0.heap.size+1]?=some (.cells #[.string but] 9 (0,0))∧w.heap[w0.heap.size+1+1]?=some (.cells #[.map (some m)] 55 (0,0)) ∧
   w.heap[w0.heap.size+1+1+1]?=some (.cells #[.func (.func g) #[] caps] 150 (0,0))∧TermsAt w pb tv2 ts ∧
   ∃ nb x,w.heap[w0.heap.size+1+1+1+1]?=some (.cells #[.int .i64 x] 27 (0,0))∧w.heap[w1.heap.size]?=some (.cells #[.bool nb] 4 (0,0))∧checkedF but ps p (ts.drop k) nb=checkedF but ps p ts false
  let Ix:Nat→World→Prop:=fun c w=>c=0∧Ext w0 w∧w.heap[w0.heap.size+1+1+1+1]?=some (.cells #[.int .i64 2] 27 (0,0))∧checkedF but ps p ts false=2
  have hLI:∀ k,Lasts w2.heap.size (I k):=fun k=>Lasts.and (Lasts.from (by omega)) (Lasts.and (Lasts.has _ (by simp)) (Lasts.and (Lasts.has _ (by simp)) (Lasts.and (Lasts.has _ (by simp)) (Lasts.and (TermsAt.lasts _ _ _ _)
   (Lasts.ex fun nb=>Lasts.ex fun x=>Lasts.and (Lasts.has _ (by simp)) (Lasts.and (Lasts.has _ (by simp)) (Lasts.const _ _)))))))
  have hLX:∀ k,Lasts w2.heap.size (Ix k):=fun k=>Lasts.and (Lasts.const _ _)<|Lasts.and (Lasts.from (by omega)) (Lasts.and (Lasts.has _ (by simp)) (Lasts.const _ _))
  refine ⟨_,_,ts.length,namesX ts,fun w=>TermsAt w pb tv2 ts,I,Ix,fun _ _=>False,rfl,c120,Names_seq pb tv2 ts,⟨eW,o5,o6,o7,hTA,false,0,o8,o9,rfl⟩,fun k w h=>h.2.2.2.2.1,hLI,hLX,?_,?_,?_,?_⟩
  · intro rec j w3 hj hI3 hrec hready
    refine ⟨hready,fun w4 hbz=>?_⟩
    have hrec4:=hrec.busied hbz
    have hI4:=(hLI j).busied hbz (Nat.le_succ _) hI3
    clear hI3 hrec hready hbz
    obtain ⟨e4,o5,o6,o7,hTA4,nb,x,o8,o9,hF⟩:=hI4
    obtain ⟨t,hx⟩:=getElem?_lt hj
    rw [show namesX ts j = .string t.field by unfold namesX;rw [hx]]
    have hd:ts.drop j=t::ts.drop (j+1):=by
     rw [List.drop_eq_getElem_cons hj]
     congr 1
     exact (List.getElem?_eq_some_iff.1 hx).2
    rw [hd] at hF
    simp only [checkedF] at hF
    have hm4:=hm.ext e4
    have s4:=e4.size
    have l9:w1.heap.size < w4.heap.size:=(Array.getElem?_eq_some_iff.1 o9).1
    have l8:w0.heap.size+1+1+1+1 < w4.heap.size:=(Array.getElem?_eq_some_iff.1 o8).1
    simp (disch:=try exact DI) only [↓PR,QR,Int.reduceBEq,Int.reduceBNe,Int.reduceLT,Int.reduceLE,Int.reduceGT,Int.reduceGE,Int.reduceNeg,↓n101c1,↓n101c2,↓n101c3,↓n101c4,↓n101c5,↓n101c6,(cells_of_heap o5).1,(cells_of_heap o6).1]
    rw [op_lookupO Tryz.underlying55 Tryz.underlying9 ty58 hm4]
    have next:∀ nb' w5,Ext w4 w5→checkedF but ps p (ts.drop (j+1)) nb'=checkedF but ps p ts false→nb'=nb→I (j+1) w5:=fun nb' w5 e5 h hn=>(hLI (j+1)).ext _ _ ⟨e4,o5,o6,o7,hTA4,nb,x,o8,o9,hn ▸ h⟩ e5
    cases hl:lastOf ps t.field with
    | none =>
     rw [hl] at hF
     simp (disch:=try exact DI) only [↓PR,QR,Int.reduceBEq,Int.reduceBNe,Int.reduceLT,Int.reduceLE,Int.reduceGT,Int.reduceGE,Int.reduceNeg,↓n101c1,↓n101c2,↓n101c3,↓n101c4,↓n101c5,↓n101c6,(cells_of_heap o5).1]
     by_cases hbut:t.field=but
     · rw [if_pos hbut] at hF
       simp only [hbut,decide_true]
       simp (disch:=try exact DI) only [↓PR,QR,Int.reduceBEq,Int.reduceBNe,Int.reduceLT,Int.reduceLE,Int.reduceGT,Int.reduceGE,Int.reduceNeg]
       exact ⟨hrec4.alloc _,next nb _ ee hF rfl⟩
     · rw [if_neg hbut] at hF
       simp only [hbut,decide_false]
       simp (disch:=try exact DI) only [↓PR,QR,Int.reduceBEq,Int.reduceBNe,Int.reduceLT,Int.reduceLE,Int.reduceGT,Int.reduceGE,Int.reduceNeg,↓n101c1,↓n101c2,↓n101c3,↓n101c4,↓n101c5,↓n101c6,(cells_of_heap o9).1,(cells_of_heap o9).2]
       refine ⟨(hrec4.setCell _ _).alloc _,ee,by simp (disch:=try exact DI) only [↓PR,QR,Int.reduceBEq,Int.reduceBNe,Int.reduceLT,Int.reduceLE,Int.reduceGT,Int.reduceGE,Int.reduceNeg,o5],by simp (disch:=try exact DI) only [↓PR,QR,Int.reduceBEq,Int.reduceBNe,Int.reduceLT,Int.reduceLE,Int.reduceGT,Int.reduceGE,Int.reduceNeg,o6],by simp (disch:=try exact DI) only [↓PR,QR,Int.reduceBEq,Int.reduceBNe,Int.reduceLT,Int.reduceLE,Int.reduceGT,Int.reduceGE,Int.reduceNeg,o7],(hTA4.set (by omega) _).ext ((Ext.refl _).alloc _),true,x,by simp (disch:=try exact DI) only [↓PR,QR,Int.reduceBEq,Int.reduceBNe,Int.reduceLT,Int.reduceLE,Int.reduceGT,Int.reduceGE,Int.reduceNeg,o8],?_,hF⟩
       have:=((Ext.refl _).alloc (.cells #[.int .i64 0,.int .i64 0] 58)).obj (heap_set (o:=0) o9 (.bool true))
       simpa using this
    | some v =>
     obtain ⟨lo,hi,rfl⟩:=hr _ _ hl
     rw [hl] at hF
     simp (disch:=try exact DI) only [↓PR,QR,Int.reduceBEq,Int.reduceBNe,Int.reduceLT,Int.reduceLE,Int.reduceGT,Int.reduceGE,Int.reduceNeg,↓n101c1,↓n101c2,↓n101c3,↓n101c4,↓n101c5,↓n101c6,(cells_of_heap o5).1,rangeVal]
     by_cases hbut:t.field=but
     · rw [if_pos hbut] at hF
       simp only [hbut,decide_true]
       simp (disch:=try exact DI) only [↓PR,QR,Int.reduceBEq,Int.reduceBNe,Int.reduceLT,Int.reduceLE,Int.reduceGT,Int.reduceGE,Int.reduceNeg]
       exact ⟨hrec4.alloc _,next nb _ ee hF rfl⟩
     · rw [if_neg hbut] at hF
       simp only [hbut,decide_false]
       simp (disch:=try exact DI) only [↓PR,QR,Int.reduceBEq,Int.reduceBNe,Int.reduceLT,Int.reduceLE,Int.reduceGT,Int.reduceGE,Int.reduceNeg,↓n101c1,↓n101c2,↓n101c3,↓n101c4,↓n101c5,↓n101c6,(cells_of_heap o7).1]
       rw [callV_func hg]
       refine zcr (hc _ lo hi ee) fun w6 e6=>?_
       have s6:=e6.size
       simp only [World.size_alloc] at s6
       cases hp:p (rangeVal lo hi) with
       | true =>
        simp only [hp,if_true] at hF
        simp (disch:=try exact DI) only [↓PR,QR,Int.reduceBEq,Int.reduceBNe,Int.reduceLT,Int.reduceLE,Int.reduceGT,Int.reduceGE,Int.reduceNeg,↓n101c1,↓n101c2,↓n101c3,↓n101c4,↓n101c5,↓n101c6]
        exact ⟨(hrec4.alloc _).ext e6,next nb _ ee hF rfl⟩
       | false =>
        simp only [hp,Bool.false_eq_true,if_false] at hF
        simp (disch:=try exact DI) only [↓PR,QR,Int.reduceBEq,Int.reduceBNe,Int.reduceLT,Int.reduceLE,Int.reduceGT,Int.reduceGE,Int.reduceNeg,↓n101c1,↓n101c2,↓n101c3,↓n101c4,↓n101c5,↓n101c6,e6.cellQ,e6.frozenQ,(cells_of_heap o8).1,(cells_of_heap o8).2]
        refine ⟨((hrec4.alloc _).ext e6).setCell _ _,rfl,ee,?_,hF.symm⟩
        have:=heap_set (o:=0) ((((Ext.refl w4).alloc (.cells #[.int .i64 lo,.int .i64 hi] 58)).trans e6).obj o8) (.int .i64 2)
        simpa using this
  · rintro w3 ⟨e3,o5,o6,o7,hTA3,nb,x,o8,o9,hF⟩ hmk
    rw [List.drop_length] at hF
    simp only [checkedF] at hF
    have l2:w2.heap.size < w3.heap.size:=(Array.getElem?_eq_some_iff.1 hmk).1
    cases nb with
    | true =>
     simp (disch:=try exact DI) only [↓PR,QR,Int.reduceBEq,Int.reduceBNe,Int.reduceLT,Int.reduceLE,Int.reduceGT,Int.reduceGE,Int.reduceNeg,↓n101c1,↓n101c2,↓n101c3,↓n101c4,↓n101c5,↓n101c6,(cells_of_heap o8).1,(cells_of_heap o8).2,(cells_of_heap o9).1]
     refine outX_mark (hmk.setCell _ _) ?_
     simp (disch:=try exact DI) only [↓PR,QR,Int.reduceBEq,Int.reduceBNe,Int.reduceLT,Int.reduceLE,Int.reduceGT,Int.reduceGE,Int.reduceNeg,outX_nil,retV,resOne,cell_putMark (hmk.setCell _ _),(cells_of_heap o8).1]
     exact ⟨by rw [← hF];rfl,ee⟩
    | false =>
     simp (disch:=try exact DI) only [↓PR,QR,Int.reduceBEq,Int.reduceBNe,Int.reduceLT,Int.reduceLE,Int.reduceGT,Int.reduceGE,Int.reduceNeg,↓n101c1,↓n101c2,↓n101c3,↓n101c4,↓n101c5,↓n101c6,(cells_of_heap o8).1,(cells_of_heap o8).2,(cells_of_heap o9).1]
     refine outX_mark (hmk.setCell _ _) ?_
     simp (disch:=try exact DI) only [↓PR,QR,Int.reduceBEq,Int.reduceBNe,Int.reduceLT,Int.reduceLE,Int.reduceGT,Int.reduceGE,Int.reduceNeg,outX_nil,retV,resOne,cell_putMark (hmk.setCell _ _),(cells_of_heap o8).1]
     exact ⟨by rw [← hF];rfl,ee⟩
  · rintro c w3 ⟨rfl,e3,o8,hF⟩ hmk
    have l2:w2.heap.size < w3.heap.size:=(Array.getElem?_eq_some_iff.1 hmk).1
    show outX _ _ _ _ _
    refine outX_mark hmk ?_
    simp (disch:=try exact DI) only [↓PR,QR,Int.reduceBEq,Int.reduceBNe,Int.reduceLT,Int.reduceLE,Int.reduceGT,Int.reduceGE,Int.reduceNeg,outX_nil,retV,resOne,cell_putMark hmk,(cells_of_heap o8).1]
    exact ⟨by rw [hF],ee⟩
  · rintro _ _ h
    exact h.elim
end Go.Proofs.YtiajhbbmgglmlaaGreat
namespace Go.Proofs.YtiajhbbmgglmlaaGreat
open Sw
open Go.RowKit (intOf Below)
def numW (base:Int) (vf:TermD→Int) (ts:List TermD):Int:=ts.foldl (fun n t=>IntKind.i64.wrap (n+IntKind.i64.wrap (t.factor*vf t))) base
theorem number_ret (w0:World) (v:Value) (base:Int) (ts:List TermD) (g:FuncId) (caps:Array Value) (vf:TermD→Int) (hs:SizeVal w0 v base ts) (hg:Callable Pg g)
 (hc:∀ w t,Ext w0 w→Ret Pg g (#[termVal t]++caps) w fun r w'=>r = .int .i64 (vf t)∧Ext w w') :
 Ret Pg 124 #[v,.func (.func g) #[] caps] w0 fun r w'=>r = .int .i64 (numW base vf ts)∧Ext w0 w':=by
 obtain ⟨tv,rfl,hT⟩:=hs
 obtain ⟨A,c,rfl,hlc,hcm,hlm,hel⟩:=SliceOf.open hT
 refine n104s (R:=retR _) ?_;unfold n104
 simp (disch:=try exact DI) only [↓PR,QR,Int.reduceBEq,Int.reduceBNe,Int.reduceLT,Int.reduceLE,Int.reduceGT,Int.reduceGE,Int.reduceNeg,↓n104c1,↓n104c2,↓n104c3]
 refine loop2_intro (fun a0 a1 w=>∃ (k:Nat) (n:Int),a0 = .int .i64 n∧a1 = .int .i64 (k:Int)∧k≤ts.length∧Ext w0 w∧numW n vf (ts.drop k)=numW base vf ts) (fun a0 a1 _=>ts.length - (intOf a1).toNat) ⟨0,base,rfl,rfl,Nat.zero_le _,ee,rfl⟩ ?_
 rintro _ _ w ⟨k,n,rfl,rfl,hk,e,hI⟩
 have se:=e.size
 rcases drop_cases hk with ⟨x,hx,hd,hlt,hdec⟩ | ⟨hk,hd,hdec⟩
 · obtain ⟨b,o,cs,rfl,hl,hA,rfl⟩:=hel k x hx
   rw [hd] at hI
   simp (disch:=try exact DI) only [↓PR,QR,Int.reduceBEq,Int.reduceBNe,Int.reduceLT,Int.reduceLE,Int.reduceGT,Int.reduceGE,Int.reduceNeg,↓n104c1,↓n104c2,↓n104c3,hdec,hA.c2]
   refine drawK_intro ?_
   simp (disch:=try exact DI) only [↓PR,QR,Int.reduceBEq,Int.reduceBNe,Int.reduceLT,Int.reduceLE,Int.reduceGT,Int.reduceGE,Int.reduceNeg,↓n104c1,↓n104c2,↓n104c3]
   rw [callV_func hg]
   refine zcr (hc _ x ee) fun w1 e1=>?_
   refine ⟨e1,?_⟩
   simp (disch:=try exact DI) only [↓PR,QR,Int.reduceBEq,Int.reduceBNe,Int.reduceLT,Int.reduceLE,Int.reduceGT,Int.reduceGE,Int.reduceNeg,↓n104c1,↓n104c2,↓n104c3]
   exact ⟨⟨k+1,_,rfl,rfl,by omega,ee,hI⟩,meas_lt hlt⟩
 · subst hk
   simp (disch:=try exact DI) only [↓PR,QR,Int.reduceBEq,Int.reduceBNe,Int.reduceLT,Int.reduceLE,Int.reduceGT,Int.reduceGE,Int.reduceNeg,↓n104c1,↓n104c2,↓n104c3,hdec]
   rw [hd] at hI
   exact ⟨by rw [← hI];rfl,e⟩
def RP (rp:List (ByteArray×Int×Int)):List (ByteArray×Value):=rp.map fun p=>(p.1,rangeVal p.2.1 p.2.2)
def lastR (rp:List (ByteArray×Int×Int)) (s:ByteArray):Option (Int×Int):=(rp.reverse.find? (fun p=>decide (p.1=s))).map (·.2)
theorem lastOf_RP (rp:List (ByteArray×Int×Int)) (s:ByteArray):lastOf (RP rp) s=(lastR rp s).map fun q=>rangeVal q.1 q.2:=by
 unfold lastOf RP lastR
 rw [← List.map_reverse,List.find?_map]
 simp only [Option.map_map]
 rfl
def numR (l:List FieldD):List (ByteArray×Int×Int):=(l.filter numberB).map fun f=>(f.name,f.low,highOf f)
theorem numPairs_RP (l:List FieldD):numPairs l=RP (numR l):=by
 unfold numPairs RP numR
 rw [List.map_map]
 rfl
def endF (rp:List (ByteArray×Int×Int)) (least:Bool) (t:TermD):Int:=match lastR rp t.field with
 | some (lo,hi)=>if least == decide (t.factor > 0) then lo else hi
 | none=>0
theorem end_ret (w0:World) (t:TermD) (pm pl m:Nat) (rp:List (ByteArray×Int×Int)) (least:Bool) (h1:w0.cell? ⟨pm,0,none⟩=some (.map (some m))) (h2:w0.cell? ⟨pl,0,none⟩=some (.bool least)) (hm:MapOf w0 m (RP rp)) :
 Ret Pg 125 #[termVal t,.pointer (some ⟨pm,0,none⟩),.pointer (some ⟨pl,0,none⟩)] w0 fun r w'=>r = .int .i64 (endF rp least t)∧Ext w0 w':=by
 have hb1:=World.block_lt_of_cell? w0 _ h1
 have hb2:=World.block_lt_of_cell? w0 _ h2
 simp only at hb1 hb2
 unfold termVal
 refine n93s (R:=retR _) ?_;unfold n93
 simp (disch:=try exact DI) only [↓PR,QR,Int.reduceBEq,Int.reduceBNe,Int.reduceLT,Int.reduceLE,Int.reduceGT,Int.reduceGE,Int.reduceNeg,h1,h2]
 rw [op_lookup1O Tryz.underlying55 Tryz.underlying9 ty58 (hm.ext ee),lastOf_RP]
 unfold endF
 cases hl:lastR rp t.field with
 | none =>
  simp (disch:=try exact DI) only [↓PR,QR,Int.reduceBEq,Int.reduceBNe,Int.reduceLT,Int.reduceLE,Int.reduceGT,Int.reduceGE,Int.reduceNeg,↓n93c1,h1,h2,Option.map_none]
  cases (least == decide (0 < t.factor)) with
  | true=>simp (disch:=try exact DI) only [↓PR,QR,Int.reduceBEq,Int.reduceBNe,Int.reduceLT,Int.reduceLE,Int.reduceGT,Int.reduceGE,Int.reduceNeg,↓n93c1,h1,h2];exact ⟨by first | trivial | rfl,ee⟩
  | false =>
   simp (disch:=try exact DI) only [↓PR,QR,Int.reduceBEq,Int.reduceBNe,Int.reduceLT,Int.reduceLE,Int.reduceGT,Int.reduceGE,Int.reduceNeg,↓n93c1,h1,h2]
   rw [op_lookup1O Tryz.underlying55 Tryz.underlying9 ty58 (hm.ext ee),lastOf_RP,hl]
   simp (disch:=try exact DI) only [↓PR,QR,Int.reduceBEq,Int.reduceBNe,Int.reduceLT,Int.reduceLE,Int.reduceGT,Int.reduceGE,Int.reduceNeg,↓n93c1,Option.map_none]
   exact ⟨by first | trivial | rfl,ee⟩
 | some q =>
  obtain ⟨lo,hi⟩:=q
  simp (disch:=try exact DI) only [↓PR,QR,Int.reduceBEq,Int.reduceBNe,Int.reduceLT,Int.reduceLE,Int.reduceGT,Int.reduceGE,Int.reduceNeg,↓n93c1,h1,h2,rangeVal]
  cases (least == decide (0 < t.factor)) with
  | true=>simp (disch:=try exact DI) only [↓PR,QR,Int.reduceBEq,Int.reduceBNe,Int.reduceLT,Int.reduceLE,Int.reduceGT,Int.reduceGE,Int.reduceNeg,↓n93c1,h1,h2];exact ⟨by first | trivial | rfl,ee⟩
  | false =>
   simp (disch:=try exact DI) only [↓PR,QR,Int.reduceBEq,Int.reduceBNe,Int.reduceLT,Int.reduceLE,Int.reduceGT,Int.reduceGE,Int.reduceNeg,↓n93c1,h1,h2]
   rw [op_lookup1O Tryz.underlying55 Tryz.underlying9 ty58 (hm.ext ee),lastOf_RP,hl]
   simp (disch:=try exact DI) only [↓PR,QR,Int.reduceBEq,Int.reduceBNe,Int.reduceLT,Int.reduceLE,Int.reduceGT,Int.reduceGE,Int.reduceNeg,↓n93c1,rangeVal]
   exact ⟨by first | trivial | rfl,ee⟩
def wideB (lo hi:Int):Bool:=decide (0≤lo)&&decide (lo≤hi)&&decide (hi < 34359738368)
def wideV:Value→Bool
 | .agg a=>match a.toList with
  | [.int _ lo,.int _ hi]=>wideB lo hi
  | _=>false
 | _=>false
theorem fine_ret (w0:World) (lo hi:Int):Ret Pg 121 #[rangeVal lo hi] w0 fun r w'=>r = .bool (wideV (rangeVal lo hi))∧Ext w0 w':=by
 unfold rangeVal
 refine n91s (R:=retR _) ?_;unfold n91
 simp (disch:=try exact DI) only [↓PR,QR,Int.reduceBEq,Int.reduceBNe,Int.reduceLT,Int.reduceLE,Int.reduceGT,Int.reduceGE,Int.reduceNeg,Sw.joinK_eq]
 refine zcr (all3_ret (by simp only [World.size_alloc]) _ _ _ _) fun w1 e1=>?_
 have s1:=e1.size
 try simp only [World.size_alloc,World.size_setCell,World.size_drew,World.putObj_size,Sw.putW_size] at s1
 simp (disch:=try exact DI) only [↓PR,QR,Int.reduceBEq,Int.reduceBNe,Int.reduceLT,Int.reduceLE,Int.reduceGT,Int.reduceGE,Int.reduceNeg,Sw.joinK_eq]
 exact ⟨rfl,ee⟩
theorem ends_ret (w0:World) (pm ps m:Nat) (rp:List (ByteArray×Int×Int)) (least:Bool) (base:Int) (tv:Value) (ts:List TermD) (h0:w0.cell? ⟨ps,0,none⟩=some (.int .i64 base)) (h0':w0.cell? ⟨ps,1,none⟩=some tv) (hT:TermsOf w0 tv ts)
 (h1:w0.cell? ⟨pm,0,none⟩=some (.map (some m))) (hm:MapOf w0 m (RP rp)) :
 Ret Pg 123 #[.bool least,.pointer (some ⟨ps,0,none⟩),.pointer (some ⟨pm,0,none⟩)] w0 fun r w'=>r = .int .i64 (numW base (endF rp least) ts)∧Ext w0 w':=by
 have hb1:=World.block_lt_of_cell? w0 _ h0
 have hb2:=World.block_lt_of_cell? w0 _ h1
 simp only at hb1 hb2
 refine n92s (R:=retR _) ?_;unfold n92
 simp (disch:=try exact DI) only [↓PR,QR,Int.reduceBEq,Int.reduceBNe,Int.reduceLT,Int.reduceLE,Int.reduceGT,Int.reduceGE,Int.reduceNeg,h0,h0']
 refine callK_ret (number_ret _ _ base ts _ _ (endF rp least) ⟨tv,rfl,TermsOf.ext hT ee⟩ c125 ?_) ?_
 · intro w t e
   exact end_ret w t pm w0.heap.size m rp least (((Ext.refl w0).alloc _).trans e |>.cell h1) (e.cell (by simp (disch:=try exact DI) only [↓PR,QR,Int.reduceBEq,Int.reduceBNe,Int.reduceLT,Int.reduceLE,Int.reduceGT,Int.reduceGE,Int.reduceNeg])) (hm.ext (((Ext.refl w0).alloc _).trans e))
 rintro _ w1 ⟨rfl,e1⟩
 simp (disch:=try exact DI) only [↓PR,QR,Int.reduceBEq,Int.reduceBNe,Int.reduceLT,Int.reduceLE,Int.reduceGT,Int.reduceGE,Int.reduceNeg,Sw.joinK_eq]
 exact ⟨by first | trivial | rfl,ee⟩
def intervalE (base:Int) (ts:List TermD) (rp:List (ByteArray×Int×Int)):Int:=if sizeB base ts then checkedF ByteArray.empty (RP rp) wideV ts false else 2
def intervalL (base:Int) (ts:List TermD) (rp:List (ByteArray×Int×Int)):Int:=if intervalE base ts rp=0 then numW base (endF rp true) ts else 0
def intervalH (base:Int) (ts:List TermD) (rp:List (ByteArray×Int×Int)):Int:=if intervalE base ts rp=0 then numW base (endF rp false) ts else 0
theorem Interval_ret (w0:World) (v:Value) (base:Int) (ts:List TermD) (m:Nat) (rp:List (ByteArray×Int×Int)) (hs:SizeVal w0 v base ts) (hb:ts.length≤1048576) (hm:MapOf w0 m (RP rp)) :
 Ret Pg 114 #[v,.map (some m)] w0 fun r w'=>r = .tuple #[rangeVal (intervalL base ts rp) (intervalH base ts rp),.int .i64 (intervalE base ts rp)]∧Ext w0 w':=by
 obtain ⟨tv,rfl,hT⟩:=hs
 have hT1:=SliceOf.oneCell hT
 have hmlt:=hm.lt
 refine n90s (R:=retR _) ?_;unfold n90
 simp (disch:=try exact DI) only [↓PR,QR,Int.reduceBEq,Int.reduceBNe,Int.reduceLT,Int.reduceLE,Int.reduceGT,Int.reduceGE,Int.reduceNeg,↓n90c1,↓n90c2,↓n90c3]
 refine callK_ret (checked_Range_ret _ _ base ts ByteArray.empty m (RP rp) _ _ wideV ⟨tv,rfl,TermsOf.ext hT ee⟩ hb (hm.ext ee) (fun k v hv=>?_) c121 (fun w lo hi e=>by simpa using fine_ret w lo hi)) ?_
 · rw [lastOf_RP] at hv
   obtain ⟨q,_,rfl⟩:=Option.map_eq_some_iff.1 hv
   exact ⟨q.1,q.2,rfl⟩
 rintro _ w1 ⟨rfl,e1⟩
 have s1:=e1.size
 simp only [World.size_alloc] at s1
 show n90c3 _ _ _ (.int .i64 (intervalE base ts rp)) _ w1
 unfold intervalL intervalH
 by_cases hE:intervalE base ts rp=0
 · rw [hE]
   simp (disch:=try exact DI) only [↓PR,QR,Int.reduceBEq,Int.reduceBNe,Int.reduceLT,Int.reduceLE,Int.reduceGT,Int.reduceGE,Int.reduceNeg,↓n90c1,↓n90c2,↓n90c3]
   have c0:w1.cell? ⟨w0.heap.size,0,none⟩=some (.int .i64 base):=by simp (disch:=try exact DI) only [↓PR,QR,Int.reduceBEq,Int.reduceBNe,Int.reduceLT,Int.reduceLE,Int.reduceGT,Int.reduceGE,Int.reduceNeg,e1.cellQ]
   have c1:w1.cell? ⟨w0.heap.size,1,none⟩=some tv:=by simp (disch:=try exact DI) only [↓PR,QR,Int.reduceBEq,Int.reduceBNe,Int.reduceLT,Int.reduceLE,Int.reduceGT,Int.reduceGE,Int.reduceNeg,e1.cellQ]
   have c2:w1.cell? ⟨w0.heap.size+1,0,none⟩=some (.map (some m)):=by simp (disch:=try exact DI) only [↓PR,QR,Int.reduceBEq,Int.reduceBNe,Int.reduceLT,Int.reduceLE,Int.reduceGT,Int.reduceGE,Int.reduceNeg,e1.cellQ]
   have eW:Ext w0 w1:=ee
   rw [callV_func c123]
   refine zcr (ends_ret w1 _ _ m rp true base tv ts c0 c1 (hT.ext eW) c2 (hm.ext eW)) fun w2 e2=>?_
   have s2:=e2.size
   simp only [World.size_alloc]
   rw [callV_func c123]
   refine zcr (ends_ret w2 _ _ m rp false base tv ts (e2.cell c0) (e2.cell c1) ((TermsOf.ext hT eW).ext e2) (e2.cell c2) ((hm.ext eW).ext e2)) fun w3 e3=>?_
   have s3:=e3.size
   simp (disch:=try exact DI) only [↓PR,QR,Int.reduceBEq,Int.reduceBNe,Int.reduceLT,Int.reduceLE,Int.reduceGT,Int.reduceGE,Int.reduceNeg,↓n90c1,↓n90c2,↓n90c3,e1.cellQ,e1.frozenQ,e2.cellQ,e2.frozenQ,e3.cellQ,e3.frozenQ]
   exact ⟨by first | trivial | rfl,ee⟩
 · have hne:(intervalE base ts rp != 0)=true:=by simpa using hE
   simp (disch:=try exact DI) only [↓PR,QR,Int.reduceBEq,Int.reduceBNe,Int.reduceLT,Int.reduceLE,Int.reduceGT,Int.reduceGE,Int.reduceNeg,↓n90c1,↓n90c2,↓n90c3,hne,e1.cellQ,e1.frozenQ]
   simp only [hE,if_false]
   exact ⟨by first | trivial | rfl,ee⟩
end Go.Proofs.YtiajhbbmgglmlaaGreat
namespace Go.Proofs.YtiajhbbmgglmlaaGreat
open Sw
def n59c1 (t0 t12 t15 t19 t23:Value) (next1:KW) (R:RT) (w:World):Prop :=
 pickK t19 t23 (.bool false) fun t24 =>
 C0 37 #[t0,t24,(.int .i64 7)] R w fun t25 w =>
 B0 .add 3 true t12 (.int .i64 1) R w fun t27 w =>
 next1 t15 t27 w
def n59c2 (t0 t1 t2 t3 t12:Value) (next1:KW) (R:RT) (w:World):Prop :=
 X0 85 t3 t12 R w fun t14 w =>
 L0 3 t14 R w fun t15 w =>
 B0 .geq 3 false t15 t1 R w fun t19 w =>
 joinK (fun (t23:Value) (w:World) =>
 n59c1 t0 t12 t15 t19 t23 next1 R w) fun K2 =>
 guardP t19 true (
 B0 .leq 3 false t15 t2 R w fun t23 w =>
 K2 t23 w) (
 K2 undef w)
def n59 (t0 t1 t2 t3:Value) (R:RT) (w:World):Prop :=
 opV Pg (Builtin.len_ #[85] 3 #[t3]) (panK R) w fun t11 w =>
 loop2 (fun t1 t12 w next1 =>
 B0 .lss 3 false t12 t11 R w fun t13 w =>
 condP t13 (
 n59c2 t0 t1 t2 t3 t12 next1 R w) (
 R (.returned (.tuple #[])) w)) t1 (.int .i64 0) w
theorem n59s {t0 t1 t2 t3:Value} {R:RT} {w:World} (h:n59 t0 t1 t2 t3 R w):Calls Pg 81 #[t0,t1,t2,t3] w R:=by
 refine calls_of_den (args:=[t0,t1,t2,t3]) Tryz.func81 rfl (Nat.le_of_ble_eq_true rfl) ?_
 unfold n59 at h
 refine zs<|zr<|zm ?_
 refine zx h fun t11 w h=>?_
 refine zm<|zn<|zk<|sim_block ?_
 obtain ⟨I,μ,h0,hr⟩:=h
 refine sim_loop [1,9,12,13,14,15,16,17,18,19,20,21,22,23,24,25,26,27] (by kernel_rfl) (fun ρ w=>I (ρ 1) (ρ 12) w) (fun ρ w=>μ (ρ 1) (ρ 12) w) h0 (fun σ w hI=>?_)
 have h:=hr _ _ _ hI
 clear hr h0 hI
 refine zs<|zr ?_
 refine zb h fun t13 w h=>?_
 refine zn<|zk<|zs ?_
 refine sim_cond h rfl (fun h=>?_) (fun h=>?_)
 · refine sim_skip<|zk<|zs<|sim_block<|zs<|zr ?_
   refine zv h fun t14 w h=>?_
   refine zv h fun t15 w h=>?_
   refine zm<|zn<|zk<|zs<|sim_regionG ?_
   refine sim_seg 5 rfl ?_
   refine zm<|zm<|zm ?_
   refine zb h fun t19 w h=>?_
   refine zm<|zn ?_
   refine joinK_elim h (fun K2 hK h=>?_)
   refine sim_groupJ 3 4 true [21,22,23] (fun ρ w=>K2 (ρ 23) w) rfl rfl (fun T hT=>guardP_mono h (fun h=>?_) (fun h=>?_)) (fun σ w h=>?_)
   · refine zm<|zm ?_
     refine zb h fun t23 w h=>?_
     refine zn ?_
     exact zt hT h
   · exact zt hT h
   subst hK
   refine sim_seg 2 rfl ?_
   refine sim_pick h rfl rfl rfl ?_;intro t24 h
   refine zc h c37 fun t25 w h=>?_
   refine zn<|sim_end<|zk<|zr<|zm<|zm<|zn<|sim_block_normal<|zk<|zr ?_
   refine zb h fun t27 w h=>?_
   refine zm<|zn<|zk ?_
   exact ⟨rfl,h⟩
 · refine sim_exit<|sim_then_exit<|sim_then_exit<|sim_block_hit ?_
   refine body_normal ?_
   exact body_ret0 rfl h
def n79 (t0:Value) (R:RT) (w:World):Prop :=
 opN Pg (nilN t0) (panK R) w fun t5 w =>
 F0 52 t5 2 R w fun t6 w =>
 opU Pg (Instr.storeAt 3 t6 (.int .i64 0)) (panK R) w fun w =>
 opN Pg (nilN t0) (panK R) w fun t7 w =>
 F0 52 t7 3 R w fun t8 w =>
 opU Pg (Instr.storeAt 4 t8 (.bool false)) (panK R) w fun w =>
 opN Pg (nilN t0) (panK R) w fun t9 w =>
 F0 52 t9 5 R w fun t10 w =>
 opU Pg (Instr.storeAt 3 t10 (.int .i64 0)) (panK R) w fun w =>
 R (.returned (.tuple #[])) w
theorem n79s {t0:Value} {R:RT} {w:World} (h:n79 t0 R w):Calls Pg 82 #[t0] w R:=by
 refine calls_of_den (args:=[t0]) Tryz.func82 rfl (Nat.le_of_ble_eq_true rfl) ?_
 unfold n79 at h
 refine zr<|zm<|zm<|zm ?_
 refine sim_next h rfl rfl (fun _ _ h=>⟨rfl,h⟩) ?_;intro t5 w h
 refine zv h fun t6 w h=>?_
 refine zu h fun w h=>?_
 refine sim_next h rfl rfl (fun _ _ h=>⟨rfl,h⟩) ?_;intro t7 w h
 refine zv h fun t8 w h=>?_
 refine zu h fun w h=>?_
 refine sim_next h rfl rfl (fun _ _ h=>⟨rfl,h⟩) ?_;intro t9 w h
 refine zv h fun t10 w h=>?_
 refine zu h fun w h=>?_
 refine zn ?_
 refine body_normal ?_
 exact body_ret0 rfl h
def n80c1 (t0 t3:Value) (C1:World→Prop) (R:RT) (w:World):Prop :=
 qV Pg C1 (Instr.fieldAt 52 t3 2) fun t8 =>
 qV Pg C1 (Instr.loadAt 3 t8) fun t9 =>
 qV Pg C1 (binS .shl 3 true (.int .i64 1) t9) fun t10 =>
 qV Pg C1 (binS .sub 3 true t10 (.int .i64 1)) fun t11 =>
 qV Pg C1 (Instr.fieldAt 52 t3 5) fun t12 =>
 qV Pg C1 (Instr.loadAt 3 t12) fun t13 =>
 opV Pg (Instr.buildSlice 85 1 #[(0,t13)]) (panK R) w fun t14 w =>
 C1 w∧(
 C0 81 #[t0,(.int .i64 0),t11,t14] R w fun t15 w =>
 C1 w∧(
 R (.returned (.tuple #[])) w))
def n80 (t0 t1:Value) (R:RT) (w:World):Prop :=
 opV Pg (Instr.box 52 t1) (panK R) w fun t3 w =>
 L0 52 t3 R w fun t5 w =>
 C0 80 #[t0,t5] R w fun t6 w =>
 drawK w fun C1 w =>
 n80c1 t0 t3 C1 R w
theorem n80s {t0 t1:Value} {R:RT} {w:World} (h:n80 t0 t1 R w):Calls Pg 83 #[t0,t1] w R:=by
 refine calls_of_den (args:=[t0,t1]) Tryz.func83 rfl (Nat.le_of_ble_eq_true rfl) ?_
 unfold n80 at h
 refine zs<|zr ?_
 refine zv h fun t3 w h=>?_
 refine zn<|zk<|zs<|zr<|zm ?_
 refine zv h fun t5 w h=>?_
 refine zc h c80 fun t6 w h=>?_
 refine zn<|zk ?_
 obtain ⟨C1,hC,h⟩:=h
 refine sim_draw [7,8,9,10,11,12,13,14,15] (by kernel_rfl) (by kernel_rfl) C1 ?_
 refine zw 0 hC ?_
 refine ze 1 hC h fun t8 h=>?_
 refine ze 2 hC h fun t9 h=>?_
 obtain ⟨t10,hv,h⟩:=h
 refine sim_dsilent 3 hC rfl (by kernel_rfl) (by kernel_rfl) (fun _ _=>rfl) rfl (Sw.qV_bin rfl rfl rfl hv) ?_
 obtain ⟨t11,hv,h⟩:=h
 refine sim_dsilent 4 hC rfl (by kernel_rfl) (by kernel_rfl) (fun _ _=>rfl) rfl (Sw.qV_bin rfl rfl rfl hv) ?_
 refine ze 5 hC h fun t12 h=>?_
 refine ze 6 hC h fun t13 h=>?_
 refine sim_dloud 7 rfl (by kernel_rfl) (fun _ _=>rfl) ?_
 refine sim_buildSlice h rfl (fun _ _ h _ _=>⟨rfl,h⟩) ?_;intro t14 w h
 refine zn ?_
 obtain ⟨hC,h⟩:=h
 refine ⟨hC,?_⟩
 refine sim_dloud 8 rfl (by kernel_rfl) (fun _ _=>rfl) ?_
 refine sim_call h c81 rfl (fun _ _ h _ _=>⟨rfl,h⟩) ?_;intro t15 w h
 refine zn ?_
 obtain ⟨hC,h⟩:=h
 refine ⟨hC,?_⟩
 refine sim_dend (by kernel_rfl) ?_
 refine body_normal ?_
 exact body_ret0 rfl h
def n81 (t0:Value) (R:RT) (w:World):Prop :=
 opN Pg (nilN t0) (panK R) w fun t5 w =>
 F0 52 t5 4 R w fun t6 w =>
 opU Pg (Instr.storeAt 4 t6 (.bool false)) (panK R) w fun w =>
 opN Pg (nilN t0) (panK R) w fun t7 w =>
 F0 52 t7 5 R w fun t8 w =>
 opU Pg (Instr.storeAt 3 t8 (.int .i64 0)) (panK R) w fun w =>
 opN Pg (nilN t0) (panK R) w fun t9 w =>
 F0 52 t9 6 R w fun t10 w =>
 opU Pg (Instr.storeAt 3 t10 (.int .i64 0)) (panK R) w fun w =>
 R (.returned (.tuple #[])) w
theorem n81s {t0:Value} {R:RT} {w:World} (h:n81 t0 R w):Calls Pg 84 #[t0] w R:=by
 refine calls_of_den (args:=[t0]) Tryz.func84 rfl (Nat.le_of_ble_eq_true rfl) ?_
 unfold n81 at h
 refine zr<|zm<|zm<|zm ?_
 refine sim_next h rfl rfl (fun _ _ h=>⟨rfl,h⟩) ?_;intro t5 w h
 refine zv h fun t6 w h=>?_
 refine zu h fun w h=>?_
 refine sim_next h rfl rfl (fun _ _ h=>⟨rfl,h⟩) ?_;intro t7 w h
 refine zv h fun t8 w h=>?_
 refine zu h fun w h=>?_
 refine sim_next h rfl rfl (fun _ _ h=>⟨rfl,h⟩) ?_;intro t9 w h
 refine zv h fun t10 w h=>?_
 refine zu h fun w h=>?_
 refine zn ?_
 refine body_normal ?_
 exact body_ret0 rfl h
def n82 (t0 t1:Value) (R:RT) (w:World):Prop :=
 opV Pg (Instr.box 52 t1) (panK R) w fun t3 w =>
 F0 52 t3 5 R w fun t5 w =>
 L0 3 t5 R w fun t6 w =>
 F0 52 t3 6 R w fun t7 w =>
 L0 3 t7 R w fun t8 w =>
 opV Pg (Instr.buildSlice 85 2 #[(0,t6),(1,t8)]) (panK R) w fun t9 w =>
 C0 81 #[t0,(.int .i64 0),(.int .i64 34359738367),t9] R w fun t10 w =>
 R (.returned (.tuple #[])) w
theorem n82s {t0 t1:Value} {R:RT} {w:World} (h:n82 t0 t1 R w):Calls Pg 85 #[t0,t1] w R:=by
 refine calls_of_den (args:=[t0,t1]) Tryz.func85 rfl (Nat.le_of_ble_eq_true rfl) ?_
 unfold n82 at h
 refine zs<|zr ?_
 refine zv h fun t3 w h=>?_
 refine zn<|zk<|zr<|zm ?_
 refine zv h fun t5 w h=>?_
 refine zv h fun t6 w h=>?_
 refine zv h fun t7 w h=>?_
 refine zv h fun t8 w h=>?_
 refine sim_buildSlice h rfl (fun _ _ h=>⟨rfl,h⟩) ?_;intro t9 w h
 refine zc h c81 fun t10 w h=>?_
 refine zn ?_
 refine body_normal ?_
 exact body_ret0 rfl h
def n83 (t0:Value) (R:RT) (w:World):Prop :=
 opV Pg (Instr.build 49 #[]) (panK R) w fun t3 w =>
 opN Pg (nilN t0) (panK R) w fun t4 w =>
 F0 52 t4 7 R w fun t5 w =>
 opU Pg (Instr.storeAt 49 t5 t3) (panK R) w fun w =>
 R (.returned (.tuple #[])) w
theorem n83s {t0:Value} {R:RT} {w:World} (h:n83 t0 R w):Calls Pg 86 #[t0] w R:=by
 refine calls_of_den (args:=[t0]) Tryz.func86 rfl (Nat.le_of_ble_eq_true rfl) ?_
 unfold n83 at h
 refine zr<|zm ?_
 refine sim_build h rfl (fun _ _ h=>⟨rfl,h⟩) ?_;intro t3 w h
 refine sim_next h rfl rfl (fun _ _ h=>⟨rfl,h⟩) ?_;intro t4 w h
 refine zv h fun t5 w h=>?_
 refine zu h fun w h=>?_
 refine zn ?_
 refine body_normal ?_
 exact body_ret0 rfl h
def n58c1 (t2 t4 t21:Value) (Kr2:World→Prop) (Qr2:List PanicEntry→World→Prop) (R:RT) (w:World):Prop :=
 opV Pg (Instr.loadAt 55 t4) Qr2 w fun t23 w =>
 opV Pg (Instr.lookup 55 t23 t21 true) Qr2 w fun t25 w =>
 opV Pg (Instr.extract t25 0) Qr2 w fun t26 w =>
 opV Pg (Instr.extract t25 1) Qr2 w fun t27 w =>
 opV Pg (Instr.alloc 58 true (.tuple #[])) Qr2 w fun t6 w =>
 opU Pg (Instr.storeAt 58 t6 t26) Qr2 w fun w =>
 opV Pg (Instr.loadAt 61 t2) Qr2 w fun t28 w =>
 callK Pg 37 #[t28,t27,(.int .i64 8)] Qr2 w fun t30 w =>
 Kr2 w
def n58c2 (t8 t38 t40 t44:Value) (ds:List Deferred) (R:RT) (w:World):Prop :=
 pickK t40 t44 (.bool false) fun t45 =>
 joinK (fun (t49:Value) (w:World) =>
 pickK t45 t49 (.bool false) fun t50 =>
 callK Pg 37 #[t38,t50,(.int .i64 9)] (outQ Pg ds [] R) w fun t51 w =>
 outX Pg ds [] R w) fun K4 =>
 guardP t45 true (
 opV Pg (Instr.fieldAt 58 t8 1) (outQ Pg ds [] R) w fun t47 w =>
 opV Pg (Instr.loadAt 3 t47) (outQ Pg ds [] R) w fun t48 w =>
 opV Pg (binS .leq 3 true t48 (.int .i64 1048576)) (outQ Pg ds [] R) w fun t49 w =>
 K4 t49 w) (
 K4 undef w)
def n58c3 (t2 t35:Value) (ds:List Deferred) (R:RT) (w:World):Prop :=
 opV Pg (Instr.extract t35 0) (outQ Pg ds [] R) w fun t36 w =>
 opV Pg (Instr.extract t35 1) (outQ Pg ds [] R) w fun t37 w =>
 opV Pg (Instr.alloc 58 true (.tuple #[])) (outQ Pg ds [] R) w fun t8 w =>
 opU Pg (Instr.storeAt 58 t8 t36) (outQ Pg ds [] R) w fun w =>
 opV Pg (Instr.loadAt 61 t2) (outQ Pg ds [] R) w fun t38 w =>
 opV Pg (binS .eql 27 true t37 (.int .i64 0)) (outQ Pg ds [] R) w fun t40 w =>
 joinK (fun (t44:Value) (w:World) =>
 n58c2 t8 t38 t40 t44 ds R w) fun K3 =>
 guardP t40 true (
 opV Pg (Instr.fieldAt 58 t8 0) (outQ Pg ds [] R) w fun t42 w =>
 opV Pg (Instr.loadAt 3 t42) (outQ Pg ds [] R) w fun t43 w =>
 opV Pg (binS .geq 3 true t43 (.int .i64 0)) (outQ Pg ds [] R) w fun t44 w =>
 K3 t44 w) (
 K3 undef w)
def n58c4 (t2 t3 t4:Value) (ds:List Deferred) (R:RT) (w:World):Prop :=
 opV Pg (Instr.fieldAt 52 t3 7) (outQ Pg ds [] R) w fun t32 w =>
 opV Pg (Instr.loadAt 49 t32) (outQ Pg ds [] R) w fun t33 w =>
 opV Pg (Instr.loadAt 55 t4) (outQ Pg ds [] R) w fun t34 w =>
 callK Pg 114 #[t33,t34] (outQ Pg ds [] R) w fun t35 w =>
 n58c3 t2 t35 ds R w
def n58c5 (t2 t3 t4 t20:Value) (ds:List Deferred) (R:RT) (w:World):Prop :=
 rangeN Pg t20 ds (fun l2 t21 w Kr2 Xr2 Qr2 =>
 busyK l2 w fun w =>
 n58c1 t2 t4 t21 Kr2 Qr2 R w) (fun ch ds w=>outQ Pg ds [] R ch w) w (fun ds w =>
 n58c4 t2 t3 t4 ds R w) []
def n58c6 (t2 t3 t17:Value) (ds:List Deferred) (R:RT) (w:World):Prop :=
 opV Pg (Instr.alloc 55 true (.tuple #[])) (outQ Pg ds [] R) w fun t4 w =>
 opU Pg (Instr.storeAt 55 t4 t17) (outQ Pg ds [] R) w fun w =>
 opV Pg (Instr.fieldAt 52 t3 7) (outQ Pg ds [] R) w fun t18 w =>
 opV Pg (Instr.loadAt 49 t18) (outQ Pg ds [] R) w fun t19 w =>
 callK Pg 113 #[t19] (outQ Pg ds [] R) w fun t20 w =>
 n58c5 t2 t3 t4 t20 ds R w
def n58c7 (t2 t3:Value) (ds:List Deferred) (R:RT) (w:World):Prop :=
 opV Pg (Instr.loadAt 61 t2) (outQ Pg ds [] R) w fun t15 w =>
 callK Pg 68 #[t15] (outQ Pg ds [] R) w fun t16 w =>
 callK Pg 35 #[t16] (outQ Pg ds [] R) w fun t17 w =>
 n58c6 t2 t3 t17 ds R w
def n58c8 (t2 t3:Value) (C1:World→Prop) (ds:List Deferred) (R:RT) (w:World):Prop :=
 qV Pg C1 (Instr.loadAt 61 t2) fun t10 =>
 qV Pg C1 (Instr.fieldAt 52 t3 7) fun t11 =>
 qV Pg C1 (Instr.loadAt 49 t11) fun t12 =>
 callK Pg 112 #[t12] (outQ Pg ds [] R) w fun t13 w =>
 C1 w∧(
 callK Pg 37 #[t10,t13,(.int .i64 9)] (outQ Pg ds [] R) w fun t14 w =>
 C1 w∧(
 n58c7 t2 t3 ds R w))
def n58 (t0 t1:Value) (R:RT) (w:World):Prop :=
 (fun (ds:List Deferred) =>
 opV Pg (Instr.box 61 t0) (outQ Pg ds [] R) w fun t2 w =>
 opV Pg (Instr.box 52 t1) (outQ Pg ds [] R) w fun t3 w =>
 drawK w fun C1 w =>
 n58c8 t2 t3 C1 ds R w) []
theorem n58s {t0 t1:Value} {R:RT} {w:World} (h:n58 t0 t1 R w):Calls Pg 87 #[t0,t1] w R:=by
 refine calls_of_denM (args:=[t0,t1]) Tryz.func87 rfl (Nat.le_of_ble_eq_true rfl) ?_
 unfold n58 at h
 dsimp only at h
 refine zs<|zr ?_
 refine zq h fun t2 w h=>?_
 refine zq h fun t3 w h=>?_
 refine zn<|zk<|zs ?_
 obtain ⟨C1,hC,h⟩:=h
 refine sim_draw [10,11,12,13,14] (by kernel_rfl) (by kernel_rfl) C1 ?_
 refine ze 0 hC h fun t10 h=>?_
 refine ze 1 hC h fun t11 h=>?_
 refine ze 2 hC h fun t12 h=>?_
 refine sim_dloud 3 rfl (by kernel_rfl) (fun _ _=>rfl) ?_
 refine sim_call h c112 rfl (fun _ _ h=>outQ_ofD rfl rfl h) ?_;intro t13 w h
 refine zn ?_
 obtain ⟨hC,h⟩:=h
 refine ⟨hC,?_⟩
 refine sim_dloud 4 rfl (by kernel_rfl) (fun _ _=>rfl) ?_
 refine sim_call h c37 rfl (fun _ _ h=>outQ_ofD rfl rfl h) ?_;intro t14 w h
 refine zn ?_
 obtain ⟨hC,h⟩:=h
 refine ⟨hC,?_⟩
 refine sim_dend (by kernel_rfl) ?_
 refine zk<|zs<|zr ?_
 refine zq h fun t15 w h=>?_
 refine sim_call h c68 rfl (fun _ _ h=>outQ_of rfl h) ?_;intro t16 w h
 refine sim_call h c35 rfl (fun _ _ h=>outQ_of rfl h) ?_;intro t17 w h
 refine zq h fun t4 w h=>?_
 refine sim_unit h rfl rfl (fun _ _ h=>outQ_of rfl h) ?_;intro w h
 refine zn<|zk<|zs<|zs<|zr ?_
 refine zq h fun t18 w h=>?_
 refine zq h fun t19 w h=>?_
 refine sim_call h c113 rfl (fun _ _ h=>outQ_of rfl h) ?_;intro t20 w h
 refine zn<|zk<|sim_block ?_
 refine sim_range [] h rfl (fun l2 t21 w Kr2 Xr2 Qr2 h=>?_) (fun ds w h=>?_) (fun c ds w h=>?_) (fun ch ds w h=>outQ_of rfl h)
 · refine zr<|zm<|zn<|zk ?_
   obtain ⟨hr,h⟩:=h
   refine ⟨rfl,hr,fun w hb=>?_⟩
   have h:=h w hb
   refine sim_block<|zs<|zr ?_
   refine zv h fun t23 w h=>?_
   refine zm ?_
   refine zv h fun t25 w h=>?_
   refine zm ?_
   refine zv h fun t26 w h=>?_
   refine zv h fun t27 w h=>?_
   refine zv h fun t6 w h=>?_
   refine zu h fun w h=>?_
   refine zm<|zn<|zk<|zr ?_
   refine zv h fun t28 w h=>?_
   refine zm ?_
   refine zc h c37 fun t30 w h=>?_
   refine zn<|sim_block_normal ?_
   exact ⟨rfl,h⟩
 · refine sim_block_normal<|zk<|zs<|zr ?_
   refine zq h fun t32 w h=>?_
   refine zq h fun t33 w h=>?_
   refine zq h fun t34 w h=>?_
   refine sim_call h c114 rfl (fun _ _ h=>outQ_of rfl h) ?_;intro t35 w h
   refine zm ?_
   refine zq h fun t36 w h=>?_
   refine zq h fun t37 w h=>?_
   refine zq h fun t8 w h=>?_
   refine sim_unit h rfl rfl (fun _ _ h=>outQ_of rfl h) ?_;intro w h
   refine zm<|zn<|zk<|sim_regionG ?_
   refine sim_seg 4 rfl ?_
   refine zq h fun t38 w h=>?_
   refine zm ?_
   refine sim_bin h rfl rfl rfl (fun _ _ h=>outQ_of rfl h) ?_;intro t40 w h
   refine zm<|zn ?_
   refine joinK_elim h (fun K3 hK h=>?_)
   refine sim_groupJ 3 3 true [42,43,44] (fun ρ w=>K3 (ρ 44) w) rfl rfl (fun T hT=>guardP_mono h (fun h=>?_) (fun h=>?_)) (fun σ w h=>?_)
   · refine zq h fun t42 w h=>?_
     refine zq h fun t43 w h=>?_
     refine sim_bin h rfl rfl rfl (fun _ _ h=>outQ_of rfl h) ?_;intro t44 w h
     refine zn ?_
     exact zt hT h
   · exact zt hT h
   subst hK
   refine sim_seg 2 rfl ?_
   refine sim_pick h rfl rfl rfl ?_;intro t45 h
   refine zm<|zn ?_
   refine joinK_elim h (fun K4 hK h=>?_)
   refine sim_groupJ 3 8 true [47,48,49] (fun ρ w=>K4 (ρ 49) w) rfl rfl (fun T hT=>guardP_mono h (fun h=>?_) (fun h=>?_)) (fun σ w h=>?_)
   · refine zq h fun t47 w h=>?_
     refine zq h fun t48 w h=>?_
     refine sim_bin h rfl rfl rfl (fun _ _ h=>outQ_of rfl h) ?_;intro t49 w h
     refine zn ?_
     exact zt hT h
   · exact zt hT h
   subst hK
   refine sim_seg 2 rfl ?_
   refine sim_pick h rfl rfl rfl ?_;intro t50 h
   refine sim_call h c37 rfl (fun _ _ h=>outQ_of rfl h) ?_;intro t51 w h
   refine zn<|sim_end ?_
   refine Sw.bodyM_normal ?_
   exact Sw.bodyM_ret rfl h
 · exact h.elim
def n84 (t0:Value) (R:RT) (w:World):Prop :=
 opN Pg (nilN t0) (panK R) w fun t4 w =>
 F0 52 t4 5 R w fun t5 w =>
 opU Pg (Instr.storeAt 3 t5 (.int .i64 0)) (panK R) w fun w =>
 opN Pg (nilN t0) (panK R) w fun t6 w =>
 F0 52 t6 6 R w fun t7 w =>
 opU Pg (Instr.storeAt 3 t7 (.int .i64 0)) (panK R) w fun w =>
 R (.returned (.tuple #[])) w
theorem n84s {t0:Value} {R:RT} {w:World} (h:n84 t0 R w):Calls Pg 88 #[t0] w R:=by
 refine calls_of_den (args:=[t0]) Tryz.func88 rfl (Nat.le_of_ble_eq_true rfl) ?_
 unfold n84 at h
 refine zr<|zm<|zm ?_
 refine sim_next h rfl rfl (fun _ _ h=>⟨rfl,h⟩) ?_;intro t4 w h
 refine zv h fun t5 w h=>?_
 refine zu h fun w h=>?_
 refine sim_next h rfl rfl (fun _ _ h=>⟨rfl,h⟩) ?_;intro t6 w h
 refine zv h fun t7 w h=>?_
 refine zu h fun w h=>?_
 refine zn ?_
 refine body_normal ?_
 exact body_ret0 rfl h
def n85c1 (t0 t3:Value) (R:RT) (w:World):Prop :=
 F0 52 t3 6 R w fun t10 w =>
 L0 3 t10 R w fun t11 w =>
 opV Pg (Instr.buildSlice 85 1 #[(0,t11)]) (panK R) w fun t12 w =>
 C0 81 #[t0,(.int .i64 0),(.int .i64 1048576),t12] R w fun t13 w =>
 R (.returned (.tuple #[])) w
def n85 (t0 t1:Value) (R:RT) (w:World):Prop :=
 opV Pg (Instr.box 52 t1) (panK R) w fun t3 w =>
 F0 52 t3 5 R w fun t5 w =>
 L0 3 t5 R w fun t6 w =>
 opV Pg (Instr.buildSlice 85 1 #[(0,t6)]) (panK R) w fun t7 w =>
 C0 81 #[t0,(.int .i64 0),(.int .i64 255),t7] R w fun t8 w =>
 n85c1 t0 t3 R w
theorem n85s {t0 t1:Value} {R:RT} {w:World} (h:n85 t0 t1 R w):Calls Pg 89 #[t0,t1] w R:=by
 refine calls_of_den (args:=[t0,t1]) Tryz.func89 rfl (Nat.le_of_ble_eq_true rfl) ?_
 unfold n85 at h
 refine zs<|zr ?_
 refine zv h fun t3 w h=>?_
 refine zn<|zk<|zs<|zr<|zm ?_
 refine zv h fun t5 w h=>?_
 refine zv h fun t6 w h=>?_
 refine sim_buildSlice h rfl (fun _ _ h=>⟨rfl,h⟩) ?_;intro t7 w h
 refine zc h c81 fun t8 w h=>?_
 refine zn<|zk<|zr<|zm ?_
 refine zv h fun t10 w h=>?_
 refine zv h fun t11 w h=>?_
 refine sim_buildSlice h rfl (fun _ _ h=>⟨rfl,h⟩) ?_;intro t12 w h
 refine zc h c81 fun t13 w h=>?_
 refine zn ?_
 refine body_normal ?_
 exact body_ret0 rfl h
def n65 (t0:Value) (R:RT) (w:World):Prop :=
 opN Pg (nilN t0) (panK R) w fun t4 w =>
 F0 52 t4 4 R w fun t5 w =>
 opU Pg (Instr.storeAt 4 t5 (.bool false)) (panK R) w fun w =>
 opN Pg (nilN t0) (panK R) w fun t6 w =>
 F0 52 t6 6 R w fun t7 w =>
 opU Pg (Instr.storeAt 3 t7 (.int .i64 0)) (panK R) w fun w =>
 R (.returned (.tuple #[])) w
theorem n65s {t0:Value} {R:RT} {w:World} (h:n65 t0 R w):Calls Pg 90 #[t0] w R:=by
 refine calls_of_den (args:=[t0]) Tryz.func90 rfl (Nat.le_of_ble_eq_true rfl) ?_
 unfold n65 at h
 refine zr<|zm<|zm ?_
 refine sim_next h rfl rfl (fun _ _ h=>⟨rfl,h⟩) ?_;intro t4 w h
 refine zv h fun t5 w h=>?_
 refine zu h fun w h=>?_
 refine sim_next h rfl rfl (fun _ _ h=>⟨rfl,h⟩) ?_;intro t6 w h
 refine zv h fun t7 w h=>?_
 refine zu h fun w h=>?_
 refine zn ?_
 refine body_normal ?_
 exact body_ret0 rfl h
def n66 (t0 t1:Value) (R:RT) (w:World):Prop :=
 opV Pg (Instr.box 52 t1) (panK R) w fun t3 w =>
 F0 52 t3 6 R w fun t5 w =>
 L0 3 t5 R w fun t6 w =>
 opV Pg (Instr.buildSlice 85 1 #[(0,t6)]) (panK R) w fun t7 w =>
 C0 81 #[t0,(.int .i64 2),(.int .i64 1048576),t7] R w fun t8 w =>
 R (.returned (.tuple #[])) w
theorem n66s {t0 t1:Value} {R:RT} {w:World} (h:n66 t0 t1 R w):Calls Pg 91 #[t0,t1] w R:=by
 refine calls_of_den (args:=[t0,t1]) Tryz.func91 rfl (Nat.le_of_ble_eq_true rfl) ?_
 unfold n66 at h
 refine zs<|zr ?_
 refine zv h fun t3 w h=>?_
 refine zn<|zk<|zr<|zm ?_
 refine zv h fun t5 w h=>?_
 refine zv h fun t6 w h=>?_
 refine sim_buildSlice h rfl (fun _ _ h=>⟨rfl,h⟩) ?_;intro t7 w h
 refine zc h c81 fun t8 w h=>?_
 refine zn ?_
 refine body_normal ?_
 exact body_ret0 rfl h
def n67 (t0:Value) (R:RT) (w:World):Prop :=
 opV Pg (Instr.build 49 #[]) (panK R) w fun t4 w =>
 opN Pg (nilN t0) (panK R) w fun t5 w =>
 F0 52 t5 8 R w fun t6 w =>
 opU Pg (Instr.storeAt 9 t6 (.string { data := #[] })) (panK R) w fun w =>
 opN Pg (nilN t0) (panK R) w fun t7 w =>
 F0 52 t7 7 R w fun t8 w =>
 opU Pg (Instr.storeAt 49 t8 t4) (panK R) w fun w =>
 R (.returned (.tuple #[])) w
theorem n67s {t0:Value} {R:RT} {w:World} (h:n67 t0 R w):Calls Pg 92 #[t0] w R:=by
 refine calls_of_den (args:=[t0]) Tryz.func92 rfl (Nat.le_of_ble_eq_true rfl) ?_
 unfold n67 at h
 refine zr<|zm<|zm ?_
 refine sim_build h rfl (fun _ _ h=>⟨rfl,h⟩) ?_;intro t4 w h
 refine sim_next h rfl rfl (fun _ _ h=>⟨rfl,h⟩) ?_;intro t5 w h
 refine zv h fun t6 w h=>?_
 refine zu h fun w h=>?_
 refine sim_next h rfl rfl (fun _ _ h=>⟨rfl,h⟩) ?_;intro t7 w h
 refine zv h fun t8 w h=>?_
 refine zu h fun w h=>?_
 refine zn ?_
 refine body_normal ?_
 exact body_ret0 rfl h
def n68 (t0 t1:Value) (R:RT) (w:World):Prop :=
 opV Pg (Instr.box 52 t1) (panK R) w fun t3 w =>
 F0 52 t3 8 R w fun t5 w =>
 L0 9 t5 R w fun t6 w =>
 C0 94 #[t0,t6] R w fun t7 w =>
 L0 52 t3 R w fun t9 w =>
 C0 87 #[t0,t9] R w fun t10 w =>
 R (.returned (.tuple #[])) w
theorem n68s {t0 t1:Value} {R:RT} {w:World} (h:n68 t0 t1 R w):Calls Pg 93 #[t0,t1] w R:=by
 refine calls_of_den (args:=[t0,t1]) Tryz.func93 rfl (Nat.le_of_ble_eq_true rfl) ?_
 unfold n68 at h
 refine zs<|zr ?_
 refine zv h fun t3 w h=>?_
 refine zn<|zk<|zs<|zr<|zm ?_
 refine zv h fun t5 w h=>?_
 refine zv h fun t6 w h=>?_
 refine zc h c94 fun t7 w h=>?_
 refine zn<|zk<|zr<|zm ?_
 refine zv h fun t9 w h=>?_
 refine zc h c87 fun t10 w h=>?_
 refine zn ?_
 refine body_normal ?_
 exact body_ret0 rfl h
def n57 (t0 t1:Value) (R:RT) (w:World):Prop :=
 opN Pg (nilN t0) (panK R) w fun t8 w =>
 F0 65 t8 1 R w fun t9 w =>
 L0 62 t9 R w fun t10 w =>
 opV Pg (Instr.lookup 62 t10 t1 true) (panK R) w fun t12 w =>
 opV Pg (Instr.extract t12 0) (panK R) w fun t13 w =>
 opV Pg (Instr.extract t12 1) (panK R) w fun t14 w =>
 C0 37 #[t0,t14,(.int .i64 8)] R w fun t17 w =>
 R (.returned (.tuple #[])) w
theorem n57s {t0 t1:Value} {R:RT} {w:World} (h:n57 t0 t1 R w):Calls Pg 94 #[t0,t1] w R:=by
 refine calls_of_den (args:=[t0,t1]) Tryz.func94 rfl (Nat.le_of_ble_eq_true rfl) ?_
 unfold n57 at h
 refine zs<|zr<|zm ?_
 refine sim_next h rfl rfl (fun _ _ h=>⟨rfl,h⟩) ?_;intro t8 w h
 refine zv h fun t9 w h=>?_
 refine zv h fun t10 w h=>?_
 refine zm ?_
 refine zv h fun t12 w h=>?_
 refine zm ?_
 refine zv h fun t13 w h=>?_
 refine zv h fun t14 w h=>?_
 refine zm<|zm<|zn<|zk<|zr<|zm<|zm ?_
 refine zc h c37 fun t17 w h=>?_
 refine zn ?_
 refine body_normal ?_
 exact body_ret0 rfl h
def n69 (t0:Value) (R:RT) (w:World):Prop :=
 opN Pg (nilN t0) (panK R) w fun t3 w =>
 F0 52 t3 8 R w fun t4 w =>
 opU Pg (Instr.storeAt 9 t4 (.string { data := #[] })) (panK R) w fun w =>
 R (.returned (.tuple #[])) w
theorem n69s {t0:Value} {R:RT} {w:World} (h:n69 t0 R w):Calls Pg 95 #[t0] w R:=by
 refine calls_of_den (args:=[t0]) Tryz.func95 rfl (Nat.le_of_ble_eq_true rfl) ?_
 unfold n69 at h
 refine zr<|zm ?_
 refine sim_next h rfl rfl (fun _ _ h=>⟨rfl,h⟩) ?_;intro t3 w h
 refine zv h fun t4 w h=>?_
 refine zu h fun w h=>?_
 refine zn ?_
 refine body_normal ?_
 exact body_ret0 rfl h
def n70 (t0 t1:Value) (R:RT) (w:World):Prop :=
 opV Pg (Instr.box 52 t1) (panK R) w fun t3 w =>
 F0 52 t3 8 R w fun t5 w =>
 L0 9 t5 R w fun t6 w =>
 C0 94 #[t0,t6] R w fun t7 w =>
 R (.returned (.tuple #[])) w
theorem n70s {t0 t1:Value} {R:RT} {w:World} (h:n70 t0 t1 R w):Calls Pg 96 #[t0,t1] w R:=by
 refine calls_of_den (args:=[t0,t1]) Tryz.func96 rfl (Nat.le_of_ble_eq_true rfl) ?_
 unfold n70 at h
 refine zs<|zr ?_
 refine zv h fun t3 w h=>?_
 refine zn<|zk<|zr<|zm ?_
 refine zv h fun t5 w h=>?_
 refine zv h fun t6 w h=>?_
 refine zc h c94 fun t7 w h=>?_
 refine zn ?_
 refine body_normal ?_
 exact body_ret0 rfl h
def n71 (t0:Value) (R:RT) (w:World):Prop :=
 opN Pg (nilN t0) (panK R) w fun t4 w =>
 F0 52 t4 9 R w fun t5 w =>
 opU Pg (Instr.storeAt 9 t5 (.string { data := #[] })) (panK R) w fun w =>
 opN Pg (nilN t0) (panK R) w fun t6 w =>
 F0 52 t6 11 R w fun t7 w =>
 opU Pg (Instr.storeAt 50 t7 (Value.slice none 0 0)) (panK R) w fun w =>
 R (.returned (.tuple #[])) w
theorem n71s {t0:Value} {R:RT} {w:World} (h:n71 t0 R w):Calls Pg 97 #[t0] w R:=by
 refine calls_of_den (args:=[t0]) Tryz.func97 rfl (Nat.le_of_ble_eq_true rfl) ?_
 unfold n71 at h
 refine zr<|zm<|zm ?_
 refine sim_next h rfl rfl (fun _ _ h=>⟨rfl,h⟩) ?_;intro t4 w h
 refine zv h fun t5 w h=>?_
 refine zu h fun w h=>?_
 refine sim_next h rfl rfl (fun _ _ h=>⟨rfl,h⟩) ?_;intro t6 w h
 refine zv h fun t7 w h=>?_
 refine zu h fun w h=>?_
 refine zn ?_
 refine body_normal ?_
 exact body_ret0 rfl h
end Go.Proofs.YtiajhbbmgglmlaaGreat
namespace Go.Proofs.YtiajhbbmgglmlaaGreat
open Sw
open Go.RowKit (intOf Below)
abbrev flawVal (a f c:Int):Value := .agg #[.int .i64 a,.int .i64 f,.int .i64 c]
def flawEntry (a f c:Int):PanicEntry:={ v := .iface 39 (flawVal a f c),recovered:=false }
def flwR (w:World) (a f c:Int):Ending→World→Prop:=fun e w'=>Ext w w'∧(c=0∧e = .returned (.tuple #[])∨c≠0∧e = .panicked [flawEntry a f c])
theorem callK_flw {f:FuncId} {args:Array Value} {QP:List PanicEntry→World→Prop} {w:World} {k:Value→World→Prop} {a fl c:Int} (h:Calls Pg f args w (flwR w a fl c)) (hk:∀ w',Ext w w'→c=0→k (.tuple #[]) w') (hp:∀ w',Ext w w'→c≠0→QP [flawEntry a fl c] w'):callK Pg f args QP w k :=
 callK_calls h (fun v w' h=>by rcases h with ⟨e,⟨h1,h2⟩ | ⟨_,h2⟩⟩<;>cases h2;exact hk w' e h1) (fun ch w' h=>by rcases h with ⟨e,⟨_,h2⟩ | ⟨h1,h2⟩⟩<;>cases h2;exact hp w' e h1) (fun w' h=>by rcases h with ⟨_,⟨_,h2⟩ | ⟨_,h2⟩⟩<;>cases h2)
theorem flwR_ret {w w':World} {a f c:Int} (e:Ext w w') (h:c=0):flwR w a f c (.returned (.tuple #[])) w':=⟨e,.inl ⟨h,rfl⟩⟩
theorem flwR_pan {w w':World} {a f c c':Int} (e:Ext w w') (h:c=c') (h0:c'≠0):panK (flwR w a f c) [flawEntry a f c'] w':=⟨e,.inr ⟨by rw [h];exact h0,by rw [h]⟩⟩
def orC (a b:Int):Int:=if a=0 then b else a
theorem orC_zero (b:Int):orC 0 b=b:=rfl
theorem orC_ne {a b:Int} (h:a≠0):orC a b=a:=by unfold orC;rw [if_neg h]
def needC (b:Bool) (c:Int):Int:=if b then 0 else c
structure Chk (w:World) (cb md ms:Nat) (deps:List (ByteArray×Value)) (strs:List (ByteArray×Value)) (at_ fld:Int) (fs:List FieldD):Prop where
 obj:∃ dn mv ds mn fv,w.heap[cb]?=some (.cells #[.string dn,mv,.string ds,.map (some md),.map (some ms),.int .i64 at_,.int .i64 fld,.string mn,fv] 65 (0,0))∧FieldsOf w fv fs
 mdeps:MapOf w md deps
 mstrs:MapOf w ms strs
 dint:∀ k v,lastOf deps k=some v→∃ n,v = .int .i64 n
 sbool:∀ k v,lastOf strs k=some v→∃ b,v = .bool b
def strB (strs:List (ByteArray×Value)) (s:ByteArray):Bool:=match lastOf strs s with
 | some (.bool b)=>b
 | _=>false
theorem Chk.strV {w:World} {cb md ms:Nat} {deps strs:List (ByteArray×Value)} {at_ fld:Int} {fs:List FieldD} (h:Chk w cb md ms deps strs at_ fld fs) (s:ByteArray):(lastOf strs s).getD (.bool false) = .bool (strB strs s):=by
 unfold strB
 cases hl:lastOf strs s with
 | none=>rfl
 | some v=>obtain ⟨b,rfl⟩:=h.sbool s v hl;rfl
theorem Chk.ext {w w':World} {cb md ms:Nat} {deps strs:List (ByteArray×Value)} {at_ fld:Int} {fs:List FieldD} (h:Chk w cb md ms deps strs at_ fld fs) (e:Ext w w'):Chk w' cb md ms deps strs at_ fld fs:=by
 obtain ⟨⟨dn,mv,ds,mn,fv,h1,h2⟩,h3,h4,h5,h6⟩:=h
 exact ⟨⟨dn,mv,ds,mn,fv,e.obj h1,h2.ext e⟩,h3.ext e,h4.ext e,h5,h6⟩
section
variable {w0:World} {cb md ms:Nat} {deps strs:List (ByteArray×Value)} {at_ fld:Int} {fs:List FieldD}
theorem need_flw (h:Chk w0 cb md ms deps strs at_ fld fs) (b:Bool) (c:Int) (hc:c≠0):Calls Pg 37 #[.pointer (some ⟨cb,0,none⟩),.bool b,.int .i64 c] w0 (flwR w0 at_ fld (needC b c)):=by
 obtain ⟨⟨dn,mv,ds,mn,fv,h1,h2⟩,h3,h4,h5,h6⟩:=h
 refine n55s ?_;unfold n55
 cases b with
 | true =>
  simp (disch:=try exact DI) only [↓PR,QR,Int.reduceBEq,Int.reduceBNe,Int.reduceLT,Int.reduceLE,Int.reduceGT,Int.reduceGE,Int.reduceNeg,↓n55c1]
  exact flwR_ret (Ext.refl _) rfl
 | false =>
  simp (disch:=try exact DI) only [↓PR,QR,Int.reduceBEq,Int.reduceBNe,Int.reduceLT,Int.reduceLE,Int.reduceGT,Int.reduceGE,Int.reduceNeg,↓n55c1]
  refine drawK_intro ?_
  simp (disch:=try exact DI) only [↓PR,QR,Int.reduceBEq,Int.reduceBNe,Int.reduceLT,Int.reduceLE,Int.reduceGT,Int.reduceGE,Int.reduceNeg,↓n55c1,(cells_of_heap h1).1]
  rw [op_panic]
  exact flwR_pan (Ext.refl _).drew rfl hc
theorem before_ret (h:Chk w0 cb md ms deps strs at_ fld fs) (i:Nat) (hi:fld=i) (hlt:i < fs.length):Ret Pg 68 #[.pointer (some ⟨cb,0,none⟩)] w0 fun r w'=>FieldsOf w' r (fs.take i)∧Ext w0 w':=by
 obtain ⟨⟨dn,mv,ds,mn,fv,h1,h2⟩,h3,h4,h5,h6⟩:=h
 obtain ⟨A,c,rfl,hlc,hcm,hlm,hel⟩:=SliceOf.open h2
 obtain ⟨x,hx⟩:=getElem?_lt hlt
 obtain ⟨b,o,_,rfl,_⟩:=hel i x hx
 subst hi
 refine n50s (R:=retR _) ?_;unfold n50
 refine drawK_intro ?_
 simp (disch:=try exact DI) only [↓PR,QR,Int.reduceBEq,Int.reduceBNe,Int.reduceLT,Int.reduceLE,Int.reduceGT,Int.reduceGE,Int.reduceNeg,↓n50c1,(cells_of_heap h1).1]
 rw [qV_of fun QP w' k=>op_sliceTo Tryz.underlying43 ty52 b o fs.length c .i64 i (by omega)]
 simp (disch:=try exact DI) only [↓PR,QR,Int.reduceBEq,Int.reduceBNe,Int.reduceLT,Int.reduceLE,Int.reduceGT,Int.reduceGE,Int.reduceNeg]
 refine ⟨?_,ee⟩
 have hlen:(fs.take i).length=i:=by rw [List.length_take];omega
 refine ⟨_,c,by rw [hlen],by rw [hlen];omega,hcm,fun _=>⟨b,o,rfl,fun k y hy=>?_⟩⟩
 rw [List.getElem?_take] at hy
 split at hy
 · obtain ⟨b',o',cs,hA,hl,hA2,hE⟩:=hel k y hy
   injection hA with hA
   injection hA with h5 h6
   subst h5 h6
   have e:Ext w0 (drew w0):=(Ext.refl w0).drew
   exact ⟨cs,hl,hA2.ext e,keptField _ _ _ _ e hE⟩
 · cases hy
theorem refer_flw (h:Chk w0 cb md ms deps strs at_ fld fs) (s:ByteArray):Calls Pg 94 #[.pointer (some ⟨cb,0,none⟩),.string s] w0 (flwR w0 at_ fld (needC (lastOf deps s).isSome 8)):=by
 have h':=h
 obtain ⟨⟨dn,mv,ds,mn,fv,h1,h2⟩,h3,h4,h5,h6⟩:=h
 refine n57s ?_;unfold n57
 simp (disch:=try exact DI) only [↓PR,QR,Int.reduceBEq,Int.reduceBNe,Int.reduceLT,Int.reduceLE,Int.reduceGT,Int.reduceGE,Int.reduceNeg,Sw.joinK_eq,(cells_of_heap h1).1]
 rw [op_lookupO Tryz.underlying62 Tryz.underlying9 ty3 h3]
 simp (disch:=try exact DI) only [↓PR,QR,Int.reduceBEq,Int.reduceBNe,Int.reduceLT,Int.reduceLE,Int.reduceGT,Int.reduceGE,Int.reduceNeg]
 refine callK_flw (need_flw h' _ 8 (by decide)) (fun w' e h0=>?_) (fun w' e h0=>?_)
 · exact flwR_ret e h0
 · exact flwR_pan e rfl h0
def withinC (high:Int):Int→List Int→Int
 | _,[]=>0
 | low,n::l=>orC (needC (decide (low≤n)&&decide (n≤high)) 7) (withinC high n l)
def IntsOf (w:World) (v:Value) (l:List Int):Prop:=SliceOf w 1 EInt v l
theorem ints1 {w:World} {p:Nat} (hp:p=w.heap.size) (a:Int) (T:TypeId):IntsOf (w.alloc (.cells #[.int .i64 a] T)) (.slice (some ⟨p,0,none⟩) 1 1) [a]:=by
 subst hp;exact SliceOf.new1 (E:=EInt) (fun n:Int => .int .i64 n) (fun _ _=>rfl) w [a] T (by simp)
theorem ints2 {w:World} {p:Nat} (hp:p=w.heap.size) (a b:Int) (T:TypeId):IntsOf (w.alloc (.cells #[.int .i64 a,.int .i64 b] T)) (.slice (some ⟨p,0,none⟩) 2 2) [a,b]:=by
 subst hp;exact SliceOf.new1 (E:=EInt) (fun n:Int => .int .i64 n) (fun _ _=>rfl) w [a,b] T (by simp)
theorem within_flw (h:Chk w0 cb md ms deps strs at_ fld fs) (low high:Int) (v:Value) (l:List Int) (hs:IntsOf w0 v l):Calls Pg 81 #[.pointer (some ⟨cb,0,none⟩),.int .i64 low,.int .i64 high,v] w0 (flwR w0 at_ fld (withinC high low l)):=by
 obtain ⟨A,c,rfl,hlc,hcm,hlm,hel⟩:=SliceOf.open hs
 refine n59s ?_;unfold n59
 simp (disch:=try exact DI) only [↓PR,QR,Int.reduceBEq,Int.reduceBNe,Int.reduceLT,Int.reduceLE,Int.reduceGT,Int.reduceGE,Int.reduceNeg]
 refine loop2_intro (fun a0 a1 w=>∃ (k:Nat) (n:Int),a0 = .int .i64 n∧a1 = .int .i64 (k:Int)∧k≤l.length∧Ext w0 w∧withinC high n (l.drop k)=withinC high low l) (fun a0 a1 _=>l.length - (intOf a1).toNat) ⟨0,low,rfl,rfl,Nat.zero_le _,ee,rfl⟩ ?_
 rintro _ _ w ⟨k,n,rfl,rfl,hk,e,hI⟩
 have se:=e.size
 rcases drop_cases hk with ⟨x,hx,hd,hlt,hdec⟩ | ⟨hk,hd,hdec⟩
 · obtain ⟨b,o,cs,rfl,hl,hA,rfl⟩:=hel k x hx
   rw [hd] at hI
   simp only [withinC] at hI
   simp (disch:=try exact DI) only [↓PR,QR,Int.reduceBEq,Int.reduceBNe,Int.reduceLT,Int.reduceLE,Int.reduceGT,Int.reduceGE,Int.reduceNeg,↓n59c1,↓n59c2,hdec,hA.c1]
   refine callK_flw (need_flw (h.ext e) _ 7 (by decide)) (fun w' e1 h0=>?_) (fun w' e1 h0=>?_)
   · rw [h0,orC_zero] at hI
     simp (disch:=try exact DI) only [↓PR,QR,Int.reduceBEq,Int.reduceBNe,Int.reduceLT,Int.reduceLE,Int.reduceGT,Int.reduceGE,Int.reduceNeg,↓n59c1,↓n59c2]
     exact ⟨⟨k+1,_,rfl,rfl,by omega,ee,hI⟩,meas_lt hlt⟩
   · rw [orC_ne h0] at hI
     exact flwR_pan (e.trans e1) hI.symm h0
 · subst hk
   simp (disch:=try exact DI) only [↓PR,QR,Int.reduceBEq,Int.reduceBNe,Int.reduceLT,Int.reduceLE,Int.reduceGT,Int.reduceGE,Int.reduceNeg,↓n59c1,↓n59c2,hdec]
   rw [hd] at hI
   exact flwR_ret e hI.symm
def bitsB (f:FieldD):Bool:=decide (1≤f.bits)&&decide (f.bits≤32)&&(!f.little||(decide (8 < f.bits)&&(f.bits.tmod 8 == 0)))
theorem bits_flw (h:Chk w0 cb md ms deps strs at_ fld fs) (v:Value) (f:FieldD) (hf:FieldVal w0 v f):Calls Pg 80 #[.pointer (some ⟨cb,0,none⟩),v] w0 (flwR w0 at_ fld (needC (bitsB f) 6)):=by
 obtain ⟨tv,cv,rfl,hT,hC,ht1,hc1⟩:=hf.op
 refine n51s ?_;unfold n51
 simp (disch:=try exact DI) only [↓PR,QR,Int.reduceBEq,Int.reduceBNe,Int.reduceLT,Int.reduceLE,Int.reduceGT,Int.reduceGE,Int.reduceNeg,↓n51c1,↓n51c2,↓n51c3,↓n51c4]
 have e0:Ext w0 (w0.alloc (Obj.cells (fieldCells f tv cv).toArray 52)):=ee
 have fin:∀ b,b=bitsB f→callK Pg 37 #[.pointer (some ⟨cb,0,none⟩),.bool b,.int .i64 6] (panK (flwR w0 at_ fld (needC (bitsB f) 6))) (w0.alloc (Obj.cells (fieldCells f tv cv).toArray 52)) (fun _ w=>flwR w0 at_ fld (needC (bitsB f) 6) (.returned (.tuple #[])) w):=by
  rintro b rfl
  exact callK_flw (need_flw (h.ext e0) _ 6 (by decide)) (fun w' e1 h0=>flwR_ret (e0.trans e1) h0) (fun w' e1 h0=>flwR_pan (e0.trans e1) rfl h0)
 unfold bitsB at fin ⊢
 generalize decide (1≤f.bits)=b1 at fin ⊢
 generalize decide (f.bits≤32)=b2 at fin ⊢
 generalize f.little=b3 at fin ⊢
 generalize decide (8 < f.bits)=b4 at fin ⊢
 generalize (f.bits.tmod 8 == 0)=b5 at fin ⊢
 cases b1<;>cases b2<;>cases b3<;>cases b4<;>cases b5<;>simp (disch:=try exact DI) only [↓PR,QR,Int.reduceBEq,Int.reduceBNe,Int.reduceLT,Int.reduceLE,Int.reduceGT,Int.reduceGE,Int.reduceNeg,↓n51c1,↓n51c2,↓n51c3,↓n51c4]<;>exact fin _ rfl
def namesC (rp:List (ByteArray×Int×Int)):List TermD→Int
 | []=>0
 | t::ts=>orC (needC (lastR rp t.field).isSome 8) (namesC rp ts)
def lenB (base:Int) (ts:List TermD) (rp:List (ByteArray×Int×Int)):Bool:=(intervalE base ts rp == 0)&&decide (0≤intervalL base ts rp)&&decide (intervalH base ts rp≤1048576)
def sizedC (rp:List (ByteArray×Int×Int)) (f:FieldD):Int:=orC (needC (sizeB f.base f.terms) 9) (orC (namesC rp f.terms) (needC (lenB f.base f.terms rp) 9))
theorem sized_flw (h:Chk w0 cb md ms deps strs at_ fld fs) (i:Nat) (hi:fld=i) (hlt:i < fs.length) (v:Value) (f:FieldD) (hf:FieldVal w0 v f) (ht:f.terms.length≤1048576) :
 Calls Pg 87 #[.pointer (some ⟨cb,0,none⟩),v] w0 (flwR w0 at_ fld (sizedC (numR (fs.take i)) f)):=by
 obtain ⟨tv,cv,rfl,hT,hC,ht1,hc1⟩:=hf.op
 refine n58s ?_;unfold n58
 simp (disch:=try exact DI) only [↓PR,QR,Int.reduceBEq,Int.reduceBNe,Int.reduceLT,Int.reduceLE,Int.reduceGT,Int.reduceGE,Int.reduceNeg,↓n58c1,↓n58c2,↓n58c3,↓n58c4,↓n58c5,↓n58c6,↓n58c7,↓n58c8]
 generalize hW:World.alloc (World.alloc w0 _) _=W
 have e0:Ext w0 W:=by rw [← hW];exact ee
 have o2:W.heap[w0.heap.size]?=some (.cells #[.pointer (some ⟨cb,0,none⟩)] 61 (0,0)):=by rw [← hW];simp (disch:=try exact DI) only [↓PR,QR,Int.reduceBEq,Int.reduceBNe,Int.reduceLT,Int.reduceLE,Int.reduceGT,Int.reduceGE,Int.reduceNeg]
 have o3:W.heap[w0.heap.size+1]?=some (.cells (fieldCells f tv cv).toArray 52 (0,0)):=by rw [← hW];simp (disch:=try exact DI) only [↓PR,QR,Int.reduceBEq,Int.reduceBNe,Int.reduceLT,Int.reduceLE,Int.reduceGT,Int.reduceGE,Int.reduceNeg]
 clear hW
 simp only [World.size_alloc]
 refine drawK_intro ?_
 simp (disch:=try exact DI) only [↓PR,QR,Int.reduceBEq,Int.reduceBNe,Int.reduceLT,Int.reduceLE,Int.reduceGT,Int.reduceGE,Int.reduceNeg,↓n58c1,↓n58c2,↓n58c3,↓n58c4,↓n58c5,↓n58c6,↓n58c7,↓n58c8,(cells_of_heap o2).1,(cells_of_heap o3).1]
 refine zcr (Valid_ret _ _ f.base f.terms ⟨tv,rfl,TermsOf.ext hT ee⟩) fun w1 e1=>?_
 refine ⟨e1,?_⟩
 unfold sizedC
 refine callK_flw (need_flw (h.ext (e0.wdrew.trans e1)) _ 9 (by decide)) (fun w2 e2 h0=>?_) (fun w2 e2 h0=>?_)
 · rw [h0,orC_zero]
   refine ⟨e1.trans e2,?_⟩
   have e3:Ext W w2:=(Ext.refl W).wdrew.trans (e1.trans e2)
   have hv:sizeB f.base f.terms=true:=by
    cases hb:sizeB f.base f.terms with
    | true=>rfl
    | false=>rw [hb] at h0;exact absurd h0 (by decide)
   simp (disch:=try exact DI) only [↓PR,QR,Int.reduceBEq,Int.reduceBNe,Int.reduceLT,Int.reduceLE,Int.reduceGT,Int.reduceGE,Int.reduceNeg,↓n58c1,↓n58c2,↓n58c3,↓n58c4,↓n58c5,↓n58c6,↓n58c7,↓n58c8,(cells_of_heap (e3.obj o2)).1]
   refine callK_ret (before_ret (h.ext (e0.trans e3)) i hi hlt) ?_
   rintro bv w4 ⟨hB,e4⟩
   simp (disch:=try exact DI) only [↓PR,QR,Int.reduceBEq,Int.reduceBNe,Int.reduceLT,Int.reduceLE,Int.reduceGT,Int.reduceGE,Int.reduceNeg,↓n58c1,↓n58c2,↓n58c3,↓n58c4,↓n58c5,↓n58c6,↓n58c7,↓n58c8]
   refine callK_ret (ranges_ret _ _ _ hB) ?_
   rintro _ w5 ⟨m,rfl,hmlo,hM,e5⟩
   rw [numPairs_RP] at hM
   have e6:Ext W w5:=e3.trans (e4.trans e5)
   have l3:w0.heap.size+1 < w5.heap.size:=(Array.getElem?_eq_some_iff.1 (e6.obj o3)).1
   simp (disch:=try exact DI) only [↓PR,QR,Int.reduceBEq,Int.reduceBNe,Int.reduceLT,Int.reduceLE,Int.reduceGT,Int.reduceGE,Int.reduceNeg,↓n58c1,↓n58c2,↓n58c3,↓n58c4,↓n58c5,↓n58c6,↓n58c7,↓n58c8,(cells_of_heap (e6.obj o3)).1]
   have e6':Ext w0 w5:=e0.trans e6
   refine callK_ret (Names_ret _ _ f.base f.terms ⟨tv,rfl,TermsOf.ext hT ee⟩ ht) ?_
   rintro _ w7 ⟨pb,tv2,rfl,hTA,_,e7⟩
   rw [hv,if_pos rfl] at hTA
   have s7:=e7.size
   simp only [World.size_alloc] at s7
   have e8:Ext W w7:=ee
   have p4:w7.heap[w5.heap.size]?=some (.cells #[.map (some m)] 55 (0,0)):=by simp (disch:=try exact DI) only [↓PR,QR,Int.reduceBEq,Int.reduceBNe,Int.reduceLT,Int.reduceLE,Int.reduceGT,Int.reduceGE,Int.reduceNeg,e7.heapQ]
   have hM7:MapOf w7 m (RP (numR (fs.take i))):=hM.ext (((Ext.refl _).alloc _).trans e7)
   have h7:Chk w7 cb md ms deps strs at_ fld fs:=h.ext (e0.trans e8)
   have o2':=e8.obj o2
   have o3':=e8.obj o3
   have e07:Ext w0 w7:=e0.trans e8
   clear e7 e6 e5 e4 e3 e2 e1 hM hB hmlo s7 l3 o2 o3 e8 e6'
   unfold n58c5
   have hLI:∀ k,Lasts w7.heap.size (fun w=>Ext w7 w∧namesC (numR (fs.take i)) (f.terms.drop k)=namesC (numR (fs.take i)) f.terms):=fun k=>Lasts.and (Lasts.from (Nat.le_refl _)) (Lasts.const _ _)
   refine ⟨_,_,f.terms.length,namesX f.terms,fun w=>TermsAt w pb tv2 f.terms,fun k w=>Ext w7 w∧namesC (numR (fs.take i)) (f.terms.drop k)=namesC (numR (fs.take i)) f.terms,fun _ _=>False,
    fun ch w=>Ext w7 w∧∃ c,c≠0∧ch=[flawEntry at_ fld c]∧namesC (numR (fs.take i)) f.terms=c,rfl,c120,Names_seq pb tv2 f.terms,⟨Ext.refl _,rfl⟩,fun k w h=>hTA.ext h.1,hLI,fun _=>Lasts.const _ _,?_,?_,?_,?_⟩
   · intro rec j w3 hj hI3 hrec hready
     refine ⟨hready,fun w4 hbz=>?_⟩
     have hrec4:=hrec.busied hbz
     obtain ⟨e4,hF⟩:=(hLI j).busied hbz (Nat.le_succ _) hI3
     clear hI3 hrec hready hbz
     obtain ⟨t,hx⟩:=getElem?_lt hj
     rw [show namesX f.terms j = .string t.field by unfold namesX;rw [hx]]
     have hd:f.terms.drop j=t::f.terms.drop (j+1):=by
      rw [List.drop_eq_getElem_cons hj]
      congr 1
      exact (List.getElem?_eq_some_iff.1 hx).2
     rw [hd] at hF
     simp only [namesC] at hF
     have o2:=e4.obj o2'
     have l2:w0.heap.size < w4.heap.size:=(Array.getElem?_eq_some_iff.1 o2).1
     simp (disch:=try exact DI) only [↓PR,QR,Int.reduceBEq,Int.reduceBNe,Int.reduceLT,Int.reduceLE,Int.reduceGT,Int.reduceGE,Int.reduceNeg,↓n58c1,↓n58c2,↓n58c3,↓n58c4,↓n58c5,↓n58c6,↓n58c7,↓n58c8,(cells_of_heap (e4.obj p4)).1]
     rw [op_lookupO Tryz.underlying55 Tryz.underlying9 ty58 (hM7.ext e4),lastOf_RP]
     have fin:∀ w5 b,Ext w4 w5→b=(lastR (numR (fs.take i)) t.field).isSome→callK Pg 37 #[.pointer (some ⟨cb,0,none⟩),.bool b,.int .i64 8] (fun ch w''=>RecAt rec w7.heap.size w''∧Ext w7 w''∧∃ c,c≠0∧ch=[flawEntry at_ fld c]∧namesC (numR (fs.take i)) f.terms=c) w5 (fun _ w''=>RecAt rec w7.heap.size w''∧Ext w7 w''∧namesC (numR (fs.take i)) (f.terms.drop (j+1))=namesC (numR (fs.take i)) f.terms):=by
      rintro w5 b e5 rfl
      refine callK_flw (need_flw (h7.ext (e4.trans e5)) _ 8 (by decide)) (fun w6 e6 h0=>?_) (fun w6 e6 h0=>?_)
      · rw [h0,orC_zero] at hF
        exact ⟨hrec4.ext (e5.trans e6),e4.trans (e5.trans e6),hF⟩
      · rw [orC_ne h0] at hF
        exact ⟨hrec4.ext (e5.trans e6),e4.trans (e5.trans e6),_,h0,rfl,hF.symm⟩
     cases hl:lastR (numR (fs.take i)) t.field with
     | none =>
      rw [hl] at fin
      simp (disch:=try exact DI) only [↓PR,QR,Int.reduceBEq,Int.reduceBNe,Int.reduceLT,Int.reduceLE,Int.reduceGT,Int.reduceGE,Int.reduceNeg,↓n58c1,↓n58c2,↓n58c3,↓n58c4,↓n58c5,↓n58c6,↓n58c7,↓n58c8,(cells_of_heap o2).1,Option.map_none]
      exact fin _ _ ee rfl
     | some q =>
      obtain ⟨lo,hi⟩:=q
      rw [hl] at fin
      simp (disch:=try exact DI) only [↓PR,QR,Int.reduceBEq,Int.reduceBNe,Int.reduceLT,Int.reduceLE,Int.reduceGT,Int.reduceGE,Int.reduceNeg,↓n58c1,↓n58c2,↓n58c3,↓n58c4,↓n58c5,↓n58c6,↓n58c7,↓n58c8,(cells_of_heap o2).1,rangeVal]
      exact fin _ _ ee rfl
   · rintro w3 ⟨e3,hF⟩ hmk
     rw [List.drop_length] at hF
     have l7:w7.heap.size < w3.heap.size:=(Array.getElem?_eq_some_iff.1 hmk).1
     rw [← hF]
     show n58c4 _ _ _ _ (flwR w0 at_ fld (orC 0 _)) w3
     rw [orC_zero]
     simp (disch:=try exact DI) only [↓PR,QR,Int.reduceBEq,Int.reduceBNe,Int.reduceLT,Int.reduceLE,Int.reduceGT,Int.reduceGE,Int.reduceNeg,↓n58c1,↓n58c2,↓n58c3,↓n58c4,↓n58c5,↓n58c6,↓n58c7,↓n58c8,(cells_of_heap (e3.obj o3')).1,(cells_of_heap (e3.obj p4)).1]
     refine zcr (Interval_ret _ _ f.base f.terms m _ ⟨tv,rfl,TermsOf.ext hT (e07.trans e3)⟩ ht (hM7.ext e3)) fun w4 e4=>?_
     have s4:=e4.size
     have o2:=(e3.trans e4).obj o2'
     have l2:w0.heap.size < w4.heap.size:=(Array.getElem?_eq_some_iff.1 o2).1
     simp (disch:=try exact DI) only [↓PR,QR,Int.reduceBEq,Int.reduceBNe,Int.reduceLT,Int.reduceLE,Int.reduceGT,Int.reduceGE,Int.reduceNeg,↓n58c1,↓n58c2,↓n58c3,↓n58c4,↓n58c5,↓n58c6,↓n58c7,↓n58c8,(cells_of_heap o2).1,rangeVal]
     have e5:Ext w3 (w4.alloc (Obj.cells #[.int .i64 (intervalL f.base f.terms (numR (fs.take i))),.int .i64 (intervalH f.base f.terms (numR (fs.take i)))] 58)):=e4.alloc _
     have s07:=e07.size
     refine callK_flw (need_flw (h7.ext (e3.trans e5)) (lenB f.base f.terms (numR (fs.take i))) 9 (by decide)) (fun w6 e6 h0=>?_) (fun w6 e6 h0=>?_)
     · refine outX_mark (hmk.ext (e5.trans e6)) ?_
       rw [outX_nil]
       exact flwR_ret (((e07.trans e3).trans (e5.trans e6)).putObj (by omega) _) h0
     · refine outQ_mark (hmk.ext (e5.trans e6)) ?_
       rw [outQ_nil]
       exact flwR_pan (((e07.trans e3).trans (e5.trans e6)).putObj (by omega) _) rfl h0
   · rintro c w3 h
     exact h.elim
   · rintro ch w3 ⟨e3,c,hc,rfl,hF⟩ hmk
     have l7:w7.heap.size < w3.heap.size:=(Array.getElem?_eq_some_iff.1 hmk).1
     rw [hF,orC_ne hc]
     refine outQ_mark hmk ?_
     rw [outQ_nil]
     exact flwR_pan (by have:=e07.size;exact ee) rfl hc
 · rw [orC_ne h0]
   exact flwR_pan (e0.wdrew.trans (e1.trans e2)) rfl h0
end
end Go.Proofs.YtiajhbbmgglmlaaGreat
namespace Go.Proofs.YtiajhbbmgglmlaaGreat
open Sw
def n52c1 (t9 t47:Value) (next5:KW) (R:RT) (w:World):Prop :=
 F0 81 t9 1 R w fun t65 w =>
 L0 3 t65 R w fun t66 w =>
 B0 .add 3 true t66 (.int .i64 1) R w fun t67 w =>
 B0 .add 3 true t47 (.int .i64 1) R w fun t68 w =>
 next5 t67 t68 w
def n52c2 (t0 t9 t47:Value) (next5:KW) (R:RT) (w:World):Prop :=
 F0 81 t9 2 R w fun t62 w =>
 L0 9 t62 R w fun t63 w =>
 C0 94 #[t0,t63] R w fun t64 w =>
 n52c1 t9 t47 next5 R w
def n52c3 (t0 t4 t7 t45 t47:Value) (next5:KW) (R:RT) (w:World):Prop :=
 X0 50 t45 t47 R w fun t49 w =>
 L0 81 t49 R w fun t50 w =>
 opV Pg (Instr.alloc 81 true (.tuple #[])) (panK R) w fun t9 w =>
 opU Pg (Instr.storeAt 81 t9 t50) (panK R) w fun w =>
 F0 58 t4 1 R w fun t53 w =>
 L0 3 t53 R w fun t54 w =>
 F0 81 t9 0 R w fun t55 w =>
 L0 3 t55 R w fun t56 w =>
 F0 81 t9 1 R w fun t57 w =>
 L0 3 t57 R w fun t58 w =>
 opV Pg (Instr.buildSlice 85 2 #[(0,t56),(1,t58)]) (panK R) w fun t59 w =>
 C0 81 #[t0,t7,t54,t59] R w fun t60 w =>
 n52c2 t0 t9 t47 next5 R w
def n52c4 (t0 t3 t4:Value) (R:RT) (w:World):Prop :=
 F0 58 t4 0 R w fun t42 w =>
 L0 3 t42 R w fun t43 w =>
 F0 52 t3 11 R w fun t44 w =>
 L0 50 t44 R w fun t45 w =>
 opV Pg (Builtin.len_ #[50] 3 #[t45]) (panK R) w fun t46 w =>
 loop2 (fun t7 t47 w next5 =>
 B0 .lss 3 false t47 t46 R w fun t48 w =>
 condP t48 (
 n52c3 t0 t4 t7 t45 t47 next5 R w) (
 R (.returned (.tuple #[])) w)) t43 (.int .i64 0) w
def n52c5 (t0 t3 t4:Value) (R:RT) (w:World):Prop :=
 F0 52 t3 11 R w fun t31 w =>
 L0 50 t31 R w fun t32 w =>
 opV Pg (Builtin.len_ #[50] 3 #[t32]) (panK R) w fun t33 w =>
 B0 .geq 3 true t33 (.int .i64 1) R w fun t34 w =>
 joinK (fun (t39:Value) (w:World) =>
 pickK t34 t39 (.bool false) fun t40 =>
 C0 37 #[t0,t40,(.int .i64 3)] R w fun t41 w =>
 n52c4 t0 t3 t4 R w) fun K4 =>
 guardP t34 true (
 F0 52 t3 11 R w fun t36 w =>
 L0 50 t36 R w fun t37 w =>
 opV Pg (Builtin.len_ #[50] 3 #[t37]) (panK R) w fun t38 w =>
 B0 .leq 3 true t38 (.int .i64 40) R w fun t39 w =>
 K4 t39 w) (
 K4 undef w)
def n52c6 (t0 t3 t4 t5 t22:Value) (R:RT) (w:World):Prop :=
 joinK (fun (t27:Value) (w:World) =>
 pickK t5 t27 (.bool false) fun t28 =>
 C0 37 #[t0,t28,(.int .i64 8)] R w fun t29 w =>
 n52c5 t0 t3 t4 R w) fun K3 =>
 guardP t5 true (
 opV Pg (Op.unary .not t22) (panK R) w fun t27 w =>
 K3 t27 w) (
 K3 undef w)
def n52c7 (t0 t3 t4 t5:Value) (R:RT) (w:World):Prop :=
 C0 68 #[t0] R w fun t20 w =>
 opV Pg (Instr.makeFunc (.func 116) #[] #[t3]) (panK R) w fun t21 w =>
 C0 115 #[t20,t21] R w fun t22 w =>
 n52c6 t0 t3 t4 t5 t22 R w
def n52c8 (t13 t15:Value) (C7:World→Prop) (K2:KW) (R:RT) (w:World):Prop :=
 qV Pg C7 (Instr.lookup 55 t13 t15 true) fun t16 =>
 qV Pg C7 (Instr.extract t16 0) fun t17 =>
 qV Pg C7 (Instr.extract t16 1) fun t18 =>
 opV Pg (Instr.alloc 58 true (.tuple #[])) (panK R) w fun t4 w =>
 C7 w∧(
 opU Pg (Instr.storeAt 58 t4 t17) (panK R) w fun w =>
 C7 w∧(
 K2 t4 t18 w))
def n52c9 (t4 t13 t15:Value) (C8:World→Prop) (K2:KW) (R:RT) (w:World):Prop :=
 qV Pg C8 (Instr.lookup 55 t13 t15 true) fun t16 =>
 qV Pg C8 (Instr.extract t16 0) fun t17 =>
 qV Pg C8 (Instr.extract t16 1) fun t18 =>
 opU Pg (Instr.storeAt 58 t4 t17) (panK R) w fun w =>
 C8 w∧(
 K2 t4 t18 w)
def n52c10 (t12 t15:Value) (C6:World→Prop) (K2:KW) (R:RT) (w:World):Prop :=
 (
 C0 35 #[t12] R w fun t13 w =>
 narrowK C6 w fun C7 w =>
 n52c8 t13 t15 C7 K2 R w)∧(
 opV Pg (Instr.alloc 58 true (.tuple #[])) (panK R) w fun t4 w =>
 C6 w∧(
 C0 35 #[t12] R w fun t13 w =>
 narrowK C6 w fun C8 w =>
 n52c9 t4 t13 t15 C8 K2 R w))
def n52c11 (t4 t13 t15:Value) (C10:World→Prop) (K2:KW) (R:RT) (w:World):Prop :=
 qV Pg C10 (Instr.lookup 55 t13 t15 true) fun t16 =>
 qV Pg C10 (Instr.extract t16 0) fun t17 =>
 qV Pg C10 (Instr.extract t16 1) fun t18 =>
 opU Pg (Instr.storeAt 58 t4 t17) (panK R) w fun w =>
 C10 w∧(
 K2 t4 t18 w)
def n52c12 (t0 t4 t15:Value) (C1:World→Prop) (K2:KW) (R:RT) (w:World):Prop :=
 C0 68 #[t0] R w fun t12 w =>
 narrowK C1 w fun C9 w =>
 C0 35 #[t12] R w fun t13 w =>
 narrowK C9 w fun C10 w =>
 n52c11 t4 t13 t15 C10 K2 R w
def n52c13 (t0 t3:Value) (C1:World→Prop) (R:RT) (w:World):Prop :=
 qV Pg C1 (Instr.fieldAt 52 t3 9) fun t14 =>
 qV Pg C1 (Instr.loadAt 9 t14) fun t15 =>
 joinK (fun (t4:Value) (t5:Value) (w:World) =>
 n52c7 t0 t3 t4 t5 R w) fun K2 =>
 (
 C0 68 #[t0] R w fun t12 w =>
 narrowK C1 w fun C6 w =>
 n52c10 t12 t15 C6 K2 R w)∧(
 opV Pg (Instr.alloc 58 true (.tuple #[])) (panK R) w fun t4 w =>
 C1 w∧(
 n52c12 t0 t4 t15 C1 K2 R w))
def n52 (t0 t1:Value) (R:RT) (w:World):Prop :=
 opV Pg (Instr.box 52 t1) (panK R) w fun t3 w =>
 drawK w fun C1 w =>
 n52c13 t0 t3 C1 R w
theorem n52s {t0 t1:Value} {R:RT} {w:World} (h:n52 t0 t1 R w):Calls Pg 98 #[t0,t1] w R:=by
 refine calls_of_den (args:=[t0,t1]) Tryz.func98 rfl (Nat.le_of_ble_eq_true rfl) ?_
 unfold n52 at h
 refine zs<|zr ?_
 refine zv h fun t3 w h=>?_
 refine zn<|zk<|zs ?_
 obtain ⟨C1,hC,h⟩:=h
 refine sim_draw [4,5,10,11,12,13,14,15,16,17,18] (by kernel_rfl) (by kernel_rfl) C1 ?_
 refine zw 0 hC ?_
 refine ze 3 hC h fun t14 h=>?_
 refine ze 4 hC h fun t15 h=>?_
 refine joinK_elim h (fun K2 hK h=>?_)
 refine sim_dmeet [4,5,10,12,13,16,17,18] (fun ρ w=>K2 (ρ 4) (ρ 5) w) (fun T hT=>?_) (fun σ w h=>?_)
 · obtain ⟨h0,h1⟩:=h
   refine sim_dloud2 1 9 rfl rfl (by kernel_rfl) (fun _ _=>rfl) (fun _ _=>rfl) ?_ ?_
   · have h:=h0
     refine sim_call h c68 rfl (fun _ _ h _ _=>⟨rfl,h⟩) ?_;intro t12 w h
     refine zn ?_
     obtain ⟨C6,hs,hC,h⟩:=h
     refine ⟨C6,hs,hC,?_⟩
     obtain ⟨h0,h1⟩:=h
     refine sim_dloud2 2 9 rfl rfl (by kernel_rfl) (fun _ _=>rfl) (fun _ _=>rfl) ?_ ?_
     · have h:=h0
       refine sim_call h c35 rfl (fun _ _ h _ _=>⟨rfl,h⟩) ?_;intro t13 w h
       refine zn ?_
       obtain ⟨C7,hs,hC,h⟩:=h
       refine ⟨C7,hs,hC,?_⟩
       refine ze 5 hC h fun t16 h=>?_
       refine zw 6 hC ?_
       refine ze 7 hC h fun t17 h=>?_
       refine ze 8 hC h fun t18 h=>?_
       refine sim_dloud 9 rfl (by kernel_rfl) (fun _ _=>rfl) ?_
       refine sim_val h rfl rfl (fun _ _ h _ _=>⟨rfl,h⟩) ?_;intro t4 w h
       refine zn ?_
       obtain ⟨hC,h⟩:=h
       refine ⟨hC,?_⟩
       refine sim_dloud 10 rfl (by kernel_rfl) (fun _ _=>rfl) ?_
       refine sim_unit h rfl rfl (fun _ _ h _ _=>⟨rfl,h⟩) ?_;intro w h
       refine zn ?_
       obtain ⟨hC,h⟩:=h
       refine ⟨hC,?_⟩
       refine zw 11 hC ?_
       refine sim_dend (by kernel_rfl) ?_
       exact zt hT h
     · have h:=h1
       refine sim_val h rfl rfl (fun _ _ h _ _=>⟨rfl,h⟩) ?_;intro t4 w h
       refine zn ?_
       obtain ⟨hC,h⟩:=h
       refine ⟨_,fun _ h=>h,hC,?_⟩
       refine sim_dnarrow 2 rfl (by kernel_rfl) (fun _ _=>rfl) ?_
       refine sim_call h c35 rfl (fun _ _ h _ _=>⟨rfl,h⟩) ?_;intro t13 w h
       refine zn ?_
       obtain ⟨C8,hs,hC,h⟩:=h
       refine ⟨C8,hs,hC,?_⟩
       refine ze 5 hC h fun t16 h=>?_
       refine zw 6 hC ?_
       refine ze 7 hC h fun t17 h=>?_
       refine ze 8 hC h fun t18 h=>?_
       refine sim_dloud 10 rfl (by kernel_rfl) (fun _ _=>rfl) ?_
       refine sim_unit h rfl rfl (fun _ _ h _ _=>⟨rfl,h⟩) ?_;intro w h
       refine zn ?_
       obtain ⟨hC,h⟩:=h
       refine ⟨hC,?_⟩
       refine zw 11 hC ?_
       refine sim_dend (by kernel_rfl) ?_
       exact zt hT h
   · have h:=h1
     refine sim_val h rfl rfl (fun _ _ h _ _=>⟨rfl,h⟩) ?_;intro t4 w h
     refine zn ?_
     obtain ⟨hC,h⟩:=h
     refine ⟨_,fun _ h=>h,hC,?_⟩
     refine sim_dnarrow 1 rfl (by kernel_rfl) (fun _ _=>rfl) ?_
     refine sim_call h c68 rfl (fun _ _ h _ _=>⟨rfl,h⟩) ?_;intro t12 w h
     refine zn ?_
     obtain ⟨C9,hs,hC,h⟩:=h
     refine ⟨C9,hs,hC,?_⟩
     refine sim_dnarrow 2 rfl (by kernel_rfl) (fun _ _=>rfl) ?_
     refine sim_call h c35 rfl (fun _ _ h _ _=>⟨rfl,h⟩) ?_;intro t13 w h
     refine zn ?_
     obtain ⟨C10,hs,hC,h⟩:=h
     refine ⟨C10,hs,hC,?_⟩
     refine ze 5 hC h fun t16 h=>?_
     refine zw 6 hC ?_
     refine ze 7 hC h fun t17 h=>?_
     refine ze 8 hC h fun t18 h=>?_
     refine sim_dloud 10 rfl (by kernel_rfl) (fun _ _=>rfl) ?_
     refine sim_unit h rfl rfl (fun _ _ h _ _=>⟨rfl,h⟩) ?_;intro w h
     refine zn ?_
     obtain ⟨hC,h⟩:=h
     refine ⟨hC,?_⟩
     refine zw 11 hC ?_
     refine sim_dend (by kernel_rfl) ?_
     exact zt hT h
 subst hK
 refine zk<|zs<|zr<|zm ?_
 refine zc h c68 fun t20 w h=>?_
 refine sim_makeFunc h rfl rfl (fun _ _ h=>⟨rfl,h⟩) ?_;intro t21 w h
 refine zc h c115 fun t22 w h=>?_
 refine zm<|zn<|zk<|zs<|sim_regionG ?_
 refine sim_seg 3 rfl ?_
 refine zm<|zm<|zm<|zn ?_
 refine joinK_elim h (fun K3 hK h=>?_)
 refine sim_groupJ 2 2 true [26,27] (fun ρ w=>K3 (ρ 27) w) rfl rfl (fun T hT=>guardP_mono h (fun h=>?_) (fun h=>?_)) (fun σ w h=>?_)
 · refine zm ?_
   refine zv h fun t27 w h=>?_
   refine zn ?_
   exact zt hT h
 · exact zt hT h
 subst hK
 refine sim_seg 2 rfl ?_
 refine sim_pick h rfl rfl rfl ?_;intro t28 h
 refine zc h c37 fun t29 w h=>?_
 refine zn<|sim_end<|zk<|zs<|sim_regionG ?_
 refine sim_seg 6 rfl ?_
 refine zm ?_
 refine zv h fun t31 w h=>?_
 refine zv h fun t32 w h=>?_
 refine zx h fun t33 w h=>?_
 refine zb h fun t34 w h=>?_
 refine zm<|zn ?_
 refine joinK_elim h (fun K4 hK h=>?_)
 refine sim_groupJ 4 5 true [36,37,38,39] (fun ρ w=>K4 (ρ 39) w) rfl rfl (fun T hT=>guardP_mono h (fun h=>?_) (fun h=>?_)) (fun σ w h=>?_)
 · refine zv h fun t36 w h=>?_
   refine zv h fun t37 w h=>?_
   refine zx h fun t38 w h=>?_
   refine zb h fun t39 w h=>?_
   refine zn ?_
   exact zt hT h
 · exact zt hT h
 subst hK
 refine sim_seg 2 rfl ?_
 refine sim_pick h rfl rfl rfl ?_;intro t40 h
 refine zc h c37 fun t41 w h=>?_
 refine zn<|sim_end<|zk<|zs<|zr ?_
 refine zv h fun t42 w h=>?_
 refine zv h fun t43 w h=>?_
 refine zm<|zn<|zk<|zs<|zr ?_
 refine zv h fun t44 w h=>?_
 refine zv h fun t45 w h=>?_
 refine zx h fun t46 w h=>?_
 refine zm<|zn<|zk<|sim_block ?_
 obtain ⟨I,μ,h0,hr⟩:=h
 refine sim_loop [7,9,47,48,49,50,51,52,53,54,55,56,57,58,59,60,61,62,63,64,65,66,67,68] (by kernel_rfl) (fun ρ w=>I (ρ 7) (ρ 47) w) (fun ρ w=>μ (ρ 7) (ρ 47) w) h0 (fun σ w hI=>?_)
 have h:=hr _ _ _ hI
 clear hr h0 hI
 refine zs<|zr ?_
 refine zb h fun t48 w h=>?_
 refine zn<|zk<|zs ?_
 refine sim_cond h rfl (fun h=>?_) (fun h=>?_)
 · refine sim_skip<|zk<|zs<|sim_block<|zs<|zr ?_
   refine zv h fun t49 w h=>?_
   refine zv h fun t50 w h=>?_
   refine zv h fun t9 w h=>?_
   refine zu h fun w h=>?_
   refine zn<|zk<|zs<|zr<|zm<|zm ?_
   refine zv h fun t53 w h=>?_
   refine zv h fun t54 w h=>?_
   refine zv h fun t55 w h=>?_
   refine zv h fun t56 w h=>?_
   refine zv h fun t57 w h=>?_
   refine zv h fun t58 w h=>?_
   refine sim_buildSlice h rfl (fun _ _ h=>⟨rfl,h⟩) ?_;intro t59 w h
   refine zc h c81 fun t60 w h=>?_
   refine zn<|zk<|zs<|zr<|zm ?_
   refine zv h fun t62 w h=>?_
   refine zv h fun t63 w h=>?_
   refine zc h c94 fun t64 w h=>?_
   refine zn<|zk<|zr ?_
   refine zv h fun t65 w h=>?_
   refine zv h fun t66 w h=>?_
   refine zb h fun t67 w h=>?_
   refine zm<|zn<|sim_block_normal<|zk<|zr ?_
   refine zb h fun t68 w h=>?_
   refine zm<|zn<|zk ?_
   exact ⟨rfl,h⟩
 · refine sim_exit<|sim_then_exit<|sim_then_exit<|sim_block_hit ?_
   refine body_normal ?_
   exact body_ret0 rfl h
def n72 (t0:Value) (R:RT) (w:World):Prop :=
 opN Pg (nilN t0) (panK R) w fun t3 w =>
 F0 52 t3 2 R w fun t4 w =>
 opU Pg (Instr.storeAt 3 t4 (.int .i64 0)) (panK R) w fun w =>
 R (.returned (.tuple #[])) w
theorem n72s {t0:Value} {R:RT} {w:World} (h:n72 t0 R w):Calls Pg 99 #[t0] w R:=by
 refine calls_of_den (args:=[t0]) Tryz.func99 rfl (Nat.le_of_ble_eq_true rfl) ?_
 unfold n72 at h
 refine zr<|zm ?_
 refine sim_next h rfl rfl (fun _ _ h=>⟨rfl,h⟩) ?_;intro t3 w h
 refine zv h fun t4 w h=>?_
 refine zu h fun w h=>?_
 refine zn ?_
 refine body_normal ?_
 exact body_ret0 rfl h
def n73c1 (t0 t12 t22 t26:Value) (R:RT) (w:World):Prop :=
 joinK (fun (t27:Value) (w:World) =>
 pickK t12 (.bool true) t27 fun t28 =>
 C0 37 #[t0,t28,(.int .i64 6)] R w fun t29 w =>
 R (.returned (.tuple #[])) w) fun K6 =>
 guardP t12 false (
 pickK t22 t26 (.bool false) fun t27 =>
 K6 t27 w) (
 K6 undef w)
def n73c2 (t0 t3 t12 t22:Value) (R:RT) (w:World):Prop :=
 joinK (fun (t26:Value) (w:World) =>
 n73c1 t0 t12 t22 t26 R w) fun K5 =>
 guardP t22 true (
 F0 52 t3 2 R w fun t23 w =>
 L0 3 t23 R w fun t24 w =>
 B0 .rem 3 true t24 (.int .i64 8) R w fun t25 w =>
 B0 .eql 3 true t25 (.int .i64 0) R w fun t26 w =>
 K5 t26 w) (
 K5 undef w)
def n73c3 (t0 t3 t12 t17:Value) (R:RT) (w:World):Prop :=
 joinK (fun (t20:Value) (w:World) =>
 joinK (fun (t22:Value) (w:World) =>
 n73c2 t0 t3 t12 t22 R w) fun K4 =>
 guardP t12 false (
 pickK t17 t20 (.bool false) fun t21 =>
 K4 t21 w) (
 K4 undef w)) fun K3 =>
 guardP t17 true (
 F0 52 t3 2 R w fun t18 w =>
 L0 3 t18 R w fun t19 w =>
 B0 .leq 3 true t19 (.int .i64 512) R w fun t20 w =>
 K3 t20 w) (
 K3 undef w)
def n73c4 (t0 t3 t7 t11:Value) (R:RT) (w:World):Prop :=
 pickK t7 (.bool true) t11 fun t12 =>
 joinK (fun (t17:Value) (w:World) =>
 n73c3 t0 t3 t12 t17 R w) fun K2 =>
 guardP t12 false (
 F0 52 t3 2 R w fun t14 w =>
 L0 3 t14 R w fun t15 w =>
 B0 .geq 3 true t15 (.int .i64 8) R w fun t16 w =>
 K2 t16 w) (
 K2 undef w)
def n73 (t0 t1:Value) (R:RT) (w:World):Prop :=
 opV Pg (Instr.box 52 t1) (panK R) w fun t3 w =>
 F0 52 t3 2 R w fun t5 w =>
 L0 3 t5 R w fun t6 w =>
 B0 .eql 3 true t6 (.int .i64 2) R w fun t7 w =>
 joinK (fun (t11:Value) (w:World) =>
 n73c4 t0 t3 t7 t11 R w) fun K1 =>
 guardP t7 false (
 F0 52 t3 2 R w fun t9 w =>
 L0 3 t9 R w fun t10 w =>
 B0 .eql 3 true t10 (.int .i64 4) R w fun t11 w =>
 K1 t11 w) (
 K1 undef w)
theorem n73s {t0 t1:Value} {R:RT} {w:World} (h:n73 t0 t1 R w):Calls Pg 100 #[t0,t1] w R:=by
 refine calls_of_den (args:=[t0,t1]) Tryz.func100 rfl (Nat.le_of_ble_eq_true rfl) ?_
 unfold n73 at h
 refine zs<|zr ?_
 refine zv h fun t3 w h=>?_
 refine zn<|zk<|sim_regionG ?_
 refine sim_seg 5 rfl ?_
 refine zm ?_
 refine zv h fun t5 w h=>?_
 refine zv h fun t6 w h=>?_
 refine zb h fun t7 w h=>?_
 refine zm<|zn ?_
 refine joinK_elim h (fun K1 hK h=>?_)
 refine sim_groupJ 3 4 false [9,10,11] (fun ρ w=>K1 (ρ 11) w) rfl rfl (fun T hT=>guardP_mono h (fun h=>?_) (fun h=>?_)) (fun σ w h=>?_)
 · refine zv h fun t9 w h=>?_
   refine zv h fun t10 w h=>?_
   refine zb h fun t11 w h=>?_
   refine zn ?_
   exact zt hT h
 · exact zt hT h
 subst hK
 refine sim_seg 2 rfl ?_
 refine sim_pick h rfl rfl rfl ?_;intro t12 h
 refine zm<|zn ?_
 refine joinK_elim h (fun K2 hK h=>?_)
 refine sim_groupJ 4 9 false [14,15,16,17] (fun ρ w=>K2 (ρ 17) w) rfl rfl (fun T hT=>guardP_mono h (fun h=>?_) (fun h=>?_)) (fun σ w h=>?_)
 · refine zv h fun t14 w h=>?_
   refine zv h fun t15 w h=>?_
   refine zb h fun t16 w h=>?_
   refine zm<|zn ?_
   exact zt hT h
 · exact zt hT h
 subst hK
 refine joinK_elim h (fun K3 hK h=>?_)
 refine sim_groupJ 3 13 true [18,19,20] (fun ρ w=>K3 (ρ 20) w) rfl rfl (fun T hT=>guardP_mono h (fun h=>?_) (fun h=>?_)) (fun σ w h=>?_)
 · refine zv h fun t18 w h=>?_
   refine zv h fun t19 w h=>?_
   refine zb h fun t20 w h=>?_
   refine zn ?_
   exact zt hT h
 · exact zt hT h
 subst hK
 refine joinK_elim h (fun K4 hK h=>?_)
 refine sim_groupJ 2 9 false [21,22] (fun ρ w=>K4 (ρ 22) w) rfl rfl (fun T hT=>guardP_mono h (fun h=>?_) (fun h=>?_)) (fun σ w h=>?_)
 · refine sim_pick h rfl rfl rfl ?_;intro t21 h
   refine zm<|zn ?_
   exact zt hT h
 · exact zt hT h
 subst hK
 refine joinK_elim h (fun K5 hK h=>?_)
 refine sim_groupJ 4 18 true [23,24,25,26] (fun ρ w=>K5 (ρ 26) w) rfl rfl (fun T hT=>guardP_mono h (fun h=>?_) (fun h=>?_)) (fun σ w h=>?_)
 · refine zv h fun t23 w h=>?_
   refine zv h fun t24 w h=>?_
   refine zb h fun t25 w h=>?_
   refine zb h fun t26 w h=>?_
   refine zn ?_
   exact zt hT h
 · exact zt hT h
 subst hK
 refine joinK_elim h (fun K6 hK h=>?_)
 refine sim_groupJ 1 9 false [27] (fun ρ w=>K6 (ρ 27) w) rfl rfl (fun T hT=>guardP_mono h (fun h=>?_) (fun h=>?_)) (fun σ w h=>?_)
 · refine sim_pick h rfl rfl rfl ?_;intro t27 h
   refine zn ?_
   exact zt hT h
 · exact zt hT h
 subst hK
 refine sim_seg 2 rfl ?_
 refine sim_pick h rfl rfl rfl ?_;intro t28 h
 refine zc h c37 fun t29 w h=>?_
 refine zn<|sim_end ?_
 refine body_normal ?_
 exact body_ret0 rfl h
def n74 (t0:Value) (R:RT) (w:World):Prop :=
 opN Pg (nilN t0) (panK R) w fun t4 w =>
 F0 52 t4 10 R w fun t5 w =>
 opU Pg (Instr.storeAt 9 t5 (.string { data := #[] })) (panK R) w fun w =>
 opN Pg (nilN t0) (panK R) w fun t6 w =>
 F0 52 t6 12 R w fun t7 w =>
 opU Pg (Instr.storeAt 3 t7 (.int .i64 0)) (panK R) w fun w =>
 R (.returned (.tuple #[])) w
theorem n74s {t0:Value} {R:RT} {w:World} (h:n74 t0 R w):Calls Pg 101 #[t0] w R:=by
 refine calls_of_den (args:=[t0]) Tryz.func101 rfl (Nat.le_of_ble_eq_true rfl) ?_
 unfold n74 at h
 refine zr<|zm<|zm ?_
 refine sim_next h rfl rfl (fun _ _ h=>⟨rfl,h⟩) ?_;intro t4 w h
 refine zv h fun t5 w h=>?_
 refine zu h fun w h=>?_
 refine sim_next h rfl rfl (fun _ _ h=>⟨rfl,h⟩) ?_;intro t6 w h
 refine zv h fun t7 w h=>?_
 refine zu h fun w h=>?_
 refine zn ?_
 refine body_normal ?_
 exact body_ret0 rfl h
def n76c1 (t0 t17:Value) (C1:World→Prop) (R:RT) (w:World):Prop :=
 qV Pg C1 (Instr.extract t17 0) fun t18 =>
 qV Pg C1 (Instr.extract t17 1) fun t19 =>
 C0 37 #[t0,t19,(.int .i64 8)] R w fun t22 w =>
 R (.returned (.tuple #[])) w
def n76c2 (t0 t3:Value) (C1:World→Prop) (R:RT) (w:World):Prop :=
 qV Pg C1 (Instr.fieldAt 52 t3 10) fun t15 =>
 qV Pg C1 (Instr.loadAt 9 t15) fun t16 =>
 C0 68 #[t0] R w fun t13 w =>
 C1 w∧(
 qV Pg C1 (Instr.build 45 #[(1,t13)]) fun t14 =>
 C0 67 #[t14,t16] R w fun t17 w =>
 C1 w∧(
 n76c1 t0 t17 C1 R w))
def n76 (t0 t1:Value) (R:RT) (w:World):Prop :=
 opV Pg (Instr.box 52 t1) (panK R) w fun t3 w =>
 F0 52 t3 12 R w fun t7 w =>
 L0 3 t7 R w fun t8 w =>
 opV Pg (Instr.buildSlice 85 1 #[(0,t8)]) (panK R) w fun t9 w =>
 C0 81 #[t0,(.int .i64 1),(.int .i64 3),t9] R w fun t10 w =>
 drawK w fun C1 w =>
 n76c2 t0 t3 C1 R w
theorem n76s {t0 t1:Value} {R:RT} {w:World} (h:n76 t0 t1 R w):Calls Pg 102 #[t0,t1] w R:=by
 refine calls_of_den (args:=[t0,t1]) Tryz.func102 rfl (Nat.le_of_ble_eq_true rfl) ?_
 unfold n76 at h
 refine zs<|zr ?_
 refine zv h fun t3 w h=>?_
 refine zn<|zk<|zs<|zr<|zm ?_
 refine zv h fun t7 w h=>?_
 refine zv h fun t8 w h=>?_
 refine sim_buildSlice h rfl (fun _ _ h=>⟨rfl,h⟩) ?_;intro t9 w h
 refine zc h c81 fun t10 w h=>?_
 refine zn<|zk<|zs ?_
 obtain ⟨C1,hC,h⟩:=h
 refine sim_draw [4,5,11,12,13,14,15,16,17,18,19] (by kernel_rfl) (by kernel_rfl) C1 ?_
 refine zw 0 hC ?_
 refine ze 3 hC h fun t15 h=>?_
 refine ze 4 hC h fun t16 h=>?_
 refine sim_dloud 1 rfl (by kernel_rfl) (fun _ _=>rfl) ?_
 refine sim_call h c68 rfl (fun _ _ h _ _=>⟨rfl,h⟩) ?_;intro t13 w h
 refine zn ?_
 obtain ⟨hC,h⟩:=h
 refine ⟨hC,?_⟩
 obtain ⟨t14,hv,h⟩:=h
 refine sim_dsilent 2 hC rfl (by kernel_rfl) (by kernel_rfl) (fun _ _=>rfl) rfl (Sw.qV_build rfl hv) ?_
 refine sim_dloud 5 rfl (by kernel_rfl) (fun _ _=>rfl) ?_
 refine sim_call h c67 rfl (fun _ _ h _ _=>⟨rfl,h⟩) ?_;intro t17 w h
 refine zn ?_
 obtain ⟨hC,h⟩:=h
 refine ⟨hC,?_⟩
 refine zw 6 hC ?_
 refine ze 7 hC h fun t18 h=>?_
 refine ze 8 hC h fun t19 h=>?_
 refine zw 9 hC ?_
 refine zw 10 hC ?_
 refine sim_dend (by kernel_rfl) ?_
 refine zk<|zr<|zm<|zm ?_
 refine zc h c37 fun t22 w h=>?_
 refine zn ?_
 refine body_normal ?_
 exact body_ret0 rfl h
def n77 (t0:Value) (R:RT) (w:World):Prop :=
 opV Pg (Instr.build 49 #[]) (panK R) w fun t5 w =>
 opN Pg (nilN t0) (panK R) w fun t6 w =>
 F0 52 t6 8 R w fun t7 w =>
 opU Pg (Instr.storeAt 9 t7 (.string { data := #[] })) (panK R) w fun w =>
 opN Pg (nilN t0) (panK R) w fun t8 w =>
 F0 52 t8 7 R w fun t9 w =>
 opU Pg (Instr.storeAt 49 t9 t5) (panK R) w fun w =>
 opN Pg (nilN t0) (panK R) w fun t10 w =>
 F0 52 t10 13 R w fun t11 w =>
 opU Pg (Instr.storeAt 3 t11 (.int .i64 0)) (panK R) w fun w =>
 R (.returned (.tuple #[])) w
theorem n77s {t0:Value} {R:RT} {w:World} (h:n77 t0 R w):Calls Pg 103 #[t0] w R:=by
 refine calls_of_den (args:=[t0]) Tryz.func103 rfl (Nat.le_of_ble_eq_true rfl) ?_
 unfold n77 at h
 refine zr<|zm<|zm<|zm ?_
 refine sim_build h rfl (fun _ _ h=>⟨rfl,h⟩) ?_;intro t5 w h
 refine sim_next h rfl rfl (fun _ _ h=>⟨rfl,h⟩) ?_;intro t6 w h
 refine zv h fun t7 w h=>?_
 refine zu h fun w h=>?_
 refine sim_next h rfl rfl (fun _ _ h=>⟨rfl,h⟩) ?_;intro t8 w h
 refine zv h fun t9 w h=>?_
 refine zu h fun w h=>?_
 refine sim_next h rfl rfl (fun _ _ h=>⟨rfl,h⟩) ?_;intro t10 w h
 refine zv h fun t11 w h=>?_
 refine zu h fun w h=>?_
 refine zn ?_
 refine body_normal ?_
 exact body_ret0 rfl h
def n78c1 (t0 t3:Value) (C1:World→Prop) (R:RT) (w:World):Prop :=
 qN Pg C1 (nilN t0) fun t11 =>
 qV Pg C1 (Instr.fieldAt 65 t11 2) fun t12 =>
 qV Pg C1 (Instr.loadAt 63 t12) fun t13 =>
 qV Pg C1 (Instr.fieldAt 52 t3 8) fun t14 =>
 qV Pg C1 (Instr.loadAt 9 t14) fun t15 =>
 qV Pg C1 (Instr.lookup 63 t13 t15 false) fun t16 =>
 C0 37 #[t0,t16,(.int .i64 8)] R w fun t17 w =>
 C1 w∧(
 L0 52 t3 R w fun t19 w =>
 C0 87 #[t0,t19] R w fun t20 w =>
 R (.returned (.tuple #[])) w)
def n78 (t0 t1:Value) (R:RT) (w:World):Prop :=
 opV Pg (Instr.box 52 t1) (panK R) w fun t3 w =>
 F0 52 t3 13 R w fun t5 w =>
 L0 3 t5 R w fun t6 w =>
 opV Pg (Instr.buildSlice 85 1 #[(0,t6)]) (panK R) w fun t7 w =>
 C0 81 #[t0,(.int .i64 0),(.int .i64 4294967295),t7] R w fun t8 w =>
 drawK w fun C1 w =>
 n78c1 t0 t3 C1 R w
theorem n78s {t0 t1:Value} {R:RT} {w:World} (h:n78 t0 t1 R w):Calls Pg 104 #[t0,t1] w R:=by
 refine calls_of_den (args:=[t0,t1]) Tryz.func104 rfl (Nat.le_of_ble_eq_true rfl) ?_
 unfold n78 at h
 refine zs<|zr ?_
 refine zv h fun t3 w h=>?_
 refine zn<|zk<|zs<|zr<|zm ?_
 refine zv h fun t5 w h=>?_
 refine zv h fun t6 w h=>?_
 refine sim_buildSlice h rfl (fun _ _ h=>⟨rfl,h⟩) ?_;intro t7 w h
 refine zc h c81 fun t8 w h=>?_
 refine zn<|zk<|zs ?_
 obtain ⟨C1,hC,h⟩:=h
 refine sim_draw [9,10,11,12,13,14,15,16,17] (by kernel_rfl) (by kernel_rfl) C1 ?_
 refine zw 0 hC ?_
 refine zw 1 hC ?_
 obtain ⟨t11,hv,h⟩:=h
 refine sim_dsilent 2 hC rfl (by kernel_rfl) (by kernel_rfl) (fun _ _=>rfl) rfl (Sw.qN_run rfl hv) ?_
 refine ze 3 hC h fun t12 h=>?_
 refine ze 4 hC h fun t13 h=>?_
 refine ze 5 hC h fun t14 h=>?_
 refine ze 6 hC h fun t15 h=>?_
 refine ze 7 hC h fun t16 h=>?_
 refine sim_dloud 8 rfl (by kernel_rfl) (fun _ _=>rfl) ?_
 refine sim_call h c37 rfl (fun _ _ h _ _=>⟨rfl,h⟩) ?_;intro t17 w h
 refine zn ?_
 obtain ⟨hC,h⟩:=h
 refine ⟨hC,?_⟩
 refine sim_dend (by kernel_rfl) ?_
 refine zk<|zr<|zm ?_
 refine zv h fun t19 w h=>?_
 refine zc h c87 fun t20 w h=>?_
 refine zn ?_
 refine body_normal ?_
 exact body_ret0 rfl h
def n87 (t0:Value) (R:RT) (w:World):Prop :=
 opV Pg (Instr.box 52 t0) (panK R) w fun t1 w =>
 opV Pg (Instr.alloc 137 true (.tuple #[])) (panK R) w fun t2 w =>
 F0 52 t1 0 R w fun t3 w =>
 L0 9 t3 R w fun t4 w =>
 F0 52 t1 8 R w fun t5 w =>
 L0 9 t5 R w fun t6 w =>
 F0 52 t1 9 R w fun t7 w =>
 L0 9 t7 R w fun t8 w =>
 F0 52 t1 10 R w fun t9 w =>
 L0 9 t9 R w fun t10 w =>
 F0 52 t1 1 R w fun t11 w =>
 L0 46 t11 R w fun t12 w =>
 F0 52 t1 2 R w fun t13 w =>
 L0 3 t13 R w fun t14 w =>
 F0 52 t1 5 R w fun t15 w =>
 L0 3 t15 R w fun t16 w =>
 F0 52 t1 6 R w fun t17 w =>
 L0 3 t17 R w fun t18 w =>
 F0 52 t1 7 R w fun t19 w =>
 F0 49 t19 0 R w fun t20 w =>
 L0 3 t20 R w fun t21 w =>
 F0 52 t1 12 R w fun t22 w =>
 L0 3 t22 R w fun t23 w =>
 F0 52 t1 13 R w fun t24 w =>
 L0 3 t24 R w fun t25 w =>
 F0 52 t1 3 R w fun t26 w =>
 L0 4 t26 R w fun t27 w =>
 F0 52 t1 4 R w fun t28 w =>
 L0 4 t28 R w fun t29 w =>
 opV Pg (Instr.build 137 #[(0,t4),(1,t6),(2,t8),(3,t10),(4,t12),(5,t14),(6,t16),(7,t18),(8,t21),(9,t23),(10,t25),(11,t27),(12,t29)]) (panK R) w fun t30 w =>
 opU Pg (Instr.storeAt 137 t2 t30) (panK R) w fun w =>
 qW Pg 137 t2 w fun r0 =>
 R (.returned r0) w
theorem n87s {t0:Value} {R:RT} {w:World} (h:n87 t0 R w):Calls Pg 105 #[t0] w R:=by
 refine calls_of_den (args:=[t0]) Tryz.func105 rfl (Nat.le_of_ble_eq_true rfl) ?_
 unfold n87 at h
 refine zs<|zr ?_
 refine zv h fun t1 w h=>?_
 refine zv h fun t2 w h=>?_
 refine zn<|zk<|zs<|zr ?_
 refine zv h fun t3 w h=>?_
 refine zv h fun t4 w h=>?_
 refine zv h fun t5 w h=>?_
 refine zv h fun t6 w h=>?_
 refine zv h fun t7 w h=>?_
 refine zv h fun t8 w h=>?_
 refine zv h fun t9 w h=>?_
 refine zv h fun t10 w h=>?_
 refine zv h fun t11 w h=>?_
 refine zv h fun t12 w h=>?_
 refine zv h fun t13 w h=>?_
 refine zv h fun t14 w h=>?_
 refine zv h fun t15 w h=>?_
 refine zv h fun t16 w h=>?_
 refine zv h fun t17 w h=>?_
 refine zv h fun t18 w h=>?_
 refine zv h fun t19 w h=>?_
 refine zv h fun t20 w h=>?_
 refine zv h fun t21 w h=>?_
 refine zv h fun t22 w h=>?_
 refine zv h fun t23 w h=>?_
 refine zv h fun t24 w h=>?_
 refine zv h fun t25 w h=>?_
 refine zv h fun t26 w h=>?_
 refine zv h fun t27 w h=>?_
 refine zv h fun t28 w h=>?_
 refine zv h fun t29 w h=>?_
 refine sim_build h rfl (fun _ _ h=>⟨rfl,h⟩) ?_;intro t30 w h
 refine zu h fun w h=>?_
 refine zn<|zk<|sim_ret ?_
 exact body_retC rfl rfl h
def n116c1 (t0 t1 t13:Value) (C2:World→Prop) (next1:KV) (R:RT) (w:World):Prop :=
 qV Pg C2 (Instr.indexAt 47 t0 t13) fun t18 =>
 qV Pg C2 (Instr.loadAt 78 t18) fun t19 =>
 qV Pg C2 (Instr.indexAt 47 t1 t13) fun t22 =>
 qV Pg C2 (Instr.loadAt 78 t22) fun t23 =>
 qV Pg C2 (binS .neq 78 false t19 t23) fun t24 =>
 condP t24 (
 R (.returned (.bool false)) w) (
 B0 .add 3 true t13 (.int .i64 1) R w fun t25 w =>
 next1 t25 w)
def n116c2 (t0 t1:Value) (R:RT) (w:World):Prop :=
 opV Pg (Builtin.len_ #[47] 3 #[t0]) (panK R) w fun t12 w =>
 loop1 (fun t13 w next1 =>
 B0 .lss 3 false t13 t12 R w fun t14 w =>
 condP t14 (
 drawK w fun C2 w =>
 n116c1 t0 t1 t13 C2 next1 R w) (
 R (.returned (.bool true)) w)) (.int .i64 0) w
def n116 (t0 t1:Value) (R:RT) (w:World):Prop :=
 opV Pg (Builtin.len_ #[47] 3 #[t0]) (panK R) w fun t7 w =>
 opV Pg (Builtin.len_ #[47] 3 #[t1]) (panK R) w fun t9 w =>
 B0 .neq 3 false t7 t9 R w fun t10 w =>
 condP t10 (
 R (.returned (.bool false)) w) (
 n116c2 t0 t1 R w)
theorem n116s {t0 t1:Value} {R:RT} {w:World} (h:n116 t0 t1 R w):Calls Pg 106 #[t0,t1] w R:=by
 refine calls_of_den (args:=[t0,t1]) Tryz.func106 rfl (Nat.le_of_ble_eq_true rfl) ?_
 unfold n116 at h
 refine zs<|zr<|zm<|zn<|zk<|zs<|zs<|zr<|zm ?_
 refine zx h fun t7 w h=>?_
 refine zm ?_
 refine zx h fun t9 w h=>?_
 refine zb h fun t10 w h=>?_
 refine zn<|zk ?_
 refine sim_cond h rfl (fun h=>?_) (fun h=>?_)
 · refine zs<|zr<|zm<|zn<|zk<|sim_ret<|sim_then_ret ?_
   exact body_ret1 rfl rfl h
 · refine sim_skip<|zk<|zs<|zs<|zr<|zm ?_
   refine zx h fun t12 w h=>?_
   refine zm<|zn<|zk<|sim_block ?_
   obtain ⟨I,μ,h0,hr⟩:=h
   refine sim_loop [4,5,13,14,15,16,17,18,19,20,21,22,23,24,25] (by kernel_rfl) (fun ρ w=>I (ρ 13) w) (fun ρ w=>μ (ρ 13) w) h0 (fun σ w hI=>?_)
   have h:=hr _ _ hI
   clear hr h0 hI
   refine zs<|zr ?_
   refine zb h fun t14 w h=>?_
   refine zn<|zk<|zs ?_
   refine sim_cond h rfl (fun h=>?_) (fun h=>?_)
   · refine sim_skip<|zk<|zs<|sim_block<|zs<|zr<|zm<|zm<|zn<|zk<|zs ?_
     obtain ⟨C2,hC,h⟩:=h
     refine sim_draw [16,17,18,19,20,21,22,23,24] (by kernel_rfl) (by kernel_rfl) C2 ?_
     refine zw 0 hC ?_
     refine zw 1 hC ?_
     refine ze 2 hC h fun t18 h=>?_
     refine ze 3 hC h fun t19 h=>?_
     refine zw 4 hC ?_
     refine zw 5 hC ?_
     refine ze 6 hC h fun t22 h=>?_
     refine ze 7 hC h fun t23 h=>?_
     obtain ⟨t24,hv,h⟩:=h
     refine sim_dsilent 8 hC rfl (by kernel_rfl) (by kernel_rfl) (fun _ _=>rfl) rfl (Sw.qV_bin rfl rfl rfl hv) ?_
     refine sim_dend (by kernel_rfl) ?_
     refine zk ?_
     refine sim_cond h rfl (fun h=>?_) (fun h=>?_)
     · refine zs<|zr<|zm<|zn<|zk<|sim_ret<|sim_block_ret<|sim_then_ret<|sim_then_ret<|sim_block_ret<|sim_then_ret ?_
       exact body_ret1 rfl rfl h
     · refine sim_skip<|sim_block_normal<|zk<|zr ?_
       refine zb h fun t25 w h=>?_
       refine zm<|zn<|zk ?_
       exact ⟨rfl,h⟩
   · refine sim_exit<|sim_then_exit<|sim_then_exit<|sim_block_hit<|zk<|zs<|zr<|zm<|zn<|zk<|sim_ret ?_
     exact body_ret1 rfl rfl h
def n115c1 (t0 t1 t13:Value) (C2:World→Prop) (next1:KV) (R:RT) (w:World):Prop :=
 qV Pg C2 (Instr.indexAt 50 t0 t13) fun t18 =>
 qV Pg C2 (Instr.loadAt 81 t18) fun t19 =>
 qV Pg C2 (Instr.indexAt 50 t1 t13) fun t22 =>
 qV Pg C2 (Instr.loadAt 81 t22) fun t23 =>
 qV Pg C2 (binS .neq 81 false t19 t23) fun t24 =>
 condP t24 (
 R (.returned (.bool false)) w) (
 B0 .add 3 true t13 (.int .i64 1) R w fun t25 w =>
 next1 t25 w)
def n115c2 (t0 t1:Value) (R:RT) (w:World):Prop :=
 opV Pg (Builtin.len_ #[50] 3 #[t0]) (panK R) w fun t12 w =>
 loop1 (fun t13 w next1 =>
 B0 .lss 3 false t13 t12 R w fun t14 w =>
 condP t14 (
 drawK w fun C2 w =>
 n115c1 t0 t1 t13 C2 next1 R w) (
 R (.returned (.bool true)) w)) (.int .i64 0) w
def n115 (t0 t1:Value) (R:RT) (w:World):Prop :=
 opV Pg (Builtin.len_ #[50] 3 #[t0]) (panK R) w fun t7 w =>
 opV Pg (Builtin.len_ #[50] 3 #[t1]) (panK R) w fun t9 w =>
 B0 .neq 3 false t7 t9 R w fun t10 w =>
 condP t10 (
 R (.returned (.bool false)) w) (
 n115c2 t0 t1 R w)
theorem n115s {t0 t1:Value} {R:RT} {w:World} (h:n115 t0 t1 R w):Calls Pg 107 #[t0,t1] w R:=by
 refine calls_of_den (args:=[t0,t1]) Tryz.func107 rfl (Nat.le_of_ble_eq_true rfl) ?_
 unfold n115 at h
 refine zs<|zr<|zm<|zn<|zk<|zs<|zs<|zr<|zm ?_
 refine zx h fun t7 w h=>?_
 refine zm ?_
 refine zx h fun t9 w h=>?_
 refine zb h fun t10 w h=>?_
 refine zn<|zk ?_
 refine sim_cond h rfl (fun h=>?_) (fun h=>?_)
 · refine zs<|zr<|zm<|zn<|zk<|sim_ret<|sim_then_ret ?_
   exact body_ret1 rfl rfl h
 · refine sim_skip<|zk<|zs<|zs<|zr<|zm ?_
   refine zx h fun t12 w h=>?_
   refine zm<|zn<|zk<|sim_block ?_
   obtain ⟨I,μ,h0,hr⟩:=h
   refine sim_loop [4,5,13,14,15,16,17,18,19,20,21,22,23,24,25] (by kernel_rfl) (fun ρ w=>I (ρ 13) w) (fun ρ w=>μ (ρ 13) w) h0 (fun σ w hI=>?_)
   have h:=hr _ _ hI
   clear hr h0 hI
   refine zs<|zr ?_
   refine zb h fun t14 w h=>?_
   refine zn<|zk<|zs ?_
   refine sim_cond h rfl (fun h=>?_) (fun h=>?_)
   · refine sim_skip<|zk<|zs<|sim_block<|zs<|zr<|zm<|zm<|zn<|zk<|zs ?_
     obtain ⟨C2,hC,h⟩:=h
     refine sim_draw [16,17,18,19,20,21,22,23,24] (by kernel_rfl) (by kernel_rfl) C2 ?_
     refine zw 0 hC ?_
     refine zw 1 hC ?_
     refine ze 2 hC h fun t18 h=>?_
     refine ze 3 hC h fun t19 h=>?_
     refine zw 4 hC ?_
     refine zw 5 hC ?_
     refine ze 6 hC h fun t22 h=>?_
     refine ze 7 hC h fun t23 h=>?_
     obtain ⟨t24,hv,h⟩:=h
     refine sim_dsilent 8 hC rfl (by kernel_rfl) (by kernel_rfl) (fun _ _=>rfl) rfl (Sw.qV_bin rfl rfl rfl hv) ?_
     refine sim_dend (by kernel_rfl) ?_
     refine zk ?_
     refine sim_cond h rfl (fun h=>?_) (fun h=>?_)
     · refine zs<|zr<|zm<|zn<|zk<|sim_ret<|sim_block_ret<|sim_then_ret<|sim_then_ret<|sim_block_ret<|sim_then_ret ?_
       exact body_ret1 rfl rfl h
     · refine sim_skip<|sim_block_normal<|zk<|zr ?_
       refine zb h fun t25 w h=>?_
       refine zm<|zn<|zk ?_
       exact ⟨rfl,h⟩
   · refine sim_exit<|sim_then_exit<|sim_then_exit<|sim_block_hit<|zk<|zs<|zr<|zm<|zn<|zk<|sim_ret ?_
     exact body_ret1 rfl rfl h
end Go.Proofs.YtiajhbbmgglmlaaGreat
namespace Go.Proofs.YtiajhbbmgglmlaaGreat
open Sw
open Go.RowKit (intOf Below)
theorem ContainsFunc_Field_ret (w0:World) (v:Value) (l:List FieldD) (g:FuncId) (caps:Array Value) (p:FieldD→Bool) (hs:FieldsOf w0 v l) (hg:Callable Pg g) (hc:Tests w0 FieldVal g caps p l) :
 Ret Pg 115 #[v,.func (.func g) #[] caps] w0 fun r w'=>r = .bool (l.any p)∧Ext w0 w':=by
 refine n110s (R:=retR _) ?_;unfold n110
 refine callK_ret (IndexFunc_Field_ret _ _ l g caps p hs hg hc) ?_
 rintro r w' ⟨rfl,e⟩
 simp (disch:=try exact DI) only [↓PR,QR,Int.reduceBEq,Int.reduceBNe,Int.reduceLT,Int.reduceLE,Int.reduceGT,Int.reduceGE,Int.reduceNeg,Sw.joinK_eq]
 exact ⟨by rw [idx_neg],e⟩
def taggedP (tag:ByteArray) (o:FieldD):Bool:=o.kind == 9&&decide (o.tag=tag)
theorem casesS1_ret (w0:World) (v:Value) (o f:FieldD) (pb:Nat) (tv cv:Value) (hv:FieldVal w0 v o) (hp:w0.heap[pb]?=some (.cells (fieldCells f tv cv).toArray 52 (0,0))) :
 Ret Pg 116 #[v,.pointer (some ⟨pb,0,none⟩)] w0 fun r w'=>r = .bool (taggedP f.tag o)∧Ext w0 w':=by
 obtain ⟨tv',cv',rfl,hT,hC,ht1,hc1⟩:=hv.op
 have hlt:=(Array.getElem?_eq_some_iff.1 hp).1
 refine n53s (R:=retR _) ?_;unfold n53
 simp (disch:=try exact DI) only [↓PR,QR,Int.reduceBEq,Int.reduceBNe,Int.reduceLT,Int.reduceLE,Int.reduceGT,Int.reduceGE,Int.reduceNeg,Sw.joinK_eq,(cells_of_heap hp).1]
 exact ⟨by first | trivial | rfl,ee⟩
def casesL (hi:Int) (deps:List (ByteArray×Value)):Int→List CaseD→Int
 | _,[]=>0
 | low,x::xs=>orC (withinC hi low [x.low,x.high]) (orC (needC (lastOf deps x.of).isSome 8) (casesL hi deps (IntKind.i64.wrap (x.high+1)) xs))
def casesC (bef:List FieldD) (deps:List (ByteArray×Value)) (f:FieldD):Int :=
 orC (needC ((lastR (numR bef) f.tag).isSome&&!bef.any (taggedP f.tag)) 8) (orC (needC (decide (1≤(f.cases.length:Int))&&decide ((f.cases.length:Int)≤40)) 3) (casesL (((lastR (numR bef) f.tag).getD (0,0)).2) deps (((lastR (numR bef) f.tag).getD (0,0)).1) f.cases))
section
variable {w0:World} {cb md ms:Nat} {deps strs:List (ByteArray×Value)} {at_ fld:Int} {fs:List FieldD}
theorem cases_tail {a0:World} (e00:Ext a0 w0) (h:Chk w0 cb md ms deps strs at_ fld fs) (pf p4:Nat) (f:FieldD) (tv cv:Value) (lo hi:Int) (hC:CasesOf w0 cv f.cases) (o3:w0.heap[pf]?=some (.cells (fieldCells f tv cv).toArray 52 (0,0))) (o4:w0.heap[p4]?=some (.cells #[.int .i64 lo,.int .i64 hi] 58 (0,0))) :
 n52c4 (.pointer (some ⟨cb,0,none⟩)) (.pointer (some ⟨pf,0,none⟩)) (.pointer (some ⟨p4,0,none⟩)) (flwR a0 at_ fld (casesL hi deps lo f.cases)) w0:=by
 obtain ⟨A,c,rfl,hlc,hcm,hlm,hel⟩:=SliceOf.open hC
 simp (disch:=try exact DI) only [↓PR,QR,Int.reduceBEq,Int.reduceBNe,Int.reduceLT,Int.reduceLE,Int.reduceGT,Int.reduceGE,Int.reduceNeg,↓n52c1,↓n52c2,↓n52c3,↓n52c4,↓n52c5,↓n52c6,↓n52c7,↓n52c8,↓n52c9,↓n52c10,↓n52c11,↓n52c12,↓n52c13,(cells_of_heap o3).1,(cells_of_heap o4).1]
 refine loop2_intro (fun a0 a1 w=>∃ (k:Nat) (n:Int),a0 = .int .i64 n∧a1 = .int .i64 (k:Int)∧k≤f.cases.length∧Ext w0 w∧casesL hi deps n (f.cases.drop k)=casesL hi deps lo f.cases) (fun a0 a1 _=>f.cases.length - (intOf a1).toNat) ⟨0,lo,rfl,rfl,Nat.zero_le _,ee,rfl⟩ ?_
 rintro _ _ w ⟨k,n,rfl,rfl,hk,e,hI⟩
 have se:=e.size
 rcases drop_cases hk with ⟨x,hx,hd,hlt,hdec⟩ | ⟨hk,hd,hdec⟩
 · obtain ⟨b,o,cs,rfl,hl,hA,rfl⟩:=hel k x hx
   have l4:p4 < w.heap.size:=(Array.getElem?_eq_some_iff.1 (e.obj o4)).1
   rw [hd] at hI
   simp only [casesL] at hI
   simp (disch:=try exact DI) only [↓PR,QR,Int.reduceBEq,Int.reduceBNe,Int.reduceLT,Int.reduceLE,Int.reduceGT,Int.reduceGE,Int.reduceNeg,↓n52c1,↓n52c2,↓n52c3,↓n52c4,↓n52c5,↓n52c6,↓n52c7,↓n52c8,↓n52c9,↓n52c10,↓n52c11,↓n52c12,↓n52c13,hdec,hA.c3,(cells_of_heap (e.obj o4)).1]
   generalize hW:World.alloc (World.alloc w _) _=W
   have eW:Ext w W:=by rw [← hW];exact ee
   have o9:W.heap[w.heap.size]?=some (.cells #[.int .i64 x.low,.int .i64 x.high,.string x.of] 81 (0,0)):=by rw [← hW];simp (disch:=try exact DI) only [↓PR,QR,Int.reduceBEq,Int.reduceBNe,Int.reduceLT,Int.reduceLE,Int.reduceGT,Int.reduceGE,Int.reduceNeg]
   have hIn:IntsOf W (.slice (some ⟨w.heap.size+1,0,none⟩) 2 2) [x.low,x.high]:=by rw [← hW];exact ints2 (by simp only [World.size_alloc]) _ _ _
   clear hW
   refine callK_flw (within_flw (h.ext (e.trans eW)) n hi _ _ hIn) (fun w1 e1 h0=>?_) (fun w1 e1 h0=>?_)
   · rw [h0,orC_zero] at hI
     have er1:=eW.trans e1
     simp (disch:=try exact DI) only [↓PR,QR,Int.reduceBEq,Int.reduceBNe,Int.reduceLT,Int.reduceLE,Int.reduceGT,Int.reduceGE,Int.reduceNeg,↓n52c1,↓n52c2,↓n52c3,↓n52c4,↓n52c5,↓n52c6,↓n52c7,↓n52c8,↓n52c9,↓n52c10,↓n52c11,↓n52c12,↓n52c13,(cells_of_heap (e1.obj o9)).1]
     refine callK_flw (refer_flw (h.ext (e.trans er1)) x.of) (fun w2 e2 h0=>?_) (fun w2 e2 h0=>?_)
     · rw [h0,orC_zero] at hI
       simp (disch:=try exact DI) only [↓PR,QR,Int.reduceBEq,Int.reduceBNe,Int.reduceLT,Int.reduceLE,Int.reduceGT,Int.reduceGE,Int.reduceNeg,↓n52c1,↓n52c2,↓n52c3,↓n52c4,↓n52c5,↓n52c6,↓n52c7,↓n52c8,↓n52c9,↓n52c10,↓n52c11,↓n52c12,↓n52c13,(cells_of_heap ((e1.trans e2).obj o9)).1]
       exact ⟨⟨k+1,_,rfl,rfl,by omega,ee,hI⟩,meas_lt hlt⟩
     · rw [orC_ne h0] at hI
       exact flwR_pan (e00.trans (e.trans (er1.trans e2))) hI.symm h0
   · rw [orC_ne h0] at hI
     exact flwR_pan (e00.trans (e.trans (eW.trans e1))) hI.symm h0
 · subst hk
   simp (disch:=try exact DI) only [↓PR,QR,Int.reduceBEq,Int.reduceBNe,Int.reduceLT,Int.reduceLE,Int.reduceGT,Int.reduceGE,Int.reduceNeg,↓n52c1,↓n52c2,↓n52c3,↓n52c4,↓n52c5,↓n52c6,↓n52c7,↓n52c8,↓n52c9,↓n52c10,↓n52c11,↓n52c12,↓n52c13,hdec]
   rw [hd] at hI
   exact flwR_ret (e00.trans e) hI.symm
theorem cases_mid {a0:World} (e00:Ext a0 w0) (h:Chk w0 cb md ms deps strs at_ fld fs) (i:Nat) (hi:fld=i) (hlt:i < fs.length) (pf p4:Nat) (f:FieldD) (tv cv:Value) (lo hi':Int) (b:Bool) (hC:CasesOf w0 cv f.cases) (o3:w0.heap[pf]?=some (.cells (fieldCells f tv cv).toArray 52 (0,0))) (o4:w0.heap[p4]?=some (.cells #[.int .i64 lo,.int .i64 hi'] 58 (0,0)))
 (hb:b=(lastR (numR (fs.take i)) f.tag).isSome) (hlo:b=true→lo=((lastR (numR (fs.take i)) f.tag).getD (0,0)).1∧hi'=((lastR (numR (fs.take i)) f.tag).getD (0,0)).2) :
 n52c7 (.pointer (some ⟨cb,0,none⟩)) (.pointer (some ⟨pf,0,none⟩)) (.pointer (some ⟨p4,0,none⟩)) (.bool b) (flwR a0 at_ fld (casesC (fs.take i) deps f)) w0:=by
 unfold n52c7
 refine callK_ret (before_ret h i hi hlt) ?_
 rintro bv w1 ⟨hB,e1⟩
 simp (disch:=try exact DI) only [↓PR,QR,Int.reduceBEq,Int.reduceBNe,Int.reduceLT,Int.reduceLE,Int.reduceGT,Int.reduceGE,Int.reduceNeg]
 refine callK_ret (ContainsFunc_Field_ret _ _ _ _ _ (taggedP f.tag) hB c116 ?_) ?_
 · intro w v o _ e hv
   exact casesS1_ret w v o f pf tv cv hv ((e1.trans e).obj o3)
 rintro _ w2 ⟨rfl,e2⟩
 have e12:=e1.trans e2
 simp (disch:=try exact DI) only [↓PR,QR,Int.reduceBEq,Int.reduceBNe,Int.reduceLT,Int.reduceLE,Int.reduceGT,Int.reduceGE,Int.reduceNeg,↓n52c6]
 unfold casesC
 refine callK_flw (need_flw (h.ext e12) _ 8 (by decide)) (fun w3 e3 h0=>?_) (fun w3 e3 h0=>?_)
 · rw [← hb,h0,orC_zero]
   have hbt:b=true:=by
    cases b with
    | true=>rfl
    | false=>exact absurd h0 (by simp [needC])
   obtain ⟨h1,h2⟩:=hlo hbt
   rw [← h1,← h2]
   have e13:=e12.trans e3
   obtain ⟨A,c,rfl,_⟩:=SliceOf.open hC
   simp (disch:=try exact DI) only [↓PR,QR,Int.reduceBEq,Int.reduceBNe,Int.reduceLT,Int.reduceLE,Int.reduceGT,Int.reduceGE,Int.reduceNeg,↓n52c5,(cells_of_heap (e13.obj o3)).1]
   refine callK_flw (need_flw (h.ext e13) _ 3 (by decide)) (fun w4 e4 h0=>?_) (fun w4 e4 h0=>?_)
   · rw [h0,orC_zero]
     have e14:=e13.trans e4
     exact cases_tail (e00.trans e14) (h.ext e14) pf p4 f tv _ lo hi' (CasesOf.ext hC e14) (e14.obj o3) (e14.obj o4)
   · rw [orC_ne h0]
     exact flwR_pan (e00.trans (e13.trans e4)) rfl h0
 · rw [← hb,orC_ne h0]
   exact flwR_pan (e00.trans (e12.trans e3)) rfl h0
theorem cases_flw (h:Chk w0 cb md ms deps strs at_ fld fs) (i:Nat) (hi:fld=i) (hlt:i < fs.length) (v:Value) (f:FieldD) (hf:FieldVal w0 v f):Calls Pg 98 #[.pointer (some ⟨cb,0,none⟩),v] w0 (flwR w0 at_ fld (casesC (fs.take i) deps f)):=by
 obtain ⟨tv,cv,rfl,hT,hC,ht1,hc1⟩:=hf.op
 refine n52s ?_;unfold n52
 simp (disch:=try exact DI) only [↓PR,QR,Int.reduceBEq,Int.reduceBNe,Int.reduceLT,Int.reduceLE,Int.reduceGT,Int.reduceGE,Int.reduceNeg]
 generalize hW:World.alloc w0 _=W
 have e0:Ext w0 W:=by rw [← hW];exact ee
 have o3:W.heap[w0.heap.size]?=some (.cells (fieldCells f tv cv).toArray 52 (0,0)):=by rw [← hW];simp (disch:=try exact DI) only [↓PR,QR,Int.reduceBEq,Int.reduceBNe,Int.reduceLT,Int.reduceLE,Int.reduceGT,Int.reduceGE,Int.reduceNeg]
 clear hW
 refine drawK_intro ?_
 simp (disch:=try exact DI) only [↓PR,QR,Int.reduceBEq,Int.reduceBNe,Int.reduceLT,Int.reduceLE,Int.reduceGT,Int.reduceGE,Int.reduceNeg,↓n52c13,(cells_of_heap o3).1]
 have key:∀ w' p4 b lo hi',Ext W w'→w'.heap[p4]?=some (.cells #[.int .i64 lo,.int .i64 hi'] 58 (0,0))→b=(lastR (numR (fs.take i)) f.tag).isSome→(b=true→lo=((lastR (numR (fs.take i)) f.tag).getD (0,0)).1∧hi'=((lastR (numR (fs.take i)) f.tag).getD (0,0)).2) →
  n52c7 (.pointer (some ⟨cb,0,none⟩)) (.pointer (some ⟨w0.heap.size,0,none⟩)) (.pointer (some ⟨p4,0,none⟩)) (.bool b) (flwR w0 at_ fld (casesC (fs.take i) deps f)) w':=by
  intro w' p4 b lo hi' e o4 hb hlo
  exact cases_mid (e0.trans e) (h.ext (e0.trans e)) i hi hlt _ p4 f tv cv lo hi' b (CasesOf.ext hC (e0.trans e)) (e.obj o3) o4 hb hlo
 have eD:Ext W W.drew:=(Ext.refl W).wdrew
 have fin9:∀ (w2:World) (m p4:Nat) (u0 u1:Value),Ext W.drew w2→MapOf w2 m (RP (numR (fs.take i)))→w2.heap[p4]?=some (.cells #[u0,u1] 58 (0,0))→W.heap.size≤p4 →
  n52c9 (.pointer (some ⟨p4,0,none⟩)) (.map (some m)) (.string f.tag) (KL W.drew m (RP (numR (fs.take i)))) (fun t4 t5 w=>n52c7 (.pointer (some ⟨cb,0,none⟩)) (.pointer (some ⟨w0.heap.size,0,none⟩)) t4 t5 (flwR w0 at_ fld (casesC (fs.take i) deps f)) w) (flwR w0 at_ fld (casesC (fs.take i) deps f)) w2:=by
  intro w2 m p4 u0 u1 e2 hM o4 hp4
  haveI:ClassNe (KL W.drew m (RP (numR (fs.take i)))):=⟨⟨w2,e2,hM⟩⟩
  unfold n52c9
  rw [qV_lookupKL Tryz.underlying55 Tryz.underlying9 ty58 ⟨w2,e2,hM⟩,lastOf_RP]
  have hfin:∀ lo hi' b,b=(lastR (numR (fs.take i)) f.tag).isSome→(b=true→lo=((lastR (numR (fs.take i)) f.tag).getD (0,0)).1∧hi'=((lastR (numR (fs.take i)) f.tag).getD (0,0)).2) →
   KL W.drew m (RP (numR (fs.take i))) ((w2.setCell ⟨p4,0,none⟩ (.int .i64 lo)).setCell ⟨p4,1,none⟩ (.int .i64 hi'))∧n52c7 (.pointer (some ⟨cb,0,none⟩)) (.pointer (some ⟨w0.heap.size,0,none⟩)) (.pointer (some ⟨p4,0,none⟩)) (.bool b) (flwR w0 at_ fld (casesC (fs.take i) deps f)) ((w2.setCell ⟨p4,0,none⟩ (.int .i64 lo)).setCell ⟨p4,1,none⟩ (.int .i64 hi')):=by
   intro lo hi' b hb hlo
   have e3:Ext W.drew ((w2.setCell ⟨p4,0,none⟩ (.int .i64 lo)).setCell ⟨p4,1,none⟩ (.int .i64 hi')):=(e2.setCell (show W.drew.heap.size≤(⟨p4,0,none⟩:Addr).block from hp4) _).setCell (show W.drew.heap.size≤(⟨p4,1,none⟩:Addr).block from hp4) _
   refine ⟨⟨e3,(hM.setCell _ _).setCell _ _⟩,key _ p4 b lo hi' (eD.trans e3) ?_ hb hlo⟩
   have:=heap_set (o:=1) (heap_set (o:=0) o4 (.int .i64 lo)) (.int .i64 hi')
   simpa using this
  cases hl:lastR (numR (fs.take i)) f.tag with
  | none =>
   rw [hl] at hfin
   simp (disch:=try exact DI) only [↓PR,QR,Int.reduceBEq,Int.reduceBNe,Int.reduceLT,Int.reduceLE,Int.reduceGT,Int.reduceGE,Int.reduceNeg,Option.map_none,(cells_of_heap o4).1,(cells_of_heap o4).2]
   exact hfin 0 0 false rfl (by simp)
  | some q =>
   obtain ⟨lo,hi'⟩:=q
   rw [hl] at hfin
   simp (disch:=try exact DI) only [↓PR,QR,Int.reduceBEq,Int.reduceBNe,Int.reduceLT,Int.reduceLE,Int.reduceGT,Int.reduceGE,Int.reduceNeg,(cells_of_heap o4).1,(cells_of_heap o4).2,rangeVal]
   exact hfin lo hi' true rfl (fun _=>⟨rfl,rfl⟩)
 refine ⟨?_,?_⟩
 · refine callK_ret (before_ret (h.ext (e0.trans eD)) i hi hlt) ?_
   rintro bv w1 ⟨hB,e1⟩
   refine narrowK_same e1 ?_
   unfold n52c10
   refine ⟨?_,?_⟩
   · refine callK_ret (ranges_ret _ _ _ hB) ?_
     rintro _ w2 ⟨m,rfl,_,hM,e2⟩
     rw [numPairs_RP] at hM
     refine narrowK_KL (e1.trans e2) hM ?_
     unfold n52c8
     simp only [drew_wdrew]
     haveI:ClassNe (KL W.drew m (RP (numR (fs.take i)))):=⟨⟨w2,e1.trans e2,hM⟩⟩
     rw [qV_lookupKL Tryz.underlying55 Tryz.underlying9 ty58 ⟨w2,e1.trans e2,hM⟩]
     have h9:=fin9 (w2.alloc (.cells #[.int .i64 0,.int .i64 0] 58)) m w2.heap.size _ _ ((e1.trans e2).alloc _) (hM.ext ((Ext.refl _).alloc _)) (heap_new _ _ _) (by have:=(e1.trans e2).size;simpa using this)
     unfold n52c9 at h9
     rw [qV_lookupKL Tryz.underlying55 Tryz.underlying9 ty58 ⟨w2,e1.trans e2,hM⟩] at h9
     simp (disch:=try exact DI) only [↓PR,QR,Int.reduceBEq,Int.reduceBNe,Int.reduceLT,Int.reduceLE,Int.reduceGT,Int.reduceGE,Int.reduceNeg]
     refine ⟨⟨(e1.trans e2).alloc _,hM.ext ((Ext.refl _).alloc _)⟩,?_⟩
     simp only [↓Sw.GENQ] at h9
     exact h9
   · simp (disch:=try exact DI) only [↓PR,QR,Int.reduceBEq,Int.reduceBNe,Int.reduceLT,Int.reduceLE,Int.reduceGT,Int.reduceGE,Int.reduceNeg]
     refine ⟨e1.alloc _,?_⟩
     refine callK_ret (ranges_ret _ _ _ (FieldsOf.ext hB ((Ext.refl _).alloc _))) ?_
     rintro _ w2 ⟨m,rfl,_,hM,e2⟩
     rw [numPairs_RP] at hM
     have s1:=e1.size
     simp only [World.size_drew] at s1
     refine narrowK_KL ((e1.alloc _).trans e2) hM ?_
     exact fin9 w2 m w1.heap.size _ _ ((e1.alloc _).trans e2) hM (e2.obj (heap_new _ _ _)) s1
 · refine ⟨(Ext.refl _).alloc _,?_⟩
   unfold n52c12
   refine callK_ret (before_ret (h.ext ((e0.trans eD).alloc _)) i hi hlt) ?_
   rintro bv w1 ⟨hB,e1⟩
   refine narrowK_same (((Ext.refl _).alloc _).trans e1) ?_
   refine callK_ret (ranges_ret _ _ _ hB) ?_
   rintro _ w2 ⟨m,rfl,_,hM,e2⟩
   rw [numPairs_RP] at hM
   refine narrowK_KL (((Ext.refl _).alloc _).trans (e1.trans e2)) hM ?_
   exact fin9 w2 m W.heap.size _ _ (((Ext.refl _).alloc _).trans (e1.trans e2)) hM ((e1.trans e2).obj (heap_new W.drew _ _)) (Nat.le_refl _)
end
end Go.Proofs.YtiajhbbmgglmlaaGreat
namespace Go.Proofs.YtiajhbbmgglmlaaGreat
open Sw
open Go.RowKit (intOf Below)
section
variable {w0:World} {cb md ms:Nat} {deps strs:List (ByteArray×Value)} {at_ fld:Int} {fs:List FieldD}
def topF (f:FieldD):Int:=2 ^ f.bits.toNat - 1
theorem top_wrap {f:FieldD} (h:bitsB f=true):0≤f.bits∧f.bits≤64∧IntKind.i64.wrap (IntKind.i64.wrap (1*2 ^ f.bits.toNat) - 1)=topF f:=by
 unfold bitsB at h
 simp only [Bool.and_eq_true,decide_eq_true_eq] at h
 obtain ⟨⟨h1,h2⟩,_⟩:=h
 have hc:(2:Int) ^ f.bits.toNat=((2 ^ f.bits.toNat:Nat):Int):=by simp
 have hp1:2 ^ f.bits.toNat≤2 ^ 32:=Nat.pow_le_pow_right (by decide) (by omega)
 have hp:(2:Int) ^ f.bits.toNat≤4294967296:=by rw [hc];omega
 have hp0:(0:Int) < 2 ^ f.bits.toNat:=Int.pow_pos (by decide)
 refine ⟨by omega,by omega,?_⟩
 unfold topF
 rw [Int.one_mul,show IntKind.i64.wrap (2 ^ f.bits.toNat)=2 ^ f.bits.toNat from wrap_ok (by omega) (by omega),wrap_ok (by omega) (by omega)]
theorem needC_zero {b:Bool} {c:Int} (hc:c≠0) (h:needC b c=0):b=true:=by
 cases b with
 | true=>rfl
 | false=>exact absurd h hc
theorem uint_flw (h:Chk w0 cb md ms deps strs at_ fld fs) (v:Value) (f:FieldD) (hf:FieldVal w0 v f):Calls Pg 79 #[.pointer (some ⟨cb,0,none⟩),v] w0 (flwR w0 at_ fld (orC (needC (bitsB f) 6) (withinC (topF f) 0 [f.low,f.high]))):=by
 obtain ⟨tv,cv,rfl,hT,hC,ht1,hc1⟩:=hf.op
 refine n75s ?_;unfold n75
 simp (disch:=try exact DI) only [↓PR,QR,Int.reduceBEq,Int.reduceBNe,Int.reduceLT,Int.reduceLE,Int.reduceGT,Int.reduceGE,Int.reduceNeg]
 generalize hW:World.alloc w0 _=W
 have e0:Ext w0 W:=by rw [← hW];exact ee
 have o3:W.heap[w0.heap.size]?=some (.cells (fieldCells f tv cv).toArray 52 (0,0)):=by rw [← hW];simp (disch:=try exact DI) only [↓PR,QR,Int.reduceBEq,Int.reduceBNe,Int.reduceLT,Int.reduceLE,Int.reduceGT,Int.reduceGE,Int.reduceNeg]
 clear hW
 simp (disch:=try exact DI) only [↓PR,QR,Int.reduceBEq,Int.reduceBNe,Int.reduceLT,Int.reduceLE,Int.reduceGT,Int.reduceGE,Int.reduceNeg,(cells_of_heap o3).1]
 refine callK_flw (bits_flw (h.ext e0) _ f ⟨tv,cv,rfl,TermsOf.ext hT e0,CasesOf.ext hC e0⟩) (fun w1 e1 h0=>?_) (fun w1 e1 h0=>?_)
 · rw [h0,orC_zero]
   obtain ⟨ha,hb,hw⟩:=top_wrap (needC_zero (by decide) h0)
   have e01:=e0.trans e1
   have l1:w0.heap.size < w1.heap.size:=(Array.getElem?_eq_some_iff.1 (e1.obj o3)).1
   refine drawK_intro ?_
   simp (disch:=try exact DI) only [↓PR,QR,Int.reduceBEq,Int.reduceBNe,Int.reduceLT,Int.reduceLE,Int.reduceGT,Int.reduceGE,Int.reduceNeg,↓n75c1,(cells_of_heap (e1.obj o3)).1,hw]
   generalize hW:World.alloc (World.drew w1) _=W2
   have eD:Ext w1.drew W2:=by rw [← hW];exact ee
   have hIn:IntsOf W2 (.slice (some ⟨w1.heap.size,0,none⟩) 2 2) [f.low,f.high]:=by rw [← hW];exact ints2 rfl _ _ _
   clear hW
   have eE:Ext w0 W2:=(e01.wdrew).trans eD
   refine ⟨eD,?_⟩
   refine callK_flw (within_flw (h.ext eE) 0 (topF f) _ _ hIn) (fun w2 e2 h0=>?_) (fun w2 e2 h0=>?_)
   · exact ⟨eD.trans e2,flwR_ret (eE.trans e2) h0⟩
   · exact flwR_pan (eE.trans e2) rfl h0
 · rw [orC_ne h0]
   exact flwR_pan (e0.trans e1) rfl h0
theorem const_flw (h:Chk w0 cb md ms deps strs at_ fld fs) (v:Value) (f:FieldD) (hf:FieldVal w0 v f):Calls Pg 83 #[.pointer (some ⟨cb,0,none⟩),v] w0 (flwR w0 at_ fld (orC (needC (bitsB f) 6) (withinC (topF f) 0 [f.low]))):=by
 obtain ⟨tv,cv,rfl,hT,hC,ht1,hc1⟩:=hf.op
 refine n80s ?_;unfold n80
 simp (disch:=try exact DI) only [↓PR,QR,Int.reduceBEq,Int.reduceBNe,Int.reduceLT,Int.reduceLE,Int.reduceGT,Int.reduceGE,Int.reduceNeg]
 generalize hW:World.alloc w0 _=W
 have e0:Ext w0 W:=by rw [← hW];exact ee
 have o3:W.heap[w0.heap.size]?=some (.cells (fieldCells f tv cv).toArray 52 (0,0)):=by rw [← hW];simp (disch:=try exact DI) only [↓PR,QR,Int.reduceBEq,Int.reduceBNe,Int.reduceLT,Int.reduceLE,Int.reduceGT,Int.reduceGE,Int.reduceNeg]
 clear hW
 simp (disch:=try exact DI) only [↓PR,QR,Int.reduceBEq,Int.reduceBNe,Int.reduceLT,Int.reduceLE,Int.reduceGT,Int.reduceGE,Int.reduceNeg,(cells_of_heap o3).1]
 refine callK_flw (bits_flw (h.ext e0) _ f ⟨tv,cv,rfl,TermsOf.ext hT e0,CasesOf.ext hC e0⟩) (fun w1 e1 h0=>?_) (fun w1 e1 h0=>?_)
 · rw [h0,orC_zero]
   obtain ⟨ha,hb,hw⟩:=top_wrap (needC_zero (by decide) h0)
   have e01:=e0.trans e1
   have l1:w0.heap.size < w1.heap.size:=(Array.getElem?_eq_some_iff.1 (e1.obj o3)).1
   refine drawK_intro ?_
   simp (disch:=try exact DI) only [↓PR,QR,Int.reduceBEq,Int.reduceBNe,Int.reduceLT,Int.reduceLE,Int.reduceGT,Int.reduceGE,Int.reduceNeg,↓n80c1,(cells_of_heap (e1.obj o3)).1,hw]
   generalize hW:World.alloc (World.drew w1) _=W2
   have eD:Ext w1.drew W2:=by rw [← hW];exact ee
   have hIn:IntsOf W2 (.slice (some ⟨w1.heap.size,0,none⟩) 1 1) [f.low]:=by rw [← hW];exact ints1 rfl _ _
   clear hW
   have eE:Ext w0 W2:=(e01.wdrew).trans eD
   refine ⟨eD,?_⟩
   refine callK_flw (within_flw (h.ext eE) 0 (topF f) _ _ hIn) (fun w2 e2 h0=>?_) (fun w2 e2 h0=>?_)
   · exact ⟨eD.trans e2,flwR_ret (eE.trans e2) h0⟩
   · exact flwR_pan (eE.trans e2) rfl h0
 · rw [orC_ne h0]
   exact flwR_pan (e0.trans e1) rfl h0
theorem varint_flw (h:Chk w0 cb md ms deps strs at_ fld fs) (v:Value) (f:FieldD) (hf:FieldVal w0 v f):Calls Pg 85 #[.pointer (some ⟨cb,0,none⟩),v] w0 (flwR w0 at_ fld (withinC 34359738367 0 [f.low,f.high])):=by
 obtain ⟨tv,cv,rfl,hT,hC,ht1,hc1⟩:=hf.op
 refine n82s ?_;unfold n82
 simp (disch:=try exact DI) only [↓PR,QR,Int.reduceBEq,Int.reduceBNe,Int.reduceLT,Int.reduceLE,Int.reduceGT,Int.reduceGE,Int.reduceNeg]
 generalize hW:World.alloc (World.alloc w0 _) _=W
 have e0:Ext w0 W:=by rw [← hW];exact ee
 have o3:W.heap[w0.heap.size]?=some (.cells (fieldCells f tv cv).toArray 52 (0,0)):=by rw [← hW];simp (disch:=try exact DI) only [↓PR,QR,Int.reduceBEq,Int.reduceBNe,Int.reduceLT,Int.reduceLE,Int.reduceGT,Int.reduceGE,Int.reduceNeg]
 have hIn:IntsOf W (.slice (some ⟨w0.heap.size+1,0,none⟩) 2 2) [f.low,f.high]:=by rw [← hW];exact ints2 (by simp only [World.size_alloc]) _ _ _
 clear hW
 refine callK_flw (within_flw (h.ext e0) 0 34359738367 _ _ hIn) (fun w1 e1 h0=>?_) (fun w1 e1 h0=>?_)
 · exact flwR_ret (e0.trans e1) h0
 · exact flwR_pan (e0.trans e1) rfl h0
theorem headers_flw (h:Chk w0 cb md ms deps strs at_ fld fs) (v:Value) (f:FieldD) (hf:FieldVal w0 v f):Calls Pg 91 #[.pointer (some ⟨cb,0,none⟩),v] w0 (flwR w0 at_ fld (withinC 1048576 2 [f.high])):=by
 obtain ⟨tv,cv,rfl,hT,hC,ht1,hc1⟩:=hf.op
 refine n66s ?_;unfold n66
 simp (disch:=try exact DI) only [↓PR,QR,Int.reduceBEq,Int.reduceBNe,Int.reduceLT,Int.reduceLE,Int.reduceGT,Int.reduceGE,Int.reduceNeg]
 generalize hW:World.alloc (World.alloc w0 _) _=W
 have e0:Ext w0 W:=by rw [← hW];exact ee
 have o3:W.heap[w0.heap.size]?=some (.cells (fieldCells f tv cv).toArray 52 (0,0)):=by rw [← hW];simp (disch:=try exact DI) only [↓PR,QR,Int.reduceBEq,Int.reduceBNe,Int.reduceLT,Int.reduceLE,Int.reduceGT,Int.reduceGE,Int.reduceNeg]
 have hIn:IntsOf W (.slice (some ⟨w0.heap.size+1,0,none⟩) 1 1) [f.high]:=by rw [← hW];exact ints1 (by simp only [World.size_alloc]) _ _
 clear hW
 refine callK_flw (within_flw (h.ext e0) 2 1048576 _ _ hIn) (fun w1 e1 h0=>?_) (fun w1 e1 h0=>?_)
 · exact flwR_ret (e0.trans e1) h0
 · exact flwR_pan (e0.trans e1) rfl h0
theorem until_flw (h:Chk w0 cb md ms deps strs at_ fld fs) (v:Value) (f:FieldD) (hf:FieldVal w0 v f):Calls Pg 89 #[.pointer (some ⟨cb,0,none⟩),v] w0 (flwR w0 at_ fld (orC (withinC 255 0 [f.low]) (withinC 1048576 0 [f.high]))):=by
 obtain ⟨tv,cv,rfl,hT,hC,ht1,hc1⟩:=hf.op
 refine n85s ?_;unfold n85
 simp (disch:=try exact DI) only [↓PR,QR,Int.reduceBEq,Int.reduceBNe,Int.reduceLT,Int.reduceLE,Int.reduceGT,Int.reduceGE,Int.reduceNeg]
 generalize hW:World.alloc (World.alloc w0 _) _=W
 have e0:Ext w0 W:=by rw [← hW];exact ee
 have o3:W.heap[w0.heap.size]?=some (.cells (fieldCells f tv cv).toArray 52 (0,0)):=by rw [← hW];simp (disch:=try exact DI) only [↓PR,QR,Int.reduceBEq,Int.reduceBNe,Int.reduceLT,Int.reduceLE,Int.reduceGT,Int.reduceGE,Int.reduceNeg]
 have hIn:IntsOf W (.slice (some ⟨w0.heap.size+1,0,none⟩) 1 1) [f.low]:=by rw [← hW];exact ints1 (by simp only [World.size_alloc]) _ _
 clear hW
 refine callK_flw (within_flw (h.ext e0) 0 255 _ _ hIn) (fun w1 e1 h0=>?_) (fun w1 e1 h0=>?_)
 · rw [h0,orC_zero]
   have e01:=e0.trans e1
   simp (disch:=try exact DI) only [↓PR,QR,Int.reduceBEq,Int.reduceBNe,Int.reduceLT,Int.reduceLE,Int.reduceGT,Int.reduceGE,Int.reduceNeg,↓n85c1,(cells_of_heap (e1.obj o3)).1]
   refine callK_flw (within_flw ((h.ext e01).ext ((Ext.refl _).alloc _)) 0 1048576 _ _ (ints1 rfl _ _)) (fun w2 e2 h0=>?_) (fun w2 e2 h0=>?_)
   · exact flwR_ret ((e01.alloc _).trans e2) h0
   · exact flwR_pan ((e01.alloc _).trans e2) rfl h0
 · rw [orC_ne h0]
   exact flwR_pan (e0.trans e1) rfl h0
theorem message_flw (h:Chk w0 cb md ms deps strs at_ fld fs) (v:Value) (f:FieldD) (hf:FieldVal w0 v f):Calls Pg 96 #[.pointer (some ⟨cb,0,none⟩),v] w0 (flwR w0 at_ fld (needC (lastOf deps f.of).isSome 8)):=by
 obtain ⟨tv,cv,rfl,hT,hC,ht1,hc1⟩:=hf.op
 refine n70s ?_;unfold n70
 simp (disch:=try exact DI) only [↓PR,QR,Int.reduceBEq,Int.reduceBNe,Int.reduceLT,Int.reduceLE,Int.reduceGT,Int.reduceGE,Int.reduceNeg]
 generalize hW:World.alloc w0 _=W
 have e0:Ext w0 W:=by rw [← hW];exact ee
 have o3:W.heap[w0.heap.size]?=some (.cells (fieldCells f tv cv).toArray 52 (0,0)):=by rw [← hW];simp (disch:=try exact DI) only [↓PR,QR,Int.reduceBEq,Int.reduceBNe,Int.reduceLT,Int.reduceLE,Int.reduceGT,Int.reduceGE,Int.reduceNeg]
 clear hW
 simp (disch:=try exact DI) only [↓PR,QR,Int.reduceBEq,Int.reduceBNe,Int.reduceLT,Int.reduceLE,Int.reduceGT,Int.reduceGE,Int.reduceNeg,(cells_of_heap o3).1]
 refine callK_flw (refer_flw (h.ext e0) f.of) (fun w1 e1 h0=>?_) (fun w1 e1 h0=>?_)
 · exact flwR_ret (e0.trans e1) h0
 · exact flwR_pan (e0.trans e1) rfl h0
theorem list_flw (h:Chk w0 cb md ms deps strs at_ fld fs) (i:Nat) (hi:fld=i) (hlt:i < fs.length) (v:Value) (f:FieldD) (hf:FieldVal w0 v f) (ht:f.terms.length≤1048576):Calls Pg 93 #[.pointer (some ⟨cb,0,none⟩),v] w0 (flwR w0 at_ fld (orC (needC (lastOf deps f.of).isSome 8) (sizedC (numR (fs.take i)) f))):=by
 obtain ⟨tv,cv,rfl,hT,hC,ht1,hc1⟩:=hf.op
 refine n68s ?_;unfold n68
 simp (disch:=try exact DI) only [↓PR,QR,Int.reduceBEq,Int.reduceBNe,Int.reduceLT,Int.reduceLE,Int.reduceGT,Int.reduceGE,Int.reduceNeg]
 generalize hW:World.alloc w0 _=W
 have e0:Ext w0 W:=by rw [← hW];exact ee
 have o3:W.heap[w0.heap.size]?=some (.cells (fieldCells f tv cv).toArray 52 (0,0)):=by rw [← hW];simp (disch:=try exact DI) only [↓PR,QR,Int.reduceBEq,Int.reduceBNe,Int.reduceLT,Int.reduceLE,Int.reduceGT,Int.reduceGE,Int.reduceNeg]
 clear hW
 simp (disch:=try exact DI) only [↓PR,QR,Int.reduceBEq,Int.reduceBNe,Int.reduceLT,Int.reduceLE,Int.reduceGT,Int.reduceGE,Int.reduceNeg,(cells_of_heap o3).1]
 refine callK_flw (refer_flw (h.ext e0) f.of) (fun w1 e1 h0=>?_) (fun w1 e1 h0=>?_)
 · rw [h0,orC_zero]
   have e01:=e0.trans e1
   simp (disch:=try exact DI) only [↓PR,QR,Int.reduceBEq,Int.reduceBNe,Int.reduceLT,Int.reduceLE,Int.reduceGT,Int.reduceGE,Int.reduceNeg,(cells_of_heap (e1.obj o3)).1]
   refine callK_flw (sized_flw (h.ext e01) i hi hlt _ f ⟨tv,cv,rfl,TermsOf.ext hT e01,CasesOf.ext hC e01⟩ ht) (fun w2 e2 h0=>?_) (fun w2 e2 h0=>?_)
   · exact flwR_ret (e01.trans e2) h0
   · exact flwR_pan (e01.trans e2) rfl h0
 · rw [orC_ne h0]
   exact flwR_pan (e0.trans e1) rfl h0
theorem view_flw (h:Chk w0 cb md ms deps strs at_ fld fs) (i:Nat) (hi:fld=i) (hlt:i < fs.length) (v:Value) (f:FieldD) (hf:FieldVal w0 v f) (ht:f.terms.length≤1048576):Calls Pg 104 #[.pointer (some ⟨cb,0,none⟩),v] w0 (flwR w0 at_ fld (orC (withinC 4294967295 0 [f.key]) (orC (needC (strB strs f.of) 8) (sizedC (numR (fs.take i)) f)))):=by
 obtain ⟨tv,cv,rfl,hT,hC,ht1,hc1⟩:=hf.op
 refine n78s ?_;unfold n78
 simp (disch:=try exact DI) only [↓PR,QR,Int.reduceBEq,Int.reduceBNe,Int.reduceLT,Int.reduceLE,Int.reduceGT,Int.reduceGE,Int.reduceNeg]
 generalize hW:World.alloc (World.alloc w0 _) _=W
 have e0:Ext w0 W:=by rw [← hW];exact ee
 have o3:W.heap[w0.heap.size]?=some (.cells (fieldCells f tv cv).toArray 52 (0,0)):=by rw [← hW];simp (disch:=try exact DI) only [↓PR,QR,Int.reduceBEq,Int.reduceBNe,Int.reduceLT,Int.reduceLE,Int.reduceGT,Int.reduceGE,Int.reduceNeg]
 have hIn:IntsOf W (.slice (some ⟨w0.heap.size+1,0,none⟩) 1 1) [f.key]:=by rw [← hW];exact ints1 (by simp only [World.size_alloc]) _ _
 clear hW
 refine callK_flw (within_flw (h.ext e0) 0 4294967295 _ _ hIn) (fun w1 e1 h0=>?_) (fun w1 e1 h0=>?_)
 · rw [h0,orC_zero]
   have e01:=e0.trans e1
   have h1:=h.ext e01.wdrew
   obtain ⟨⟨dn,mv,ds,mn,fv,k1,k2⟩,k3,k4,k5,k6⟩:=id h1
   refine drawK_intro ?_
   simp (disch:=try exact DI) only [↓PR,QR,Int.reduceBEq,Int.reduceBNe,Int.reduceLT,Int.reduceLE,Int.reduceGT,Int.reduceGE,Int.reduceNeg,↓n78c1,(cells_of_heap (e1.obj o3)).1,(cells_of_heap k1).1]
   have k1':=(cells_of_heap k1).1
   simp only [World.cell?] at k1'
   rw [qV_lookup1E Tryz.underlying63 Tryz.underlying9 ty4 k4]
   rw [h1.strV f.of]
   refine callK_flw (need_flw h1 _ 8 (by decide)) (fun w2 e2 h0=>?_) (fun w2 e2 h0=>?_)
   · rw [h0,orC_zero]
     refine ⟨e2,?_⟩
     have e02:=(e01.wdrew).trans e2
     have e12:Ext W w2:=(e1.wdrew).trans e2
     simp (disch:=try exact DI) only [↓PR,QR,Int.reduceBEq,Int.reduceBNe,Int.reduceLT,Int.reduceLE,Int.reduceGT,Int.reduceGE,Int.reduceNeg,(cells_of_heap (e12.obj o3)).1]
     refine callK_flw (sized_flw (h.ext e02) i hi hlt _ f ⟨tv,cv,rfl,TermsOf.ext hT e02,CasesOf.ext hC e02⟩ ht) (fun w3 e3 h0=>?_) (fun w3 e3 h0=>?_)
     · exact flwR_ret (e02.trans e3) h0
     · exact flwR_pan (e02.trans e3) rfl h0
   · rw [orC_ne h0]
     exact flwR_pan (e01.wdrew.trans e2) rfl h0
 · rw [orC_ne h0]
   exact flwR_pan (e0.trans e1) rfl h0
theorem check_flw (h:Chk w0 cb md ms deps strs at_ fld fs) (i:Nat) (hi:fld=i) (hlt:i < fs.length) (v:Value) (f:FieldD) (hf:FieldVal w0 v f):Calls Pg 102 #[.pointer (some ⟨cb,0,none⟩),v] w0 (flwR w0 at_ fld (orC (withinC 3 1 [f.check]) (needC ((fs.take i).any fun o=>decide (o.name=f.fr)) 8))):=by
 obtain ⟨tv,cv,rfl,hT,hC,ht1,hc1⟩:=hf.op
 refine n76s ?_;unfold n76
 simp (disch:=try exact DI) only [↓PR,QR,Int.reduceBEq,Int.reduceBNe,Int.reduceLT,Int.reduceLE,Int.reduceGT,Int.reduceGE,Int.reduceNeg]
 generalize hW:World.alloc (World.alloc w0 _) _=W
 have e0:Ext w0 W:=by rw [← hW];exact ee
 have o3:W.heap[w0.heap.size]?=some (.cells (fieldCells f tv cv).toArray 52 (0,0)):=by rw [← hW];simp (disch:=try exact DI) only [↓PR,QR,Int.reduceBEq,Int.reduceBNe,Int.reduceLT,Int.reduceLE,Int.reduceGT,Int.reduceGE,Int.reduceNeg]
 have hIn:IntsOf W (.slice (some ⟨w0.heap.size+1,0,none⟩) 1 1) [f.check]:=by rw [← hW];exact ints1 (by simp only [World.size_alloc]) _ _
 clear hW
 refine callK_flw (within_flw (h.ext e0) 1 3 _ _ hIn) (fun w1 e1 h0=>?_) (fun w1 e1 h0=>?_)
 · rw [h0,orC_zero]
   have e01:=e0.trans e1
   refine drawK_intro ?_
   simp (disch:=try exact DI) only [↓PR,QR,Int.reduceBEq,Int.reduceBNe,Int.reduceLT,Int.reduceLE,Int.reduceGT,Int.reduceGE,Int.reduceNeg,↓n76c1,↓n76c2,(cells_of_heap (e1.obj o3)).1]
   refine callK_ret (before_ret (h.ext e01.wdrew) i hi hlt) ?_
   rintro bv w2 ⟨hB,e2⟩
   refine ⟨e2,?_⟩
   have hb1:=SliceOf.oneCell hB
   simp (disch:=try exact DI) only [↓PR,QR,Int.reduceBEq,Int.reduceBNe,Int.reduceLT,Int.reduceLE,Int.reduceGT,Int.reduceGE,Int.reduceNeg,↓n76c1,↓n76c2]
   refine zcr (Field_ret w2 _ ⟨ByteArray.empty,fs.take i⟩ f.fr ⟨bv,rfl,hB⟩) fun w3 e3=>?_
   refine ⟨e2.trans e3,?_⟩
   simp (disch:=try exact DI) only [↓PR,QR,Int.reduceBEq,Int.reduceBNe,Int.reduceLT,Int.reduceLE,Int.reduceGT,Int.reduceGE,Int.reduceNeg,↓n76c1,↓n76c2]
   have e03:=(e01.wdrew).trans (e2.trans e3)
   refine callK_flw (need_flw (h.ext e03) _ 8 (by decide)) (fun w4 e4 h0=>?_) (fun w4 e4 h0=>?_)
   · exact flwR_ret (e03.trans e4) h0
   · exact flwR_pan (e03.trans e4) rfl h0
 · rw [orC_ne h0]
   exact flwR_pan (e0.trans e1) rfl h0
def padB (f:FieldD):Bool:=(f.bits == 2)||(f.bits == 4)||(decide (8≤f.bits)&&decide (f.bits≤512)&&(f.bits.tmod 8 == 0))
theorem pad_flw (h:Chk w0 cb md ms deps strs at_ fld fs) (v:Value) (f:FieldD) (hf:FieldVal w0 v f):Calls Pg 100 #[.pointer (some ⟨cb,0,none⟩),v] w0 (flwR w0 at_ fld (needC (padB f) 6)):=by
 obtain ⟨tv,cv,rfl,hT,hC,ht1,hc1⟩:=hf.op
 refine n73s ?_;unfold n73
 simp (disch:=try exact DI) only [↓PR,QR,Int.reduceBEq,Int.reduceBNe,Int.reduceLT,Int.reduceLE,Int.reduceGT,Int.reduceGE,Int.reduceNeg,↓n73c1,↓n73c2,↓n73c3,↓n73c4]
 have e0:Ext w0 (w0.alloc (Obj.cells (fieldCells f tv cv).toArray 52)):=ee
 have fin:∀ b,b=padB f→callK Pg 37 #[.pointer (some ⟨cb,0,none⟩),.bool b,.int .i64 6] (panK (flwR w0 at_ fld (needC (padB f) 6))) (w0.alloc (Obj.cells (fieldCells f tv cv).toArray 52)) (fun _ w=>flwR w0 at_ fld (needC (padB f) 6) (.returned (.tuple #[])) w):=by
  rintro b rfl
  exact callK_flw (need_flw (h.ext e0) _ 6 (by decide)) (fun w' e1 h0=>flwR_ret (e0.trans e1) h0) (fun w' e1 h0=>flwR_pan (e0.trans e1) rfl h0)
 unfold padB at fin ⊢
 generalize (f.bits == 2)=b1 at fin ⊢
 generalize (f.bits == 4)=b2 at fin ⊢
 generalize decide (8≤f.bits)=b3 at fin ⊢
 generalize decide (f.bits≤512)=b4 at fin ⊢
 cases b1<;>cases b2<;>cases b3<;>cases b4<;>simp (disch:=try exact DI) only [↓PR,QR,Int.reduceBEq,Int.reduceBNe,Int.reduceLT,Int.reduceLE,Int.reduceGT,Int.reduceGE,Int.reduceNeg,↓n73c1,↓n73c2,↓n73c3,↓n73c4]<;>first | exact fin _ rfl | exact fin _ (by simp)
end
end Go.Proofs.YtiajhbbmgglmlaaGreat
namespace Go.Proofs.YtiajhbbmgglmlaaGreat
open Sw
def n89c1 (t2 t3 t9 t17:Value) (C1:World→Prop) (R:RT) (w:World):Prop :=
 pickK t9 t17 (.bool false) fun t18 =>
 joinK (fun (t24:Value) (w:World) =>
 pickK t18 t24 (.bool false) fun t25 =>
 R (.returned t25) w) fun K3 =>
 guardP t18 true (
 qV Pg C1 (Instr.fieldAt 52 t2 11) fun t20 =>
 qV Pg C1 (Instr.loadAt 50 t20) fun t21 =>
 qV Pg C1 (Instr.fieldAt 52 t3 11) fun t22 =>
 qV Pg C1 (Instr.loadAt 50 t22) fun t23 =>
 C0 107 #[t21,t23] R w fun t24 w =>
 C1 w∧(
 K3 t24 w)) (
 K3 undef w)
def n89c2 (t2 t3 t6 t8:Value) (C1:World→Prop) (R:RT) (w:World):Prop :=
 qV Pg C1 (binS .eql 137 false t6 t8) fun t9 =>
 joinK (fun (t17:Value) (w:World) =>
 n89c1 t2 t3 t9 t17 C1 R w) fun K2 =>
 guardP t9 true (
 qV Pg C1 (Instr.fieldAt 52 t2 7) fun t11 =>
 qV Pg C1 (Instr.fieldAt 49 t11 1) fun t12 =>
 qV Pg C1 (Instr.loadAt 47 t12) fun t13 =>
 qV Pg C1 (Instr.fieldAt 52 t3 7) fun t14 =>
 qV Pg C1 (Instr.fieldAt 49 t14 1) fun t15 =>
 qV Pg C1 (Instr.loadAt 47 t15) fun t16 =>
 C0 106 #[t13,t16] R w fun t17 w =>
 C1 w∧(
 K2 t17 w)) (
 K2 undef w)
def n89c3 (t2 t3:Value) (C1:World→Prop) (R:RT) (w:World):Prop :=
 qV Pg C1 (Instr.loadAt 52 t2) fun t5 =>
 qV Pg C1 (Instr.loadAt 52 t3) fun t7 =>
 C0 105 #[t5] R w fun t6 w =>
 C1 w∧(
 C0 105 #[t7] R w fun t8 w =>
 C1 w∧(
 n89c2 t2 t3 t6 t8 C1 R w))
def n89 (t0 t1:Value) (R:RT) (w:World):Prop :=
 opV Pg (Instr.box 52 t0) (panK R) w fun t2 w =>
 opV Pg (Instr.box 52 t1) (panK R) w fun t3 w =>
 drawK w fun C1 w =>
 n89c3 t2 t3 C1 R w
theorem n89s {t0 t1:Value} {R:RT} {w:World} (h:n89 t0 t1 R w):Calls Pg 70 #[t0,t1] w R:=by
 refine calls_of_den (args:=[t0,t1]) Tryz.func70 rfl (Nat.le_of_ble_eq_true rfl) ?_
 unfold n89 at h
 refine zs<|zr ?_
 refine zv h fun t2 w h=>?_
 refine zv h fun t3 w h=>?_
 refine zm<|zn<|zk<|zs ?_
 obtain ⟨C1,hC,h⟩:=h
 refine sim_draw [4,5,6,7,8,9,10,11,12,13,14,15,16,17,18,19,20,21,22,23,24,25] (by kernel_rfl) (by kernel_rfl) C1 ?_
 refine ze 0 hC h fun t5 h=>?_
 refine ze 2 hC h fun t7 h=>?_
 refine sim_dloud 1 rfl (by kernel_rfl) (fun _ _=>rfl) ?_
 refine sim_call h c105 rfl (fun _ _ h _ _=>⟨rfl,h⟩) ?_;intro t6 w h
 refine zn ?_
 obtain ⟨hC,h⟩:=h
 refine ⟨hC,?_⟩
 refine sim_dloud 3 rfl (by kernel_rfl) (fun _ _=>rfl) ?_
 refine sim_call h c105 rfl (fun _ _ h _ _=>⟨rfl,h⟩) ?_;intro t8 w h
 refine zn ?_
 obtain ⟨hC,h⟩:=h
 refine ⟨hC,?_⟩
 obtain ⟨t9,hv,h⟩:=h
 refine sim_dsilent 4 hC rfl (by kernel_rfl) (by kernel_rfl) (fun _ _=>rfl) rfl (Sw.qV_bin rfl rfl rfl hv) ?_
 refine zw 5 hC ?_
 refine joinK_elim h (fun K2 hK h=>?_)
 refine sim_djoin 9 [12,11,10,9,8,7,6,5,4,3,1,2,0] [11,12,13,14,15,16,17] (fun ρ w=>K2 (ρ 17) w) (fun _ hT=>?_) (fun σ w hC h=>?_)
 · rcases Sw.guardP_cases h with ⟨hb,h⟩ | ⟨hb,h⟩
   · obtain ⟨t11,hv,h⟩:=h
     refine sim_dsilent 6 hC rfl (by kernel_rfl) (by kernel_rfl) (fun _ _=>Sw.guardP_true hb) rfl (Sw.qV_run rfl hv) ?_
     obtain ⟨t12,hv,h⟩:=h
     refine sim_dsilent 7 hC rfl (by kernel_rfl) (by kernel_rfl) (fun _ _=>Sw.guardP_true hb) rfl (Sw.qV_run rfl hv) ?_
     obtain ⟨t13,hv,h⟩:=h
     refine sim_dsilent 8 hC rfl (by kernel_rfl) (by kernel_rfl) (fun _ _=>Sw.guardP_true hb) rfl (Sw.qV_run rfl hv) ?_
     obtain ⟨t14,hv,h⟩:=h
     refine sim_dsilent 9 hC rfl (by kernel_rfl) (by kernel_rfl) (fun _ _=>Sw.guardP_true hb) rfl (Sw.qV_run rfl hv) ?_
     obtain ⟨t15,hv,h⟩:=h
     refine sim_dsilent 10 hC rfl (by kernel_rfl) (by kernel_rfl) (fun _ _=>Sw.guardP_true hb) rfl (Sw.qV_run rfl hv) ?_
     obtain ⟨t16,hv,h⟩:=h
     refine sim_dsilent 11 hC rfl (by kernel_rfl) (by kernel_rfl) (fun _ _=>Sw.guardP_true hb) rfl (Sw.qV_run rfl hv) ?_
     refine sim_dloud 12 rfl (by kernel_rfl) (fun _ _=>Sw.guardP_true hb) ?_
     refine sim_call h c106 rfl (fun _ _ h _ _=>⟨rfl,h⟩) ?_;intro t17 w h
     refine zn ?_
     obtain ⟨hC,h⟩:=h
     refine ⟨hC,?_⟩
     exact hT _ _ (by repeat (first | exact Sw.Fr.refl _ _ | refine Sw.Fr.put rfl ?_ | refine Sw.Fr.put_none ?_ | refine Sw.Fr.mix rfl ?_ | refine Sw.Fr.skipAll rfl ?_)) hC h
   · refine sim_dskip 6 hC rfl (by kernel_rfl) (by kernel_rfl) (fun _ _=>Sw.guardP_false hb) ?_
     refine sim_dskip 7 hC rfl (by kernel_rfl) (by kernel_rfl) (fun _ _=>Sw.guardP_false hb) ?_
     refine sim_dskip 8 hC rfl (by kernel_rfl) (by kernel_rfl) (fun _ _=>Sw.guardP_false hb) ?_
     refine sim_dskip 9 hC rfl (by kernel_rfl) (by kernel_rfl) (fun _ _=>Sw.guardP_false hb) ?_
     refine sim_dskip 10 hC rfl (by kernel_rfl) (by kernel_rfl) (fun _ _=>Sw.guardP_false hb) ?_
     refine sim_dskip 11 hC rfl (by kernel_rfl) (by kernel_rfl) (fun _ _=>Sw.guardP_false hb) ?_
     refine sim_dskip 12 hC rfl (by kernel_rfl) (by kernel_rfl) (fun _ _=>Sw.guardP_false hb) ?_
     exact hT _ _ (by repeat (first | exact Sw.Fr.refl _ _ | refine Sw.Fr.put rfl ?_ | refine Sw.Fr.put_none ?_ | refine Sw.Fr.mix rfl ?_ | refine Sw.Fr.skipAll rfl ?_)) hC h
 subst hK
 obtain ⟨b18,hb18,h⟩:=Sw.pickK_elim h
 refine sim_dsilent 13 hC rfl (by kernel_rfl) (by kernel_rfl) (fun _ _=>rfl) rfl (Sw.pick_run hb18 rfl rfl) ?_
 refine zw 14 hC ?_
 refine joinK_elim h (fun K3 hK h=>?_)
 refine sim_djoin 2 [19,18,17,16,15,14,13,12,11,10,9,8,7,6,5,4,3,1,2,0] [20,21,22,23,24] (fun ρ w=>K3 (ρ 24) w) (fun _ hT=>?_) (fun σ w hC h=>?_)
 · rcases Sw.guardP_cases h with ⟨hb,h⟩ | ⟨hb,h⟩
   · obtain ⟨t20,hv,h⟩:=h
     refine sim_dsilent 15 hC rfl (by kernel_rfl) (by kernel_rfl) (fun _ _=>Sw.guardP_true hb) rfl (Sw.qV_run rfl hv) ?_
     obtain ⟨t21,hv,h⟩:=h
     refine sim_dsilent 16 hC rfl (by kernel_rfl) (by kernel_rfl) (fun _ _=>Sw.guardP_true hb) rfl (Sw.qV_run rfl hv) ?_
     obtain ⟨t22,hv,h⟩:=h
     refine sim_dsilent 17 hC rfl (by kernel_rfl) (by kernel_rfl) (fun _ _=>Sw.guardP_true hb) rfl (Sw.qV_run rfl hv) ?_
     obtain ⟨t23,hv,h⟩:=h
     refine sim_dsilent 18 hC rfl (by kernel_rfl) (by kernel_rfl) (fun _ _=>Sw.guardP_true hb) rfl (Sw.qV_run rfl hv) ?_
     refine sim_dloud 19 rfl (by kernel_rfl) (fun _ _=>Sw.guardP_true hb) ?_
     refine sim_call h c107 rfl (fun _ _ h _ _=>⟨rfl,h⟩) ?_;intro t24 w h
     refine zn ?_
     obtain ⟨hC,h⟩:=h
     refine ⟨hC,?_⟩
     exact hT _ _ (by repeat (first | exact Sw.Fr.refl _ _ | refine Sw.Fr.put rfl ?_ | refine Sw.Fr.put_none ?_ | refine Sw.Fr.mix rfl ?_ | refine Sw.Fr.skipAll rfl ?_)) hC h
   · refine sim_dskip 15 hC rfl (by kernel_rfl) (by kernel_rfl) (fun _ _=>Sw.guardP_false hb) ?_
     refine sim_dskip 16 hC rfl (by kernel_rfl) (by kernel_rfl) (fun _ _=>Sw.guardP_false hb) ?_
     refine sim_dskip 17 hC rfl (by kernel_rfl) (by kernel_rfl) (fun _ _=>Sw.guardP_false hb) ?_
     refine sim_dskip 18 hC rfl (by kernel_rfl) (by kernel_rfl) (fun _ _=>Sw.guardP_false hb) ?_
     refine sim_dskip 19 hC rfl (by kernel_rfl) (by kernel_rfl) (fun _ _=>Sw.guardP_false hb) ?_
     exact hT _ _ (by repeat (first | exact Sw.Fr.refl _ _ | refine Sw.Fr.put rfl ?_ | refine Sw.Fr.put_none ?_ | refine Sw.Fr.mix rfl ?_ | refine Sw.Fr.skipAll rfl ?_)) hC h
 subst hK
 obtain ⟨b25,hb25,h⟩:=Sw.pickK_elim h
 refine sim_dsilent 20 hC rfl (by kernel_rfl) (by kernel_rfl) (fun _ _=>rfl) rfl (Sw.pick_run hb25 rfl rfl) ?_
 refine zw 21 hC ?_
 refine sim_dend (by kernel_rfl) ?_
 refine zk<|sim_ret ?_
 exact body_ret1 rfl rfl h
def n48c1 (t0 t7 t11 t16:Value) (next1:KV) (R:RT) (w:World):Prop :=
 opV Pg (Op.unary .not t16) (panK R) w fun t17 w =>
 joinK (fun (t22:Value) (w:World) =>
 pickK t17 t22 (.bool false) fun t23 =>
 condP t23 (
 R (.returned (.tuple #[])) w) (
 B0 .add 3 true t7 (.int .i64 1) R w fun t24 w =>
 next1 t24 w)) fun K2 =>
 guardP t17 true (
 callV Pg t0 #[t11] (panK R) w fun t21 w =>
 opV Pg (Op.unary .not t21) (panK R) w fun t22 w =>
 K2 t22 w) (
 K2 undef w)
def n48c2 (t0 t1 t5 t7:Value) (next1:KV) (R:RT) (w:World):Prop :=
 X0 69 t5 t7 R w fun t10 w =>
 L0 9 t10 R w fun t11 w =>
 L0 69 t1 R w fun t12 w =>
 opV Pg (Instr.sliceAt 69 t12 none (some t7) none) (panK R) w fun t14 w =>
 C0 72 #[t14,t11] R w fun t16 w =>
 n48c1 t0 t7 t11 t16 next1 R w
def n48 (t0 t1:Value) (R:RT) (w:World):Prop :=
 L0 69 t1 R w fun t5 w =>
 opV Pg (Builtin.len_ #[69] 3 #[t5]) (panK R) w fun t6 w =>
 loop1 (fun t7 w next1 =>
 B0 .lss 3 false t7 t6 R w fun t8 w =>
 condP t8 (
 n48c2 t0 t1 t5 t7 next1 R w) (
 R (.returned (.tuple #[])) w)) (.int .i64 0) w
theorem n48s {t0 t1:Value} {R:RT} {w:World} (h:n48 t0 t1 R w):Calls Pg 71 #[t0,t1] w R:=by
 refine calls_of_den (args:=[t0,t1]) Tryz.func71 rfl (Nat.le_of_ble_eq_true rfl) ?_
 unfold n48 at h
 refine zs<|zr ?_
 refine zv h fun t5 w h=>?_
 refine zx h fun t6 w h=>?_
 refine zm<|zn<|zk<|sim_block ?_
 obtain ⟨I,μ,h0,hr⟩:=h
 refine sim_loop [3,4,7,8,9,10,11,12,13,14,15,16,17,18,19,20,21,22,23,24] (by kernel_rfl) (fun ρ w=>I (ρ 7) w) (fun ρ w=>μ (ρ 7) w) h0 (fun σ w hI=>?_)
 have h:=hr _ _ hI
 clear hr h0 hI
 refine zs<|zr ?_
 refine zb h fun t8 w h=>?_
 refine zn<|zk<|zs ?_
 refine sim_cond h rfl (fun h=>?_) (fun h=>?_)
 · refine sim_skip<|zk<|zs<|sim_block<|zs<|zr<|zm ?_
   refine zv h fun t10 w h=>?_
   refine zv h fun t11 w h=>?_
   refine zm<|zm<|zn<|zk<|zs<|sim_regionG ?_
   refine sim_seg 7 rfl ?_
   refine zv h fun t12 w h=>?_
   refine zm ?_
   refine zv h fun t14 w h=>?_
   refine zm ?_
   refine zc h c72 fun t16 w h=>?_
   refine zv h fun t17 w h=>?_
   refine zm<|zn ?_
   refine joinK_elim h (fun K2 hK h=>?_)
   refine sim_groupJ 4 6 true [19,20,21,22] (fun ρ w=>K2 (ρ 22) w) rfl rfl (fun T hT=>guardP_mono h (fun h=>?_) (fun h=>?_)) (fun σ w h=>?_)
   · refine zm<|zm ?_
     refine sim_callV h rfl rfl (fun _ _ h=>⟨rfl,h⟩) ?_;intro t21 w h
     refine zv h fun t22 w h=>?_
     refine zn ?_
     exact zt hT h
   · exact zt hT h
   subst hK
   refine sim_seg 1 rfl ?_
   refine sim_pick h rfl rfl rfl ?_;intro t23 h
   refine zn<|sim_end<|zk ?_
   refine sim_cond h rfl (fun h=>?_) (fun h=>?_)
   · refine sim_ret<|sim_block_ret<|sim_then_ret<|sim_then_ret<|sim_block_ret ?_
     exact body_ret0 rfl h
   · refine sim_skip<|sim_block_normal<|zk<|zr ?_
     refine zb h fun t24 w h=>?_
     refine zm<|zn<|zk ?_
     exact ⟨rfl,h⟩
 · refine sim_exit<|sim_then_exit<|sim_then_exit<|sim_block_hit ?_
   refine body_normal ?_
   exact body_ret0 rfl h
def n114 (t0 t1:Value) (R:RT) (w:World):Prop :=
 C0 108 #[t0,t1] R w fun t7 w =>
 B0 .geq 3 true t7 (.int .i64 0) R w fun t8 w =>
 R (.returned t8) w
theorem n114s {t0 t1:Value} {R:RT} {w:World} (h:n114 t0 t1 R w):Calls Pg 72 #[t0,t1] w R:=by
 refine calls_of_den (args:=[t0,t1]) Tryz.func72 rfl (Nat.le_of_ble_eq_true rfl) ?_
 unfold n114 at h
 refine zs<|zr<|zm<|zn<|zk<|zs<|zr<|zm<|zm ?_
 refine zc h c108 fun t7 w h=>?_
 refine zb h fun t8 w h=>?_
 refine zm<|zn<|zk<|sim_ret ?_
 exact body_ret1 rfl rfl h
def n13c1 (t1 t3 t4:Value) (C6:World→Prop) (next5:KV) (R:RT) (w:World):Prop :=
 qV Pg C6 (Instr.fieldAt 49 t1 1) fun t54 =>
 qV Pg C6 (Instr.loadAt 47 t54) fun t55 =>
 qV Pg C6 (Instr.indexAt 47 t55 t4) fun t57 =>
 qV Pg C6 (Instr.fieldAt 78 t57 0) fun t58 =>
 qV Pg C6 (Instr.loadAt 9 t58) fun t59 =>
 qV Pg C6 (Instr.fieldAt 49 t1 1) fun t60 =>
 qV Pg C6 (Instr.loadAt 47 t60) fun t61 =>
 qV Pg C6 (Instr.indexAt 47 t61 t3) fun t63 =>
 qV Pg C6 (Instr.fieldAt 78 t63 0) fun t64 =>
 qV Pg C6 (Instr.loadAt 9 t64) fun t65 =>
 qV Pg C6 (binS .eql 9 false t59 t65) fun t66 =>
 condP t66 (
 R (.returned (.bool false)) w) (
 B0 .add 3 true t4 (.int .i64 1) R w fun t53 w =>
 next5 t53 w)
def n13c2 (t1 t3 t4:Value) (next2:KV) (next5:KV) (R:RT) (w:World):Prop :=
 B0 .lss 3 false t4 t3 R w fun t51 w =>
 condP t51 (
 drawK w fun C6 w =>
 n13c1 t1 t3 t4 C6 next5 R w) (
 B0 .add 3 true t3 (.int .i64 1) R w fun t21 w =>
 next2 t21 w)
def n13c3 (t1 t3 t29 t37:Value) (next2:KV) (R:RT) (w:World):Prop :=
 pickK t29 (.bool true) t37 fun t38 =>
 joinK (fun (t47:Value) (w:World) =>
 pickK t38 (.bool true) t47 fun t48 =>
 condP t48 (
 R (.returned (.bool false)) w) (
 loop1 (fun t4 w next5 =>
 n13c2 t1 t3 t4 next2 next5 R w) (.int .i64 0) w)) fun K4 =>
 guardP t38 false (
 F0 49 t1 1 R w fun t40 w =>
 L0 47 t40 R w fun t41 w =>
 X0 47 t41 t3 R w fun t43 w =>
 F0 78 t43 1 R w fun t44 w =>
 L0 3 t44 R w fun t45 w =>
 C0 109 #[t45] R w fun t46 w =>
 opV Pg (Op.unary .not t46) (panK R) w fun t47 w =>
 K4 t47 w) (
 K4 undef w)
def n13c4 (t1 t3 t28:Value) (next2:KV) (R:RT) (w:World):Prop :=
 opV Pg (Op.unary .not t28) (panK R) w fun t29 w =>
 joinK (fun (t37:Value) (w:World) =>
 n13c3 t1 t3 t29 t37 next2 R w) fun K3 =>
 guardP t29 false (
 F0 49 t1 1 R w fun t31 w =>
 L0 47 t31 R w fun t32 w =>
 X0 47 t32 t3 R w fun t34 w =>
 F0 78 t34 1 R w fun t35 w =>
 L0 3 t35 R w fun t36 w =>
 B0 .eql 3 true t36 (.int .i64 0) R w fun t37 w =>
 K3 t37 w) (
 K3 undef w)
def n13c5 (t1 t3:Value) (next2:KV) (R:RT) (w:World):Prop :=
 F0 49 t1 1 R w fun t22 w =>
 L0 47 t22 R w fun t23 w =>
 X0 47 t23 t3 R w fun t25 w =>
 F0 78 t25 0 R w fun t26 w =>
 L0 9 t26 R w fun t27 w =>
 C0 32 #[t27] R w fun t28 w =>
 n13c4 t1 t3 t28 next2 R w
def n13c6 (t1 t3:Value) (next2:KV) (R:RT) (w:World):Prop :=
 F0 49 t1 1 R w fun t16 w =>
 L0 47 t16 R w fun t17 w =>
 opV Pg (Builtin.len_ #[47] 3 #[t17]) (panK R) w fun t18 w =>
 B0 .lss 3 false t3 t18 R w fun t19 w =>
 condP t19 (
 n13c5 t1 t3 next2 R w) (
 R (.returned (.bool true)) w)
def n13c7 (t1 t7:Value) (R:RT) (w:World):Prop :=
 opV Pg (Op.unary .not t7) (panK R) w fun t8 w =>
 joinK (fun (t13:Value) (w:World) =>
 pickK t8 (.bool true) t13 fun t14 =>
 condP t14 (
 R (.returned (.bool false)) w) (
 loop1 (fun t3 w next2 =>
 n13c6 t1 t3 next2 R w) (.int .i64 0) w)) fun K1 =>
 guardP t8 false (
 F0 49 t1 1 R w fun t10 w =>
 L0 47 t10 R w fun t11 w =>
 opV Pg (Builtin.len_ #[47] 3 #[t11]) (panK R) w fun t12 w =>
 B0 .gtr 3 true t12 (.int .i64 4) R w fun t13 w =>
 K1 t13 w) (
 K1 undef w)
def n13 (t0:Value) (R:RT) (w:World):Prop :=
 opV Pg (Instr.box 49 t0) (panK R) w fun t1 w =>
 F0 49 t1 0 R w fun t5 w =>
 L0 3 t5 R w fun t6 w =>
 C0 109 #[t6] R w fun t7 w =>
 n13c7 t1 t7 R w
theorem n13s {t0:Value} {R:RT} {w:World} (h:n13 t0 R w):Calls Pg 73 #[t0] w R:=by
 refine calls_of_den (args:=[t0]) Tryz.func73 rfl (Nat.le_of_ble_eq_true rfl) ?_
 unfold n13 at h
 refine zs<|zr ?_
 refine zv h fun t1 w h=>?_
 refine zm<|zn<|zk<|zs<|zs<|sim_regionG ?_
 refine sim_seg 5 rfl ?_
 refine zv h fun t5 w h=>?_
 refine zv h fun t6 w h=>?_
 refine zc h c109 fun t7 w h=>?_
 refine zv h fun t8 w h=>?_
 refine zm<|zn ?_
 refine joinK_elim h (fun K1 hK h=>?_)
 refine sim_groupJ 4 4 false [10,11,12,13] (fun ρ w=>K1 (ρ 13) w) rfl rfl (fun T hT=>guardP_mono h (fun h=>?_) (fun h=>?_)) (fun σ w h=>?_)
 · refine zv h fun t10 w h=>?_
   refine zv h fun t11 w h=>?_
   refine zx h fun t12 w h=>?_
   refine zb h fun t13 w h=>?_
   refine zn ?_
   exact zt hT h
 · exact zt hT h
 subst hK
 refine sim_seg 1 rfl ?_
 refine sim_pick h rfl rfl rfl ?_;intro t14 h
 refine zn<|sim_end<|zk ?_
 refine sim_cond h rfl (fun h=>?_) (fun h=>?_)
 · refine zs<|zr<|zm<|zn<|zk<|sim_ret<|sim_then_ret ?_
   exact body_ret1 rfl rfl h
 · refine sim_skip<|zk<|zs<|zs<|zr<|zm<|zn<|zk<|sim_block ?_
   obtain ⟨I,μ,h0,hr⟩:=h
   refine sim_loop [2,3,4,15,16,17,18,19,20,21,22,23,24,25,26,27,28,29,30,31,32,33,34,35,36,37,38,39,40,41,42,43,44,45,46,47,48,49,50,51,52,53,54,55,56,57,58,59,60,61,62,63,64,65,66] (by kernel_rfl) (fun ρ w=>I (ρ 3) w) (fun ρ w=>μ (ρ 3) w) h0 (fun σ w hI=>?_)
   have h:=hr _ _ hI
   clear hr h0 hI
   refine zs<|zs<|zr<|zm ?_
   refine zv h fun t16 w h=>?_
   refine zv h fun t17 w h=>?_
   refine zx h fun t18 w h=>?_
   refine zb h fun t19 w h=>?_
   refine zn<|zk ?_
   refine sim_cond h rfl (fun h=>?_) (fun h=>?_)
   · refine sim_skip<|zk<|zs<|sim_block<|zs<|zs<|sim_regionG ?_
     refine sim_seg 9 rfl ?_
     refine zv h fun t22 w h=>?_
     refine zv h fun t23 w h=>?_
     refine zm ?_
     refine zv h fun t25 w h=>?_
     refine zv h fun t26 w h=>?_
     refine zv h fun t27 w h=>?_
     refine zc h c32 fun t28 w h=>?_
     refine zv h fun t29 w h=>?_
     refine zm<|zn ?_
     refine joinK_elim h (fun K3 hK h=>?_)
     refine sim_groupJ 7 8 false [31,32,33,34,35,36,37] (fun ρ w=>K3 (ρ 37) w) rfl rfl (fun T hT=>guardP_mono h (fun h=>?_) (fun h=>?_)) (fun σ w h=>?_)
     · refine zv h fun t31 w h=>?_
       refine zv h fun t32 w h=>?_
       refine zm ?_
       refine zv h fun t34 w h=>?_
       refine zv h fun t35 w h=>?_
       refine zv h fun t36 w h=>?_
       refine zb h fun t37 w h=>?_
       refine zn ?_
       exact zt hT h
     · exact zt hT h
     subst hK
     refine sim_seg 2 rfl ?_
     refine sim_pick h rfl rfl rfl ?_;intro t38 h
     refine zm<|zn ?_
     refine joinK_elim h (fun K4 hK h=>?_)
     refine sim_groupJ 8 17 false [40,41,42,43,44,45,46,47] (fun ρ w=>K4 (ρ 47) w) rfl rfl (fun T hT=>guardP_mono h (fun h=>?_) (fun h=>?_)) (fun σ w h=>?_)
     · refine zv h fun t40 w h=>?_
       refine zv h fun t41 w h=>?_
       refine zm ?_
       refine zv h fun t43 w h=>?_
       refine zv h fun t44 w h=>?_
       refine zv h fun t45 w h=>?_
       refine zc h c109 fun t46 w h=>?_
       refine zv h fun t47 w h=>?_
       refine zn ?_
       exact zt hT h
     · exact zt hT h
     subst hK
     refine sim_seg 1 rfl ?_
     refine sim_pick h rfl rfl rfl ?_;intro t48 h
     refine zn<|sim_end<|zk ?_
     refine sim_cond h rfl (fun h=>?_) (fun h=>?_)
     · refine zs<|zr<|zm<|zn<|zk<|sim_ret<|sim_then_ret<|sim_block_ret<|sim_then_ret<|sim_then_ret<|sim_block_ret<|sim_then_ret ?_
       exact body_ret1 rfl rfl h
     · refine sim_skip<|zk<|zs<|zr<|zm<|zn<|zk<|sim_block ?_
       obtain ⟨I,μ,h0,hr⟩:=h
       refine sim_loop [2,4,49,50,51,52,53,54,55,56,57,58,59,60,61,62,63,64,65,66] (by kernel_rfl) (fun ρ w=>I (ρ 4) w) (fun ρ w=>μ (ρ 4) w) h0 (fun σ w hI=>?_)
       have h:=hr _ _ hI
       clear hr h0 hI
       refine zs<|zs<|zr<|zm<|zm ?_
       refine zb h fun t51 w h=>?_
       refine zn<|zk ?_
       refine sim_cond h rfl (fun h=>?_) (fun h=>?_)
       · refine sim_skip<|zk<|zs<|sim_block<|zs ?_
         obtain ⟨C6,hC,h⟩:=h
         refine sim_draw [54,55,56,57,58,59,60,61,62,63,64,65,66] (by kernel_rfl) (by kernel_rfl) C6 ?_
         refine ze 0 hC h fun t54 h=>?_
         refine ze 1 hC h fun t55 h=>?_
         refine zw 2 hC ?_
         refine ze 3 hC h fun t57 h=>?_
         refine ze 4 hC h fun t58 h=>?_
         refine ze 5 hC h fun t59 h=>?_
         refine ze 6 hC h fun t60 h=>?_
         refine ze 7 hC h fun t61 h=>?_
         refine zw 8 hC ?_
         refine ze 9 hC h fun t63 h=>?_
         refine ze 10 hC h fun t64 h=>?_
         refine ze 11 hC h fun t65 h=>?_
         obtain ⟨t66,hv,h⟩:=h
         refine sim_dsilent 12 hC rfl (by kernel_rfl) (by kernel_rfl) (fun _ _=>rfl) rfl (Sw.qV_bin rfl rfl rfl hv) ?_
         refine sim_dend (by kernel_rfl) ?_
         refine zk ?_
         refine sim_cond h rfl (fun h=>?_) (fun h=>?_)
         · refine zs<|zr<|zm<|zn<|zk<|sim_ret<|sim_block_ret<|sim_then_ret<|sim_then_ret<|sim_block_ret<|sim_block_ret<|sim_then_ret<|sim_then_ret<|sim_block_ret<|sim_then_ret ?_
           exact body_ret1 rfl rfl h
         · refine sim_skip<|sim_block_normal<|zk<|zr<|zm ?_
           refine zb h fun t53 w h=>?_
           refine zm<|zn<|zk ?_
           exact ⟨rfl,h⟩
       · refine sim_exit<|sim_then_exit<|sim_then_exit<|sim_block_hit<|sim_block_normal<|zk<|zr<|zm ?_
         refine zb h fun t21 w h=>?_
         refine zm<|zn<|zk ?_
         exact ⟨rfl,h⟩
   · refine sim_exit<|sim_then_exit<|sim_then_exit<|sim_block_hit<|zk<|zs<|zr<|zm<|zn<|zk<|sim_ret ?_
     exact body_ret1 rfl rfl h
end Go.Proofs.YtiajhbbmgglmlaaGreat
namespace Go.Proofs.YtiajhbbmgglmlaaGreat
open Sw
open Go.RowKit (intOf Below)
theorem eq_Term (x y:TermD):(decide (x.field=y.field)&&decide (x.factor=y.factor))=decide (x=y):=by
 cases x;cases y
 rw [Bool.eq_iff_iff]
 simp
theorem Equal_Term_ret (w0:World) (v u:Value) (l m:List TermD) (hl:TermsOf w0 v l) (hm:TermsOf w0 u m) :
 Ret Pg 106 #[v,u] w0 fun r w'=>r = .bool (decide (l=m))∧Ext w0 w':=by
 obtain ⟨A,c,rfl,hlc,hcm,hlm,hel⟩:=SliceOf.open hl
 obtain ⟨A',c',rfl,hlc',hcm',hlm',hel'⟩:=SliceOf.open hm
 refine n116s (R:=retR _) ?_;unfold n116
 simp (disch:=try exact DI) only [↓PR,QR,Int.reduceBEq,Int.reduceBNe,Int.reduceLT,Int.reduceLE,Int.reduceGT,Int.reduceGE,Int.reduceNeg]
 by_cases hlen:l.length=m.length
 · have hne:((l.length:Int) != (m.length:Int))=false:=by simp [hlen]
   simp (disch:=try exact DI) only [↓PR,QR,Int.reduceBEq,Int.reduceBNe,Int.reduceLT,Int.reduceLE,Int.reduceGT,Int.reduceGE,Int.reduceNeg,↓n116c1,↓n116c2,hne]
   refine loop1_intro (fun a0 w=>∃ (k:Nat) , a0 = .int .i64 (k:Int)∧k≤l.length∧Ext w0 w∧l.take k=m.take k) (fun a0 _=>l.length - (intOf a0).toNat) ⟨0,rfl,Nat.zero_le _,ee,rfl⟩ ?_
   rintro _ w ⟨k,rfl,hk,e,hI⟩
   have se:=e.size
   rcases drop_cases hk with ⟨x,hx,hd,hlt,hdec⟩ | ⟨hk,hd,hdec⟩
   · obtain ⟨b,o,cs,rfl,_,hA,rfl⟩:=hel k x hx
     obtain ⟨y,hy⟩:=getElem?_lt (l:=m) (k:=k) (by omega)
     obtain ⟨b',o',cs',rfl,_,hA',rfl⟩:=hel' k y hy
     have hlt':k < m.length:=by omega
     have eD:Ext w0 w.drew:=e.wdrew
     simp (disch:=try exact DI) only [↓PR,QR,Int.reduceBEq,Int.reduceBNe,Int.reduceLT,Int.reduceLE,Int.reduceGT,Int.reduceGE,Int.reduceNeg,↓n116c1,↓n116c2,hdec]
     refine drawK_intro ?_
     simp (disch:=try exact DI) only [↓PR,QR,Int.reduceBEq,Int.reduceBNe,Int.reduceLT,Int.reduceLE,Int.reduceGT,Int.reduceGE,Int.reduceNeg,↓n116c1,↓n116c2,hA.c2,hA'.c2]
     rw [eq_Term]
     by_cases hxy:x=y
     · subst hxy
       simp only [decide_true,Bool.not_true]
       simp (disch:=try exact DI) only [↓PR,QR,Int.reduceBEq,Int.reduceBNe,Int.reduceLT,Int.reduceLE,Int.reduceGT,Int.reduceGE,Int.reduceNeg,↓n116c1,↓n116c2]
       exact ⟨⟨k+1,rfl,by omega,ee,by rw [List.take_add_one,List.take_add_one,hx,hy,hI]⟩,meas_lt hlt⟩
     · simp only [hxy,decide_false,Bool.not_false]
       simp (disch:=try exact DI) only [↓PR,QR,Int.reduceBEq,Int.reduceBNe,Int.reduceLT,Int.reduceLE,Int.reduceGT,Int.reduceGE,Int.reduceNeg,↓n116c1,↓n116c2]
       refine ⟨?_,eD⟩
       have hne':¬ l=m:=by
        rintro rfl
        rw [hx] at hy
        injection hy with hy
        exact hxy hy
       simp [hne']
   · subst hk
     simp (disch:=try exact DI) only [↓PR,QR,Int.reduceBEq,Int.reduceBNe,Int.reduceLT,Int.reduceLE,Int.reduceGT,Int.reduceGE,Int.reduceNeg,↓n116c1,↓n116c2,hdec]
     rw [List.take_length,hlen,List.take_length] at hI
     exact ⟨by simp [hI],e⟩
 · have hne:((l.length:Int) != (m.length:Int))=true:=by simp;omega
   simp (disch:=try exact DI) only [↓PR,QR,Int.reduceBEq,Int.reduceBNe,Int.reduceLT,Int.reduceLE,Int.reduceGT,Int.reduceGE,Int.reduceNeg,↓n116c1,↓n116c2,hne]
   have hne':¬ l=m:=fun h=>hlen (by rw [h])
   exact ⟨by simp [hne'],Ext.refl _⟩
theorem eq_Case (x y:CaseD):(decide (x.low=y.low)&&(decide (x.high=y.high)&&decide (x.of=y.of)))=decide (x=y):=by
 cases x;cases y
 rw [Bool.eq_iff_iff]
 simp
theorem Equal_Case_ret (w0:World) (v u:Value) (l m:List CaseD) (hl:CasesOf w0 v l) (hm:CasesOf w0 u m) :
 Ret Pg 107 #[v,u] w0 fun r w'=>r = .bool (decide (l=m))∧Ext w0 w':=by
 obtain ⟨A,c,rfl,hlc,hcm,hlm,hel⟩:=SliceOf.open hl
 obtain ⟨A',c',rfl,hlc',hcm',hlm',hel'⟩:=SliceOf.open hm
 refine n115s (R:=retR _) ?_;unfold n115
 simp (disch:=try exact DI) only [↓PR,QR,Int.reduceBEq,Int.reduceBNe,Int.reduceLT,Int.reduceLE,Int.reduceGT,Int.reduceGE,Int.reduceNeg]
 by_cases hlen:l.length=m.length
 · have hne:((l.length:Int) != (m.length:Int))=false:=by simp [hlen]
   simp (disch:=try exact DI) only [↓PR,QR,Int.reduceBEq,Int.reduceBNe,Int.reduceLT,Int.reduceLE,Int.reduceGT,Int.reduceGE,Int.reduceNeg,↓n115c1,↓n115c2,hne]
   refine loop1_intro (fun a0 w=>∃ (k:Nat) , a0 = .int .i64 (k:Int)∧k≤l.length∧Ext w0 w∧l.take k=m.take k) (fun a0 _=>l.length - (intOf a0).toNat) ⟨0,rfl,Nat.zero_le _,ee,rfl⟩ ?_
   rintro _ w ⟨k,rfl,hk,e,hI⟩
   have se:=e.size
   rcases drop_cases hk with ⟨x,hx,hd,hlt,hdec⟩ | ⟨hk,hd,hdec⟩
   · obtain ⟨b,o,cs,rfl,_,hA,rfl⟩:=hel k x hx
     obtain ⟨y,hy⟩:=getElem?_lt (l:=m) (k:=k) (by omega)
     obtain ⟨b',o',cs',rfl,_,hA',rfl⟩:=hel' k y hy
     have hlt':k < m.length:=by omega
     have eD:Ext w0 w.drew:=e.wdrew
     simp (disch:=try exact DI) only [↓PR,QR,Int.reduceBEq,Int.reduceBNe,Int.reduceLT,Int.reduceLE,Int.reduceGT,Int.reduceGE,Int.reduceNeg,↓n115c1,↓n115c2,hdec]
     refine drawK_intro ?_
     simp (disch:=try exact DI) only [↓PR,QR,Int.reduceBEq,Int.reduceBNe,Int.reduceLT,Int.reduceLE,Int.reduceGT,Int.reduceGE,Int.reduceNeg,↓n115c1,↓n115c2,hA.c3,hA'.c3]
     rw [eq_Case]
     by_cases hxy:x=y
     · subst hxy
       simp only [decide_true,Bool.not_true]
       simp (disch:=try exact DI) only [↓PR,QR,Int.reduceBEq,Int.reduceBNe,Int.reduceLT,Int.reduceLE,Int.reduceGT,Int.reduceGE,Int.reduceNeg,↓n115c1,↓n115c2]
       exact ⟨⟨k+1,rfl,by omega,ee,by rw [List.take_add_one,List.take_add_one,hx,hy,hI]⟩,meas_lt hlt⟩
     · simp only [hxy,decide_false,Bool.not_false]
       simp (disch:=try exact DI) only [↓PR,QR,Int.reduceBEq,Int.reduceBNe,Int.reduceLT,Int.reduceLE,Int.reduceGT,Int.reduceGE,Int.reduceNeg,↓n115c1,↓n115c2]
       refine ⟨?_,eD⟩
       have hne':¬ l=m:=by
        rintro rfl
        rw [hx] at hy
        injection hy with hy
        exact hxy hy
       simp [hne']
   · subst hk
     simp (disch:=try exact DI) only [↓PR,QR,Int.reduceBEq,Int.reduceBNe,Int.reduceLT,Int.reduceLE,Int.reduceGT,Int.reduceGE,Int.reduceNeg,↓n115c1,↓n115c2,hdec]
     rw [List.take_length,hlen,List.take_length] at hI
     exact ⟨by simp [hI],e⟩
 · have hne:((l.length:Int) != (m.length:Int))=true:=by simp;omega
   simp (disch:=try exact DI) only [↓PR,QR,Int.reduceBEq,Int.reduceBNe,Int.reduceLT,Int.reduceLE,Int.reduceGT,Int.reduceGE,Int.reduceNeg,↓n115c1,↓n115c2,hne]
   have hne':¬ l=m:=fun h=>hlen (by rw [h])
   exact ⟨by simp [hne'],Ext.refl _⟩
abbrev partsVal (f:FieldD):Value := .agg #[.string f.name,.string f.of,.string f.tag,.string f.fr,.int .i64 f.kind,.int .i64 f.bits,.int .i64 f.low,.int .i64 f.high,.int .i64 f.base,.int .i64 f.check,.int .i64 f.key,.bool f.little,.bool f.loose]
theorem parts_ret (w0:World) (v:Value) (f:FieldD) (hf:FieldVal w0 v f):Ret Pg 105 #[v] w0 fun r w'=>r=partsVal f∧Ext w0 w':=by
 obtain ⟨tv,cv,rfl,hT,hC,ht1,hc1⟩:=hf.op
 refine n87s (R:=retR _) ?_;unfold n87
 simp (disch:=try exact DI) only [↓PR,QR,Int.reduceBEq,Int.reduceBNe,Int.reduceLT,Int.reduceLE,Int.reduceGT,Int.reduceGE,Int.reduceNeg,Sw.joinK_eq]
 exact ⟨by first | trivial | rfl,ee⟩
theorem sameField_ret (w0:World) (v u:Value) (f g:FieldD) (hf:FieldVal w0 v f) (hg:FieldVal w0 u g):Ret Pg 70 #[v,u] w0 fun r w'=>r = .bool (decide (f=g))∧Ext w0 w':=by
 obtain ⟨tv,cv,rfl,hT,hC,ht1,hc1⟩:=hf.op
 obtain ⟨tv',cv',rfl,hT',hC',ht1',hc1'⟩:=hg.op
 refine n89s (R:=retR _) ?_;unfold n89
 simp (disch:=try exact DI) only [↓PR,QR,Int.reduceBEq,Int.reduceBNe,Int.reduceLT,Int.reduceLE,Int.reduceGT,Int.reduceGE,Int.reduceNeg]
 generalize hW:World.alloc (World.alloc w0 _) _=W
 have e0:Ext w0 W:=by rw [← hW];exact ee
 have o3:W.heap[w0.heap.size]?=some (.cells (fieldCells f tv cv).toArray 52 (0,0)):=by rw [← hW];simp (disch:=try exact DI) only [↓PR,QR,Int.reduceBEq,Int.reduceBNe,Int.reduceLT,Int.reduceLE,Int.reduceGT,Int.reduceGE,Int.reduceNeg]
 have o4:W.heap[w0.heap.size+1]?=some (.cells (fieldCells g tv' cv').toArray 52 (0,0)):=by rw [← hW];simp (disch:=try exact DI) only [↓PR,QR,Int.reduceBEq,Int.reduceBNe,Int.reduceLT,Int.reduceLE,Int.reduceGT,Int.reduceGE,Int.reduceNeg]
 clear hW
 simp only [World.size_alloc]
 refine drawK_intro ?_
 have eD:Ext w0 W.drew:=e0.wdrew
 simp (disch:=try exact DI) only [↓PR,QR,Int.reduceBEq,Int.reduceBNe,Int.reduceLT,Int.reduceLE,Int.reduceGT,Int.reduceGE,Int.reduceNeg,↓n89c1,↓n89c2,↓n89c3,(cells_of_heap o3).1,(cells_of_heap o4).1]
 refine zcr (parts_ret _ _ f ⟨tv,cv,rfl,TermsOf.ext hT eD,CasesOf.ext hC eD⟩) fun w1 e1=>?_
 refine ⟨e1,?_⟩
 have eD1:=eD.trans e1
 refine zcr (parts_ret _ _ g ⟨tv',cv',rfl,TermsOf.ext hT' eD1,CasesOf.ext hC' eD1⟩) fun w2 e2=>?_
 refine ⟨e1.trans e2,?_⟩
 simp (disch:=try exact DI) only [↓PR,QR,Int.reduceBEq,Int.reduceBNe,Int.reduceLT,Int.reduceLE,Int.reduceGT,Int.reduceGE,Int.reduceNeg,↓n89c1,↓n89c2,↓n89c3,(cells_of_heap o3).1,(cells_of_heap o4).1]
 have eW2:Ext W w2:=(Ext.refl W).wdrew.trans (e1.trans e2)
 generalize hb:(_&&_:Bool)=b1
 cases b1 with
 | false =>
  simp (disch:=try exact DI) only [↓PR,QR,Int.reduceBEq,Int.reduceBNe,Int.reduceLT,Int.reduceLE,Int.reduceGT,Int.reduceGE,Int.reduceNeg,↓n89c1,↓n89c2,↓n89c3]
  refine ⟨?_,e0.trans eW2⟩
  have hne:¬ f=g:=by
   rintro rfl
   simp at hb
  simp [hne]
 | true =>
  have hbt:=hb
  simp only [Bool.and_eq_true,decide_eq_true_eq] at hb
  obtain ⟨h1,h2,h3,h4,h5,h6,h7,h8,h9,h10,h11,h12,h13⟩:=hb
  simp (disch:=try exact DI) only [↓PR,QR,Int.reduceBEq,Int.reduceBNe,Int.reduceLT,Int.reduceLE,Int.reduceGT,Int.reduceGE,Int.reduceNeg,↓n89c1,↓n89c2,↓n89c3,(cells_of_heap o3).1,(cells_of_heap o4).1]
  refine zcr (Equal_Term_ret _ _ _ _ _ (TermsOf.ext hT (e0.trans eW2)) (TermsOf.ext hT' (e0.trans eW2))) fun w3 e3=>?_
  refine ⟨(e1.trans e2).trans e3,?_⟩
  have eW3:=eW2.trans e3
  by_cases ht:f.terms=g.terms
  · simp only [ht,decide_true]
    simp (disch:=try exact DI) only [↓PR,QR,Int.reduceBEq,Int.reduceBNe,Int.reduceLT,Int.reduceLE,Int.reduceGT,Int.reduceGE,Int.reduceNeg,↓n89c1,↓n89c2,↓n89c3,hbt,(cells_of_heap o3).1,(cells_of_heap o4).1]
    refine zcr (Equal_Case_ret _ _ _ _ _ (CasesOf.ext hC (e0.trans eW3)) (CasesOf.ext hC' (e0.trans eW3))) fun w4 e4=>?_
    refine ⟨((e1.trans e2).trans e3).trans e4,?_⟩
    simp (disch:=try exact DI) only [↓PR,QR,Int.reduceBEq,Int.reduceBNe,Int.reduceLT,Int.reduceLE,Int.reduceGT,Int.reduceGE,Int.reduceNeg,↓n89c1,↓n89c2,↓n89c3]
    refine ⟨?_,e0.trans (eW3.trans e4)⟩
    congr 1
    rw [Bool.eq_iff_iff]
    simp only [decide_eq_true_eq]
    constructor
    · intro hc;cases f;cases g;simp_all
    · rintro rfl;rfl
  · simp only [ht,decide_false]
    simp (disch:=try exact DI) only [↓PR,QR,Int.reduceBEq,Int.reduceBNe,Int.reduceLT,Int.reduceLE,Int.reduceGT,Int.reduceGE,Int.reduceNeg,↓n89c1,↓n89c2,↓n89c3,hbt]
    refine ⟨?_,e0.trans eW3⟩
    have hne:¬ f=g:=by rintro rfl;exact ht rfl
    simp [hne]
end Go.Proofs.YtiajhbbmgglmlaaGreat
namespace Go.Proofs.YtiajhbbmgglmlaaGreat
open Sw
open Go.RowKit (intOf Below)
def Clears (g:FuncId) (cl:FieldD→FieldD) (ct cc:Bool):Prop:=∀ (w:World) (p:Nat) (f:FieldD) (tv cv:Value),tv.oneCell'=true→cv.oneCell'=true→w.heap[p]?=some (.cells (fieldCells f tv cv).toArray 52 (0,0)) →
 Ret Pg g #[.pointer (some ⟨p,0,none⟩)] w fun _ w'=>w'.heap[p]?=some (.cells (fieldCells (cl f) (if ct then .slice none 0 0 else tv) (if cc then .slice none 0 0 else cv)).toArray 52 (0,0))∧∀ a,Ext a w→a.heap.size≤p→Ext a w'
def clear1 (f:FieldD):FieldD:={ f with bits:=0,little:=false,low:=0,high:=0 }
theorem clears1:Clears 78 clear1 false false:=by
 intro w p f tv cv ht1 hc1 hp
 have hlt:=(Array.getElem?_eq_some_iff.1 hp).1
 refine n64s (R:=retR _) ?_;unfold n64
 simp (disch:=try exact DI) only [↓PR,QR,Int.reduceBEq,Int.reduceBNe,Int.reduceLT,Int.reduceLE,Int.reduceGT,Int.reduceGE,Int.reduceNeg,Sw.joinK_eq,(cells_of_heap hp).1,(cells_of_heap hp).2]
 refine ⟨?_,fun a e hp'=>?_⟩
 · simp only [heap_set_map,hp,Option.map_some,setObj_cells,List.setIfInBounds_toArray,List.set_cons_zero,List.set_cons_succ,Bool.false_eq_true,if_false,if_true]
   try rfl
 · exact ee
def clear2 (f:FieldD):FieldD:={ f with bits:=0,little:=false,low:=0 }
theorem clears2:Clears 82 clear2 false false:=by
 intro w p f tv cv ht1 hc1 hp
 have hlt:=(Array.getElem?_eq_some_iff.1 hp).1
 refine n79s (R:=retR _) ?_;unfold n79
 simp (disch:=try exact DI) only [↓PR,QR,Int.reduceBEq,Int.reduceBNe,Int.reduceLT,Int.reduceLE,Int.reduceGT,Int.reduceGE,Int.reduceNeg,Sw.joinK_eq,(cells_of_heap hp).1,(cells_of_heap hp).2]
 refine ⟨?_,fun a e hp'=>?_⟩
 · simp only [heap_set_map,hp,Option.map_some,setObj_cells,List.setIfInBounds_toArray,List.set_cons_zero,List.set_cons_succ,Bool.false_eq_true,if_false,if_true]
   try rfl
 · exact ee
def clear3 (f:FieldD):FieldD:={ f with loose:=false,low:=0,high:=0 }
theorem clears3:Clears 84 clear3 false false:=by
 intro w p f tv cv ht1 hc1 hp
 have hlt:=(Array.getElem?_eq_some_iff.1 hp).1
 refine n81s (R:=retR _) ?_;unfold n81
 simp (disch:=try exact DI) only [↓PR,QR,Int.reduceBEq,Int.reduceBNe,Int.reduceLT,Int.reduceLE,Int.reduceGT,Int.reduceGE,Int.reduceNeg,Sw.joinK_eq,(cells_of_heap hp).1,(cells_of_heap hp).2]
 refine ⟨?_,fun a e hp'=>?_⟩
 · simp only [heap_set_map,hp,Option.map_some,setObj_cells,List.setIfInBounds_toArray,List.set_cons_zero,List.set_cons_succ,Bool.false_eq_true,if_false,if_true]
   try rfl
 · exact ee
def clear4 (f:FieldD):FieldD:={ f with base:=0,terms:=[] }
theorem clears4:Clears 86 clear4 true false:=by
 intro w p f tv cv ht1 hc1 hp
 have hlt:=(Array.getElem?_eq_some_iff.1 hp).1
 refine n83s (R:=retR _) ?_;unfold n83
 simp (disch:=try exact DI) only [↓PR,QR,Int.reduceBEq,Int.reduceBNe,Int.reduceLT,Int.reduceLE,Int.reduceGT,Int.reduceGE,Int.reduceNeg,Sw.joinK_eq,(cells_of_heap hp).1,(cells_of_heap hp).2]
 refine ⟨?_,fun a e hp'=>?_⟩
 · simp only [heap_set_map,hp,Option.map_some,setObj_cells,List.setIfInBounds_toArray,List.set_cons_zero,List.set_cons_succ,Bool.false_eq_true,if_false,if_true]
   try rfl
 · exact ee
def clear5 (f:FieldD):FieldD:={ f with low:=0,high:=0 }
theorem clears5:Clears 88 clear5 false false:=by
 intro w p f tv cv ht1 hc1 hp
 have hlt:=(Array.getElem?_eq_some_iff.1 hp).1
 refine n84s (R:=retR _) ?_;unfold n84
 simp (disch:=try exact DI) only [↓PR,QR,Int.reduceBEq,Int.reduceBNe,Int.reduceLT,Int.reduceLE,Int.reduceGT,Int.reduceGE,Int.reduceNeg,Sw.joinK_eq,(cells_of_heap hp).1,(cells_of_heap hp).2]
 refine ⟨?_,fun a e hp'=>?_⟩
 · simp only [heap_set_map,hp,Option.map_some,setObj_cells,List.setIfInBounds_toArray,List.set_cons_zero,List.set_cons_succ,Bool.false_eq_true,if_false,if_true]
   try rfl
 · exact ee
def clear6 (f:FieldD):FieldD:={ f with loose:=false,high:=0 }
theorem clears6:Clears 90 clear6 false false:=by
 intro w p f tv cv ht1 hc1 hp
 have hlt:=(Array.getElem?_eq_some_iff.1 hp).1
 refine n65s (R:=retR _) ?_;unfold n65
 simp (disch:=try exact DI) only [↓PR,QR,Int.reduceBEq,Int.reduceBNe,Int.reduceLT,Int.reduceLE,Int.reduceGT,Int.reduceGE,Int.reduceNeg,Sw.joinK_eq,(cells_of_heap hp).1,(cells_of_heap hp).2]
 refine ⟨?_,fun a e hp'=>?_⟩
 · simp only [heap_set_map,hp,Option.map_some,setObj_cells,List.setIfInBounds_toArray,List.set_cons_zero,List.set_cons_succ,Bool.false_eq_true,if_false,if_true]
   try rfl
 · exact ee
def clear7 (f:FieldD):FieldD:={ f with of:=ByteArray.empty,base:=0,terms:=[] }
theorem clears7:Clears 92 clear7 true false:=by
 intro w p f tv cv ht1 hc1 hp
 have hlt:=(Array.getElem?_eq_some_iff.1 hp).1
 refine n67s (R:=retR _) ?_;unfold n67
 simp (disch:=try exact DI) only [↓PR,QR,Int.reduceBEq,Int.reduceBNe,Int.reduceLT,Int.reduceLE,Int.reduceGT,Int.reduceGE,Int.reduceNeg,Sw.joinK_eq,(cells_of_heap hp).1,(cells_of_heap hp).2]
 refine ⟨?_,fun a e hp'=>?_⟩
 · simp only [heap_set_map,hp,Option.map_some,setObj_cells,List.setIfInBounds_toArray,List.set_cons_zero,List.set_cons_succ,Bool.false_eq_true,if_false,if_true]
   try rfl
 · exact ee
def clear8 (f:FieldD):FieldD:={ f with of:=ByteArray.empty }
theorem clears8:Clears 95 clear8 false false:=by
 intro w p f tv cv ht1 hc1 hp
 have hlt:=(Array.getElem?_eq_some_iff.1 hp).1
 refine n69s (R:=retR _) ?_;unfold n69
 simp (disch:=try exact DI) only [↓PR,QR,Int.reduceBEq,Int.reduceBNe,Int.reduceLT,Int.reduceLE,Int.reduceGT,Int.reduceGE,Int.reduceNeg,Sw.joinK_eq,(cells_of_heap hp).1,(cells_of_heap hp).2]
 refine ⟨?_,fun a e hp'=>?_⟩
 · simp only [heap_set_map,hp,Option.map_some,setObj_cells,List.setIfInBounds_toArray,List.set_cons_zero,List.set_cons_succ,Bool.false_eq_true,if_false,if_true]
   try rfl
 · exact ee
def clear9 (f:FieldD):FieldD:={ f with tag:=ByteArray.empty,cases:=[] }
theorem clears9:Clears 97 clear9 false true:=by
 intro w p f tv cv ht1 hc1 hp
 have hlt:=(Array.getElem?_eq_some_iff.1 hp).1
 refine n71s (R:=retR _) ?_;unfold n71
 simp (disch:=try exact DI) only [↓PR,QR,Int.reduceBEq,Int.reduceBNe,Int.reduceLT,Int.reduceLE,Int.reduceGT,Int.reduceGE,Int.reduceNeg,Sw.joinK_eq,(cells_of_heap hp).1,(cells_of_heap hp).2]
 refine ⟨?_,fun a e hp'=>?_⟩
 · simp only [heap_set_map,hp,Option.map_some,setObj_cells,List.setIfInBounds_toArray,List.set_cons_zero,List.set_cons_succ,Bool.false_eq_true,if_false,if_true]
   try rfl
 · exact ee
def clear10 (f:FieldD):FieldD:={ f with bits:=0 }
theorem clears10:Clears 99 clear10 false false:=by
 intro w p f tv cv ht1 hc1 hp
 have hlt:=(Array.getElem?_eq_some_iff.1 hp).1
 refine n72s (R:=retR _) ?_;unfold n72
 simp (disch:=try exact DI) only [↓PR,QR,Int.reduceBEq,Int.reduceBNe,Int.reduceLT,Int.reduceLE,Int.reduceGT,Int.reduceGE,Int.reduceNeg,Sw.joinK_eq,(cells_of_heap hp).1,(cells_of_heap hp).2]
 refine ⟨?_,fun a e hp'=>?_⟩
 · simp only [heap_set_map,hp,Option.map_some,setObj_cells,List.setIfInBounds_toArray,List.set_cons_zero,List.set_cons_succ,Bool.false_eq_true,if_false,if_true]
   try rfl
 · exact ee
def clear11 (f:FieldD):FieldD:={ f with fr:=ByteArray.empty,check:=0 }
theorem clears11:Clears 101 clear11 false false:=by
 intro w p f tv cv ht1 hc1 hp
 have hlt:=(Array.getElem?_eq_some_iff.1 hp).1
 refine n74s (R:=retR _) ?_;unfold n74
 simp (disch:=try exact DI) only [↓PR,QR,Int.reduceBEq,Int.reduceBNe,Int.reduceLT,Int.reduceLE,Int.reduceGT,Int.reduceGE,Int.reduceNeg,Sw.joinK_eq,(cells_of_heap hp).1,(cells_of_heap hp).2]
 refine ⟨?_,fun a e hp'=>?_⟩
 · simp only [heap_set_map,hp,Option.map_some,setObj_cells,List.setIfInBounds_toArray,List.set_cons_zero,List.set_cons_succ,Bool.false_eq_true,if_false,if_true]
   try rfl
 · exact ee
def clear12 (f:FieldD):FieldD:={ f with of:=ByteArray.empty,base:=0,terms:=[],key:=0 }
theorem clears12:Clears 103 clear12 true false:=by
 intro w p f tv cv ht1 hc1 hp
 have hlt:=(Array.getElem?_eq_some_iff.1 hp).1
 refine n77s (R:=retR _) ?_;unfold n77
 simp (disch:=try exact DI) only [↓PR,QR,Int.reduceBEq,Int.reduceBNe,Int.reduceLT,Int.reduceLE,Int.reduceGT,Int.reduceGE,Int.reduceNeg,Sw.joinK_eq,(cells_of_heap hp).1,(cells_of_heap hp).2]
 refine ⟨?_,fun a e hp'=>?_⟩
 · simp only [heap_set_map,hp,Option.map_some,setObj_cells,List.setIfInBounds_toArray,List.set_cons_zero,List.set_cons_succ,Bool.false_eq_true,if_false,if_true]
   try rfl
 · exact ee
abbrev kindEnc:Int→Value:=fun n => .int .i64 n
def KindsIn (L:List (Int×Value×Nat)):Prop:=(∀ k,¬ (1≤k∧k≤12)→Sw.look L k=none)∧Sw.look L 1=some (.agg #[.func (.func 78) #[] #[],.func (.func 79) #[] #[]])∧Sw.look L 2=some (.agg #[.func (.func 82) #[] #[],.func (.func 83) #[] #[]])∧Sw.look L 3=some (.agg #[.func (.func 84) #[] #[],.func (.func 85) #[] #[]])∧Sw.look L 4=some (.agg #[.func (.func 86) #[] #[],.func (.func 87) #[] #[]])∧Sw.look L 5=some (.agg #[.func (.func 88) #[] #[],.func (.func 89) #[] #[]])∧Sw.look L 6=some (.agg #[.func (.func 90) #[] #[],.func (.func 91) #[] #[]])∧Sw.look L 7=some (.agg #[.func (.func 92) #[] #[],.func (.func 93) #[] #[]])∧Sw.look L 8=some (.agg #[.func (.func 95) #[] #[],.func (.func 96) #[] #[]])∧Sw.look L 9=some (.agg #[.func (.func 97) #[] #[],.func (.func 98) #[] #[]])∧Sw.look L 10=some (.agg #[.func (.func 99) #[] #[],.func (.func 100) #[] #[]])∧Sw.look L 11=some (.agg #[.func (.func 101) #[] #[],.func (.func 102) #[] #[]])∧Sw.look L 12=some (.agg #[.func (.func 103) #[] #[],.func (.func 104) #[] #[]])
theorem kind_step {w0 w:World} {m c:Nat} {L:List (Int×Value×Nat)} {QP:List PanicEntry→World→Prop} {ku:World→Prop} (hM:MapB w m kindEnc L c) (e:Ext w0 w) (hm:w0.heap.size≤m) (k:Int) (v:Value)
 (h:∀ w' L' c',MapB w' m kindEnc L' c'→(∀ k',Sw.look L' k'=if k'=k then some v else Sw.look L k')→Ext w0 w'→ku w'):opU Pg (Instr.mapUpdate 123 (.map (some m)) (.int .i64 k) v) QP w ku:=by
 rw [op_mapUpdate Tryz.underlying123 (KeyOK.int Tryz.underlying46) hM k v]
 exact h _ _ _ (hM.put k v) (fun k'=>look_put _ _ _ _ _) (e.putObj hm _)
theorem kinds_ret (w0:World):Ret Pg 69 #[] w0 fun r w'=>∃ m L c,r = .map (some m)∧w0.heap.size≤m∧MapB w' m kindEnc L c∧KindsIn L∧Ext w0 w':=by
 refine n63s (R:=retR _) ?_;unfold n63
 simp (disch:=try exact DI) only [↓PR,QR,Int.reduceBEq,Int.reduceBNe,Int.reduceLT,Int.reduceLE,Int.reduceGT,Int.reduceGE,Int.reduceNeg]
 have hM0:MapB (w0.alloc (.map #[] 0)) w0.heap.size kindEnc [] 0:=MapB.new w0 _
 have e0:Ext w0 (w0.alloc (.map #[] 0)):=ee
 refine kind_step hM0 e0 (Nat.le_refl _) 1 _ (fun w1 L1 c1 hM1 hl1 e1=>?_)
 simp (disch:=try exact DI) only [↓PR,QR,Int.reduceBEq,Int.reduceBNe,Int.reduceLT,Int.reduceLE,Int.reduceGT,Int.reduceGE,Int.reduceNeg]
 refine kind_step hM1 e1 (Nat.le_refl _) 2 _ (fun w2 L2 c2 hM2 hl2 e2=>?_)
 simp (disch:=try exact DI) only [↓PR,QR,Int.reduceBEq,Int.reduceBNe,Int.reduceLT,Int.reduceLE,Int.reduceGT,Int.reduceGE,Int.reduceNeg]
 refine kind_step hM2 e2 (Nat.le_refl _) 3 _ (fun w3 L3 c3 hM3 hl3 e3=>?_)
 simp (disch:=try exact DI) only [↓PR,QR,Int.reduceBEq,Int.reduceBNe,Int.reduceLT,Int.reduceLE,Int.reduceGT,Int.reduceGE,Int.reduceNeg]
 refine kind_step hM3 e3 (Nat.le_refl _) 4 _ (fun w4 L4 c4 hM4 hl4 e4=>?_)
 simp (disch:=try exact DI) only [↓PR,QR,Int.reduceBEq,Int.reduceBNe,Int.reduceLT,Int.reduceLE,Int.reduceGT,Int.reduceGE,Int.reduceNeg]
 refine kind_step hM4 e4 (Nat.le_refl _) 5 _ (fun w5 L5 c5 hM5 hl5 e5=>?_)
 simp (disch:=try exact DI) only [↓PR,QR,Int.reduceBEq,Int.reduceBNe,Int.reduceLT,Int.reduceLE,Int.reduceGT,Int.reduceGE,Int.reduceNeg]
 refine kind_step hM5 e5 (Nat.le_refl _) 6 _ (fun w6 L6 c6 hM6 hl6 e6=>?_)
 simp (disch:=try exact DI) only [↓PR,QR,Int.reduceBEq,Int.reduceBNe,Int.reduceLT,Int.reduceLE,Int.reduceGT,Int.reduceGE,Int.reduceNeg]
 refine kind_step hM6 e6 (Nat.le_refl _) 7 _ (fun w7 L7 c7 hM7 hl7 e7=>?_)
 simp (disch:=try exact DI) only [↓PR,QR,Int.reduceBEq,Int.reduceBNe,Int.reduceLT,Int.reduceLE,Int.reduceGT,Int.reduceGE,Int.reduceNeg]
 refine kind_step hM7 e7 (Nat.le_refl _) 8 _ (fun w8 L8 c8 hM8 hl8 e8=>?_)
 simp (disch:=try exact DI) only [↓PR,QR,Int.reduceBEq,Int.reduceBNe,Int.reduceLT,Int.reduceLE,Int.reduceGT,Int.reduceGE,Int.reduceNeg]
 refine kind_step hM8 e8 (Nat.le_refl _) 9 _ (fun w9 L9 c9 hM9 hl9 e9=>?_)
 simp (disch:=try exact DI) only [↓PR,QR,Int.reduceBEq,Int.reduceBNe,Int.reduceLT,Int.reduceLE,Int.reduceGT,Int.reduceGE,Int.reduceNeg]
 refine kind_step hM9 e9 (Nat.le_refl _) 10 _ (fun w10 L10 c10 hM10 hl10 e10=>?_)
 simp (disch:=try exact DI) only [↓PR,QR,Int.reduceBEq,Int.reduceBNe,Int.reduceLT,Int.reduceLE,Int.reduceGT,Int.reduceGE,Int.reduceNeg]
 refine kind_step hM10 e10 (Nat.le_refl _) 11 _ (fun w11 L11 c11 hM11 hl11 e11=>?_)
 simp (disch:=try exact DI) only [↓PR,QR,Int.reduceBEq,Int.reduceBNe,Int.reduceLT,Int.reduceLE,Int.reduceGT,Int.reduceGE,Int.reduceNeg]
 refine kind_step hM11 e11 (Nat.le_refl _) 12 _ (fun w12 L12 c12 hM12 hl12 e12=>?_)
 simp (disch:=try exact DI) only [↓PR,QR,Int.reduceBEq,Int.reduceBNe,Int.reduceLT,Int.reduceLE,Int.reduceGT,Int.reduceGE,Int.reduceNeg]
 have hn:∀ k,Sw.look ([]:List (Int×Value×Nat)) k=none:=fun _=>rfl
 refine ⟨_,_,_,rfl,Nat.le_refl _,hM12,⟨fun k hk=>?_,?_,?_,?_,?_,?_,?_,?_,?_,?_,?_,?_,?_⟩,e12⟩
 · rw [hl12,if_neg (by omega),hl11,if_neg (by omega),hl10,if_neg (by omega),hl9,if_neg (by omega),hl8,if_neg (by omega),hl7,if_neg (by omega),hl6,if_neg (by omega),hl5,if_neg (by omega),hl4,if_neg (by omega),hl3,if_neg (by omega),hl2,if_neg (by omega),hl1,if_neg (by omega),hn]
 · rw [hl12,if_neg (by decide),hl11,if_neg (by decide),hl10,if_neg (by decide),hl9,if_neg (by decide),hl8,if_neg (by decide),hl7,if_neg (by decide),hl6,if_neg (by decide),hl5,if_neg (by decide),hl4,if_neg (by decide),hl3,if_neg (by decide),hl2,if_neg (by decide),hl1,if_pos rfl]
 · rw [hl12,if_neg (by decide),hl11,if_neg (by decide),hl10,if_neg (by decide),hl9,if_neg (by decide),hl8,if_neg (by decide),hl7,if_neg (by decide),hl6,if_neg (by decide),hl5,if_neg (by decide),hl4,if_neg (by decide),hl3,if_neg (by decide),hl2,if_pos rfl]
 · rw [hl12,if_neg (by decide),hl11,if_neg (by decide),hl10,if_neg (by decide),hl9,if_neg (by decide),hl8,if_neg (by decide),hl7,if_neg (by decide),hl6,if_neg (by decide),hl5,if_neg (by decide),hl4,if_neg (by decide),hl3,if_pos rfl]
 · rw [hl12,if_neg (by decide),hl11,if_neg (by decide),hl10,if_neg (by decide),hl9,if_neg (by decide),hl8,if_neg (by decide),hl7,if_neg (by decide),hl6,if_neg (by decide),hl5,if_neg (by decide),hl4,if_pos rfl]
 · rw [hl12,if_neg (by decide),hl11,if_neg (by decide),hl10,if_neg (by decide),hl9,if_neg (by decide),hl8,if_neg (by decide),hl7,if_neg (by decide),hl6,if_neg (by decide),hl5,if_pos rfl]
 · rw [hl12,if_neg (by decide),hl11,if_neg (by decide),hl10,if_neg (by decide),hl9,if_neg (by decide),hl8,if_neg (by decide),hl7,if_neg (by decide),hl6,if_pos rfl]
 · rw [hl12,if_neg (by decide),hl11,if_neg (by decide),hl10,if_neg (by decide),hl9,if_neg (by decide),hl8,if_neg (by decide),hl7,if_pos rfl]
 · rw [hl12,if_neg (by decide),hl11,if_neg (by decide),hl10,if_neg (by decide),hl9,if_neg (by decide),hl8,if_pos rfl]
 · rw [hl12,if_neg (by decide),hl11,if_neg (by decide),hl10,if_neg (by decide),hl9,if_pos rfl]
 · rw [hl12,if_neg (by decide),hl11,if_neg (by decide),hl10,if_pos rfl]
 · rw [hl12,if_neg (by decide),hl11,if_pos rfl]
 · rw [hl12,if_pos rfl]
def bareF (f:FieldD):FieldD:={ name:=f.name,kind:=f.kind,bits:=0,little:=false,loose:=false,low:=0,high:=0,base:=0,terms:=[],of:=ByteArray.empty,tag:=ByteArray.empty,fr:=ByteArray.empty,cases:=[],check:=0,key:=0 }
section
variable {w0:World} {cb md ms:Nat} {deps strs:List (ByteArray×Value)} {at_ fld:Int} {fs:List FieldD}
theorem exa_tail {a0:World} (e00:Ext a0 w0) (h:Chk w0 cb md ms deps strs at_ fld fs) (p3 p6:Nat) (f:FieldD) (tv cv:Value) (hT:TermsOf w0 tv f.terms) (hC:CasesOf w0 cv f.cases) (o3:w0.heap[p3]?=some (.cells (fieldCells f tv cv).toArray 52 (0,0)))
 (g1 g2:FuncId) (o6:w0.heap[p6]?=some (.cells #[.func (.func g1) #[] #[],.func (.func g2) #[] #[]] 121 (0,0))) (hc1:Callable Pg g1) (hc2:Callable Pg g2) (cl:FieldD→FieldD) (ct cc:Bool) (hcl:Clears g1 cl ct cc)
 (hterms:(cl f).terms=if ct then [] else f.terms) (hcases:(cl f).cases=if cc then [] else f.cases) (code:Int)
 (hchk:∀ w v,Chk w cb md ms deps strs at_ fld fs→FieldVal w v f→Calls Pg g2 #[.pointer (some ⟨cb,0,none⟩),v] w (flwR w at_ fld code)) :
 n54c3 (.pointer (some ⟨cb,0,none⟩)) (.pointer (some ⟨p3,0,none⟩)) (.pointer (some ⟨p6,0,none⟩)) (flwR a0 at_ fld (orC (needC (decide (cl f=bareF f)) 5) code)) w0:=by
 have ht1:=SliceOf.oneCell hT
 have hv1:=SliceOf.oneCell hC
 have l6:p6 < w0.heap.size:=(Array.getElem?_eq_some_iff.1 o6).1
 unfold n54c3
 simp (disch:=try exact DI) only [↓PR,QR,Int.reduceBEq,Int.reduceBNe,Int.reduceLT,Int.reduceLE,Int.reduceGT,Int.reduceGE,Int.reduceNeg,(cells_of_heap o3).1,(cells_of_heap o6).1]
 have e1:Ext w0 (w0.alloc (Obj.cells (fieldCells f tv cv).toArray 52)):=ee
 have o7:=heap_new w0 (fieldCells f tv cv).toArray 52
 rw [callV_func hc1]
 simp only [Array.empty_append,Array.append_empty]
 refine callK_ret (hcl _ w0.heap.size f tv cv ht1 hv1 o7) ?_
 rintro r w2 ⟨o7',hE⟩
 have e2:=hE w0 e1 (Nat.le_refl _)
 clear hE o7 e1
 have hT2:TermsOf w2 (if ct then .slice none 0 0 else tv) (cl f).terms:=by
  rw [hterms]
  cases ct
  · exact TermsOf.ext hT e2
  · exact SliceOf.nil _ _ _
 have hC2:CasesOf w2 (if cc then .slice none 0 0 else cv) (cl f).cases:=by
  rw [hcases]
  cases cc
  · exact CasesOf.ext hC e2
  · exact SliceOf.nil _ _ _
 generalize (if ct=true then Value.slice none 0 0 else tv)=tv2 at o7' hT2
 generalize (if cc=true then Value.slice none 0 0 else cv)=cv2 at o7' hC2
 generalize cl f=g at o7' hT2 hC2 ⊢
 have o3':=e2.obj o3
 clear hterms hcases hcl
 unfold n54c2
 have hL:Loads Pg w2 52 ⟨w0.heap.size,0,none⟩ (.agg (fieldCells g tv2 cv2).toArray):=Loads.many ty52 rfl (fun j v hv=>by rw [Addr.add_lit,(cells_of_heap o7').1];simpa using hv)
 refine (op_load hL).mpr ?_
 simp (disch:=try exact DI) only [↓PR,QR,Int.reduceBEq,Int.reduceBNe,Int.reduceLT,Int.reduceLE,Int.reduceGT,Int.reduceGE,Int.reduceNeg,(cells_of_heap o3').1]
 refine zcr (sameField_ret w2 _ _ g (bareF f) ⟨_,_,rfl,hT2,hC2⟩ ⟨.slice none 0 0,.slice none 0 0,rfl,SliceOf.nil _ _ _,SliceOf.nil _ _ _⟩) fun w3 e3=>?_
 have e23:=e2.trans e3
 refine callK_flw (need_flw (h.ext e23) _ 5 (by decide)) (fun w4 e4 h0=>?_) (fun w4 e4 h0=>?_)
 · rw [h0,orC_zero]
   have e24:=e23.trans e4
   simp (disch:=try exact DI) only [↓PR,QR,Int.reduceBEq,Int.reduceBNe,Int.reduceLT,Int.reduceLE,Int.reduceGT,Int.reduceGE,Int.reduceNeg,↓n54c1,(cells_of_heap (e24.obj o6)).1,(cells_of_heap (e24.obj o3)).1]
   rw [callV_func hc2]
   simp only [Array.empty_append,Array.append_empty]
   refine callK_flw (hchk w4 _ (h.ext e24) ⟨tv,cv,rfl,TermsOf.ext hT e24,CasesOf.ext hC e24⟩) (fun w5 e5 h0=>?_) (fun w5 e5 h0=>?_)
   · exact flwR_ret (e00.trans (e24.trans e5)) h0
   · exact flwR_pan (e00.trans (e24.trans e5)) rfl h0
 · rw [orC_ne h0]
   exact flwR_pan (e00.trans (e23.trans e4)) rfl h0
end
def checkC (bef:List FieldD) (deps strs:List (ByteArray×Value)) (f:FieldD):Int :=
 if f.kind=1 then orC (needC (bitsB f) 6) (withinC (topF f) 0 [f.low,f.high]) else
 if f.kind=2 then orC (needC (bitsB f) 6) (withinC (topF f) 0 [f.low]) else
 if f.kind=3 then withinC 34359738367 0 [f.low,f.high] else
 if f.kind=4 then sizedC (numR bef) f else
 if f.kind=5 then orC (withinC 255 0 [f.low]) (withinC 1048576 0 [f.high]) else
 if f.kind=6 then withinC 1048576 2 [f.high] else
 if f.kind=7 then orC (needC (lastOf deps f.of).isSome 8) (sizedC (numR bef) f) else
 if f.kind=8 then needC (lastOf deps f.of).isSome 8 else
 if f.kind=9 then casesC bef deps f else
 if f.kind=10 then needC (padB f) 6 else
 if f.kind=11 then orC (withinC 3 1 [f.check]) (needC (bef.any fun o=>decide (o.name=f.fr)) 8) else
 if f.kind=12 then orC (withinC 4294967295 0 [f.key]) (orC (needC (strB strs f.of) 8) (sizedC (numR bef) f)) else 0
def clearK (f:FieldD):FieldD :=
 if f.kind=1 then clear1 f else
 if f.kind=2 then clear2 f else
 if f.kind=3 then clear3 f else
 if f.kind=4 then clear4 f else
 if f.kind=5 then clear5 f else
 if f.kind=6 then clear6 f else
 if f.kind=7 then clear7 f else
 if f.kind=8 then clear8 f else
 if f.kind=9 then clear9 f else
 if f.kind=10 then clear10 f else
 if f.kind=11 then clear11 f else
 if f.kind=12 then clear12 f else f
def examineC (bef:List FieldD) (deps strs:List (ByteArray×Value)) (f:FieldD):Int :=
 orC (needC (nameB f.name) 1) (orC (needC (!bef.any fun o=>decide (o.name=f.name)) 2) (orC (needC (decide (1≤f.kind∧f.kind≤12)) 4) (orC (needC (decide (clearK f=bareF f)) 5) (checkC bef deps strs f))))
section
variable {w0:World} {cb md ms:Nat} {deps strs:List (ByteArray×Value)} {at_ fld:Int} {fs:List FieldD}
theorem exa_mid {a0:World} (e00:Ext a0 w0) (h:Chk w0 cb md ms deps strs at_ fld fs) (i:Nat) (hi:fld=i) (hlt:i < fs.length) (p3 p6:Nat) (f:FieldD) (tv cv:Value) (ht:f.terms.length≤1048576) (hT:TermsOf w0 tv f.terms) (hC:CasesOf w0 cv f.cases) (o3:w0.heap[p3]?=some (.cells (fieldCells f tv cv).toArray 52 (0,0)))
 (L:List (Int×Value×Nat)) (hL:KindsIn L) (a b:Value) (ok:Bool) (hab:(Sw.look L f.kind).getD (.agg #[.nilFunc,.nilFunc]) = .agg #[a,b]) (hok:ok=(Sw.look L f.kind).isSome) (o6:w0.heap[p6]?=some (.cells #[a,b] 121 (0,0))) :
 callK Pg 37 #[.pointer (some ⟨cb,0,none⟩),.bool ok,.int .i64 4] (panK (flwR a0 at_ fld (orC (needC (decide (1≤f.kind∧f.kind≤12)) 4) (orC (needC (decide (clearK f=bareF f)) 5) (checkC (fs.take i) deps strs f))))) w0
  (fun _ w=>n54c3 (.pointer (some ⟨cb,0,none⟩)) (.pointer (some ⟨p3,0,none⟩)) (.pointer (some ⟨p6,0,none⟩)) (flwR a0 at_ fld (orC (needC (decide (1≤f.kind∧f.kind≤12)) 4) (orC (needC (decide (clearK f=bareF f)) 5) (checkC (fs.take i) deps strs f)))) w):=by
 obtain ⟨hn,k1,k2,k3,k4,k5,k6,k7,k8,k9,k10,k11,k12⟩:=hL
 by_cases hk:1≤f.kind∧f.kind≤12
 · have hd:decide (1≤f.kind∧f.kind≤12)=true:=by simpa using hk
   rw [hd]
   show callK _ _ _ (panK (flwR a0 at_ fld (orC 0 _))) _ _
   simp only [show needC true 4=0 from rfl,orC_zero]
   have hs:ok=true:=by
    rw [hok]
    have:f.kind=1∨f.kind=2∨f.kind=3∨f.kind=4∨f.kind=5∨f.kind=6∨f.kind=7∨f.kind=8∨f.kind=9∨f.kind=10∨f.kind=11∨f.kind=12:=by omega
    rcases this with h | h | h | h | h | h | h | h | h | h | h | h<;>simp only [h,k1,k2,k3,k4,k5,k6,k7,k8,k9,k10,k11,k12,Option.isSome_some]
   subst hs
   refine callK_flw (need_flw h true 4 (by decide)) (fun w1 e1 _=>?_) (fun w1 e1 h0=>absurd rfl h0)
   have hw:=h.ext e1
   have hT1:=TermsOf.ext hT e1
   have hC1:=CasesOf.ext hC e1
   have o31:=e1.obj o3
   have this:f.kind=1∨f.kind=2∨f.kind=3∨f.kind=4∨f.kind=5∨f.kind=6∨f.kind=7∨f.kind=8∨f.kind=9∨f.kind=10∨f.kind=11∨f.kind=12:=by omega
   rcases this with hkk | hkk | hkk | hkk | hkk | hkk | hkk | hkk | hkk | hkk | hkk | hkk
   · rw [hkk,k1,Option.getD_some] at hab
     injection hab with hab
     have hab:=congrArg Array.toList hab
     simp only [List.cons.injEq,and_true] at hab
     obtain ⟨rfl,rfl⟩:=hab
     have hcl:clearK f=clear1 f:=by unfold clearK;simp [hkk]
     have hcc:checkC (fs.take i) deps strs f=orC (needC (bitsB f) 6) (withinC (topF f) 0 [f.low,f.high]):=by unfold checkC;simp [hkk]
     rw [hcl,hcc]
     exact exa_tail (e00.trans e1) hw p3 p6 f tv cv hT1 hC1 o31 _ _ (e1.obj o6) c78 c79 clear1 false false clears1 rfl rfl _ (fun w v hw hf=>uint_flw hw v f hf)
   · rw [hkk,k2,Option.getD_some] at hab
     injection hab with hab
     have hab:=congrArg Array.toList hab
     simp only [List.cons.injEq,and_true] at hab
     obtain ⟨rfl,rfl⟩:=hab
     have hcl:clearK f=clear2 f:=by unfold clearK;simp [hkk]
     have hcc:checkC (fs.take i) deps strs f=orC (needC (bitsB f) 6) (withinC (topF f) 0 [f.low]):=by unfold checkC;simp [hkk]
     rw [hcl,hcc]
     exact exa_tail (e00.trans e1) hw p3 p6 f tv cv hT1 hC1 o31 _ _ (e1.obj o6) c82 c83 clear2 false false clears2 rfl rfl _ (fun w v hw hf=>const_flw hw v f hf)
   · rw [hkk,k3,Option.getD_some] at hab
     injection hab with hab
     have hab:=congrArg Array.toList hab
     simp only [List.cons.injEq,and_true] at hab
     obtain ⟨rfl,rfl⟩:=hab
     have hcl:clearK f=clear3 f:=by unfold clearK;simp [hkk]
     have hcc:checkC (fs.take i) deps strs f=withinC 34359738367 0 [f.low,f.high]:=by unfold checkC;simp [hkk]
     rw [hcl,hcc]
     exact exa_tail (e00.trans e1) hw p3 p6 f tv cv hT1 hC1 o31 _ _ (e1.obj o6) c84 c85 clear3 false false clears3 rfl rfl _ (fun w v hw hf=>varint_flw hw v f hf)
   · rw [hkk,k4,Option.getD_some] at hab
     injection hab with hab
     have hab:=congrArg Array.toList hab
     simp only [List.cons.injEq,and_true] at hab
     obtain ⟨rfl,rfl⟩:=hab
     have hcl:clearK f=clear4 f:=by unfold clearK;simp [hkk]
     have hcc:checkC (fs.take i) deps strs f=sizedC (numR (fs.take i)) f:=by unfold checkC;simp [hkk]
     rw [hcl,hcc]
     exact exa_tail (e00.trans e1) hw p3 p6 f tv cv hT1 hC1 o31 _ _ (e1.obj o6) c86 c87 clear4 true false clears4 rfl rfl _ (fun w v hw hf=>sized_flw hw i hi hlt v f hf ht)
   · rw [hkk,k5,Option.getD_some] at hab
     injection hab with hab
     have hab:=congrArg Array.toList hab
     simp only [List.cons.injEq,and_true] at hab
     obtain ⟨rfl,rfl⟩:=hab
     have hcl:clearK f=clear5 f:=by unfold clearK;simp [hkk]
     have hcc:checkC (fs.take i) deps strs f=orC (withinC 255 0 [f.low]) (withinC 1048576 0 [f.high]):=by unfold checkC;simp [hkk]
     rw [hcl,hcc]
     exact exa_tail (e00.trans e1) hw p3 p6 f tv cv hT1 hC1 o31 _ _ (e1.obj o6) c88 c89 clear5 false false clears5 rfl rfl _ (fun w v hw hf=>until_flw hw v f hf)
   · rw [hkk,k6,Option.getD_some] at hab
     injection hab with hab
     have hab:=congrArg Array.toList hab
     simp only [List.cons.injEq,and_true] at hab
     obtain ⟨rfl,rfl⟩:=hab
     have hcl:clearK f=clear6 f:=by unfold clearK;simp [hkk]
     have hcc:checkC (fs.take i) deps strs f=withinC 1048576 2 [f.high]:=by unfold checkC;simp [hkk]
     rw [hcl,hcc]
     exact exa_tail (e00.trans e1) hw p3 p6 f tv cv hT1 hC1 o31 _ _ (e1.obj o6) c90 c91 clear6 false false clears6 rfl rfl _ (fun w v hw hf=>headers_flw hw v f hf)
   · rw [hkk,k7,Option.getD_some] at hab
     injection hab with hab
     have hab:=congrArg Array.toList hab
     simp only [List.cons.injEq,and_true] at hab
     obtain ⟨rfl,rfl⟩:=hab
     have hcl:clearK f=clear7 f:=by unfold clearK;simp [hkk]
     have hcc:checkC (fs.take i) deps strs f=orC (needC (lastOf deps f.of).isSome 8) (sizedC (numR (fs.take i)) f):=by unfold checkC;simp [hkk]
     rw [hcl,hcc]
     exact exa_tail (e00.trans e1) hw p3 p6 f tv cv hT1 hC1 o31 _ _ (e1.obj o6) c92 c93 clear7 true false clears7 rfl rfl _ (fun w v hw hf=>list_flw hw i hi hlt v f hf ht)
   · rw [hkk,k8,Option.getD_some] at hab
     injection hab with hab
     have hab:=congrArg Array.toList hab
     simp only [List.cons.injEq,and_true] at hab
     obtain ⟨rfl,rfl⟩:=hab
     have hcl:clearK f=clear8 f:=by unfold clearK;simp [hkk]
     have hcc:checkC (fs.take i) deps strs f=needC (lastOf deps f.of).isSome 8:=by unfold checkC;simp [hkk]
     rw [hcl,hcc]
     exact exa_tail (e00.trans e1) hw p3 p6 f tv cv hT1 hC1 o31 _ _ (e1.obj o6) c95 c96 clear8 false false clears8 rfl rfl _ (fun w v hw hf=>message_flw hw v f hf)
   · rw [hkk,k9,Option.getD_some] at hab
     injection hab with hab
     have hab:=congrArg Array.toList hab
     simp only [List.cons.injEq,and_true] at hab
     obtain ⟨rfl,rfl⟩:=hab
     have hcl:clearK f=clear9 f:=by unfold clearK;simp [hkk]
     have hcc:checkC (fs.take i) deps strs f=casesC (fs.take i) deps f:=by unfold checkC;simp [hkk]
     rw [hcl,hcc]
     exact exa_tail (e00.trans e1) hw p3 p6 f tv cv hT1 hC1 o31 _ _ (e1.obj o6) c97 c98 clear9 false true clears9 rfl rfl _ (fun w v hw hf=>cases_flw hw i hi hlt v f hf)
   · rw [hkk,k10,Option.getD_some] at hab
     injection hab with hab
     have hab:=congrArg Array.toList hab
     simp only [List.cons.injEq,and_true] at hab
     obtain ⟨rfl,rfl⟩:=hab
     have hcl:clearK f=clear10 f:=by unfold clearK;simp [hkk]
     have hcc:checkC (fs.take i) deps strs f=needC (padB f) 6:=by unfold checkC;simp [hkk]
     rw [hcl,hcc]
     exact exa_tail (e00.trans e1) hw p3 p6 f tv cv hT1 hC1 o31 _ _ (e1.obj o6) c99 c100 clear10 false false clears10 rfl rfl _ (fun w v hw hf=>pad_flw hw v f hf)
   · rw [hkk,k11,Option.getD_some] at hab
     injection hab with hab
     have hab:=congrArg Array.toList hab
     simp only [List.cons.injEq,and_true] at hab
     obtain ⟨rfl,rfl⟩:=hab
     have hcl:clearK f=clear11 f:=by unfold clearK;simp [hkk]
     have hcc:checkC (fs.take i) deps strs f=orC (withinC 3 1 [f.check]) (needC ((fs.take i).any fun o=>decide (o.name=f.fr)) 8):=by unfold checkC;simp [hkk]
     rw [hcl,hcc]
     exact exa_tail (e00.trans e1) hw p3 p6 f tv cv hT1 hC1 o31 _ _ (e1.obj o6) c101 c102 clear11 false false clears11 rfl rfl _ (fun w v hw hf=>check_flw hw i hi hlt v f hf)
   · rw [hkk,k12,Option.getD_some] at hab
     injection hab with hab
     have hab:=congrArg Array.toList hab
     simp only [List.cons.injEq,and_true] at hab
     obtain ⟨rfl,rfl⟩:=hab
     have hcl:clearK f=clear12 f:=by unfold clearK;simp [hkk]
     have hcc:checkC (fs.take i) deps strs f=orC (withinC 4294967295 0 [f.key]) (orC (needC (strB strs f.of) 8) (sizedC (numR (fs.take i)) f)):=by unfold checkC;simp [hkk]
     rw [hcl,hcc]
     exact exa_tail (e00.trans e1) hw p3 p6 f tv cv hT1 hC1 o31 _ _ (e1.obj o6) c103 c104 clear12 true false clears12 rfl rfl _ (fun w v hw hf=>view_flw hw i hi hlt v f hf ht)
 · have hd:decide (1≤f.kind∧f.kind≤12)=false:=by simpa using hk
   rw [hd]
   have hs:ok=false:=by rw [hok,hn _ hk];rfl
   subst hs
   refine callK_flw (need_flw h false 4 (by decide)) (fun w1 e1 h0=>absurd h0 (by decide)) (fun w1 e1 h0=>?_)
   exact flwR_pan (e00.trans e1) rfl h0
end
end Go.Proofs.YtiajhbbmgglmlaaGreat
namespace Go.Proofs.YtiajhbbmgglmlaaGreat
open Sw
open Go.RowKit (intOf Below)
section
variable {w0:World} {cb md ms:Nat} {deps strs:List (ByteArray×Value)} {at_ fld:Int} {fs:List FieldD}
theorem examine_flw (h:Chk w0 cb md ms deps strs at_ fld fs) (i:Nat) (hi:fld=i) (hlt:i < fs.length) (v:Value) (f:FieldD) (hf:FieldVal w0 v f) (ht:f.terms.length≤1048576) :
 Calls Pg 53 #[.pointer (some ⟨cb,0,none⟩),v] w0 (flwR w0 at_ fld (examineC (fs.take i) deps strs f)):=by
 obtain ⟨tv,cv,rfl,hT,hC,ht1,hc1⟩:=hf.op
 refine n54s ?_;unfold n54
 simp (disch:=try exact DI) only [↓PR,QR,Int.reduceBEq,Int.reduceBNe,Int.reduceLT,Int.reduceLE,Int.reduceGT,Int.reduceGE,Int.reduceNeg]
 generalize hW:World.alloc w0 _=W
 have e0:Ext w0 W:=by rw [← hW];exact ee
 have o3:W.heap[w0.heap.size]?=some (.cells (fieldCells f tv cv).toArray 52 (0,0)):=by rw [← hW];simp (disch:=try exact DI) only [↓PR,QR,Int.reduceBEq,Int.reduceBNe,Int.reduceLT,Int.reduceLE,Int.reduceGT,Int.reduceGE,Int.reduceNeg]
 clear hW
 refine zcr (Name_ret _ f.name) fun w1 e1=>?_
 have e01:=e0.trans e1
 unfold examineC
 refine callK_flw (need_flw (h.ext e01) _ 1 (by decide)) (fun w2 e2 h0=>?_) (fun w2 e2 h0=>?_)
 · rw [h0,orC_zero]
   have e02:=e01.trans e2
   have o32:=(e1.trans e2).obj o3
   refine drawK_intro ?_
   simp (disch:=try exact DI) only [↓PR,QR,Int.reduceBEq,Int.reduceBNe,Int.reduceLT,Int.reduceLE,Int.reduceGT,Int.reduceGE,Int.reduceNeg,↓n54c8,(cells_of_heap o32).1]
   have eD:Ext w0 w2.drew:=e02.wdrew
   refine callK_ret (before_ret (h.ext eD) i hi hlt) ?_
   rintro bv w3 ⟨hB,e3⟩
   refine ⟨e3,?_⟩
   have hb1:=SliceOf.oneCell hB
   simp (disch:=try exact DI) only [↓PR,QR,Int.reduceBEq,Int.reduceBNe,Int.reduceLT,Int.reduceLE,Int.reduceGT,Int.reduceGE,Int.reduceNeg]
   refine zcr (Field_ret w3 _ ⟨ByteArray.empty,fs.take i⟩ f.name ⟨bv,rfl,hB⟩) fun w4 e4=>?_
   refine ⟨e3.trans e4,?_⟩
   simp (disch:=try exact DI) only [↓PR,QR,Int.reduceBEq,Int.reduceBNe,Int.reduceLT,Int.reduceLE,Int.reduceGT,Int.reduceGE,Int.reduceNeg,↓n54c7]
   have e04:=eD.trans (e3.trans e4)
   have e24:Ext w2 w4:=(Ext.refl w2).wdrew.trans (e3.trans e4)
   refine callK_flw (need_flw (h.ext e04) _ 2 (by decide)) (fun w5 e5 h0=>?_) (fun w5 e5 h0=>?_)
   · rw [h0,orC_zero]
     have e05:=e04.trans e5
     have o35:=(e24.trans e5).obj o32
     clear e24 e04 e3 e4 hB eD e02 e01 e1 e2 o32
     refine drawK_intro ?_
     simp (disch:=try exact DI) only [↓PR,QR,Int.reduceBEq,Int.reduceBNe,Int.reduceLT,Int.reduceLE,Int.reduceGT,Int.reduceGE,Int.reduceNeg,↓n54c6,(cells_of_heap o35).1]
     have eD:Ext w5 w5.drew:=(Ext.refl _).wdrew
     have fin5:∀ (w':World) (m p6 c:Nat) (L:List (Int×Value×Nat)) (u0 u1:Value),Ext w5.drew w'→MapB w' m kindEnc L c→KindsIn L→w'.heap[p6]?=some (.cells #[u0,u1] 121 (0,0))→w5.heap.size≤p6 →
      n54c5 (.pointer (some ⟨p6,0,none⟩)) (.map (some m)) (.int .i64 f.kind) (KM w5.drew m kindEnc L c) (fun t5 t6 w=>callK Pg 37 #[.pointer (some ⟨cb,0,none⟩),t5,.int .i64 4] (panK (flwR w0 at_ fld (orC (needC (decide (1≤f.kind∧f.kind≤12)) 4) (orC (needC (decide (clearK f=bareF f)) 5) (checkC (fs.take i) deps strs f))))) w fun _ w=>n54c3 (.pointer (some ⟨cb,0,none⟩)) (.pointer (some ⟨w0.heap.size,0,none⟩)) t6 (flwR w0 at_ fld (orC (needC (decide (1≤f.kind∧f.kind≤12)) 4) (orC (needC (decide (clearK f=bareF f)) 5) (checkC (fs.take i) deps strs f)))) w)
       (flwR w0 at_ fld (orC (needC (decide (1≤f.kind∧f.kind≤12)) 4) (orC (needC (decide (clearK f=bareF f)) 5) (checkC (fs.take i) deps strs f)))) w':=by
      intro w' m p6 c L u0 u1 e' hM hL o6 hp6
      haveI:ClassNe (KM w5.drew m kindEnc L c):=⟨⟨w',e',hM⟩⟩
      unfold n54c5
      rw [qV_lookupKM Tryz.underlying123 (KeyOK.int Tryz.underlying46) ty121 ⟨w',e',hM⟩]
      obtain ⟨a,b,hab,ha,hb⟩:∃ a b,(Sw.look L f.kind).getD (.agg #[.nilFunc,.nilFunc]) = .agg #[a,b]∧a.oneCell'=true∧b.oneCell'=true:=by
       obtain ⟨hn,k1,k2,k3,k4,k5,k6,k7,k8,k9,k10,k11,k12⟩:=hL
       by_cases hk:1≤f.kind∧f.kind≤12
       · have this:f.kind=1∨f.kind=2∨f.kind=3∨f.kind=4∨f.kind=5∨f.kind=6∨f.kind=7∨f.kind=8∨f.kind=9∨f.kind=10∨f.kind=11∨f.kind=12:=by omega
         rcases this with h | h | h | h | h | h | h | h | h | h | h | h<;>simp only [h,k1,k2,k3,k4,k5,k6,k7,k8,k9,k10,k11,k12,Option.getD_some]<;>exact ⟨_,_,rfl,rfl,rfl⟩
       · rw [hn _ hk];exact ⟨_,_,rfl,rfl,rfl⟩
      rw [hab]
      simp (disch:=try exact DI) only [↓PR,QR,Int.reduceBEq,Int.reduceBNe,Int.reduceLT,Int.reduceLE,Int.reduceGT,Int.reduceGE,Int.reduceNeg,(cells_of_heap o6).1,(cells_of_heap o6).2]
      have e6:Ext w5.drew ((w'.setCell ⟨p6,0,none⟩ a).setCell ⟨p6,1,none⟩ b):=(e'.setCell (show w5.drew.heap.size≤(⟨p6,0,none⟩:Addr).block from hp6) _).setCell (show w5.drew.heap.size≤(⟨p6,1,none⟩:Addr).block from hp6) _
      refine ⟨⟨e6,(hM.setCell _ _).setCell _ _⟩,?_⟩
      have e06:=(e05.trans eD).trans e6
      have o6':=heap_set (o:=1) (heap_set (o:=0) o6 a) b
      exact exa_mid e06 (h.ext e06) i hi hlt _ p6 f tv cv ht (TermsOf.ext hT e06) (CasesOf.ext hC e06) ((eD.trans e6).obj o35) L hL a b _ hab rfl (by simpa using o6')
     refine ⟨?_,?_⟩
     · refine callK_ret (kinds_ret _) ?_
       rintro _ w6 ⟨m,L,c,rfl,hm,hM,hL,e6⟩
       refine narrowK_KM e6 hM ?_
       have h9:=fin5 (w6.alloc (.cells #[.nilFunc,.nilFunc] 121)) m w6.heap.size c L _ _ (e6.alloc _) (hM.ext ((Ext.refl _).alloc _)) hL (heap_new _ _ _) (by have:=e6.size;simpa using this)
       unfold n54c5 at h9
       unfold n54c4
       simp only [drew_wdrew]
       haveI:ClassNe (KM w5.drew m kindEnc L c):=⟨⟨w6,e6,hM⟩⟩
       rw [qV_lookupKM Tryz.underlying123 (KeyOK.int Tryz.underlying46) ty121 ⟨w6,e6,hM⟩] at h9 ⊢
       simp (disch:=try exact DI) only [↓PR,QR,Int.reduceBEq,Int.reduceBNe,Int.reduceLT,Int.reduceLE,Int.reduceGT,Int.reduceGE,Int.reduceNeg]
       simp only [↓Sw.GENQ] at h9
       exact ⟨⟨e6.alloc _,hM.ext ((Ext.refl _).alloc _)⟩,h9⟩
     · refine ⟨(Ext.refl _).alloc _,?_⟩
       refine callK_ret (kinds_ret _) ?_
       rintro _ w6 ⟨m,L,c,rfl,hm,hM,hL,e6⟩
       refine narrowK_KM (((Ext.refl _).alloc _).trans e6) hM ?_
       exact fin5 w6 m w5.heap.size c L _ _ (((Ext.refl _).alloc _).trans e6) hM hL (e6.obj (heap_new w5.drew _ _)) (Nat.le_refl _)
   · rw [orC_ne h0]
     exact flwR_pan (e04.trans e5) rfl h0
 · rw [orC_ne h0]
   exact flwR_pan (e01.trans e2) rfl h0
end
end Go.Proofs.YtiajhbbmgglmlaaGreat
