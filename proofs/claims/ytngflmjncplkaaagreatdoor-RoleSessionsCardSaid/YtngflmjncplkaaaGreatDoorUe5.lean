/-
  Lemmas for the claim.
-/
import Derived.Test.YtngflmjncplkaaaGreatDoorUe4
set_option linter.all false
set_option maxHeartbeats 4000000
set_option maxRecDepth 100000
namespace Go.Proofs.YtngflmjncplkaaaGreatDoor
open Sw
def n9c1 (t5 t6 t86 t91:Value) (next6:KV) (R:RT) (w:World):Prop :=
 pickK t86 (.bool true) t91 fun t92 =>
 joinK (fun (t97:Value) (w:World) =>
 pickK t92 (.bool true) t97 fun t98 =>
 condP t98 (
 R (.returned (.bool true)) w) (
 opV Pg (binS .add 3 true t5 (.int .i64 1)) (panK R) w fun t65 w =>
 next6 t65 w)) fun K10 =>
 guardP t92 false (
 opV Pg (Instr.fieldAt 71 t6 5) (panK R) w fun t94 w =>
 opV Pg (Instr.loadAt 9 t94) (panK R) w fun t95 w =>
 opV Pg (Builtin.len_ #[9] 3 #[t95]) (panK R) w fun t96 w =>
 opV Pg (binS .gtr 3 true t96 (.int .i64 60)) (panK R) w fun t97 w =>
 K10 t97 w) (
 K10 undef w)
def n9c2 (t5 t6 t80 t85:Value) (next6:KV) (R:RT) (w:World):Prop :=
 pickK t80 (.bool true) t85 fun t86 =>
 joinK (fun (t91:Value) (w:World) =>
 n9c1 t5 t6 t86 t91 next6 R w) fun K9 =>
 guardP t86 false (
 opV Pg (Instr.fieldAt 71 t6 4) (panK R) w fun t88 w =>
 opV Pg (Instr.loadAt 9 t88) (panK R) w fun t89 w =>
 opV Pg (Builtin.len_ #[9] 3 #[t89]) (panK R) w fun t90 w =>
 opV Pg (binS .gtr 3 true t90 (.int .i64 60)) (panK R) w fun t91 w =>
 K9 t91 w) (
 K9 undef w)
def n9c3 (t5 t6 t74 t79:Value) (next6:KV) (R:RT) (w:World):Prop :=
 pickK t74 (.bool true) t79 fun t80 =>
 joinK (fun (t85:Value) (w:World) =>
 n9c2 t5 t6 t80 t85 next6 R w) fun K8 =>
 guardP t80 false (
 opV Pg (Instr.fieldAt 71 t6 3) (panK R) w fun t82 w =>
 opV Pg (Instr.loadAt 9 t82) (panK R) w fun t83 w =>
 opV Pg (Builtin.len_ #[9] 3 #[t83]) (panK R) w fun t84 w =>
 opV Pg (binS .gtr 3 true t84 (.int .i64 60)) (panK R) w fun t85 w =>
 K8 t85 w) (
 K8 undef w)
def n9c4 (t1 t5:Value) (next6:KV) (R:RT) (w:World):Prop :=
 opV Pg (Instr.fieldAt 26 t1 3) (panK R) w fun t66 w =>
 opV Pg (Instr.loadAt 24 t66) (panK R) w fun t67 w =>
 opV Pg (Instr.indexAt 24 t67 t5) (panK R) w fun t69 w =>
 opV Pg (Instr.loadAt 71 t69) (panK R) w fun t70 w =>
 opV Pg (Instr.alloc 71 true (.tuple #[])) (panK R) w fun t6 w =>
 opU Pg (Instr.storeAt 71 t6 t70) (panK R) w fun w =>
 opV Pg (Instr.fieldAt 71 t6 0) (panK R) w fun t71 w =>
 opV Pg (Instr.loadAt 9 t71) (panK R) w fun t72 w =>
 opV Pg (Builtin.len_ #[9] 3 #[t72]) (panK R) w fun t73 w =>
 opV Pg (binS .gtr 3 true t73 (.int .i64 60)) (panK R) w fun t74 w =>
 joinK (fun (t79:Value) (w:World) =>
 n9c3 t5 t6 t74 t79 next6 R w) fun K7 =>
 guardP t74 false (
 opV Pg (Instr.fieldAt 71 t6 1) (panK R) w fun t76 w =>
 opV Pg (Instr.loadAt 9 t76) (panK R) w fun t77 w =>
 opV Pg (Builtin.len_ #[9] 3 #[t77]) (panK R) w fun t78 w =>
 opV Pg (binS .gtr 3 true t78 (.int .i64 60)) (panK R) w fun t79 w =>
 K7 t79 w) (
 K7 undef w)
def n9c5 (t1 t5:Value) (next6:KV) (R:RT) (w:World):Prop :=
 opV Pg (Instr.fieldAt 26 t1 3) (panK R) w fun t60 w =>
 opV Pg (Instr.loadAt 24 t60) (panK R) w fun t61 w =>
 opV Pg (Builtin.len_ #[24] 3 #[t61]) (panK R) w fun t62 w =>
 opV Pg (binS .lss 3 false t5 t62) (panK R) w fun t63 w =>
 condP t63 (
 n9c4 t1 t5 next6 R w) (
 R (.returned (.bool false)) w)
def n9c6 (t1 t4:Value) (next5:KV) (R:RT) (w:World):Prop :=
 opV Pg (Instr.fieldAt 26 t1 1) (panK R) w fun t51 w =>
 opV Pg (Instr.loadAt 22 t51) (panK R) w fun t52 w =>
 opV Pg (Instr.indexAt 22 t52 t4) (panK R) w fun t54 w =>
 opV Pg (Instr.fieldAt 50 t54 0) (panK R) w fun t55 w =>
 opV Pg (Instr.loadAt 9 t55) (panK R) w fun t56 w =>
 opV Pg (Builtin.len_ #[9] 3 #[t56]) (panK R) w fun t57 w =>
 opV Pg (binS .gtr 3 true t57 (.int .i64 60)) (panK R) w fun t58 w =>
 condP t58 (
 R (.returned (.bool true)) w) (
 opV Pg (binS .add 3 true t4 (.int .i64 1)) (panK R) w fun t50 w =>
 next5 t50 w)
def n9c7 (t1 t4:Value) (next5:KV) (R:RT) (w:World):Prop :=
 opV Pg (Instr.fieldAt 26 t1 1) (panK R) w fun t45 w =>
 opV Pg (Instr.loadAt 22 t45) (panK R) w fun t46 w =>
 opV Pg (Builtin.len_ #[22] 3 #[t46]) (panK R) w fun t47 w =>
 opV Pg (binS .lss 3 false t4 t47) (panK R) w fun t48 w =>
 condP t48 (
 n9c6 t1 t4 next5 R w) (
 loop1 (fun t5 w next6 =>
 n9c5 t1 t5 next6 R w) (.int .i64 0) w)
def n9c8 (t1 t3:Value) (next4:KV) (R:RT) (w:World):Prop :=
 opV Pg (Instr.fieldAt 26 t1 2) (panK R) w fun t36 w =>
 opV Pg (Instr.loadAt 23 t36) (panK R) w fun t37 w =>
 opV Pg (Instr.indexAt 23 t37 t3) (panK R) w fun t39 w =>
 opV Pg (Instr.fieldAt 52 t39 0) (panK R) w fun t40 w =>
 opV Pg (Instr.loadAt 9 t40) (panK R) w fun t41 w =>
 opV Pg (Builtin.len_ #[9] 3 #[t41]) (panK R) w fun t42 w =>
 opV Pg (binS .gtr 3 true t42 (.int .i64 60)) (panK R) w fun t43 w =>
 condP t43 (
 R (.returned (.bool true)) w) (
 opV Pg (binS .add 3 true t3 (.int .i64 1)) (panK R) w fun t35 w =>
 next4 t35 w)
def n9c9 (t1 t3:Value) (next4:KV) (R:RT) (w:World):Prop :=
 opV Pg (Instr.fieldAt 26 t1 2) (panK R) w fun t30 w =>
 opV Pg (Instr.loadAt 23 t30) (panK R) w fun t31 w =>
 opV Pg (Builtin.len_ #[23] 3 #[t31]) (panK R) w fun t32 w =>
 opV Pg (binS .lss 3 false t3 t32) (panK R) w fun t33 w =>
 condP t33 (
 n9c8 t1 t3 next4 R w) (
 loop1 (fun t4 w next5 =>
 n9c7 t1 t4 next5 R w) (.int .i64 0) w)
def n9c10 (t1 t16 t21:Value) (R:RT) (w:World):Prop :=
 pickK t16 (.bool true) t21 fun t22 =>
 joinK (fun (t27:Value) (w:World) =>
 pickK t22 (.bool true) t27 fun t28 =>
 condP t28 (
 R (.returned (.bool true)) w) (
 loop1 (fun t3 w next4 =>
 n9c9 t1 t3 next4 R w) (.int .i64 0) w)) fun K3 =>
 guardP t22 false (
 opV Pg (Instr.fieldAt 26 t1 0) (panK R) w fun t24 w =>
 opV Pg (Instr.loadAt 9 t24) (panK R) w fun t25 w =>
 opV Pg (Builtin.len_ #[9] 3 #[t25]) (panK R) w fun t26 w =>
 opV Pg (binS .gtr 3 true t26 (.int .i64 60)) (panK R) w fun t27 w =>
 K3 t27 w) (
 K3 undef w)
def n9c11 (t1 t10 t15:Value) (R:RT) (w:World):Prop :=
 pickK t10 (.bool true) t15 fun t16 =>
 joinK (fun (t21:Value) (w:World) =>
 n9c10 t1 t16 t21 R w) fun K2 =>
 guardP t16 false (
 opV Pg (Instr.fieldAt 26 t1 3) (panK R) w fun t18 w =>
 opV Pg (Instr.loadAt 24 t18) (panK R) w fun t19 w =>
 opV Pg (Builtin.len_ #[24] 3 #[t19]) (panK R) w fun t20 w =>
 opV Pg (binS .gtr 3 true t20 (.int .i64 90)) (panK R) w fun t21 w =>
 K2 t21 w) (
 K2 undef w)
def n9 (t0:Value) (R:RT) (w:World):Prop :=
 opV Pg (Instr.box 26 t0) (panK R) w fun t1 w =>
 opV Pg (Instr.fieldAt 26 t1 2) (panK R) w fun t7 w =>
 opV Pg (Instr.loadAt 23 t7) (panK R) w fun t8 w =>
 opV Pg (Builtin.len_ #[23] 3 #[t8]) (panK R) w fun t9 w =>
 opV Pg (binS .gtr 3 true t9 (.int .i64 6)) (panK R) w fun t10 w =>
 joinK (fun (t15:Value) (w:World) =>
 n9c11 t1 t10 t15 R w) fun K1 =>
 guardP t10 false (
 opV Pg (Instr.fieldAt 26 t1 1) (panK R) w fun t12 w =>
 opV Pg (Instr.loadAt 22 t12) (panK R) w fun t13 w =>
 opV Pg (Builtin.len_ #[22] 3 #[t13]) (panK R) w fun t14 w =>
 opV Pg (binS .gtr 3 true t14 (.int .i64 30)) (panK R) w fun t15 w =>
 K1 t15 w) (
 K1 undef w)
set_option maxHeartbeats 40000000 in
theorem n9s {t0:Value} {R:RT} {w:World} (h:n9 t0 R w):Calls Pg 10 #[t0] w R:=by
 refine yD Tryz.func10 ?_
 refine zs<|zr<|yv h fun _ w h=>zm<|zn<|zk<|zs<|zs<|sim_regionG<|yG 5<|yv h fun _ w h=>yv h fun _ w h=>yx h fun _ w h=>yb h fun _ w h=>zm ?_
 refine zn<|yg1 4 4 false [12,13,14,15] 15 h (fun _ T hT h=>?_) fun σ w h=>?_
 · refine yv h fun _ w h=>yv h fun _ w h=>yx h fun _ w h=>yb h fun _ w h=>zn ?_
   exact zt hT h
 refine yG 2<|yp h fun _ h=>zm<|zn<|yg1 4 10 false [18,19,20,21] 21 h (fun _ T hT h=>?_) fun σ w h=>?_
 · refine yv h fun _ w h=>yv h fun _ w h=>yx h fun _ w h=>yb h fun _ w h=>zn ?_
   exact zt hT h
 refine yG 2<|yp h fun _ h=>zm<|zn<|yg1 4 16 false [24,25,26,27] 27 h (fun _ T hT h=>?_) fun σ w h=>?_
 · refine yv h fun _ w h=>yv h fun _ w h=>yx h fun _ w h=>yb h fun _ w h=>zn ?_
   exact zt hT h
 refine yG 1<|yp h fun _ h=>zn<|sim_end<|zk<|yC h (fun h=>zs<|zr<|zm<|zn<|zk<|sim_ret<|sim_then_ret<|body_ret1 rfl rfl h) fun h=>sim_skip<|zk<|zs<|zs<|zr<|zm<|zn<|zk ?_
 refine sim_block<|yl1 [2,3,29,30,31,32,33,34,35,36,37,38,39,40,41,42,43] 3 h fun σ w next h=>zs<|zs<|zr<|zm<|yv h fun _ w h=>yv h fun _ w h=>yx h fun _ w h=>yb h fun _ w h=>zn<|zk<|yC h (fun h=>?_) fun h=>?_
 · refine sim_skip<|zk<|zs<|sim_block<|zs<|zr<|yv h fun _ w h=>yv h fun _ w h=>zm<|yv h fun _ w h=>yv h fun _ w h=>yv h fun _ w h=>yx h fun _ w h=>yb h fun _ w h=>zn ?_
   exact zk<|yC h (fun h=>zs<|zr<|zm<|zn<|zk<|sim_ret<|sim_block_ret<|sim_then_ret<|sim_then_ret<|sim_block_ret<|sim_then_ret<|body_ret1 rfl rfl h) fun h=>sim_skip<|sim_block_normal<|zk<|zr<|zm<|yb h fun _ w h=>zm<|zn<|zk<|⟨rfl,h⟩
 refine sim_exit<|sim_then_exit<|sim_then_exit<|sim_block_hit<|zk<|zs<|zs<|zr<|zm<|zn<|zk<|sim_block<|yl1 [2,4,44,45,46,47,48,49,50,51,52,53,54,55,56,57,58] 4 h fun σ w next h=>zs<|zs ?_
 refine zr<|zm<|yv h fun _ w h=>yv h fun _ w h=>yx h fun _ w h=>yb h fun _ w h=>zn<|zk<|yC h (fun h=>?_) fun h=>?_
 · refine sim_skip<|zk<|zs<|sim_block<|zs<|zr<|yv h fun _ w h=>yv h fun _ w h=>zm<|yv h fun _ w h=>yv h fun _ w h=>yv h fun _ w h=>yx h fun _ w h=>yb h fun _ w h=>zn ?_
   exact zk<|yC h (fun h=>zs<|zr<|zm<|zn<|zk<|sim_ret<|sim_block_ret<|sim_then_ret<|sim_then_ret<|sim_block_ret<|sim_then_ret<|body_ret1 rfl rfl h) fun h=>sim_skip<|sim_block_normal<|zk<|zr<|zm<|yb h fun _ w h=>zm<|zn<|zk<|⟨rfl,h⟩
 refine sim_exit<|sim_then_exit<|sim_then_exit<|sim_block_hit<|zk<|zs<|zs<|zr<|zm<|zn<|zk<|sim_block<|yl1 [2,5,6,59,60,61,62,63,64,65,66,67,68,69,70,71,72,73,74,75,76,77,78,79,80,81,82,83,84,85,86,87,88,89,90,91,92,93,94,95,96,97,98] 5 h fun σ w next h=>zs<|zs ?_
 refine zr<|zm<|yv h fun _ w h=>yv h fun _ w h=>yx h fun _ w h=>yb h fun _ w h=>zn<|zk<|yC h (fun h=>?_) fun h=>?_
 · refine sim_skip<|zk<|zs<|sim_block<|zs<|zr<|yv h fun _ w h=>yv h fun _ w h=>zm<|yv h fun _ w h=>yv h fun _ w h=>yv h fun _ w h=>yu h fun w h=>zn<|zk ?_
   refine zs<|sim_regionG<|yG 5<|yv h fun _ w h=>yv h fun _ w h=>yx h fun _ w h=>yb h fun _ w h=>zm<|zn<|yg1 4 4 false [76,77,78,79] 79 h (fun _ T hT h=>?_) fun σ w h=>?_
   · refine yv h fun _ w h=>yv h fun _ w h=>yx h fun _ w h=>yb h fun _ w h=>zn ?_
     exact zt hT h
   refine yG 2<|yp h fun _ h=>zm<|zn<|yg1 4 10 false [82,83,84,85] 85 h (fun _ T hT h=>?_) fun σ w h=>?_
   · refine yv h fun _ w h=>yv h fun _ w h=>yx h fun _ w h=>yb h fun _ w h=>zn ?_
     exact zt hT h
   refine yG 2<|yp h fun _ h=>zm<|zn<|yg1 4 16 false [88,89,90,91] 91 h (fun _ T hT h=>?_) fun σ w h=>?_
   · refine yv h fun _ w h=>yv h fun _ w h=>yx h fun _ w h=>yb h fun _ w h=>zn ?_
     exact zt hT h
   refine yG 2<|yp h fun _ h=>zm<|zn<|yg1 4 22 false [94,95,96,97] 97 h (fun _ T hT h=>?_) fun σ w h=>?_
   · refine yv h fun _ w h=>yv h fun _ w h=>yx h fun _ w h=>yb h fun _ w h=>zn ?_
     exact zt hT h
   refine yG 1<|yp h fun _ h=>zn<|sim_end<|zk<|yC h (fun h=>zs<|zr<|zm<|zn<|zk<|sim_ret<|sim_block_ret<|sim_then_ret<|sim_then_ret<|sim_block_ret<|sim_then_ret<|body_ret1 rfl rfl h) fun h=>sim_skip<|sim_block_normal<|zk<|zr<|zm<|yb h fun _ w h=>zm<|zn ?_
   exact zk<|⟨rfl,h⟩
 exact sim_exit<|sim_then_exit<|sim_then_exit<|sim_block_hit<|zk<|zs<|zr<|zm<|zn<|zk<|sim_ret<|body_ret1 rfl rfl h
def n8c1 (t18:Value) (K14:KV) (R:RT) (w:World):Prop :=
 opV Pg (Instr.fieldAt 26 t18 3) (panK R) w fun t126 w =>
 opV Pg (Instr.loadAt 24 t126) (panK R) w fun t127 w =>
 opV Pg (Instr.indexAt 24 t127 (.int .i64 1)) (panK R) w fun t128 w =>
 opV Pg (Instr.loadAt 71 t128) (panK R) w fun t129 w =>
 opV Pg (Instr.build 71 #[(0,(.string { data := #[98] })),(1,(.string { data := #[97] })),(2,(.int .i64 4))]) (panK R) w fun t130 w =>
 opV Pg (binS .eql 71 false t129 t130) (panK R) w fun t131 w =>
 K14 t131 w
def n8c2 (t18 t116 t123:Value) (R:RT) (w:World):Prop :=
 pickK t116 t123 (.bool false) fun t124 =>
 joinK (fun (t131:Value) (w:World) =>
 pickK t124 t131 (.bool false) fun t132 =>
 R (.returned t132) w) fun K14 =>
 guardP t124 true (
 n8c1 t18 K14 R w) (
 K14 undef w)
def n8c3 (t18:Value) (K13:KV) (R:RT) (w:World):Prop :=
 opV Pg (Instr.fieldAt 26 t18 3) (panK R) w fun t118 w =>
 opV Pg (Instr.loadAt 24 t118) (panK R) w fun t119 w =>
 opV Pg (Instr.indexAt 24 t119 (.int .i64 0)) (panK R) w fun t120 w =>
 opV Pg (Instr.loadAt 71 t120) (panK R) w fun t121 w =>
 opV Pg (Instr.build 71 #[(0,(.string { data := #[97] })),(1,(.string { data := #[98] })),(2,(.int .i64 2)),(3,(.string { data := #[109] })),(4,(.string { data := #[99] })),(5,(.string { data := #[110] })),(7,(.int .i64 1)),(8,(.int .i64 1))]) (panK R) w fun t122 w =>
 opV Pg (binS .eql 71 false t121 t122) (panK R) w fun t123 w =>
 K13 t123 w
def n8c4 (t18 t110 t115:Value) (R:RT) (w:World):Prop :=
 pickK t110 t115 (.bool false) fun t116 =>
 joinK (fun (t123:Value) (w:World) =>
 n8c2 t18 t116 t123 R w) fun K13 =>
 guardP t116 true (
 n8c3 t18 K13 R w) (
 K13 undef w)
def n8c5 (t18 t109:Value) (R:RT) (w:World):Prop :=
 opV Pg (binS .eql 3 true t109 (.int .i64 0)) (panK R) w fun t110 w =>
 joinK (fun (t115:Value) (w:World) =>
 n8c4 t18 t110 t115 R w) fun K12 =>
 guardP t110 true (
 opV Pg (Instr.fieldAt 26 t18 3) (panK R) w fun t112 w =>
 opV Pg (Instr.loadAt 24 t112) (panK R) w fun t113 w =>
 opV Pg (Builtin.len_ #[24] 3 #[t113]) (panK R) w fun t114 w =>
 opV Pg (binS .eql 3 true t114 (.int .i64 2)) (panK R) w fun t115 w =>
 K12 t115 w) (
 K12 undef w)
def n8c6 (t105:Value) (R:RT) (w:World):Prop :=
 opV Pg (Instr.extract t105 0) (panK R) w fun t106 w =>
 opV Pg (Instr.extract t105 1) (panK R) w fun t107 w =>
 opV Pg (Instr.alloc 26 true (.tuple #[])) (panK R) w fun t18 w =>
 opU Pg (Instr.storeAt 26 t18 t106) (panK R) w fun w =>
 callK Pg 15 #[t107] (panK R) w fun t109 w =>
 n8c5 t18 t109 R w
def n8c7 (t98 t101:Value) (R:RT) (w:World):Prop :=
 pickK t98 (.bool true) t101 fun t102 =>
 condP t102 (
 R (.returned (.bool false)) w) (
 callK Pg 35 #[] (panK R) w fun t104 w =>
 callK Pg 23 #[t104,(.string { data := #[115] })] (panK R) w fun t105 w =>
 n8c6 t105 R w)
def n8c8 (t68 t94 t97:Value) (R:RT) (w:World):Prop :=
 pickK t94 (.bool true) t97 fun t98 =>
 joinK (fun (t101:Value) (w:World) =>
 n8c7 t98 t101 R w) fun K11 =>
 guardP t98 false (
 opV Pg (binS .neq 29 true t68 (.int .i64 6)) (panK R) w fun t101 w =>
 K11 t101 w) (
 K11 undef w)
def n8c9 (t67 t68 t90 t93:Value) (R:RT) (w:World):Prop :=
 pickK t90 (.bool true) t93 fun t94 =>
 joinK (fun (t97:Value) (w:World) =>
 n8c8 t68 t94 t97 R w) fun K10 =>
 guardP t94 false (
 opV Pg (binS .neq 3 true t67 (.int .i64 3)) (panK R) w fun t97 w =>
 K10 t97 w) (
 K10 undef w)
def n8c10 (t63 t67 t68 t86 t89:Value) (R:RT) (w:World):Prop :=
 pickK t86 (.bool true) t89 fun t90 =>
 joinK (fun (t93:Value) (w:World) =>
 n8c9 t67 t68 t90 t93 R w) fun K9 =>
 guardP t90 false (
 opV Pg (binS .neq 29 true t63 (.int .i64 292)) (panK R) w fun t93 w =>
 K9 t93 w) (
 K9 undef w)
def n8c11 (t62 t63 t67 t68 t82 t85:Value) (R:RT) (w:World):Prop :=
 pickK t82 (.bool true) t85 fun t86 =>
 joinK (fun (t89:Value) (w:World) =>
 n8c10 t63 t67 t68 t86 t89 R w) fun K8 =>
 guardP t86 false (
 opV Pg (binS .neq 3 true t62 (.int .i64 0)) (panK R) w fun t89 w =>
 K8 t89 w) (
 K8 undef w)
def n8c12 (t58 t62 t63 t67 t68 t78 t81:Value) (R:RT) (w:World):Prop :=
 pickK t78 (.bool true) t81 fun t82 =>
 joinK (fun (t85:Value) (w:World) =>
 n8c11 t62 t63 t67 t68 t82 t85 R w) fun K7 =>
 guardP t82 false (
 opV Pg (binS .neq 29 true t58 (.int .i64 292)) (panK R) w fun t85 w =>
 K7 t85 w) (
 K7 undef w)
def n8c13 (t53 t58 t62 t63 t67 t68 t74 t77:Value) (R:RT) (w:World):Prop :=
 pickK t74 (.bool true) t77 fun t78 =>
 joinK (fun (t81:Value) (w:World) =>
 n8c12 t58 t62 t63 t67 t68 t78 t81 R w) fun K6 =>
 guardP t78 false (
 opV Pg (binS .neq 29 true t53 (.int .i64 293)) (panK R) w fun t81 w =>
 K6 t81 w) (
 K6 undef w)
def n8c14 (t47 t48 t52 t53 t57 t58 t62 t63 t65:Value) (R:RT) (w:World):Prop :=
 opV Pg (Instr.extract t65 0) (panK R) w fun t66 w =>
 opV Pg (Instr.extract t65 1) (panK R) w fun t67 w =>
 opV Pg (Instr.extract t65 2) (panK R) w fun t68 w =>
 opV Pg (Instr.alloc 26 true (.tuple #[])) (panK R) w fun t15 w =>
 opU Pg (Instr.storeAt 26 t15 t66) (panK R) w fun w =>
 opV Pg (binS .add 3 false t47 t52) (panK R) w fun t71 w =>
 opV Pg (binS .add 3 false t71 t57) (panK R) w fun t73 w =>
 opV Pg (binS .neq 3 true t73 (.int .i64 0)) (panK R) w fun t74 w =>
 joinK (fun (t77:Value) (w:World) =>
 n8c13 t53 t58 t62 t63 t67 t68 t74 t77 R w) fun K5 =>
 guardP t74 false (
 opV Pg (binS .neq 29 true t48 (.int .i64 293)) (panK R) w fun t77 w =>
 K5 t77 w) (
 K5 undef w)
def n8c15 (t47 t48 t52 t53 t57 t58 t60:Value) (R:RT) (w:World):Prop :=
 opV Pg (Instr.extract t60 0) (panK R) w fun t61 w =>
 opV Pg (Instr.extract t60 1) (panK R) w fun t62 w =>
 opV Pg (Instr.extract t60 2) (panK R) w fun t63 w =>
 opV Pg (Instr.alloc 26 true (.tuple #[])) (panK R) w fun t12 w =>
 opU Pg (Instr.storeAt 26 t12 t61) (panK R) w fun w =>
 callK Pg 19 #[(.string { data := #[114,111,108,101,32,99,10,115,116,97,116,101,32,97,10,115,116,97,116,101,32,49] })] (panK R) w fun t65 w =>
 n8c14 t47 t48 t52 t53 t57 t58 t62 t63 t65 R w
def n8c16 (t47 t48 t52 t53 t56:Value) (R:RT) (w:World):Prop :=
 opV Pg (Instr.extract t56 0) (panK R) w fun t57 w =>
 opV Pg (Instr.extract t56 1) (panK R) w fun t58 w =>
 callK Pg 19 #[(.string { data := #[114,111,108,101,32,99] })] (panK R) w fun t60 w =>
 n8c15 t47 t48 t52 t53 t57 t58 t60 R w
def n8c17 (t5 t47 t48 t51:Value) (R:RT) (w:World):Prop :=
 opV Pg (Instr.extract t51 0) (panK R) w fun t52 w =>
 opV Pg (Instr.extract t51 1) (panK R) w fun t53 w =>
 opV Pg (Instr.loadAt 26 t5) (panK R) w fun t55 w =>
 callK Pg 12 #[t55] (panK R) w fun t56 w =>
 n8c16 t47 t48 t52 t53 t56 R w
def n8c18 (t4 t5 t46:Value) (R:RT) (w:World):Prop :=
 opV Pg (Instr.extract t46 0) (panK R) w fun t47 w =>
 opV Pg (Instr.extract t46 1) (panK R) w fun t48 w =>
 opV Pg (Instr.loadAt 26 t4) (panK R) w fun t50 w =>
 callK Pg 12 #[t50] (panK R) w fun t51 w =>
 n8c17 t5 t47 t48 t51 R w
def n8c19 (t3 t4 t5:Value) (C3:World→Prop) (R:RT) (w:World):Prop :=
 qV Pg C3 (Instr.fieldAt 26 t5 1) fun t43 =>
 opU Pg (Instr.storeAt 22 t43 (Value.slice none 0 0)) (panK R) w fun w =>
 turnK w fun C4 w =>
 opV Pg (Instr.loadAt 26 t3) (panK R) w fun t45 w =>
 callK Pg 12 #[t45] (panK R) w fun t46 w =>
 n8c18 t4 t5 t46 R w
def n8c20 (t3 t4 t5 t38:Value) (C2:World→Prop) (R:RT) (w:World):Prop :=
 qV Pg C2 (Instr.indexAt 24 t38 (.int .i64 0)) fun t41 =>
 qV Pg C2 (Instr.fieldAt 71 t41 4) fun t42 =>
 opU Pg (Instr.storeAt 9 t42 (.string { data := #[99] })) (panK R) w fun w =>
 turnK w fun C3 w =>
 n8c19 t3 t4 t5 C3 R w
def n8c21 (t3 t4 t5:Value) (C2:World→Prop) (R:RT) (w:World):Prop :=
 qV Pg C2 (Instr.fieldAt 26 t3 3) fun t35 =>
 qV Pg C2 (Instr.loadAt 24 t35) fun t36 =>
 qV Pg C2 (Instr.fieldAt 26 t4 3) fun t37 =>
 qV Pg C2 (Instr.loadAt 24 t37) fun t38 =>
 qV Pg C2 (Instr.indexAt 24 t36 (.int .i64 0)) fun t39 =>
 qV Pg C2 (Instr.fieldAt 71 t39 7) fun t40 =>
 opU Pg (Instr.storeAt 3 t40 (.int .i64 2)) (panK R) w fun w =>
 C2 w∧(
 n8c20 t3 t4 t5 t38 C2 R w)
def n8c22 (t32 t33 t34:Value) (R:RT) (w:World):Prop :=
 opV Pg (Instr.alloc 26 true (.tuple #[])) (panK R) w fun t3 w =>
 opV Pg (Instr.alloc 26 true (.tuple #[])) (panK R) w fun t4 w =>
 opV Pg (Instr.alloc 26 true (.tuple #[])) (panK R) w fun t5 w =>
 opU Pg (Instr.storeAt 26 t3 t32) (panK R) w fun w =>
 opU Pg (Instr.storeAt 26 t4 t33) (panK R) w fun w =>
 opU Pg (Instr.storeAt 26 t5 t34) (panK R) w fun w =>
 drawK w fun C2 w =>
 n8c21 t3 t4 t5 C2 R w
def n8c23 (R:RT) (w:World):Prop :=
 callK Pg 35 #[] (panK R) w fun t32 w =>
 callK Pg 35 #[] (panK R) w fun t33 w =>
 callK Pg 35 #[] (panK R) w fun t34 w =>
 n8c22 t32 t33 t34 R w
def n8c24 (t22:Value) (R:RT) (w:World):Prop :=
 opV Pg (Instr.extract t22 0) (panK R) w fun t23 w =>
 opV Pg (Instr.extract t22 1) (panK R) w fun t24 w =>
 opV Pg (binS .neq 9 true t23 (.string { data := #[114,111,108,101,32,99,10,99,111,117,110,116,101,114,32,110,32,50,10,115,116,97,116,101,32,97,10,115,116,97,116,101,32,98,32,119,97,105,116,32,53,32,102,105,110,97,108,10,115,116,101,112,32,97,32,98,32,115,101,110,100,32,109,32,115,32,119,104,101,110,32,110,32,48,32,49,32,49,10,115,116,101,112,32,98,32,97,32,116,105,109,101,111,117,116] })) (panK R) w fun t26 w =>
 joinK (fun (t30:Value) (w:World) =>
 pickK t26 (.bool true) t30 fun t31 =>
 condP t31 (
 R (.returned (.bool false)) w) (
 n8c23 R w)) fun K1 =>
 guardP t26 false (
 callK Pg 15 #[t24] (panK R) w fun t29 w =>
 opV Pg (binS .neq 3 true t29 (.int .i64 0)) (panK R) w fun t30 w =>
 K1 t30 w) (
 K1 undef w)
def n8 (R:RT) (w:World):Prop :=
 callK Pg 35 #[] (panK R) w fun t21 w =>
 callK Pg 14 #[t21] (panK R) w fun t22 w =>
 n8c24 t22 R w
set_option maxHeartbeats 40000000 in
theorem n8s {R:RT} {w:World} (h:n8 R w):Calls Pg 11 #[] w R:=by
 refine yD Tryz.func11 ?_
 refine zs<|zr<|zm<|zn<|zk<|zs<|zr<|yc h c35 fun _ w h=>yc h c14 fun _ w h=>zm<|yv h fun _ w h=>yv h fun _ w h=>zm<|zm<|zn ?_
 refine zk<|zs<|zs<|sim_regionG<|yG 3<|zm<|yb h fun _ w h=>zm<|zn<|yg1 3 2 false [28,29,30] 30 h (fun _ T hT h=>?_) fun σ w h=>?_
 · refine zm<|yc h c15 fun _ w h=>yb h fun _ w h=>zn ?_
   exact zt hT h
 refine yG 1<|yp h fun _ h=>zn<|sim_end<|zk<|yC h (fun h=>zs<|zr<|zm<|zn<|zk<|sim_ret<|sim_then_ret<|body_ret1 rfl rfl h) fun h=>sim_skip<|zk<|zs<|zr<|yc h c35 fun _ w h=>yc h c35 fun _ w h=>yc h c35 fun _ w h=>yv h fun _ w h=>?_
 refine yv h fun _ w h=>yv h fun _ w h=>yu h fun w h=>yu h fun w h=>yu h fun w h=>zn<|zk<|zs<|yh [35,36,37,38,39,40,41,42,43] h fun C hC h=>ye 0 hC h fun _ h=>?_
 refine ye 1 hC h fun _ h=>?_
 refine ye 2 hC h fun _ h=>?_
 refine ye 3 hC h fun _ h=>?_
 refine ye 4 hC h fun _ h=>?_
 refine ye 5 hC h fun _ h=>?_
 refine yo 6 ?_
 refine yu h fun w h=>zn ?_
 obtain ⟨hC,h⟩:=h
 refine ⟨hC,?_⟩
 refine ye 7 hC h fun _ h=>?_
 refine ye 8 hC h fun _ h=>?_
 refine yq 9 2 ?_
 refine yu h fun w h=>zn ?_
 obtain ⟨C3,hC,h⟩:=h
 refine ⟨C3,hC,?_⟩
 refine ye 10 hC h fun _ h=>?_
 refine yq 11 1 ?_
 refine yu h fun w h=>zn ?_
 obtain ⟨C4,hC,h⟩:=h
 refine ⟨C4,hC,?_⟩
 refine yz<|zk<|zs<|zr<|yv h fun _ w h=>yc h c12 fun _ w h=>zm<|yv h fun _ w h=>yv h fun _ w h=>zm<|zm<|zn<|zk<|zs<|zr ?_
 refine yv h fun _ w h=>yc h c12 fun _ w h=>zm<|yv h fun _ w h=>yv h fun _ w h=>zm<|zm<|zn<|zk<|zs<|zr<|yv h fun _ w h=>yc h c12 fun _ w h=>zm<|yv h fun _ w h=>?_
 refine yv h fun _ w h=>zm<|zm<|zn<|zk<|zs<|zr<|yc h c19 fun _ w h=>zm<|yv h fun _ w h=>yv h fun _ w h=>yv h fun _ w h=>yv h fun _ w h=>yu h fun w h=>zm ?_
 refine zm<|zn<|zk<|zs<|zr<|yc h c19 fun _ w h=>zm<|yv h fun _ w h=>yv h fun _ w h=>yv h fun _ w h=>yv h fun _ w h=>yu h fun w h=>zm<|zm<|zn ?_
 refine zk<|zs<|zs<|sim_regionG<|yG 7<|zm<|zm<|yb h fun _ w h=>zm<|yb h fun _ w h=>yb h fun _ w h=>zm<|zn<|yg1 2 6 false [76,77] 77 h (fun _ T hT h=>?_) fun σ w h=>?_
 · refine zm<|yb h fun _ w h=>zn ?_
   exact zt hT h
 refine yG 2<|yp h fun _ h=>zm<|zn<|yg1 2 10 false [80,81] 81 h (fun _ T hT h=>?_) fun σ w h=>?_
 · refine zm<|yb h fun _ w h=>zn ?_
   exact zt hT h
 refine yG 2<|yp h fun _ h=>zm<|zn<|yg1 2 14 false [84,85] 85 h (fun _ T hT h=>?_) fun σ w h=>?_
 · refine zm<|yb h fun _ w h=>zn ?_
   exact zt hT h
 refine yG 2<|yp h fun _ h=>zm<|zn<|yg1 2 18 false [88,89] 89 h (fun _ T hT h=>?_) fun σ w h=>?_
 · refine zm<|yb h fun _ w h=>zn ?_
   exact zt hT h
 refine yG 2<|yp h fun _ h=>zm<|zn<|yg1 2 22 false [92,93] 93 h (fun _ T hT h=>?_) fun σ w h=>?_
 · refine zm<|yb h fun _ w h=>zn ?_
   exact zt hT h
 refine yG 2<|yp h fun _ h=>zm<|zn<|yg1 2 26 false [96,97] 97 h (fun _ T hT h=>?_) fun σ w h=>?_
 · refine zm<|yb h fun _ w h=>zn ?_
   exact zt hT h
 refine yG 2<|yp h fun _ h=>zm<|zn<|yg1 2 30 false [100,101] 101 h (fun _ T hT h=>?_) fun σ w h=>?_
 · refine zm<|yb h fun _ w h=>zn ?_
   exact zt hT h
 refine yG 1<|yp h fun _ h=>zn<|sim_end<|zk<|yC h (fun h=>zs<|zr<|zm<|zn<|zk<|sim_ret<|sim_then_ret<|body_ret1 rfl rfl h) fun h=>sim_skip<|zk<|zs<|zr<|yc h c35 fun _ w h=>yc h c23 fun _ w h=>zm<|yv h fun _ w h=>?_
 refine yv h fun _ w h=>yv h fun _ w h=>yu h fun w h=>zm<|zn<|zk<|zs<|sim_regionG<|yG 4<|zm<|yc h c15 fun _ w h=>yb h fun _ w h=>zm<|zn<|yg1 4 3 true [112,113,114,115] 115 h (fun _ T hT h=>?_) fun σ w h=>?_
 · refine yv h fun _ w h=>yv h fun _ w h=>yx h fun _ w h=>yb h fun _ w h=>zn ?_
   exact zt hT h
 refine yG 2<|yp h fun _ h=>zm<|zn<|yg1 6 9 true [118,119,120,121,122,123] 123 h (fun _ T hT h=>?_) fun σ w h=>?_
 · refine yv h fun _ w h=>yv h fun _ w h=>yv h fun _ w h=>yv h fun _ w h=>yB h fun _ w h=>yb h fun _ w h=>zn ?_
   exact zt hT h
 refine yG 2<|yp h fun _ h=>zm<|zn<|yg1 6 17 true [126,127,128,129,130,131] 131 h (fun _ T hT h=>?_) fun σ w h=>?_
 · refine yv h fun _ w h=>yv h fun _ w h=>yv h fun _ w h=>yv h fun _ w h=>yB h fun _ w h=>yb h fun _ w h=>zn ?_
   exact zt hT h
 exact yG 2<|yp h fun _ h=>zm<|zn<|sim_end<|zk<|sim_ret<|body_ret1 rfl rfl h
open Go.RowKit (intOf Below)
def samS1:StpD:=⟨⟨#[97]⟩,⟨#[98]⟩,1,⟨#[109]⟩,⟨#[115]⟩,⟨#[110]⟩,0,1,1⟩
def samS2:StpD:=⟨⟨#[98]⟩,⟨#[97]⟩,3,⟨#[]⟩,⟨#[]⟩,⟨#[]⟩,0,0,0⟩
def samC:List CntD:=[⟨⟨#[110]⟩,2⟩]
def samT:List StaD:=[⟨⟨#[97]⟩,false,0⟩,⟨⟨#[98]⟩,true,5⟩]
def samR:RolD:=⟨⟨#[99]⟩,samT,samC,[samS1,samS2]⟩
theorem own_obj {α:Type} {w:World} {base b n m:Nat} {T:TypeId} {enc:α→List Value} {l:List α} {cs:Array Value} (h:w.heap[b]?=some (.cells cs T (0,0))) (hcs:cs=(l.flatMap enc).toArray) (hm:m=l.length) (hn:∀ x,(enc x).length=n) (hb:base≤b) (hl:l.length≤1000000):OwnE w base T n enc (.slice (some ⟨b,0,none⟩) m m) l:=by
 subst hcs hm
 have hfl:(l.flatMap enc).length=l.length*n:=by
  clear hl h
  induction l with
  | nil=>simp
  | cons a l ih=>rw [List.flatMap_cons,List.length_append,hn,ih,List.length_cons,Nat.add_mul];omega
 refine ⟨hfl,.inr ⟨b,_,_,rfl,hb,h,Nat.le_refl _,by simp only [maxLen];omega,by rw [List.size_toArray,hfl],?_⟩⟩
 rw [List.take_of_length_le (by show (l.flatMap enc).length≤_;omega)]
structure SamAt (w:World) (base:Nat) (v:Value) (bS bC bT:Nat):Prop where
 v:v = .agg (rolCells samR (.slice (some ⟨bS,0,none⟩) 2 2) (.slice (some ⟨bC,0,none⟩) 1 1) (.slice (some ⟨bT,0,none⟩) 2 2)).toArray
 S:w.heap[bS]?=some (.cells (samT.flatMap staCells).toArray 50 (0,0))
 C:w.heap[bC]?=some (.cells (samC.flatMap cntCells).toArray 52 (0,0))
 T:w.heap[bT]?=some (.cells ([samS1,samS2].flatMap stpCells).toArray 71 (0,0))
 le:base≤bS∧base≤bC∧base≤bT
theorem SamAt.val {w:World} {base bS bC bT:Nat} {v:Value} (h:SamAt w base v bS bC bT):RolVal w v samR:=by
 obtain ⟨hv,h1,h2,h3,l1,l2,l3⟩:=h
 exact RolOwn.val (base:=base) ⟨_,_,_,hv,own_obj (l:=samT) h1 rfl rfl (fun _=>rfl) l1 (by decide),own_obj (l:=samC) h2 rfl rfl (fun _=>rfl) l2 (by decide),own_obj (l:=[samS1,samS2]) h3 rfl rfl (fun _=>rfl) l3 (by decide)⟩
theorem SamAt.ext {w w':World} {base bS bC bT:Nat} {v:Value} (h:SamAt w base v bS bC bT) (e:Ext w w'):SamAt w' base v bS bC bT:=⟨h.v,e.obj h.S,e.obj h.C,e.obj h.T,h.le⟩
theorem sample_ret (w0:World):Ret Pg 35 #[] w0 fun r w'=>Ext w0 w'∧∃ bS bC bT,SamAt w' w0.heap.size r bS bC bT:=by
 refine n12s (R:=retR _) ?_;unfold n12
 simp (disch:=try exact DI) only [↓PR,QR,simprocAttr]
 refine ⟨(((((Ext.refl w0).alloc _).alloc _).alloc _).alloc _),w0.heap.size+1+1,w0.heap.size+1,w0.heap.size+1+1+1,⟨rfl,?_,?_,?_,by omega,by omega,by omega⟩⟩
 · simp (disch:=try exact DI) only [↓PR,QR,simprocAttr]
   rfl
 · simp (disch:=try exact DI) only [↓PR,QR,simprocAttr]
   rfl
 · simp (disch:=try exact DI) only [↓PR,QR,simprocAttr]
   rfl
def samX:RolD:={ samR with steps:=[{ samS1 with high:=2 },samS2] }
def samY:RolD:={ samR with steps:=[{ samS1 with peer:=⟨#[99]⟩ },samS2] }
def samZ:RolD:={ samR with states:=[] }
def samTurned:RolD:=⟨⟨#[115]⟩,samT.map still,samC,[⟨⟨#[97]⟩,⟨#[98]⟩,2,⟨#[109]⟩,⟨#[99]⟩,⟨#[110]⟩,0,1,1⟩,⟨⟨#[98]⟩,⟨#[97]⟩,4,⟨#[]⟩,⟨#[]⟩,⟨#[]⟩,0,0,0⟩]⟩
theorem kn_check:checkR samR=(0,0)∧checkR samX=(0,293)∧checkR samY=(0,293)∧checkR samZ=(0,292):=by decide +kernel
theorem kn_parse1:parseP ⟨#[114,111,108,101,32,99]⟩=(zeroR,0,292):=by decide +kernel
theorem kn_parse2:parseP ⟨#[114,111,108,101,32,99,10,115,116,97,116,101,32,97,10,115,116,97,116,101,32,49]⟩=(zeroR,3,6):=by decide +kernel
theorem kn_turn:turnP samR ⟨#[115]⟩=(samTurned,0):=by decide +kernel
abbrev kn_text:ByteArray:=⟨#[114,111,108,101,32,99,10,99,111,117,110,116,101,114,32,110,32,50,10,115,116,97,116,101,32,97,10,115,116,97,116,101,32,98,32,119,97,105,116,32,53,32,102,105,110,97,108,10,115,116,101,112,32,97,32,98,32,115,101,110,100,32,109,32,115,32,119,104,101,110,32,110,32,48,32,49,32,49,10,115,116,101,112,32,98,32,97,32,116,105,109,101,111,117,116]⟩
theorem kn_print:printR samR=kn_text:=by
 have d0:decB 0=⟨#[UInt8.ofNat (48+0)]⟩:=dec_one (n:=0) (by decide)
 have d1:decB 1=⟨#[UInt8.ofNat (48+1)]⟩:=dec_one (n:=1) (by decide)
 have d2:decB 2=⟨#[UInt8.ofNat (48+2)]⟩:=dec_one (n:=2) (by decide)
 have d5:decB 5=⟨#[UInt8.ofNat (48+5)]⟩:=dec_one (n:=5) (by decide)
 unfold printR
 rw [kn_check.1,if_pos rfl,← textP_eq]
 have h1:textP samR=stpT (stpT (staT (staT (cntT (⟨#[114,111,108,101,32]⟩++⟨#[99]⟩) ⟨⟨#[110]⟩,2⟩) ⟨⟨#[97]⟩,false,0⟩) ⟨⟨#[98]⟩,true,5⟩) samS1) samS2:=rfl
 rw [h1]
 have c1:∀ s,cntT s ⟨⟨#[110]⟩,2⟩=s++⟨#[10,99,111,117,110,116,101,114,32]⟩++⟨#[110]⟩++⟨#[32]⟩++decB 2:=fun s=>rfl
 have c2:∀ s,staT s ⟨⟨#[97]⟩,false,0⟩=s++⟨#[10,115,116,97,116,101,32]⟩++⟨#[97]⟩:=fun s=>rfl
 have c3:∀ s,staT s ⟨⟨#[98]⟩,true,5⟩=s++⟨#[10,115,116,97,116,101,32]⟩++⟨#[98]⟩++⟨#[32,119,97,105,116,32]⟩++decB 5++⟨#[32,102,105,110,97,108]⟩:=fun s=>rfl
 have c4:∀ s,stpT s samS1=s++⟨#[10,115,116,101,112,32]⟩++⟨#[97]⟩++⟨#[32]⟩++⟨#[98]⟩++⟨#[32]⟩++kwB 1++⟨#[32]⟩++⟨#[109]⟩++⟨#[32]⟩++⟨#[115]⟩++⟨#[32,119,104,101,110,32]⟩++⟨#[110]⟩++⟨#[32]⟩++decB 0++⟨#[32]⟩++decB 1++⟨#[32]⟩++decB 1:=fun s=>rfl
 have c5:∀ s,stpT s samS2=s++⟨#[10,115,116,101,112,32]⟩++⟨#[98]⟩++⟨#[32]⟩++⟨#[97]⟩++⟨#[32]⟩++kwB 3:=fun s=>rfl
 rw [c1,c2,c3,c4,c5,d0,d1,d2,d5]
 decide +kernel
theorem num_ret (w:World) (v:Value):Ret Pg 15 #[v] w fun r w'=>r=v∧w'=w:=by
 refine n11s (R:=retR _) ?_;unfold n11
 exact ⟨_,rfl,rfl,rfl⟩
theorem q_step0 {C:World→Prop} [ClassNe C] (b n c:Nat) (hn:0 < n) {K:Value→Prop}:qV Pg C (Instr.indexAt 24 (.slice (some ⟨b,0,none⟩) n c) (.int .i64 0)) K=K (.pointer (some ⟨b,0,none⟩)):=qV_of fun QP w k=>(op_indexN Tryz.underlying24 ty71 b 0 n c .i64 0 hn).trans (by rw [Nat.zero_mul,Nat.add_zero])
theorem known_ret (w0:World) (hE:EnvOK w0):Ret Pg 11 #[] w0 fun r w'=>r = .bool true∧Ext w0 w':=by
 obtain ⟨ck0,ckX,ckY,ckZ⟩:=kn_check
 have hsmR:∀ x∈samR.steps,StpSm x:=by
  intro x hx
  have:x=samS1∨x=samS2:=by simpa [samR] using hx
  rcases this with rfl | rfl<;>(unfold StpSm;decide)
 have hsmX:∀ x∈samX.steps,StpSm x:=by
  intro x hx
  have:x={ samS1 with high:=2 }∨x=samS2:=by simpa [samX] using hx
  rcases this with rfl | rfl<;>(unfold StpSm;decide)
 have hsmY:∀ x∈samY.steps,StpSm x:=by
  intro x hx
  have:x={ samS1 with peer:=⟨#[99]⟩ }∨x=samS2:=by simpa [samY] using hx
  rcases this with rfl | rfl<;>(unfold StpSm;decide)
 have hok:RolOk samR:=by
  refine ⟨by decide,?_,?_,?_,by decide,by decide,by decide⟩
  · intro c hc
    have:c=⟨⟨#[110]⟩,2⟩:=by simpa [samR,samC] using hc
    subst this;decide
  · intro c hc
    have:c=⟨⟨#[97]⟩,false,0⟩∨c=⟨⟨#[98]⟩,true,5⟩:=by simpa [samR,samT] using hc
    rcases this with rfl | rfl<;>decide
  · intro x hx
    refine ⟨hsmR x hx,?_⟩
    have:x=samS1∨x=samS2:=by simpa [samR] using hx
    rcases this with rfl | rfl<;>decide
 refine n8s (R:=retR _) ?_;unfold n8
 refine callK_ret (sample_ret w0) ?_
 rintro v w1 ⟨e1,bS,bC,bT,hs⟩
 refine zcr (Print_ret w1 v samR hs.val hok (hE.ext e1).tab) fun w2 e2=>?_
 rw [kn_print,ck0]
 have dk:decide (kn_text=kn_text)=true:=decide_eq_true rfl
 unfold n8c24
 simp (disch:=try exact DI) only [↓PR,QR,simprocAttr,dk]
 refine callK_ret (num_ret w2 _) ?_
 rintro _ w2' ⟨rfl,rfl⟩
 simp (disch:=try exact DI) only [↓PR,QR,simprocAttr]
 unfold n8c23
 have E2:=e1.trans e2
 refine callK_ret (sample_ret w2') ?_
 rintro vx w3 ⟨e3,bSx,bCx,bTx,hx⟩
 refine callK_ret (sample_ret w3) ?_
 rintro vy w4 ⟨e4,bSy,bCy,bTy,hy⟩
 refine callK_ret (sample_ret w4) ?_
 rintro vz w5 ⟨e5,bSz,bCz,bTz,hz⟩
 have bx3:bTx < w3.heap.size:=(Array.getElem?_eq_some_iff.1 hx.T).1
 have by4:bTy < w4.heap.size:=(Array.getElem?_eq_some_iff.1 hy.T).1
 have s45:=e5.size
 have hx:=hx.ext (e4.trans e5)
 have hy:=hy.ext e5
 have E5:=((E2.trans e3).trans e4).trans e5
 obtain ⟨rfl,hxS,hxC,hxT,lx1,lx2,lx3⟩:=hx
 obtain ⟨rfl,hyS,hyC,hyT,ly1,ly2,ly3⟩:=hy
 obtain ⟨rfl,hzS,hzC,hzT,lz1,lz2,lz3⟩:=hz
 unfold n8c22
 simp (disch:=try exact DI) only [↓PR,QR,simprocAttr]
 simp only [World.size_alloc]
 have o3:∀ a b c:Obj,(((w5.alloc a).alloc b).alloc c).heap[w5.heap.size]?=some a∧(((w5.alloc a).alloc b).alloc c).heap[w5.heap.size+1]?=some b∧(((w5.alloc a).alloc b).alloc c).heap[w5.heap.size+1+1]?=some c:=fun a b c=>by refine ⟨?_,?_,?_⟩<;>simp (disch:=try exact DI) only [↓PR,QR,simprocAttr]
 obtain ⟨oX,oY,oZ⟩:=o3 (Obj.cells (rolCells samR (.slice (some ⟨bSx,0,none⟩) 2 2) (.slice (some ⟨bCx,0,none⟩) 1 1) (.slice (some ⟨bTx,0,none⟩) 2 2)).toArray TRol) (Obj.cells (rolCells samR (.slice (some ⟨bSy,0,none⟩) 2 2) (.slice (some ⟨bCy,0,none⟩) 1 1) (.slice (some ⟨bTy,0,none⟩) 2 2)).toArray TRol) (Obj.cells (rolCells samR (.slice (some ⟨bSz,0,none⟩) 2 2) (.slice (some ⟨bCz,0,none⟩) 1 1) (.slice (some ⟨bTz,0,none⟩) 2 2)).toArray TRol)
 have eU:Ext w5 (((w5.alloc (Obj.cells (rolCells samR (.slice (some ⟨bSx,0,none⟩) 2 2) (.slice (some ⟨bCx,0,none⟩) 1 1) (.slice (some ⟨bTx,0,none⟩) 2 2)).toArray TRol)).alloc (Obj.cells (rolCells samR (.slice (some ⟨bSy,0,none⟩) 2 2) (.slice (some ⟨bCy,0,none⟩) 1 1) (.slice (some ⟨bTy,0,none⟩) 2 2)).toArray TRol)).alloc (Obj.cells (rolCells samR (.slice (some ⟨bSz,0,none⟩) 2 2) (.slice (some ⟨bCz,0,none⟩) 1 1) (.slice (some ⟨bTz,0,none⟩) 2 2)).toArray TRol)):=(((Ext.refl w5).alloc _).alloc _).alloc _
 generalize World.alloc (World.alloc (World.alloc w5 _) _) _=U at oX oY oZ eU ⊢
 clear o3
 have hxS:=eU.obj hxS
 have hxC:=eU.obj hxC
 have hxT:=eU.obj hxT
 have hyS:=eU.obj hyS
 have hyC:=eU.obj hyC
 have hyT:=eU.obj hyT
 have hzC:=eU.obj hzC
 have hzT:=eU.obj hzT
 have bl:∀ {b:Nat} {o:Obj},w5.heap[b]?=some o→b < w5.heap.size:=fun h=>(Array.getElem?_eq_some_iff.1 h).1
 have s34:=e4.size
 have hxy:bTx≠bTy:=by omega
 refine drawK_introB bTx bTy (w1:=U) (fun _ _ _ _=>rfl) ?_
 have eD:Ext U (Sw.drew U):=(Ext.refl U).drew
 have hKD:KB U bTx bTy (Sw.drew U):=fun _ _ _ _=>rfl
 generalize Sw.drew U=D at eD hKD ⊢
 have n1:w5.heap.size≠bTx:=by omega
 have n2:w5.heap.size≠bTy:=by omega
 have n3:w5.heap.size+1≠bTx:=by omega
 have n4:w5.heap.size+1≠bTy:=by omega
 have n5:w5.heap.size+1+1≠bTx:=by omega
 have n6:w5.heap.size+1+1≠bTy:=by omega
 have E6:=E5.trans eU
 have s5:=E5.size
 generalize hb:w5.heap.size=B at *
 have dX:=eD.obj oX
 have dY:=eD.obj oY
 have dZ:=eD.obj oZ
 have dxT:=eD.obj hxT
 have dyT:=eD.obj hyT
 have hK1:∀ v,KB U bTx bTy (D.setCell ⟨bTx,7,none⟩ v):=fun v b hb h1 h2=>(Only.setCell D bTx 7 v b h1).trans (hKD b hb h1 h2)
 unfold n8c21
 have i0:∀ (b:Nat) (K:Value→Prop),qV Pg (KB U bTx bTy) (Instr.indexAt 24 (.slice (some ⟨b,0,none⟩) 2 2) (.int .i64 0)) K=K (.pointer (some ⟨b,0,none⟩)):=fun b K=>q_step0 b 2 2 (by decide)
 have q7:D.cell? ⟨bTx,7,none⟩=some (.int .i64 1):=by rw [(cells_of_heap dxT).1];rfl
 have z7:D.frozen? ⟨bTx,7,none⟩=false:=(cells_of_heap dxT).2 _
 simp (disch:=try exact DI) only [↓PR,QR,simprocAttr,(cells_of_heap oX).1,(cells_of_heap oY).1,i0,q7,z7]
 refine ⟨hK1 _,?_⟩
 have f1:(D.setCell ⟨bTx,7,none⟩ (.int .i64 2)).heap[bTx]?=some (.cells ([{ samS1 with high:=2 },samS2].flatMap stpCells).toArray 71 (0,0)):=heap_set (o:=7) dxT (.int .i64 2)
 have f2:∀ b,b≠bTx→(D.setCell ⟨bTx,7,none⟩ (.int .i64 2)).heap[b]?=D.heap[b]?:=fun b hb=>Only.setCell D bTx 7 _ b hb
 have E7:Ext w0 (D.setCell ⟨bTx,7,none⟩ (.int .i64 2)):=(E6.trans eD).setCell (p:=⟨bTx,7,none⟩) (by have:=E2.size;show w0.heap.size≤bTx;omega) _
 generalize World.setCell D _ _=D1 at f1 f2 E7 ⊢
 have gX:=(f2 _ n1).trans dX
 have gY:=(f2 _ n3).trans dY
 have gZ:=(f2 _ n5).trans dZ
 have gyT:=(f2 bTy (Ne.symm hxy)).trans dyT
 unfold n8c20
 have q4:D1.cell? ⟨bTy,4,none⟩=some (.string ⟨#[115]⟩):=by rw [(cells_of_heap gyT).1];rfl
 have z4:D1.frozen? ⟨bTy,4,none⟩=false:=(cells_of_heap gyT).2 _
 simp (disch:=try exact DI) only [↓PR,QR,simprocAttr,i0,q4,z4]
 refine turnK_intro ?_
 have f3:(D1.setCell ⟨bTy,4,none⟩ (.string ⟨#[99]⟩)).heap[bTy]?=some (.cells ([{ samS1 with peer:=⟨#[99]⟩ },samS2].flatMap stpCells).toArray 71 (0,0)):=heap_set (o:=4) gyT (.string ⟨#[99]⟩)
 have f4:∀ b,b≠bTy→(D1.setCell ⟨bTy,4,none⟩ (.string ⟨#[99]⟩)).heap[b]?=D1.heap[b]?:=fun b hb=>Only.setCell D1 bTy 4 _ b hb
 have E8:Ext w0 (D1.setCell ⟨bTy,4,none⟩ (.string ⟨#[99]⟩)):=E7.setCell (p:=⟨bTy,4,none⟩) (by have:=(E2.trans e3).size;show w0.heap.size≤bTy;omega) _
 generalize World.setCell D1 _ _=D2 at f3 f4 E8 ⊢
 have gZ2:=(f4 _ n6).trans gZ
 unfold n8c19
 simp (disch:=try exact DI) only [↓PR,QR,simprocAttr,(cells_of_heap gZ2).1,(cells_of_heap gZ2).2]
 refine turnK_intro ?_
 have f5:=heap_set (o:=1) gZ2 (.slice none 0 0)
 have f6:∀ b,b≠B+1+1→(D2.setCell ⟨B+1+1,1,none⟩ (.slice none 0 0)).heap[b]?=D2.heap[b]?:=fun b hb=>Only.setCell D2 _ 1 _ b hb
 have E9:Ext w0 (D2.setCell ⟨B+1+1,1,none⟩ (.slice none 0 0)):=E8.setCell (p:=⟨B+1+1,1,none⟩) (by show w0.heap.size≤B+1+1;omega) _
 generalize World.setCell D2 _ _=D3 at f5 f6 E9 ⊢
 have kk:∀ b,b≠bTx→b≠bTy→b≠B+1+1→b < U.heap.size→D3.heap[b]?=U.heap[b]?:=fun b h1 h2 h3 h4=>(f6 b h3).trans ((f4 b h2).trans ((f2 b h1).trans (eD.block b h4)))
 have hbl:∀ {b:Nat} {o:Obj},U.heap[b]?=some o→b < U.heap.size:=fun h=>(Array.getElem?_eq_some_iff.1 h).1
 have tn:∀ {b b':Nat} {T T':TypeId} {c c':Array Value},U.heap[b]?=some (.cells c T (0,0))→U.heap[b']?=some (.cells c' T' (0,0))→T≠T'→b≠b':=fun h h' hne e=>by
  subst e
  rw [h] at h'
  simp only [Option.some.injEq,Obj.cells.injEq] at h'
  exact hne h'.2.1
 have jX:D3.heap[B]?=_:=(kk B n1 n2 (by omega) (hbl oX)).trans oX
 have jY:D3.heap[B+1]?=_:=(kk (B+1) n3 n4 (by omega) (hbl oY)).trans oY
 have jxS:D3.heap[bSx]?=_:=(kk bSx (tn hxS hxT (by decide)) (tn hxS hyT (by decide)) (tn hxS oZ (by decide)) (hbl hxS)).trans hxS
 have jxC:D3.heap[bCx]?=_:=(kk bCx (tn hxC hxT (by decide)) (tn hxC hyT (by decide)) (tn hxC oZ (by decide)) (hbl hxC)).trans hxC
 have jyS:D3.heap[bSy]?=_:=(kk bSy (tn hyS hxT (by decide)) (tn hyS hyT (by decide)) (tn hyS oZ (by decide)) (hbl hyS)).trans hyS
 have jyC:D3.heap[bCy]?=_:=(kk bCy (tn hyC hxT (by decide)) (tn hyC hyT (by decide)) (tn hyC oZ (by decide)) (hbl hyC)).trans hyC
 have jzC:D3.heap[bCz]?=_:=(kk bCz (tn hzC hxT (by decide)) (tn hzC hyT (by decide)) (tn hzC oZ (by decide)) (hbl hzC)).trans hzC
 have bz:bTz≠bTx∧bTz≠bTy:=by omega
 have jzT:D3.heap[bTz]?=_:=(kk bTz bz.1 bz.2 (tn hzT oZ (by decide)) (hbl hzT)).trans hzT
 have jxT:D3.heap[bTx]?=_:=((f6 bTx (tn hxT oZ (by decide))).trans (f4 bTx hxy)).trans f1
 have jyT:D3.heap[bTy]?=_:=(f6 bTy (tn hyT oZ (by decide))).trans f3
 have vX:RolVal D3 (.agg #[.string ⟨#[99]⟩,.slice (some ⟨bSx,0,none⟩) 2 2,.slice (some ⟨bCx,0,none⟩) 1 1,.slice (some ⟨bTx,0,none⟩) 2 2]) samX:=RolOwn.val (base:=0) ⟨_,_,_,rfl,own_obj (l:=samT) jxS rfl rfl (fun _=>rfl) (Nat.zero_le _) (by decide),own_obj (l:=samC) jxC rfl rfl (fun _=>rfl) (Nat.zero_le _) (by decide),own_obj (l:=samX.steps) jxT rfl rfl (fun _=>rfl) (Nat.zero_le _) (by decide)⟩
 have vY:RolVal D3 (.agg #[.string ⟨#[99]⟩,.slice (some ⟨bSy,0,none⟩) 2 2,.slice (some ⟨bCy,0,none⟩) 1 1,.slice (some ⟨bTy,0,none⟩) 2 2]) samY:=RolOwn.val (base:=0) ⟨_,_,_,rfl,own_obj (l:=samT) jyS rfl rfl (fun _=>rfl) (Nat.zero_le _) (by decide),own_obj (l:=samC) jyC rfl rfl (fun _=>rfl) (Nat.zero_le _) (by decide),own_obj (l:=samY.steps) jyT rfl rfl (fun _=>rfl) (Nat.zero_le _) (by decide)⟩
 have vZ:RolVal D3 (.agg #[.string ⟨#[99]⟩,.slice none 0 0,.slice (some ⟨bCz,0,none⟩) 1 1,.slice (some ⟨bTz,0,none⟩) 2 2]) samZ:=RolOwn.val (base:=0) ⟨_,_,_,rfl,OwnE.nil _ _ _ _ _,own_obj (l:=samC) jzC rfl rfl (fun _=>rfl) (Nat.zero_le _) (by decide),own_obj (l:=[samS1,samS2]) jzT rfl rfl (fun _=>rfl) (Nat.zero_le _) (by decide)⟩
 simp (disch:=try exact DI) only [↓PR,QR,simprocAttr,(cells_of_heap jX).1]
 refine zcr (Check_ret D3 _ samX vX hsmX (by decide)) fun u1 a1=>?_
 rw [ckX]
 unfold n8c18
 simp (disch:=try exact DI) only [↓PR,QR,simprocAttr,(cells_of_heap (a1.obj jY)).1]
 refine zcr (Check_ret u1 _ samY (vY.ext a1) hsmY (by decide)) fun u2 a2=>?_
 rw [ckY]
 have a12:=a1.trans a2
 unfold n8c17
 simp (disch:=try exact DI) only [↓PR,QR,simprocAttr,(cells_of_heap (a12.obj f5)).1]
 refine zcr (Check_ret u2 _ samZ (vZ.ext a12) hsmR (by decide)) fun u3 a3=>?_
 rw [ckZ]
 have E10:=E9.trans (a12.trans a3)
 unfold n8c16
 simp (disch:=try exact DI) only [↓PR,QR,simprocAttr]
 refine callK_ret (Parse_ret (hE.ext E10) (by decide)) ?_
 rintro _ u4 ⟨⟨v4,rfl,hv4⟩,a4⟩
 rw [kn_parse1] at hv4 ⊢
 obtain ⟨y1,y2,y3,rfl,g1,g2,g3⟩:=hv4.val
 have oo1:=SliceOf.oneCell g1
 have oo2:=SliceOf.oneCell g2
 have oo3:=SliceOf.oneCell g3
 unfold n8c15
 simp (disch:=try exact DI) only [↓PR,QR,simprocAttr]
 generalize hU5:World.alloc u4 _=u5
 have a5:Ext u4 u5:=by rw [← hU5];exact (Ext.refl u4).alloc _
 clear hU5
 have E11:=E10.trans (a4.trans a5)
 refine callK_ret (Parse_ret (hE.ext E11) (by decide)) ?_
 rintro _ u6 ⟨⟨v6,rfl,hv6⟩,a6⟩
 rw [kn_parse2] at hv6 ⊢
 obtain ⟨z1,z2,z3,rfl,g4,g5,g6⟩:=hv6.val
 have oo4:=SliceOf.oneCell g4
 have oo5:=SliceOf.oneCell g5
 have oo6:=SliceOf.oneCell g6
 have wr0:(IntKind.i64.wrap (IntKind.i64.wrap 0+0) != 0)=false:=by decide
 unfold n8c14
 simp (disch:=try exact DI) only [↓PR,QR,simprocAttr,wr0,↓n8c13,↓n8c12,↓n8c11,↓n8c10,↓n8c9,↓n8c8,↓n8c7]
 generalize hU7:World.alloc u6 _=u7
 have a7:Ext u6 u7:=by rw [← hU7];exact (Ext.refl u6).alloc _
 clear hU7
 have E12:=E11.trans (a6.trans a7)
 refine callK_ret (sample_ret u7) ?_
 rintro vt u8 ⟨a8,cS,cC,cT,ht⟩
 refine callK_ret (Turn_ret u8 vt samR ⟨#[115]⟩ ht.val hsmR (by decide)) ?_
 rintro _ u9 ⟨⟨xt,rfl,hxt⟩,a9⟩
 rw [kn_turn] at hxt ⊢
 obtain ⟨sv,cv,tv,rfl,g7,g8,g9⟩:=hxt
 have oo7:=own_one g7 (fun _=>rfl)
 have oo8:=own_one g8 (fun _=>rfl)
 have oo9:=own_one g9 (fun _=>rfl)
 unfold n8c6
 simp (disch:=try exact DI) only [↓PR,QR,simprocAttr]
 have oA:=heap_new u9 (rolCells samTurned sv cv tv).toArray TRol
 have a10:Ext u9 (u9.alloc (.cells (rolCells samTurned sv cv tv).toArray TRol)):=(Ext.refl u9).alloc _
 generalize u9.alloc (.cells (rolCells samTurned sv cv tv).toArray TRol)=u10 at oA a10 ⊢
 refine callK_ret (num_ret u10 _) ?_
 rintro _ u10' ⟨rfl,rfl⟩
 have E13:=E12.trans (a8.trans (a9.trans a10))
 have hT:=(g9.ext a10).slice (E:=EStp) (fun _=>rfl) (fun _ _=>rfl)
 obtain ⟨TA,tc,rfl,_,_,_,hel⟩:=SliceOf.open hT
 obtain ⟨bt,ot,cs0,rfl,_,hA0,rfl⟩:=hel 0 _ rfl
 obtain ⟨bt',ot',cs1,hA',_,hA1,rfl⟩:=hel 1 _ rfl
 injection hA' with hA'
 injection hA' with e1' e2'
 subst e1' e2'
 have l2:((samTurned.steps.length:Int) == 2)=true:=by decide
 have j0:∀ (QP:List PanicEntry→World→Prop) (w:World) (K:Value→World→Prop),opV Pg (Instr.indexAt 24 (.slice (some ⟨bt,ot,none⟩) samTurned.steps.length tc) (.int .i64 0)) QP w K=K (.pointer (some ⟨bt,ot+0*9,none⟩)) w:=fun QP w K=>op_indexN Tryz.underlying24 ty71 bt ot samTurned.steps.length tc .i64 0 (by decide)
 have j1:∀ (QP:List PanicEntry→World→Prop) (w:World) (K:Value→World→Prop),opV Pg (Instr.indexAt 24 (.slice (some ⟨bt,ot,none⟩) samTurned.steps.length tc) (.int .i64 1)) QP w K=K (.pointer (some ⟨bt,ot+1*9,none⟩)) w:=fun QP w K=>op_indexN Tryz.underlying24 ty71 bt ot samTurned.steps.length tc .i64 1 (by decide)
 generalize ot+0*9=ot0 at hA0 j0
 generalize ot+1*9=ot1 at hA1 j1
 unfold n8c5
 simp (disch:=try exact DI) only [↓PR,QR,simprocAttr,↓n8c4,(cells_of_heap oA).1,l2,↓n8c3,j0,hA0.c9 (Ext.refl _)]
 unfold n8c2
 simp (disch:=try exact DI) only [↓PR,QR,simprocAttr,↓n8c1,(cells_of_heap oA).1,j1,hA1.c9 (Ext.refl _)]
 exact ⟨by first | trivial | rfl | decide,E13⟩
abbrev LawR (w0:World):Ending→World→Prop:=retR fun r w'=>r = .bool true∧Ext w0 w'
end Go.Proofs.YtngflmjncplkaaaGreatDoor
namespace Go.Proofs.YtngflmjncplkaaaGreatDoor
open Sw
open Go.ChangeShapes Go.WideShapes Go.RowKit Go.ChangeAt Go.Deep
def I64 (n:Int):Prop := -9223372036854775808≤n∧n≤9223372036854775807
theorem I64.of {n:Int} (h:(Lit.int .i64 n).wf=true):I64 n:=by
 simp only [Lit.wf,Bool.and_eq_true,decide_eq_true_eq] at h
 exact ⟨h.1,h.2⟩
def CntIn (x:CntD):Prop:=I64 x.limit
def StaIn (x:StaD):Prop:=I64 x.wait
def StpIn (x:StpD):Prop:=I64 x.low∧I64 x.high∧I64 x.add
def RolIn (r:RolD):Prop:=(∀ c∈r.counters,CntIn c)∧(∀ c∈r.states,StaIn c)∧∀ c∈r.steps,StpIn c
def SesIn (s:SesD):Prop:=(∀ r∈s.roles,RolIn r)∧I64 s.capacity
theorem ocellsString:Pg.cellsOf 9=1:=by kernel_rfl
theorem ocellsInt:Pg.cellsOf 3=1:=by kernel_rfl
theorem ocellsBool:Pg.cellsOf 4=1:=by kernel_rfl
theorem ocellsKind:Pg.cellsOf 69=1:=by kernel_rfl
theorem ocellsClass:Pg.cellsOf 55=1:=by kernel_rfl
theorem ocellsCnt:Pg.cellsOf 52=2:=by kernel_rfl
theorem ocellsSta:Pg.cellsOf 50=3:=by kernel_rfl
theorem ocellsStp:Pg.cellsOf 71=9:=by kernel_rfl
theorem ocellsRol:Pg.cellsOf 26=4:=by kernel_rfl
theorem ocellsSes:Pg.cellsOf 57=4:=by kernel_rfl
theorem ocellsCnts:Pg.cellsOf 23=1:=by kernel_rfl
theorem ocellsStas:Pg.cellsOf 22=1:=by kernel_rfl
theorem ocellsStps:Pg.cellsOf 24=1:=by kernel_rfl
theorem ocellsRols:Pg.cellsOf 54=1:=by kernel_rfl
theorem obytesCnt:1≤Pg.bytesOf 52:=Nat.le_of_ble_eq_true (by kernel_rfl)
theorem obytesSta:1≤Pg.bytesOf 50:=Nat.le_of_ble_eq_true (by kernel_rfl)
theorem obytesStp:1≤Pg.bytesOf 71:=Nat.le_of_ble_eq_true (by kernel_rfl)
theorem obytesRol:1≤Pg.bytesOf 26:=Nat.le_of_ble_eq_true (by kernel_rfl)
section
variable {H:Type} {enc:TypeId×Value→H} {w:World} {base:Nat} {spare:Nat→Bool} {held:Bool}
theorem cnt_of {m:Nat} {cs:List Value} {y:DataW H×List MemPlace} (h:DataW.trod enc Pg w base spare held m 52 cs=some y) (hr:Reached Pg 52 y.1):∃ x,ECnt w cs x∧CntIn x:=by
 obtain ⟨hl,n,hf⟩:=struct_of_trod Tryz.underlying52 ocellsCnt h hr
 obtain ⟨y0,h0,r0⟩:=hf 0 9 0 1 rfl ocellsString
 obtain ⟨y1,h1,r1⟩:=hf 1 3 1 1 rfl ocellsInt
 match cs,hl with
 | [c0,c1],_ =>
  obtain ⟨x0,e0,_⟩:=DataW.trod_string Tryz.underlying9 h0
  obtain ⟨x1,e1,_,w1⟩:=DataW.trod_int Tryz.underlying3 h1
  simp at e0 e1
  subst e0 e1
  exact ⟨⟨x0,x1⟩,rfl,I64.of w1⟩
theorem sta_of {m:Nat} {cs:List Value} {y:DataW H×List MemPlace} (h:DataW.trod enc Pg w base spare held m 50 cs=some y) (hr:Reached Pg 50 y.1):∃ x,ESta w cs x∧StaIn x:=by
 obtain ⟨hl,n,hf⟩:=struct_of_trod Tryz.underlying50 ocellsSta h hr
 obtain ⟨y0,h0,r0⟩:=hf 0 9 0 1 rfl ocellsString
 obtain ⟨y1,h1,r1⟩:=hf 1 4 1 1 rfl ocellsBool
 obtain ⟨y2,h2,r2⟩:=hf 2 3 2 1 rfl ocellsInt
 match cs,hl with
 | [c0,c1,c2],_ =>
  obtain ⟨x0,e0,_⟩:=DataW.trod_string Tryz.underlying9 h0
  obtain ⟨x1,e1,_⟩:=DataW.trod_bool Tryz.underlying4 h1
  obtain ⟨x2,e2,_,w2⟩:=DataW.trod_int Tryz.underlying3 h2
  simp at e0 e1 e2
  subst e0 e1 e2
  exact ⟨⟨x0,x1,x2⟩,rfl,I64.of w2⟩
theorem stp_of {m:Nat} {cs:List Value} {y:DataW H×List MemPlace} (h:DataW.trod enc Pg w base spare held m 71 cs=some y) (hr:Reached Pg 71 y.1):∃ x,EStp w cs x∧StpIn x:=by
 obtain ⟨hl,n,hf⟩:=struct_of_trod Tryz.underlying71 ocellsStp h hr
 obtain ⟨y0,h0,r0⟩:=hf 0 9 0 1 rfl ocellsString
 obtain ⟨y1,h1,r1⟩:=hf 1 9 1 1 rfl ocellsString
 obtain ⟨y2,h2,r2⟩:=hf 2 69 2 1 rfl ocellsKind
 obtain ⟨y3,h3,r3⟩:=hf 3 9 3 1 rfl ocellsString
 obtain ⟨y4,h4,r4⟩:=hf 4 9 4 1 rfl ocellsString
 obtain ⟨y5,h5,r5⟩:=hf 5 9 5 1 rfl ocellsString
 obtain ⟨y6,h6,r6⟩:=hf 6 3 6 1 rfl ocellsInt
 obtain ⟨y7,h7,r7⟩:=hf 7 3 7 1 rfl ocellsInt
 obtain ⟨y8,h8,r8⟩:=hf 8 3 8 1 rfl ocellsInt
 match cs,hl with
 | [c0,c1,c2,c3,c4,c5,c6,c7,c8],_ =>
  obtain ⟨x0,e0,_⟩:=DataW.trod_string Tryz.underlying9 h0
  obtain ⟨x1,e1,_⟩:=DataW.trod_string Tryz.underlying9 h1
  obtain ⟨x2,e2,_,w2⟩:=DataW.trod_int Tryz.underlying69 h2
  obtain ⟨x3,e3,_⟩:=DataW.trod_string Tryz.underlying9 h3
  obtain ⟨x4,e4,_⟩:=DataW.trod_string Tryz.underlying9 h4
  obtain ⟨x5,e5,_⟩:=DataW.trod_string Tryz.underlying9 h5
  obtain ⟨x6,e6,_,w6⟩:=DataW.trod_int Tryz.underlying3 h6
  obtain ⟨x7,e7,_,w7⟩:=DataW.trod_int Tryz.underlying3 h7
  obtain ⟨x8,e8,_,w8⟩:=DataW.trod_int Tryz.underlying3 h8
  simp at e0 e1 e2 e3 e4 e5 e6 e7 e8
  subst e0 e1 e2 e3 e4 e5 e6 e7 e8
  exact ⟨⟨x0,x1,x2,x3,x4,x5,x6,x7,x8⟩,rfl,I64.of w6,I64.of w7,I64.of w8⟩
theorem rol_of {m:Nat} {cs:List Value} {y:DataW H×List MemPlace} (h:DataW.trod enc Pg w base spare held m 26 cs=some y) (hr:Reached Pg 26 y.1):∃ x,ERol w cs x∧RolIn x:=by
 obtain ⟨hl,n,hf⟩:=struct_of_trod Tryz.underlying26 ocellsRol h hr
 obtain ⟨y0,h0,r0⟩:=hf 0 9 0 1 rfl ocellsString
 obtain ⟨y1,h1,r1⟩:=hf 1 22 1 1 rfl ocellsStas
 obtain ⟨y2,h2,r2⟩:=hf 2 23 2 1 rfl ocellsCnts
 obtain ⟨y3,h3,r3⟩:=hf 3 24 3 1 rfl ocellsStps
 match cs,hl with
 | [c0,c1,c2,c3],_ =>
  obtain ⟨x0,e0,_⟩:=DataW.trod_string Tryz.underlying9 h0
  obtain ⟨v1,x1,e1,hS1,hQ1,_⟩:=slice_of_trod (E:=ESta) (Q:=StaIn) Tryz.underlying22 ocellsSta obytesSta (by decide) (fun _ _ _ h hr=>sta_of h hr) h1 r1
  obtain ⟨v2,x2,e2,hS2,hQ2,_⟩:=slice_of_trod (E:=ECnt) (Q:=CntIn) Tryz.underlying23 ocellsCnt obytesCnt (by decide) (fun _ _ _ h hr=>cnt_of h hr) h2 r2
  obtain ⟨v3,x3,e3,hS3,hQ3,_⟩:=slice_of_trod (E:=EStp) (Q:=StpIn) Tryz.underlying24 ocellsStp obytesStp (by decide) (fun _ _ _ h hr=>stp_of h hr) h3 r3
  simp at e0 e1 e2 e3
  subst e0 e1 e2 e3
  exact ⟨⟨x0,x1,x2,x3⟩,⟨_,_,_,rfl,hS1,hS2,hS3⟩,hQ2,hQ1,hQ3⟩
theorem ses_of {m:Nat} {cs:List Value} {y:DataW H×List MemPlace} (h:DataW.trod enc Pg w base spare held m 57 cs=some y) (hr:Reached Pg 57 y.1):∃ x rv,cs=sesCells x rv∧RolsOf w rv x.roles∧SesIn x:=by
 obtain ⟨hl,n,hf⟩:=struct_of_trod Tryz.underlying57 ocellsSes h hr
 obtain ⟨y0,h0,r0⟩:=hf 0 9 0 1 rfl ocellsString
 obtain ⟨y1,h1,r1⟩:=hf 1 54 1 1 rfl ocellsRols
 obtain ⟨y2,h2,r2⟩:=hf 2 55 2 1 rfl ocellsClass
 obtain ⟨y3,h3,r3⟩:=hf 3 3 3 1 rfl ocellsInt
 match cs,hl with
 | [c0,c1,c2,c3],_ =>
  obtain ⟨x0,e0,_⟩:=DataW.trod_string Tryz.underlying9 h0
  obtain ⟨v1,x1,e1,hS1,hQ1,_⟩:=slice_of_trod (E:=ERol) (Q:=RolIn) Tryz.underlying54 ocellsRol obytesRol (by decide) (fun _ _ _ h hr=>rol_of h hr) h1 r1
  obtain ⟨x2,e2,_,w2⟩:=DataW.trod_int Tryz.underlying55 h2
  obtain ⟨x3,e3,_,w3⟩:=DataW.trod_int Tryz.underlying3 h3
  simp at e0 e1 e2 e3
  subst e0 e1 e2 e3
  exact ⟨⟨x0,x1,x2,x3⟩,_,rfl,hS1,hQ1,I64.of w3⟩
theorem ses_val {r:Reach} {b0:Nat} {v:Value} {d:DataW H} {ps:List MemPlace} (hval:Value.okWide Pg w r b0 57 v) (h:DataW.Trod enc Pg w base spare held 57 v d ps) (hr:Reached Pg 57 d):∃ f,SesVal w v f∧SesIn f:=by
 obtain ⟨cs,rfl,_⟩:=okWide_struct Tryz.underlying57 hval
 obtain ⟨fuel,hf⟩:=h
 obtain ⟨f,rv,h1,h2,hs⟩:=ses_of hf hr
 exact ⟨f,⟨rv,congrArg Value.agg (by rw [← h1,cells_agg]),h2⟩,hs⟩
end
end Go.Proofs.YtngflmjncplkaaaGreatDoor
namespace Go.Proofs.YtngflmjncplkaaaGreatDoor
open Sw
open Go.RowKit (intOf Below)
def StpFew (x:StpD):Prop:=x.fr.size≤60∧x.to.size≤60∧x.message.size≤60∧x.peer.size≤60∧x.counter.size≤60
structure Few (r:RolD):Prop where
 nc:r.counters.length≤6
 ns:r.states.length≤30
 nt:r.steps.length≤90
 nm:r.name.size≤60
 cs:∀ c∈r.counters,c.name.size≤60
 ss:∀ c∈r.states,c.name.size≤60
 ts:∀ x∈r.steps,StpFew x
theorem all_below {α:Type} {l:List α} {P:α→Prop} (h:∀ (j:Nat) y,j < l.length→l[j]?=some y→P y):∀ x∈l,P x:=fun x hx=>by
 obtain ⟨j,hj,e⟩:=List.getElem_of_mem hx
 exact h j x hj (by rw [List.getElem?_eq_getElem hj,e])
theorem below_succ {α:Type} {l:List α} {P:α→Prop} {k:Nat} {x:α} (hb:∀ (j:Nat) y,j < k→l[j]?=some y→P y) (hx:l[k]?=some x) (hp:P x):∀ (j:Nat) y,j < k+1→l[j]?=some y→P y:=fun j y hj hy=>by
 rcases Nat.lt_or_ge j k with h | h
 · exact hb j y h hy
 · obtain rfl:j=k:=by omega
   rw [hx] at hy
   injection hy with hy
   exact hy ▸ hp
abbrev LrgR (w0:World) (r:RolD):Ending→World→Prop:=retR fun u w'=>Ext w0 w'∧∃ b,u = .bool b∧(b=false→Few r)
theorem large_ret (w0:World) (v:Value) (r:RolD) (hr:RolVal w0 v r):Ret Pg 10 #[v] w0 fun u w'=>Ext w0 w'∧∃ b,u = .bool b∧(b=false→Few r):=by
 obtain ⟨sv,cv,tv,rfl,hS,hC,hT,o1,o2,o3⟩:=hr.op
 obtain ⟨A1,c1,rfl,_,_,_,hel1⟩:=SliceOf.open hS
 obtain ⟨A2,c2,rfl,_,_,_,hel2⟩:=SliceOf.open hC
 obtain ⟨A3,c3,rfl,_,_,_,hel3⟩:=SliceOf.open hT
 refine n9s (R:=retR _) ?_;unfold n9
 rw [op_boxA]
 have hp:=heap_new w0 (rolCells r (.slice A1 r.states.length c1) (.slice A2 r.counters.length c2) (.slice A3 r.steps.length c3)).toArray 26
 have eW:Ext w0 (w0.alloc (.cells (rolCells r (.slice A1 r.states.length c1) (.slice A2 r.counters.length c2) (.slice A3 r.steps.length c3)).toArray 26)):=ee
 generalize (w0.alloc (.cells (rolCells r (.slice A1 r.states.length c1) (.slice A2 r.counters.length c2) (.slice A3 r.steps.length c3)).toArray 26))=W at hp eW ⊢
 generalize w0.heap.size=p at hp ⊢
 have yes:∀ w,Ext W w→Ext w0 w∧∃ b,Value.bool true = .bool b∧(b=false→Few r):=fun w e=>⟨eW.trans e,true,rfl,fun h=>by cases h⟩
 by_cases h1:6 < r.counters.length
 · have d1:decide ((r.counters.length:Int) > 6)=true:=decide_eq_true (by omega)
   simp (disch:=try exact DI) only [↓PR,QR,simprocAttr,(cells_of_heap hp).1,d1,↓n9c11,↓n9c10]
   exact yes _ (Ext.refl _)
 have d1:decide ((r.counters.length:Int) > 6)=false:=decide_eq_false (by omega)
 by_cases h2:30 < r.states.length
 · have d2:decide ((r.states.length:Int) > 30)=true:=decide_eq_true (by omega)
   simp (disch:=try exact DI) only [↓PR,QR,simprocAttr,(cells_of_heap hp).1,d1,d2,↓n9c11,↓n9c10]
   exact yes _ (Ext.refl _)
 have d2:decide ((r.states.length:Int) > 30)=false:=decide_eq_false (by omega)
 by_cases h3:90 < r.steps.length
 · have d3:decide ((r.steps.length:Int) > 90)=true:=decide_eq_true (by omega)
   simp (disch:=try exact DI) only [↓PR,QR,simprocAttr,(cells_of_heap hp).1,d1,d2,d3,↓n9c11,↓n9c10]
   exact yes _ (Ext.refl _)
 have d3:decide ((r.steps.length:Int) > 90)=false:=decide_eq_false (by omega)
 by_cases h4:60 < r.name.size
 · have d4:decide ((r.name.size:Int) > 60)=true:=decide_eq_true (by omega)
   simp (disch:=try exact DI) only [↓PR,QR,simprocAttr,(cells_of_heap hp).1,d1,d2,d3,d4,↓n9c11,↓n9c10]
   exact yes _ (Ext.refl _)
 have d4:decide ((r.name.size:Int) > 60)=false:=decide_eq_false (by omega)
 have steps:∀ w,Ext W w→(∀ c∈r.counters,c.name.size≤60)→(∀ c∈r.states,c.name.size≤60)→loop1 (fun t5 w next6=>n9c5 (.pointer (some ⟨p,0,none⟩)) t5 next6 (LrgR w0 r) w) (.int .i64 0) w:=by
  intro w e hcs hss
  refine loop1_intro (fun a w=>∃ k:Nat,a = .int .i64 k∧k≤r.steps.length∧Ext W w∧∀ (j:Nat) y,j < k→r.steps[j]?=some y→StpFew y) (fun a _=>r.steps.length - (intOf a).toNat) ⟨0,rfl,by omega,e,fun j y h=>by omega⟩ ?_
  rintro _ w ⟨k,rfl,hk,e,hb⟩
  unfold n9c5
  by_cases hlt:k < r.steps.length
  · obtain ⟨x,hx⟩:=getElem?_lt hlt
    obtain ⟨b,o,cs,rfl,_,hA,rfl⟩:=hel3 k x hx
    have dk:(k:Int) < (r.steps.length:Int):=by omega
    have d1:decide ((k:Int) < (r.steps.length:Int))=true:=decide_eq_true dk
    have hw:IntKind.i64.wrap ((k:Int)+1)=((k+1:Nat):Int):=by rw [wrap_ok (by omega) (by omega)];omega
    simp (disch:=try exact DI) only [↓PR,QR,simprocAttr,(cells_of_heap (e.obj hp)).1,d1,↓n9c4,hA.c9 (eW.trans e)]
    generalize hV:World.alloc w _=V
    have eV:Ext w V:=by rw [← hV];exact (Ext.refl w).alloc _
    have oV:V.heap[w.heap.size]?=some (.cells (stpCells x).toArray 71 (0,0)):=by rw [← hV];exact heap_new _ _ _
    clear hV
    have more:StpFew x→(∃ k':Nat,Value.int .i64 ((k+1:Nat):Int) = .int .i64 k'∧k'≤r.steps.length∧Ext W V∧∀ (j:Nat) y,j < k'→r.steps[j]?=some y→StpFew y):=fun h=>⟨k+1,rfl,by omega,e.trans eV,below_succ hb hx h⟩
    have g:∀ n:Nat,n≤60→decide ((n:Int) > 60)=false:=fun n hn=>decide_eq_false (by omega)
    have g':∀ n:Nat,¬ n≤60→decide ((n:Int) > 60)=true:=fun n hn=>decide_eq_true (by omega)
    by_cases f1:x.fr.size≤60
    case neg =>
     simp (disch:=try exact DI) only [↓PR,QR,simprocAttr,(cells_of_heap oV).1,g' _ f1,↓n9c3,↓n9c2,↓n9c1]
     exact yes _ (e.trans eV)
    by_cases f2:x.to.size≤60
    case neg =>
     simp (disch:=try exact DI) only [↓PR,QR,simprocAttr,(cells_of_heap oV).1,g _ f1,g' _ f2,↓n9c3,↓n9c2,↓n9c1]
     exact yes _ (e.trans eV)
    by_cases f3:x.message.size≤60
    case neg =>
     simp (disch:=try exact DI) only [↓PR,QR,simprocAttr,(cells_of_heap oV).1,g _ f1,g _ f2,g' _ f3,↓n9c3,↓n9c2,↓n9c1]
     exact yes _ (e.trans eV)
    by_cases f4:x.peer.size≤60
    case neg =>
     simp (disch:=try exact DI) only [↓PR,QR,simprocAttr,(cells_of_heap oV).1,g _ f1,g _ f2,g _ f3,g' _ f4,↓n9c3,↓n9c2,↓n9c1]
     exact yes _ (e.trans eV)
    by_cases f5:x.counter.size≤60
    case neg =>
     simp (disch:=try exact DI) only [↓PR,QR,simprocAttr,(cells_of_heap oV).1,g _ f1,g _ f2,g _ f3,g _ f4,g' _ f5,↓n9c3,↓n9c2,↓n9c1]
     exact yes _ (e.trans eV)
    simp (disch:=try exact DI) only [↓PR,QR,simprocAttr,(cells_of_heap oV).1,g _ f1,g _ f2,g _ f3,g _ f4,g _ f5,hw,↓n9c3,↓n9c2,↓n9c1]
    exact ⟨more ⟨f1,f2,f3,f4,f5⟩,meas_lt (kd := .i64) hlt⟩
  · obtain rfl:k=r.steps.length:=by omega
    have d1:decide ((r.steps.length:Int) < (r.steps.length:Int))=false:=decide_eq_false (by omega)
    simp (disch:=try exact DI) only [↓PR,QR,simprocAttr,(cells_of_heap (e.obj hp)).1,d1]
    exact ⟨eW.trans e,false,rfl,fun _=>⟨by omega,by omega,by omega,by omega,hcs,hss,all_below hb⟩⟩
 have states:∀ w,Ext W w→(∀ c∈r.counters,c.name.size≤60)→loop1 (fun t4 w next5=>n9c7 (.pointer (some ⟨p,0,none⟩)) t4 next5 (LrgR w0 r) w) (.int .i64 0) w:=by
  intro w e hcs
  refine loop1_intro (fun a w=>∃ k:Nat,a = .int .i64 k∧k≤r.states.length∧Ext W w∧∀ (j:Nat) y,j < k→r.states[j]?=some y→y.name.size≤60) (fun a _=>r.states.length - (intOf a).toNat) ⟨0,rfl,by omega,e,fun j y h=>by omega⟩ ?_
  rintro _ w ⟨k,rfl,hk,e,hb⟩
  unfold n9c7
  by_cases hlt:k < r.states.length
  · obtain ⟨x,hx⟩:=getElem?_lt hlt
    obtain ⟨b,o,cs,rfl,_,hA,rfl⟩:=hel1 k x hx
    have dk:(k:Int) < (r.states.length:Int):=by omega
    have d1:decide ((k:Int) < (r.states.length:Int))=true:=decide_eq_true dk
    have hw:IntKind.i64.wrap ((k:Int)+1)=((k+1:Nat):Int):=by rw [wrap_ok (by omega) (by omega)];omega
    by_cases f1:x.name.size≤60
    case neg =>
     have q1:decide ((x.name.size:Int) > 60)=true:=decide_eq_true (by omega)
     simp (disch:=try exact DI) only [↓PR,QR,simprocAttr,(cells_of_heap (e.obj hp)).1,d1,↓n9c6,hA.c3 (eW.trans e),q1]
     exact yes _ e
    have q1:decide ((x.name.size:Int) > 60)=false:=decide_eq_false (by omega)
    simp (disch:=try exact DI) only [↓PR,QR,simprocAttr,(cells_of_heap (e.obj hp)).1,d1,↓n9c6,hA.c3 (eW.trans e),q1,hw]
    exact ⟨⟨k+1,rfl,by omega,e,below_succ hb hx f1⟩,meas_lt (kd := .i64) hlt⟩
  · obtain rfl:k=r.states.length:=by omega
    have d1:decide ((r.states.length:Int) < (r.states.length:Int))=false:=decide_eq_false (by omega)
    simp (disch:=try exact DI) only [↓PR,QR,simprocAttr,(cells_of_heap (e.obj hp)).1,d1]
    exact steps _ e hcs (all_below hb)
 simp (disch:=try exact DI) only [↓PR,QR,simprocAttr,(cells_of_heap hp).1,d1,d2,d3,d4,↓n9c11,↓n9c10]
 refine loop1_intro (fun a w=>∃ k:Nat,a = .int .i64 k∧k≤r.counters.length∧Ext W w∧∀ (j:Nat) y,j < k→r.counters[j]?=some y→y.name.size≤60) (fun a _=>r.counters.length - (intOf a).toNat) ⟨0,rfl,by omega,Ext.refl _,fun j y h=>by omega⟩ ?_
 rintro _ w ⟨k,rfl,hk,e,hb⟩
 unfold n9c9
 by_cases hlt:k < r.counters.length
 · obtain ⟨x,hx⟩:=getElem?_lt hlt
   obtain ⟨b,o,cs,rfl,_,hA,rfl⟩:=hel2 k x hx
   have dk:(k:Int) < (r.counters.length:Int):=by omega
   have d1:decide ((k:Int) < (r.counters.length:Int))=true:=decide_eq_true dk
   have hw:IntKind.i64.wrap ((k:Int)+1)=((k+1:Nat):Int):=by rw [wrap_ok (by omega) (by omega)];omega
   by_cases f1:x.name.size≤60
   case neg =>
    have q1:decide ((x.name.size:Int) > 60)=true:=decide_eq_true (by omega)
    simp (disch:=try exact DI) only [↓PR,QR,simprocAttr,(cells_of_heap (e.obj hp)).1,d1,↓n9c8,hA.c2 (eW.trans e),q1]
    exact yes _ e
   have q1:decide ((x.name.size:Int) > 60)=false:=decide_eq_false (by omega)
   simp (disch:=try exact DI) only [↓PR,QR,simprocAttr,(cells_of_heap (e.obj hp)).1,d1,↓n9c8,hA.c2 (eW.trans e),q1,hw]
   exact ⟨⟨k+1,rfl,by omega,e,below_succ hb hx f1⟩,meas_lt (kd := .i64) hlt⟩
 · obtain rfl:k=r.counters.length:=by omega
   have d1:decide ((r.counters.length:Int) < (r.counters.length:Int))=false:=decide_eq_false (by omega)
   simp (disch:=try exact DI) only [↓PR,QR,simprocAttr,(cells_of_heap (e.obj hp)).1,d1]
   exact states _ e (all_below hb)
theorem Few.sm {r:RolD} (h:Few r):∀ x∈r.steps,StpSm x:=fun x hx=>by
 obtain ⟨h1,h2,h3,h4,h5⟩:=h.ts x hx
 exact ⟨by omega,by omega,by omega,by omega,by omega⟩
theorem Few.ok {r:RolD} (h:Few r) (hi:RolIn r):RolOk r :=
 ⟨by have:=h.nm;omega,fun c hc=>⟨by have:=h.cs c hc;omega,hi.1 c hc⟩,fun c hc=>⟨by have:=h.ss c hc;omega,hi.2.1 c hc⟩,fun x hx=>⟨h.sm x hx,(hi.2.2 x hx).1,(hi.2.2 x hx).2.1,(hi.2.2 x hx).2.2⟩,by have:=h.nc;omega,by have:=h.ns;omega,by have:=h.nt;omega⟩
theorem printR_eq {r:RolD} (h:(checkR r).2=0):printR r=textP r:=by
 unfold printR
 rw [if_pos h,textP_eq]
def n10c1 (t1:Value) (R:RT) (w:World):Prop :=
 opV Pg (Instr.fieldAt 57 t1 1) (panK R) w fun t21 w =>
 opV Pg (Instr.loadAt 54 t21) (panK R) w fun t22 w =>
 opV Pg (Builtin.len_ #[54] 3 #[t22]) (panK R) w fun t23 w =>
 opV Pg (binS .gtr 3 true t23 (.int .i64 6)) (panK R) w fun t24 w =>
 joinK (fun (t29:Value) (w:World) =>
 pickK t24 (.bool true) t29 fun t30 =>
 R (.returned t30) w) fun K3 =>
 guardP t24 false (
 opV Pg (Instr.fieldAt 57 t1 0) (panK R) w fun t26 w =>
 opV Pg (Instr.loadAt 9 t26) (panK R) w fun t27 w =>
 opV Pg (Builtin.len_ #[9] 3 #[t27]) (panK R) w fun t28 w =>
 opV Pg (binS .gtr 3 true t28 (.int .i64 60)) (panK R) w fun t29 w =>
 K3 t29 w) (
 K3 undef w)
def n10c2 (t1 t3:Value) (next1:KV) (R:RT) (w:World):Prop :=
 opV Pg (Instr.fieldAt 57 t1 1) (panK R) w fun t15 w =>
 opV Pg (Instr.loadAt 54 t15) (panK R) w fun t16 w =>
 opV Pg (Instr.indexAt 54 t16 t3) (panK R) w fun t18 w =>
 opV Pg (Instr.loadAt 26 t18) (panK R) w fun t19 w =>
 callK Pg 10 #[t19] (panK R) w fun t20 w =>
 condP t20 (
 R (.returned (.bool true)) w) (
 opV Pg (binS .add 3 true t3 (.int .i64 1)) (panK R) w fun t14 w =>
 next1 t14 w)
def n10c3 (t1 t3:Value) (next1:KV) (R:RT) (w:World):Prop :=
 opV Pg (Instr.fieldAt 57 t1 1) (panK R) w fun t5 w =>
 opV Pg (Instr.loadAt 54 t5) (panK R) w fun t6 w =>
 opV Pg (Builtin.len_ #[54] 3 #[t6]) (panK R) w fun t7 w =>
 opV Pg (binS .lss 3 false t3 t7) (panK R) w fun t8 w =>
 joinK (fun (t11:Value) (w:World) =>
 pickK t8 t11 (.bool false) fun t12 =>
 condP t12 (
 n10c2 t1 t3 next1 R w) (
 n10c1 t1 R w)) fun K2 =>
 guardP t8 true (
 opV Pg (binS .lss 3 true t3 (.int .i64 7)) (panK R) w fun t11 w =>
 K2 t11 w) (
 K2 undef w)
def n10 (t0:Value) (R:RT) (w:World):Prop :=
 opV Pg (Instr.box 57 t0) (panK R) w fun t1 w =>
 loop1 (fun t3 w next1 =>
 n10c3 t1 t3 next1 R w) (.int .i64 0) w
theorem n10s {t0:Value} {R:RT} {w:World} (h:n10 t0 R w):Calls Pg 25 #[t0] w R:=by
 refine yD Tryz.func25 ?_
 refine zs<|zr<|yv h fun _ w h=>zm<|zn<|zk<|zs<|zs<|zr<|zm<|zn<|zk<|sim_block<|yl1 [2,3,4,5,6,7,8,9,10,11,12,13,14,15,16,17,18,19,20] 3 h fun σ w next h=>zs ?_
 refine zs<|sim_regionG<|yG 6<|zm<|yv h fun _ w h=>yv h fun _ w h=>yx h fun _ w h=>yb h fun _ w h=>zm<|zn<|yg1 2 5 true [10,11] 11 h (fun _ T hT h=>?_) fun σ w h=>?_
 · refine zm<|yb h fun _ w h=>zn ?_
   exact zt hT h
 refine yG 1<|yp h fun _ h=>zn<|sim_end<|zk<|yC h (fun h=>?_) fun h=>?_
 · refine sim_skip<|zk<|zs<|sim_block<|zs<|zr<|yv h fun _ w h=>yv h fun _ w h=>zm<|yv h fun _ w h=>yv h fun _ w h=>yc h c10 fun _ w h=>zn<|zk<|yC h (fun h=>zs<|zr<|zm<|zn<|zk<|sim_ret<|sim_block_ret<|sim_then_ret<|sim_then_ret<|sim_block_ret<|sim_then_ret<|body_ret1 rfl rfl h) fun h=>?_
   exact sim_skip<|sim_block_normal<|zk<|zr<|zm<|yb h fun _ w h=>zm<|zn<|zk<|⟨rfl,h⟩
 refine sim_exit<|sim_then_exit<|sim_then_exit<|sim_block_hit<|zk<|zs<|sim_regionG<|yG 5<|yv h fun _ w h=>yv h fun _ w h=>yx h fun _ w h=>yb h fun _ w h=>zm<|zn<|yg1 4 4 false [26,27,28,29] 29 h (fun _ T hT h=>?_) fun σ w h=>?_
 · refine yv h fun _ w h=>yv h fun _ w h=>yx h fun _ w h=>yb h fun _ w h=>zn ?_
   exact zt hT h
 exact yG 2<|yp h fun _ h=>zm<|zn<|sim_end<|zk<|sim_ret<|body_ret1 rfl rfl h
structure FewS (s:SesD):Prop where
 n:s.roles.length≤6
 nm:s.name.size≤60
 rs:∀ r∈s.roles,Few r
abbrev MnyR (w0:World) (s:SesD):Ending→World→Prop:=retR fun u w'=>Ext w0 w'∧∃ b,u = .bool b∧(b=false→FewS s)
theorem sesMany_ret (w0:World) (v:Value) (s:SesD) (hs:SesVal w0 v s):Ret Pg 25 #[v] w0 fun u w'=>Ext w0 w'∧∃ b,u = .bool b∧(b=false→FewS s):=by
 obtain ⟨rv,rfl,hR⟩:=hs
 obtain ⟨A,c,rfl,_,_,hlm,hel⟩:=SliceOf.open hR
 refine n10s (R:=retR _) ?_;unfold n10
 rw [op_boxA]
 have hp:=heap_new w0 (sesCells s (.slice A s.roles.length c)).toArray 57
 have eW:Ext w0 (w0.alloc (.cells (sesCells s (.slice A s.roles.length c)).toArray 57)):=ee
 generalize (w0.alloc (.cells (sesCells s (.slice A s.roles.length c)).toArray 57))=W at hp eW ⊢
 generalize w0.heap.size=p at hp ⊢
 refine loop1_intro (fun a w=>∃ k:Nat,a = .int .i64 k∧k≤s.roles.length∧k≤7∧Ext W w∧∀ (j:Nat) y,j < k→s.roles[j]?=some y→Few y) (fun a _=>s.roles.length - (intOf a).toNat) ⟨0,rfl,by omega,by omega,Ext.refl _,fun j y h=>by omega⟩ ?_
 rintro _ w ⟨k,rfl,hk,h7,e,hb⟩
 unfold n10c3
 have stop:¬ (k < s.roles.length∧k < 7)→n10c1 (.pointer (some ⟨p,0,none⟩)) (MnyR w0 s) w:=by
  intro hn
  unfold n10c1
  by_cases h6:6 < s.roles.length
  · have d3:decide ((s.roles.length:Int) > 6)=true:=decide_eq_true (by omega)
    simp (disch:=try exact DI) only [↓PR,QR,simprocAttr,(cells_of_heap (e.obj hp)).1,d3]
    exact ⟨eW.trans e,true,rfl,fun h=>by cases h⟩
  have d3:decide ((s.roles.length:Int) > 6)=false:=decide_eq_false (by omega)
  by_cases hn6:60 < s.name.size
  · have d4:decide ((s.name.size:Int) > 60)=true:=decide_eq_true (by omega)
    simp (disch:=try exact DI) only [↓PR,QR,simprocAttr,(cells_of_heap (e.obj hp)).1,d3,d4]
    exact ⟨eW.trans e,true,rfl,fun h=>by cases h⟩
  have d4:decide ((s.name.size:Int) > 60)=false:=decide_eq_false (by omega)
  simp (disch:=try exact DI) only [↓PR,QR,simprocAttr,(cells_of_heap (e.obj hp)).1,d3,d4]
  exact ⟨eW.trans e,false,rfl,fun _=>⟨by omega,by omega,all_below fun j y hj hy=>hb j y (by omega) hy⟩⟩
 by_cases hlt:k < s.roles.length
 case neg =>
  have d1:decide ((k:Int) < (s.roles.length:Int))=false:=decide_eq_false (by omega)
  simp (disch:=try exact DI) only [↓PR,QR,simprocAttr,(cells_of_heap (e.obj hp)).1,d1]
  exact stop fun h=>hlt h.1
 have dk:(k:Int) < (s.roles.length:Int):=by omega
 have d1:decide ((k:Int) < (s.roles.length:Int))=true:=decide_eq_true dk
 by_cases h7':k < 7
 case neg =>
  have d2:decide ((k:Int) < 7)=false:=decide_eq_false (by omega)
  simp (disch:=try exact DI) only [↓PR,QR,simprocAttr,(cells_of_heap (e.obj hp)).1,d1,d2]
  exact stop fun h=>h7' h.2
 have d2:decide ((k:Int) < 7)=true:=decide_eq_true (by omega)
 obtain ⟨x,hx⟩:=getElem?_lt hlt
 obtain ⟨b,o,cs,rfl,_,hA,sv,cv,tv,rfl,i1,i2,i3⟩:=hel k x hx
 have hw:IntKind.i64.wrap ((k:Int)+1)=((k+1:Nat):Int):=by rw [wrap_ok (by omega) (by omega)];omega
 simp (disch:=try exact DI) only [↓PR,QR,simprocAttr,(cells_of_heap (e.obj hp)).1,d1,d2,↓n10c2,hA.c4 (eW.trans e)]
 refine callK_ret (large_ret w _ x ⟨sv,cv,tv,rfl,i1.ext (eW.trans e),i2.ext (eW.trans e),i3.ext (eW.trans e)⟩) ?_
 rintro _ w1 ⟨e1,lb,rfl,hf⟩
 cases lb with
 | true =>
  simp (disch:=try exact DI) only [↓PR,QR,simprocAttr]
  exact ⟨(eW.trans e).trans e1,true,rfl,fun h=>by cases h⟩
 | false =>
  simp (disch:=try exact DI) only [↓PR,QR,simprocAttr,hw]
  exact ⟨⟨k+1,rfl,by omega,by omega,e.trans e1,below_succ hb hx (hf rfl)⟩,meas_lt (kd := .i64) hlt⟩
def rolesE:List RolD→List RolD→Int→Int×Int
 | _,[],_=>(0,0)
 | done,r::l,i=>if (checkR r).2≠0 then (i,(checkR r).2) else if done.any (fun x=>decide (x.name=r.name)) then (i,290) else rolesE (done++[r]) l (i+1)
def peerB (rs:List RolD) (x:StpD):Bool:=decide (2 < x.kind)||rs.any (fun r=>decide (r.name=x.peer))
def peersE (rs:List RolD):List RolD→Int→Int×Int
 | [],_=>(0,0)
 | r::l,i=>if r.steps.all (peerB rs) then peersE rs l (i+1) else (i,294)
def checkS (s:SesD):Int×Int:=if nameB s.name=false then (0,290) else if s.roles.length < 2∨4 < s.roles.length∨s.cls < 1∨3 < s.cls∨s.capacity < 1∨4 < s.capacity then (0,2) else if (rolesE [] s.roles 0).2≠0 then rolesE [] s.roles 0 else peersE s.roles s.roles 0
theorem same_ext {α:Type} {a b:List α} (hl:a.length=b.length) (h:∀ (j:Nat) y z,j < a.length→a[j]?=some y→b[j]?=some z→y=z):a=b:=by
 refine List.ext_getElem? fun j=>?_
 rcases Nat.lt_or_ge j a.length with hj | hj
 · obtain ⟨y,hy⟩:=getElem?_lt hj
   obtain ⟨z,hz⟩:=getElem?_lt (l:=b) (k:=j) (by omega)
   rw [hy,hz,h j y z hj hy hz]
 · rw [List.getElem?_eq_none hj,List.getElem?_eq_none (by omega)]
theorem same_no {α:Type} {a b:List α} {j:Nat} {y z:α} (hy:a[j]?=some y) (hz:b[j]?=some z) (h:y≠z):a≠b:=fun e=>by
 subst e
 rw [hy] at hz
 injection hz with hz
 exact h hz
theorem same_succ {α:Type} {a b:List α} {k:Nat} {x x':α} (hb:∀ (j:Nat) y z,j < k→a[j]?=some y→b[j]?=some z→y=z) (hx:a[k]?=some x) (hx':b[k]?=some x') (hp:x=x'):∀ (j:Nat) y z,j < k+1→a[j]?=some y→b[j]?=some z→y=z:=fun j y z hj hy hz=>by
 rcases Nat.lt_or_ge j k with h | h
 · exact hb j y z h hy hz
 · obtain rfl:j=k:=by omega
   rw [hx] at hy
   rw [hx'] at hz
   injection hy with hy
   injection hz with hz
   rw [← hy,← hz,hp]
theorem cnt_eq (a b:CntD):(decide (a.name=b.name)&&decide (a.limit=b.limit))=decide (a=b):=by
 cases a;cases b
 rw [Bool.eq_iff_iff]
 simp
theorem sta_eq (a b:StaD):(decide (a.name=b.name)&&(decide (a.final=b.final)&&decide (a.wait=b.wait)))=decide (a=b):=by
 cases a;cases b
 rw [Bool.eq_iff_iff]
 simp
abbrev SamR (w0:World) (a b:RolD):Ending→World→Prop:=retR fun u w'=>u = .bool (decide (a=b))∧Ext w0 w'
theorem rSame_ret (w0:World) (va vb:Value) (a b:RolD) (ha:RolVal w0 va a) (hb:RolVal w0 vb b):Ret Pg 21 #[va,vb] w0 fun u w'=>u = .bool (decide (a=b))∧Ext w0 w':=by
 obtain ⟨sv,cv,tv,rfl,hS,hC,hT,o1,o2,o3⟩:=ha.op
 obtain ⟨sv',cv',tv',rfl,hS',hC',hT',o1',o2',o3'⟩:=hb.op
 obtain ⟨A1,c1,rfl,_,_,l1,hel1⟩:=SliceOf.open hS
 obtain ⟨A2,c2,rfl,_,_,l2,hel2⟩:=SliceOf.open hC
 obtain ⟨A3,c3,rfl,_,_,l3,hel3⟩:=SliceOf.open hT
 obtain ⟨B1,d1,rfl,_,_,m1,hem1⟩:=SliceOf.open hS'
 obtain ⟨B2,d2,rfl,_,_,m2,hem2⟩:=SliceOf.open hC'
 obtain ⟨B3,d3,rfl,_,_,m3,hem3⟩:=SliceOf.open hT'
 refine n18s (R:=retR _) ?_;unfold n18
 rw [op_boxA]
 have hp:=heap_new w0 (rolCells a (.slice A1 a.states.length c1) (.slice A2 a.counters.length c2) (.slice A3 a.steps.length c3)).toArray 26
 have eW0:Ext w0 (w0.alloc (.cells (rolCells a (.slice A1 a.states.length c1) (.slice A2 a.counters.length c2) (.slice A3 a.steps.length c3)).toArray 26)):=ee
 generalize (w0.alloc (.cells (rolCells a (.slice A1 a.states.length c1) (.slice A2 a.counters.length c2) (.slice A3 a.steps.length c3)).toArray 26))=W0 at hp eW0 ⊢
 generalize w0.heap.size=p at hp ⊢
 rw [op_boxA]
 have hq:=heap_new W0 (rolCells b (.slice B1 b.states.length d1) (.slice B2 b.counters.length d2) (.slice B3 b.steps.length d3)).toArray 26
 have eW1:Ext W0 (W0.alloc (.cells (rolCells b (.slice B1 b.states.length d1) (.slice B2 b.counters.length d2) (.slice B3 b.steps.length d3)).toArray 26)):=ee
 generalize (W0.alloc (.cells (rolCells b (.slice B1 b.states.length d1) (.slice B2 b.counters.length d2) (.slice B3 b.steps.length d3)).toArray 26))=W at hq eW1 ⊢
 generalize W0.heap.size=q at hq ⊢
 replace hp:=eW1.obj hp
 have eW:=eW0.trans eW1
 have no:∀ w,Ext W w→a≠b→Value.bool false = .bool (decide (a=b))∧Ext w0 w:=fun w e h=>⟨by rw [decide_eq_false h],eW.trans e⟩
 have w7:∀ n:Nat,n < 9223372036854775807→IntKind.i64.wrap ((n:Int)+1)=((n+1:Nat):Int):=fun n h=>by rw [wrap_ok (by omega) (by omega)];omega
 have nq:∀ m n:Nat,m≠n→((m:Int) != (n:Int))=true:=fun m n h=>by simp only [bne_iff_ne,ne_eq];omega
 have nq':∀ m:Nat,((m:Int) != (m:Int))=false:=fun m=>by simp
 have CH:True:=trivial
 by_cases g0:a.name=b.name
 case neg =>
  have z0:(!decide (a.name=b.name))=true:=by simp [g0]
  simp (disch:=try exact DI) only [↓PR,QR,simprocAttr,(cells_of_heap hp).1,(cells_of_heap hq).1,z0,g0,↓n18c8,↓n18c7]
  exact no _ (Ext.refl _) fun e=>g0 (by rw [e])
 have z0:decide (a.name=b.name)=true:=decide_eq_true g0
 by_cases g1:a.counters.length=b.counters.length
 case neg =>
  simp (disch:=try exact DI) only [↓PR,QR,simprocAttr,(cells_of_heap hp).1,(cells_of_heap hq).1,z0,Bool.not_true,nq _ _ g1,↓n18c8,↓n18c7]
  exact no _ (Ext.refl _) fun e=>g1 (by rw [e])
 have z1:((a.counters.length:Int) != (b.counters.length:Int))=false:=by rw [g1];exact nq' _
 by_cases g2:a.states.length=b.states.length
 case neg =>
  simp (disch:=try exact DI) only [↓PR,QR,simprocAttr,(cells_of_heap hp).1,(cells_of_heap hq).1,z0,Bool.not_true,z1,nq _ _ g2,↓n18c8,↓n18c7]
  exact no _ (Ext.refl _) fun e=>g2 (by rw [e])
 have z2:((a.states.length:Int) != (b.states.length:Int))=false:=by rw [g2];exact nq' _
 by_cases g3:a.steps.length=b.steps.length
 case neg =>
  simp (disch:=try exact DI) only [↓PR,QR,simprocAttr,(cells_of_heap hp).1,(cells_of_heap hq).1,z0,Bool.not_true,z1,z2,nq _ _ g3,↓n18c8,↓n18c7]
  exact no _ (Ext.refl _) fun e=>g3 (by rw [e])
 have z3:((a.steps.length:Int) != (b.steps.length:Int))=false:=by rw [g3];exact nq' _
 have Lsteps:∀ w,Ext W w→a.states=b.states→a.counters=b.counters→loop1 (fun t7 w next8=>n18c4 (.pointer (some ⟨p,0,none⟩)) (.pointer (some ⟨q,0,none⟩)) t7 next8 (SamR w0 a b) w) (.int .i64 0) w:=by
  intro w e es ec
  refine loop1_intro (fun i w=>∃ k:Nat,i = .int .i64 k∧k≤a.steps.length∧Ext W w∧∀ (j:Nat) y z,j < k→a.steps[j]?=some y→b.steps[j]?=some z→y=z) (fun i _=>a.steps.length - (intOf i).toNat) ⟨0,rfl,by omega,e,fun j y z h=>by omega⟩ ?_
  rintro _ w ⟨k,rfl,hk,e,hbb⟩
  unfold n18c4
  by_cases hlt:k < a.steps.length
  · obtain ⟨x,hx⟩:=getElem?_lt hlt
    obtain ⟨y,hy⟩:=getElem?_lt (l:=b.steps) (k:=k) (by omega)
    obtain ⟨b1,o1,cs1,rfl,_,hA,rfl⟩:=hel3 k x hx
    obtain ⟨b2,o2,cs2,rfl,_,hB,rfl⟩:=hem3 k y hy
    have dk:(k:Int) < (a.steps.length:Int):=by omega
    have dk2:(k:Int) < (b.steps.length:Int):=by omega
    have d1:decide ((k:Int) < (a.steps.length:Int))=true:=decide_eq_true dk
    simp (disch:=try exact DI) only [↓PR,QR,simprocAttr,(cells_of_heap (e.obj hp)).1,d1]
    refine drawK_intro ?_
    have eD:Ext w (Sw.drew w):=(Ext.refl w).drew
    have e2:=e.trans eD
    generalize (Sw.drew w)=w2 at e2 ⊢
    clear eD
    have hw:=w7 k (by omega)
    by_cases hxy:x=y
    · have hq1:decide (x=y)=true:=decide_eq_true hxy
      simp (disch:=try exact DI) only [↓PR,QR,simprocAttr,↓n18c3,(cells_of_heap (e2.obj hp)).1,(cells_of_heap (e2.obj hq)).1,hA.c9 (eW.trans e2),hB.c9 (eW.trans e2),stp_eq,hq1,Bool.not_true,hw]
      exact ⟨⟨k+1,rfl,by omega,e2,same_succ hbb hx hy hxy⟩,meas_lt (kd := .i64) hlt⟩
    · have hq1:decide (x=y)=false:=decide_eq_false hxy
      simp (disch:=try exact DI) only [↓PR,QR,simprocAttr,↓n18c3,(cells_of_heap (e2.obj hp)).1,(cells_of_heap (e2.obj hq)).1,hA.c9 (eW.trans e2),hB.c9 (eW.trans e2),stp_eq,hq1,Bool.not_false]
      exact no _ e2 fun h=>same_no hx hy hxy (by rw [h])
  · have d1:decide ((k:Int) < (a.steps.length:Int))=false:=decide_eq_false (by omega)
    have ex:a.steps=b.steps:=same_ext g3 fun j y z hj=>hbb j y z (by omega)
    simp (disch:=try exact DI) only [↓PR,QR,simprocAttr,(cells_of_heap (e.obj hp)).1,d1]
    have:a=b:=by
     cases a;cases b
     simp_all
    exact ⟨by rw [decide_eq_true this],eW.trans e⟩
 have Lstates:∀ w,Ext W w→a.counters=b.counters→loop1 (fun t6 w next6=>n18c5 (.pointer (some ⟨p,0,none⟩)) (.pointer (some ⟨q,0,none⟩)) t6 next6 (SamR w0 a b) w) (.int .i64 0) w:=by
  intro w e ec
  refine loop1_intro (fun i w=>∃ k:Nat,i = .int .i64 k∧k≤a.states.length∧Ext W w∧∀ (j:Nat) y z,j < k→a.states[j]?=some y→b.states[j]?=some z→y=z) (fun i _=>a.states.length - (intOf i).toNat) ⟨0,rfl,by omega,e,fun j y z h=>by omega⟩ ?_
  rintro _ w ⟨k,rfl,hk,e,hbb⟩
  unfold n18c5
  by_cases hlt:k < a.states.length
  · obtain ⟨x,hx⟩:=getElem?_lt hlt
    obtain ⟨y,hy⟩:=getElem?_lt (l:=b.states) (k:=k) (by omega)
    obtain ⟨b1,o1,cs1,rfl,_,hA,rfl⟩:=hel1 k x hx
    obtain ⟨b2,o2,cs2,rfl,_,hB,rfl⟩:=hem1 k y hy
    have dk:(k:Int) < (a.states.length:Int):=by omega
    have dk2:(k:Int) < (b.states.length:Int):=by omega
    have d1:decide ((k:Int) < (a.states.length:Int))=true:=decide_eq_true dk
    simp (disch:=try exact DI) only [↓PR,QR,simprocAttr,(cells_of_heap (e.obj hp)).1,d1]
    refine drawK_intro ?_
    have eD:Ext w (Sw.drew w):=(Ext.refl w).drew
    have e2:=e.trans eD
    generalize (Sw.drew w)=w2 at e2 ⊢
    clear eD
    have hw:=w7 k (by omega)
    by_cases hxy:x=y
    · have hq1:decide (x=y)=true:=decide_eq_true hxy
      simp (disch:=try exact DI) only [↓PR,QR,simprocAttr,↓n18c2,(cells_of_heap (e2.obj hp)).1,(cells_of_heap (e2.obj hq)).1,hA.c3 (eW.trans e2),hB.c3 (eW.trans e2),sta_eq,hq1,Bool.not_true,hw]
      exact ⟨⟨k+1,rfl,by omega,e2,same_succ hbb hx hy hxy⟩,meas_lt (kd := .i64) hlt⟩
    · have hq1:decide (x=y)=false:=decide_eq_false hxy
      simp (disch:=try exact DI) only [↓PR,QR,simprocAttr,↓n18c2,(cells_of_heap (e2.obj hp)).1,(cells_of_heap (e2.obj hq)).1,hA.c3 (eW.trans e2),hB.c3 (eW.trans e2),sta_eq,hq1,Bool.not_false]
      exact no _ e2 fun h=>same_no hx hy hxy (by rw [h])
  · have d1:decide ((k:Int) < (a.states.length:Int))=false:=decide_eq_false (by omega)
    have ex:a.states=b.states:=same_ext g2 fun j y z hj=>hbb j y z (by omega)
    simp (disch:=try exact DI) only [↓PR,QR,simprocAttr,(cells_of_heap (e.obj hp)).1,d1]
    exact Lsteps _ e ex ec
 have Lcounters:∀ w,Ext W w→loop1 (fun t5 w next4=>n18c6 (.pointer (some ⟨p,0,none⟩)) (.pointer (some ⟨q,0,none⟩)) t5 next4 (SamR w0 a b) w) (.int .i64 0) w:=by
  intro w e 
  refine loop1_intro (fun i w=>∃ k:Nat,i = .int .i64 k∧k≤a.counters.length∧Ext W w∧∀ (j:Nat) y z,j < k→a.counters[j]?=some y→b.counters[j]?=some z→y=z) (fun i _=>a.counters.length - (intOf i).toNat) ⟨0,rfl,by omega,e,fun j y z h=>by omega⟩ ?_
  rintro _ w ⟨k,rfl,hk,e,hbb⟩
  unfold n18c6
  by_cases hlt:k < a.counters.length
  · obtain ⟨x,hx⟩:=getElem?_lt hlt
    obtain ⟨y,hy⟩:=getElem?_lt (l:=b.counters) (k:=k) (by omega)
    obtain ⟨b1,o1,cs1,rfl,_,hA,rfl⟩:=hel2 k x hx
    obtain ⟨b2,o2,cs2,rfl,_,hB,rfl⟩:=hem2 k y hy
    have dk:(k:Int) < (a.counters.length:Int):=by omega
    have dk2:(k:Int) < (b.counters.length:Int):=by omega
    have d1:decide ((k:Int) < (a.counters.length:Int))=true:=decide_eq_true dk
    simp (disch:=try exact DI) only [↓PR,QR,simprocAttr,(cells_of_heap (e.obj hp)).1,d1]
    refine drawK_intro ?_
    have eD:Ext w (Sw.drew w):=(Ext.refl w).drew
    have e2:=e.trans eD
    generalize (Sw.drew w)=w2 at e2 ⊢
    clear eD
    have hw:=w7 k (by omega)
    by_cases hxy:x=y
    · have hq1:decide (x=y)=true:=decide_eq_true hxy
      simp (disch:=try exact DI) only [↓PR,QR,simprocAttr,↓n18c1,(cells_of_heap (e2.obj hp)).1,(cells_of_heap (e2.obj hq)).1,hA.c2 (eW.trans e2),hB.c2 (eW.trans e2),cnt_eq,hq1,Bool.not_true,hw]
      exact ⟨⟨k+1,rfl,by omega,e2,same_succ hbb hx hy hxy⟩,meas_lt (kd := .i64) hlt⟩
    · have hq1:decide (x=y)=false:=decide_eq_false hxy
      simp (disch:=try exact DI) only [↓PR,QR,simprocAttr,↓n18c1,(cells_of_heap (e2.obj hp)).1,(cells_of_heap (e2.obj hq)).1,hA.c2 (eW.trans e2),hB.c2 (eW.trans e2),cnt_eq,hq1,Bool.not_false]
      exact no _ e2 fun h=>same_no hx hy hxy (by rw [h])
  · have d1:decide ((k:Int) < (a.counters.length:Int))=false:=decide_eq_false (by omega)
    have ex:a.counters=b.counters:=same_ext g1 fun j y z hj=>hbb j y z (by omega)
    simp (disch:=try exact DI) only [↓PR,QR,simprocAttr,(cells_of_heap (e.obj hp)).1,d1]
    exact Lstates _ e ex
 simp (disch:=try exact DI) only [↓PR,QR,simprocAttr,(cells_of_heap hp).1,(cells_of_heap hq).1,z0,Bool.not_true,z1,z2,z3,↓n18c8,↓n18c7]
 exact Lcounters _ (Ext.refl _)
section
variable {P:Program} {QP:List PanicEntry→World→Prop} {k:Value→World→Prop} {w:World}
theorem op_subS {t:TypeId} (hu:P.underlying t=some .string) (s:ByteArray) (a b:Nat) (h1:a≤b) (h2:b≤s.size):opV P (Instr.sliceAt t (.string s) (some (.int .i64 (a:Int))) (some (.int .i64 (b:Int))) none) QP w k=k (.string (s.extract a b)) w:=by
 have g1:(a:Int)≤(b:Int):=by omega
 have g2:(b:Int)≤(s.size:Int):=by omega
 refine opV_ok ?_
 simp [Instr.sliceAt,run_underlying hu,Instr.slice,Instr.sliceBounds,run_sliceBound,g1,g2]
theorem op_subE {t:TypeId} (hu:P.underlying t=some .string) (s:ByteArray) (a:Nat) (h1:a≤s.size):opV P (Instr.sliceAt t (.string s) (some (.int .i64 (a:Int))) none none) QP w k=k (.string (s.extract a s.size)) w:=by
 have g1:(a:Int)≤(s.size:Int):=by omega
 refine opV_ok ?_
 simp [Instr.sliceAt,run_underlying hu,Instr.slice,Instr.sliceBounds,run_sliceBound,g1]
end
theorem sub_mkB (s:ByteArray) (a b:Nat):s.extract a b=mkB ((s.data.toList.drop a).take (b - a)):=by
 refine bytes_ext ?_
 unfold mkB
 simp [Array.toList_extract,List.extract_eq_take_drop]
theorem sub_mkE (s:ByteArray) (a:Nat):s.extract a s.size=mkB (s.data.toList.drop a):=by
 rw [sub_mkB,List.take_of_length_le (by rw [List.length_drop,Array.length_toList];exact Nat.le_refl _)]
theorem cut_ret (w0:World) (s:ByteArray) (c:UInt8) (hz:s.size≤100000):Ret Pg 53 #[.string s,.int .u8 (c.toNat:Int)] w0 fun u w'=>OwnS w' w0.heap.size u (cutW c s)∧Ext w0 w':=by
 have hsz:s.data.toList.length=s.size:=by rw [Array.length_toList];rfl
 refine n24s (R:=retR _) ?_;unfold n24
 refine loop3_intro (fun a b i w=>∃ (f k:Nat) (l:List ByteArray),b = .int .i64 (f:Int)∧i = .int .i64 (k:Int)∧f≤k∧k≤s.size∧Ext w0 w∧OwnS w w0.heap.size a l∧l.length≤f∧l++(cutL c (s.data.toList.drop f)).map mkB=cutW c s∧c ∉ (s.data.toList.drop f).take (k - f)) (fun _ _ i _=>s.size - (intOf i).toNat) ⟨0,0,[],rfl,rfl,by omega,by omega,Ext.refl _,OwnE.nil _ _ _ _ _,by simp,rfl,by simp⟩ ?_
 rintro v _ _ w ⟨f,k,l,rfl,rfl,hfk,hk,e,hO,hll,hI,hno⟩
 have sw:=e.size
 unfold n24c4
 by_cases hlt:k < s.size
 · have dk:(k:Int) < (s.size:Int):=by omega
   have d1:decide ((k:Int) < (s.size:Int))=true:=decide_eq_true dk
   obtain ⟨x,hx⟩:=getElem?_lt (l:=s.data.toList) (k:=k) (by omega)
   have hidx:∀ (QP:List PanicEntry→World→Prop) (w:World) (K:Value→World→Prop),opV Pg (Instr.index 9 (.string s) (.int .i64 (k:Int))) QP w K=K (.int .u8 (x.toNat:Int)) w:=fun QP w K=>op_indexS Tryz.underlying9 s .i64 k hx
   have hw:IntKind.i64.wrap ((k:Int)+1)=((k+1:Nat):Int):=by rw [wrap_ok (by omega) (by omega)];omega
   have hd:(s.data.toList.drop f).take (k+1 - f)=(s.data.toList.drop f).take (k - f)++[x]:=by
    rw [show k+1 - f=(k - f)+1 by omega,List.take_add_one,List.getElem?_drop,show f+(k - f)=k by omega,hx]
    rfl
   by_cases hc:x=c
   · have d2:((x.toNat:Int) == (c.toNat:Int))=true:=by rw [hc];simp
     have hp:s.data.toList.drop f=(s.data.toList.drop f).take (k - f)++c::s.data.toList.drop (k+1):=by
      conv=>lhs;rw [← List.take_append_drop (k - f) (s.data.toList.drop f)]
      rw [List.drop_drop,show f+(k - f)=k by omega]
      congr 1
      rw [List.drop_eq_getElem_cons (by omega)]
      congr 1
      rw [List.getElem?_eq_getElem (by omega)] at hx
      injection hx with hx
      rw [hx,hc]
     rw [hp,cutL_part _ hno,List.map_cons] at hI
     simp (disch:=try exact DI) only [↓PR,QR,simprocAttr,d1,↓n24c3,hidx,d2,↓n24c1]
     rw [op_subS Tryz.underlying9 s f k hfk (by omega),sub_mkB]
     simp (disch:=try exact DI) only [↓PR,QR,simprocAttr]
     generalize hY:World.alloc w _=Y
     have eY:Ext w Y:=by rw [← hY];exact (Ext.refl w).alloc _
     have oY:Y.cell? ⟨w.heap.size,0,none⟩=some (.string (mkB ((s.data.toList.drop f).take (k - f)))):=by rw [← hY];exact (cells_of_heap (heap_new w #[.string (mkB ((s.data.toList.drop f).take (k - f)))] 9)).1 0
     clear hY
     refine append_str (mkB ((s.data.toList.drop f).take (k - f))) (hO.ext eY) oY (e.trans eY).size (by omega) ?_
     intro v' w' hO' hg
     simp (disch:=try exact DI) only [↓PR,QR,simprocAttr,hw]
     exact ⟨⟨k+1,k+1,l++[mkB ((s.data.toList.drop f).take (k - f))],rfl,rfl,by omega,by omega,(e.trans eY).grown hg fun b hb=>(World.ownsRow.lt hO b hb).1,hO',by simp;omega,by rw [List.append_assoc];exact hI,by simp⟩,meas_lt (kd := .i64) hlt⟩
   · have d2:((x.toNat:Int) == (c.toNat:Int))=false:=by
      rw [beq_eq_false_iff_ne]
      intro h
      exact hc (UInt8.toNat_inj.1 (by omega))
     simp (disch:=try exact DI) only [↓PR,QR,simprocAttr,d1,↓n24c3,hidx,d2,hw]
     exact ⟨⟨f,k+1,l,rfl,rfl,by omega,by omega,e,hO,hll,hI,by rw [hd,List.mem_append,List.mem_singleton];exact fun h=>h.elim hno fun h=>hc h.symm⟩,meas_lt (kd := .i64) hlt⟩
 · obtain rfl:k=s.size:=by omega
   have d1:decide ((s.size:Int) < (s.size:Int))=false:=decide_eq_false (by omega)
   rw [List.take_of_length_le (by rw [List.length_drop];omega)] at hno
   rw [cutL_free hno] at hI
   simp (disch:=try exact DI) only [↓PR,QR,simprocAttr,d1,↓n24c2]
   rw [op_subE Tryz.underlying9 s f hfk,sub_mkE]
   simp (disch:=try exact DI) only [↓PR,QR,simprocAttr]
   generalize hY:World.alloc w _=Y
   have eY:Ext w Y:=by rw [← hY];exact (Ext.refl w).alloc _
   have oY:Y.cell? ⟨w.heap.size,0,none⟩=some (.string (mkB (s.data.toList.drop f))):=by rw [← hY];exact (cells_of_heap (heap_new w #[.string (mkB (s.data.toList.drop f))] 9)).1 0
   clear hY
   refine append_str (mkB (s.data.toList.drop f)) (hO.ext eY) oY (e.trans eY).size (by omega) ?_
   intro v' w' hO' hg
   rw [← hI]
   exact ⟨_,rfl,hO',(e.trans eY).grown hg fun b hb=>(World.ownsRow.lt hO b hb).1⟩
def numT:Option Int→Value
 | some n => .tuple #[.int .i64 n,.bool true]
 | none => .tuple #[.int .i64 0,.bool false]
theorem op_subE1 {P:Program} {QP:List PanicEntry→World→Prop} {k:Value→World→Prop} {w:World} {t:TypeId} (hu:P.underlying t=some .string) (s:ByteArray) (h1:1≤s.size):opV P (Instr.sliceAt t (.string s) (some (.int .i64 1)) none none) QP w k=k (.string (s.extract 1 s.size)) w:=op_subE hu s 1 h1
theorem number_tail (d:ByteArray) (neg:Bool) {w:World} {R:RT} (h:R (.returned (numT (digsN neg d.data.toList))) w):n26c9 (.string d) (.int .i64 (if neg then -1 else 1)) R w:=by
 have hsz:d.data.toList.length=d.size:=by rw [Array.length_toList];rfl
 unfold n26c9
 by_cases h1:d.size < 1
 · have d1:decide ((d.size:Int) < 1)=true:=decide_eq_true (by omega)
   have hr:digsN neg d.data.toList=none:=by unfold digsN;rw [if_pos (.inl (by omega))]
   rw [hr] at h
   simp (disch:=try exact DI) only [↓PR,QR,simprocAttr,d1,↓n26c8,↓n26c7,↓n26c6,↓n26c5,↓n26c4]
   exact h
 have d1:decide ((d.size:Int) < 1)=false:=decide_eq_false (by omega)
 by_cases h2:10 < d.size
 · have d2:decide ((d.size:Int) > 10)=true:=decide_eq_true (by omega)
   have hr:digsN neg d.data.toList=none:=by unfold digsN;rw [if_pos (.inr (.inl (by omega)))]
   rw [hr] at h
   simp (disch:=try exact DI) only [↓PR,QR,simprocAttr,d1,d2,↓n26c8,↓n26c7,↓n26c6,↓n26c5,↓n26c4]
   exact h
 have d2:decide ((d.size:Int) > 10)=false:=decide_eq_false (by omega)
 obtain ⟨x0,hx0⟩:=getElem?_lt (l:=d.data.toList) (k:=0) (by omega)
 have hi0:∀ (QP:List PanicEntry→World→Prop) (w:World) (K:Value→World→Prop),opV Pg (Instr.index 9 (.string d) (.int .i64 0)) QP w K=K (.int .u8 (x0.toNat:Int)) w:=fun QP w K=>op_indexS0 Tryz.underlying9 d .i64 hx0
 have hhd:d.data.toList.head?=some x0:=by rw [List.head?_eq_getElem?];exact hx0
 have start:¬ (d.data.toList.length < 1∨10 < d.data.toList.length∨(d.data.toList.head?=some 48∧(1 < d.data.toList.length∨neg=true)))→loop2 (fun t6 t7 w next9=>n26c3 (.string d) (.int .i64 (if neg then -1 else 1)) t6 t7 next9 R w) (.int .i64 0) (.int .i64 0) w:=by
  intro hc
  have hr:digsN neg d.data.toList=if d.data.toList.all digN then some (if neg then -(valL d.data.toList:Int) else (valL d.data.toList:Int)) else none:=by unfold digsN;rw [if_neg hc]
  refine loop2_intro (fun a b w'=>w'=w∧∃ k:Nat,a = .int .i64 (valL (d.data.toList.take k):Int)∧b = .int .i64 (k:Int)∧k≤d.size∧(d.data.toList.take k).all digN=true) (fun _ b _=>d.size - (intOf b).toNat) ⟨rfl,0,rfl,rfl,by omega,rfl⟩ ?_
  rintro _ _ _ ⟨rfl,k,rfl,rfl,hk,hall⟩
  rename_i w
  have hv2:valL (d.data.toList.take k) < 10000000000:=val10 (by rw [List.length_take];omega) hall
  unfold n26c3
  by_cases hlt:k < d.size
  · have dk:(k:Int) < (d.size:Int):=by omega
    have q1:decide ((k:Int) < (d.size:Int))=true:=decide_eq_true dk
    obtain ⟨x,hx⟩:=getElem?_lt (l:=d.data.toList) (k:=k) (by omega)
    have hidx:∀ (QP:List PanicEntry→World→Prop) (w:World) (K:Value→World→Prop),opV Pg (Instr.index 9 (.string d) (.int .i64 (k:Int))) QP w K=K (.int .u8 (x.toNat:Int)) w:=fun QP w K=>op_indexS Tryz.underlying9 d .i64 k hx
    have hmem:x∈d.data.toList:=List.mem_of_getElem? hx
    have bad:digN x=false→digsN neg d.data.toList=none:=fun hb=>by
     rw [hr,if_neg]
     intro ha
     have:=List.all_eq_true.1 ha x hmem
     rw [hb] at this
     cases this
    by_cases h3:x.toNat < 48
    · have q2:decide ((x.toNat:Int) < 48)=true:=decide_eq_true (by omega)
      rw [bad (by unfold digN;simp;omega)] at h
      simp (disch:=try exact DI) only [↓PR,QR,simprocAttr,q1,hidx,q2,↓n26c2]
      exact h
    have q2:decide ((x.toNat:Int) < 48)=false:=decide_eq_false (by omega)
    by_cases h4:57 < x.toNat
    · have q3:decide ((x.toNat:Int) > 57)=true:=decide_eq_true (by omega)
      rw [bad (by unfold digN;simp;omega)] at h
      simp (disch:=try exact DI) only [↓PR,QR,simprocAttr,q1,hidx,q2,q3,↓n26c2]
      exact h
    have q3:decide ((x.toNat:Int) > 57)=false:=decide_eq_false (by omega)
    have ht:d.data.toList.take (k+1)=d.data.toList.take k++[x]:=by rw [List.take_add_one,hx];rfl
    have hw:IntKind.i64.wrap ((k:Int)+1)=((k+1:Nat):Int):=by rw [wrap_ok (by omega) (by omega)];omega
    have w1:IntKind.i64.wrap (10*(valL (d.data.toList.take k):Int))=10*(valL (d.data.toList.take k):Int):=wrap_ok (by omega) (by omega)
    have w2:IntKind.u8.wrap ((x.toNat:Int) - 48)=(x.toNat:Int) - 48:=by
     unfold IntKind.wrap
     simp only [IntKind.bits,IntKind.signed]
     simp
     omega
    have w3:IntKind.i64.wrap ((x.toNat:Int) - 48)=(x.toNat:Int) - 48:=wrap_ok (by omega) (by omega)
    have w4:IntKind.i64.wrap (10*(valL (d.data.toList.take k):Int)+((x.toNat:Int) - 48))=((valL (d.data.toList.take (k+1)):Nat):Int):=by
     rw [wrap_ok (by omega) (by omega),ht,valL_snoc]
     omega
    simp (disch:=try exact DI) only [↓PR,QR,simprocAttr,q1,hidx,q2,q3,↓n26c2,↓n26c1,w1,w2,w3,w4,hw]
    refine ⟨⟨by trivial,k+1,rfl,rfl,by omega,?_⟩,meas_lt (kd := .i64) hlt⟩
    rw [ht,List.all_append,hall]
    simp [digN]
    omega
  · obtain rfl:k=d.size:=by omega
    have q1:decide ((d.size:Int) < (d.size:Int))=false:=decide_eq_false (by omega)
    rw [List.take_of_length_le (by omega)] at hall hv2
    rw [hr,if_pos hall] at h
    rw [List.take_of_length_le (by omega)]
    cases neg with
    | true =>
     have w5:IntKind.i64.wrap (-1*(valL d.data.toList:Int)) = -(valL d.data.toList:Int):=by rw [wrap_ok (by omega) (by omega)];omega
     simp (disch:=try exact DI) only [↓PR,QR,simprocAttr,q1,w5,if_true]
     exact h
    | false =>
     have w5:IntKind.i64.wrap (1*(valL d.data.toList:Int))=(valL d.data.toList:Int):=by rw [wrap_ok (by omega) (by omega)];omega
     simp (disch:=try exact DI) only [↓PR,QR,simprocAttr,q1,w5,Bool.false_eq_true,if_false]
     exact h
 by_cases h3:x0=48
 · have c1:((x0.toNat:Int) == 48)=true:=by rw [h3];decide
   by_cases h4:1 < d.size
   · have d3:decide ((d.size:Int) > 1)=true:=decide_eq_true (by omega)
     have hr:digsN neg d.data.toList=none:=by unfold digsN;rw [if_pos (.inr (.inr ⟨by rw [hhd,h3],.inl (by omega)⟩))]
     rw [hr] at h
     simp (disch:=try exact DI) only [↓PR,QR,simprocAttr,d1,d2,hi0,c1,d3,↓n26c8,↓n26c7,↓n26c6,↓n26c5,↓n26c4]
     exact h
   have d3:decide ((d.size:Int) > 1)=false:=decide_eq_false (by omega)
   cases neg with
   | true =>
    have hr:digsN true d.data.toList=none:=by unfold digsN;rw [if_pos (.inr (.inr ⟨by rw [hhd,h3],.inr rfl⟩))]
    rw [hr] at h
    have d4:decide ((-1:Int) < 0)=true:=by decide
    simp (disch:=try exact DI) only [↓PR,QR,simprocAttr,d1,d2,hi0,c1,d3,d4,if_true,↓n26c8,↓n26c7,↓n26c6,↓n26c5,↓n26c4]
    exact h
   | false =>
    have st:=start (by rintro (h' | h' | ⟨_,h' | h'⟩)<;>first | omega | cases h')
    have d4:decide ((1:Int) < 0)=false:=by decide
    simp (disch:=try exact DI) only [↓PR,QR,simprocAttr,d1,d2,hi0,c1,d3,d4,Bool.false_eq_true,if_false,↓n26c8,↓n26c7,↓n26c6,↓n26c5,↓n26c4]
    exact st
 · have c1:((x0.toNat:Int) == 48)=false:=by
    rw [beq_eq_false_iff_ne]
    intro h
    exact h3 (UInt8.toNat_inj.1 (by show x0.toNat=48;omega))
   have st:=start (by rintro (h' | h' | ⟨h',_⟩)<;>first | omega | (rw [hhd] at h';injection h' with h';exact h3 h'))
   simp (disch:=try exact DI) only [↓PR,QR,simprocAttr,d1,d2,hi0,c1,↓n26c8,↓n26c7,↓n26c6,↓n26c5,↓n26c4]
   exact st
theorem rnumber_ret (w:World) (s:ByteArray):Ret Pg 72 #[.string s] w fun u w'=>u=numT (numB s)∧w'=w:=by
 have hsz:s.data.toList.length=s.size:=by rw [Array.length_toList];rfl
 rw [numB_ref]
 refine n26s (R:=retR _) ?_;unfold n26
 by_cases h1:0 < s.size
 case neg =>
  have d1:decide ((s.size:Int) > 0)=false:=decide_eq_false (by omega)
  simp (disch:=try exact DI) only [↓PR,QR,simprocAttr,d1,↓n26c10]
  refine number_tail s false ?_
  rw [refN_other (by rw [List.eq_nil_of_length_eq_zero (by omega:s.data.toList.length=0)];exact fun h=>by cases h)]
  exact ⟨_,rfl,rfl,rfl⟩
 have d1:decide ((s.size:Int) > 0)=true:=decide_eq_true (by omega)
 obtain ⟨x0,hx0⟩:=getElem?_lt (l:=s.data.toList) (k:=0) (by omega)
 have hi0:∀ (QP:List PanicEntry→World→Prop) (w:World) (K:Value→World→Prop),opV Pg (Instr.index 9 (.string s) (.int .i64 0)) QP w K=K (.int .u8 (x0.toNat:Int)) w:=fun QP w K=>op_indexS0 Tryz.underlying9 s .i64 hx0
 obtain ⟨r,hr⟩:∃ r,s.data.toList=x0::r:=by
  cases hs:s.data.toList with
  | nil=>rw [hs] at hx0;cases hx0
  | cons a r=>rw [hs] at hx0;injection hx0 with hx0;subst hx0;exact ⟨r,rfl⟩
 by_cases h2:x0=45
 · have c1:((x0.toNat:Int) == 45)=true:=by rw [h2];decide
   simp (disch:=try exact DI) only [↓PR,QR,simprocAttr,d1,hi0,c1,↓n26c10]
   rw [op_subE1 Tryz.underlying9 s (by omega)]
   rw [sub_mkE]
   have hm:(mkB (s.data.toList.drop 1)).data.toList=r:=by rw [hr];rfl
   have hrf:refN s.data.toList=digsN true r:=by rw [hr,h2];rfl
   refine number_tail (mkB (s.data.toList.drop 1)) true ?_
   rw [hm,hrf]
   exact ⟨_,rfl,rfl,rfl⟩
 · have c1:((x0.toNat:Int) == 45)=false:=by
    rw [beq_eq_false_iff_ne]
    intro h
    exact h2 (UInt8.toNat_inj.1 (by show x0.toNat=45;omega))
   simp (disch:=try exact DI) only [↓PR,QR,simprocAttr,d1,hi0,c1,↓n26c10]
   refine number_tail s false ?_
   rw [refN_other (by rw [hr];exact fun h=>h2 (by injection h))]
   exact ⟨_,rfl,rfl,rfl⟩
def dropV (n b o len cap:Nat):Value := .slice (some ⟨b,if cap=n then o else o+n,none⟩) (len - n) (cap - n)
theorem op_dropV {QP:List PanicEntry→World→Prop} {k:Value→World→Prop} {w:World} (n b o len cap:Nat) (hl:n≤len) (hc:len≤cap):opV Pg (Instr.sliceAt 73 (.slice (some ⟨b,o,none⟩) len cap) (some (.int .i64 (n:Int))) none none) QP w k=k (dropV n b o len cap) w:=by
 have h1:(n:Int)≤(len:Int):=by omega
 have h2:(len:Int)≤(cap:Int):=by omega
 refine opV_ok ?_
 unfold dropV
 by_cases hc1:cap=n
 · subst hc1
   simp [Instr.sliceAt,run_underlying Tryz.underlying73,Instr.slice,Instr.sliceBounds,run_sliceBound,h1,h2,Sw.run_sizeOf ty9,Addr.add_lit]
 · have hc2:¬ (cap:Int)=(n:Int):=by omega
   have hc3:¬ cap - n=0:=by omega
   simp [Instr.sliceAt,run_underlying Tryz.underlying73,Instr.slice,Instr.sliceBounds,run_sliceBound,h1,h2,hc1,hc2,hc3,Sw.run_sizeOf ty9,Addr.add_lit]
theorem op_drop2 {QP:List PanicEntry→World→Prop} {k:Value→World→Prop} {w:World} (b o len cap:Nat) (hl:2≤len) (hc:len≤cap):opV Pg (Instr.sliceAt 73 (.slice (some ⟨b,o,none⟩) len cap) (some (.int .i64 2)) none none) QP w k=k (dropV 2 b o len cap) w:=op_dropV 2 b o len cap hl hc
theorem op_drop4 {QP:List PanicEntry→World→Prop} {k:Value→World→Prop} {w:World} (b o len cap:Nat) (hl:4≤len) (hc:len≤cap):opV Pg (Instr.sliceAt 73 (.slice (some ⟨b,o,none⟩) len cap) (some (.int .i64 4)) none none) QP w k=k (dropV 4 b o len cap) w:=op_dropV 4 b o len cap hl hc
theorem q_drop2 {C:World→Prop} [ClassNe C] {k:Value→Prop} (b o len cap:Nat) (hl:2≤len) (hc:len≤cap):qV Pg C (Instr.sliceAt 73 (.slice (some ⟨b,o,none⟩) len cap) (some (.int .i64 2)) none none) k=k (dropV 2 b o len cap):=qV_of fun QP w kk=>op_drop2 (k:=kk) b o len cap hl hc
theorem op_ws0 {QP:List PanicEntry→World→Prop} {k:Value→World→Prop} {w:World} (b o len cap:Nat) (h:0 < len):opV Pg (Instr.indexAt 73 (.slice (some ⟨b,o,none⟩) len cap) (.int .i64 0)) QP w k=k (.pointer (some ⟨b,o+0,none⟩)) w:=op_indexN Tryz.underlying73 ty9 b o len cap .i64 0 h
theorem q_ws0 {C:World→Prop} [ClassNe C] {k:Value→Prop} (b o len cap:Nat) (h:0 < len):qV Pg C (Instr.indexAt 73 (.slice (some ⟨b,o,none⟩) len cap) (.int .i64 0)) k=k (.pointer (some ⟨b,o+0,none⟩)):=qV_of fun QP w kk=>op_ws0 (k:=kk) b o len cap h
theorem op_ws1 {QP:List PanicEntry→World→Prop} {k:Value→World→Prop} {w:World} (b o len cap:Nat) (h:1 < len):opV Pg (Instr.indexAt 73 (.slice (some ⟨b,o,none⟩) len cap) (.int .i64 1)) QP w k=k (.pointer (some ⟨b,o+1,none⟩)) w:=op_indexN Tryz.underlying73 ty9 b o len cap .i64 1 h
theorem q_ws1 {C:World→Prop} [ClassNe C] {k:Value→Prop} (b o len cap:Nat) (h:1 < len):qV Pg C (Instr.indexAt 73 (.slice (some ⟨b,o,none⟩) len cap) (.int .i64 1)) k=k (.pointer (some ⟨b,o+1,none⟩)):=qV_of fun QP w kk=>op_ws1 (k:=kk) b o len cap h
theorem op_ws2 {QP:List PanicEntry→World→Prop} {k:Value→World→Prop} {w:World} (b o len cap:Nat) (h:2 < len):opV Pg (Instr.indexAt 73 (.slice (some ⟨b,o,none⟩) len cap) (.int .i64 2)) QP w k=k (.pointer (some ⟨b,o+2,none⟩)) w:=op_indexN Tryz.underlying73 ty9 b o len cap .i64 2 h
theorem q_ws2 {C:World→Prop} [ClassNe C] {k:Value→Prop} (b o len cap:Nat) (h:2 < len):qV Pg C (Instr.indexAt 73 (.slice (some ⟨b,o,none⟩) len cap) (.int .i64 2)) k=k (.pointer (some ⟨b,o+2,none⟩)):=qV_of fun QP w kk=>op_ws2 (k:=kk) b o len cap h
theorem op_ws3 {QP:List PanicEntry→World→Prop} {k:Value→World→Prop} {w:World} (b o len cap:Nat) (h:3 < len):opV Pg (Instr.indexAt 73 (.slice (some ⟨b,o,none⟩) len cap) (.int .i64 3)) QP w k=k (.pointer (some ⟨b,o+3,none⟩)) w:=op_indexN Tryz.underlying73 ty9 b o len cap .i64 3 h
theorem q_ws3 {C:World→Prop} [ClassNe C] {k:Value→Prop} (b o len cap:Nat) (h:3 < len):qV Pg C (Instr.indexAt 73 (.slice (some ⟨b,o,none⟩) len cap) (.int .i64 3)) k=k (.pointer (some ⟨b,o+3,none⟩)):=qV_of fun QP w kk=>op_ws3 (k:=kk) b o len cap h
theorem op_ws4 {QP:List PanicEntry→World→Prop} {k:Value→World→Prop} {w:World} (b o len cap:Nat) (h:4 < len):opV Pg (Instr.indexAt 73 (.slice (some ⟨b,o,none⟩) len cap) (.int .i64 4)) QP w k=k (.pointer (some ⟨b,o+4,none⟩)) w:=op_indexN Tryz.underlying73 ty9 b o len cap .i64 4 h
theorem q_ws4 {C:World→Prop} [ClassNe C] {k:Value→Prop} (b o len cap:Nat) (h:4 < len):qV Pg C (Instr.indexAt 73 (.slice (some ⟨b,o,none⟩) len cap) (.int .i64 4)) k=k (.pointer (some ⟨b,o+4,none⟩)):=qV_of fun QP w kk=>op_ws4 (k:=kk) b o len cap h
structure WsC (w:World) (v:Value) (b o cap:Nat) (ws:List ByteArray):Prop where
 val:v = .slice (some ⟨b,o,none⟩) ws.length cap
 le:ws.length≤cap
 lim:cap≤9223372036854775807
 at_:∀ (k:Nat) x,ws[k]?=some x→w.cell? ⟨b,o+k,none⟩=some (.string x)
theorem WsC.ext {w w':World} {v:Value} {b o cap:Nat} {ws:List ByteArray} (h:WsC w v b o cap ws) (e:Ext w w'):WsC w' v b o cap ws:=⟨h.val,h.le,h.lim,fun k x hx=>e.cell (h.at_ k x hx)⟩
theorem ws_of {w:World} {v:Value} {ws:List ByteArray} (h:SliceOf w 1 EStr v ws) (hne:ws≠[]):∃ b o cap,WsC w v b o cap ws:=by
 obtain ⟨A,cap,rfl,h1,h2,_,hel⟩:=SliceOf.open h
 obtain ⟨x,hx⟩:=getElem?_lt (l:=ws) (k:=0) (List.length_pos_iff.2 hne)
 obtain ⟨b,o,cs,rfl,_⟩:=hel 0 x hx
 refine ⟨b,o,cap,rfl,h1,h2,fun k y hy=>?_⟩
 obtain ⟨b',o',cs,hA,_,hB,rfl⟩:=hel k y hy
 injection hA with hA
 injection hA with hb ho
 subst hb ho
 have:=hB 0 _ rfl
 simpa using this
theorem WsC.drop {w:World} {v:Value} {b o cap:Nat} {ws:List ByteArray} (h:WsC w v b o cap ws) (n:Nat) (hn:n≤ws.length):WsC w (dropV n b o ws.length cap) b (if cap=n then o else o+n) (cap - n) (ws.drop n):=by
 have:=h.le
 have:=h.lim
 refine ⟨by unfold dropV;rw [List.length_drop],by rw [List.length_drop];omega,by omega,fun k x hx=>?_⟩
 rw [List.getElem?_drop] at hx
 have hk:=(List.getElem?_eq_some_iff.1 hx).1
 rw [if_neg (by omega),Nat.add_assoc]
 exact h.at_ (n+k) x hx
theorem WsC.other {w w':World} {v:Value} {b o cap:Nat} {ws:List ByteArray} (h:WsC w v b o cap ws) (hb:w'.heap[b]?=w.heap[b]?):WsC w' v b o cap ws:=⟨h.val,h.le,h.lim,fun k x hx=>by
 have:=h.at_ k x hx
 unfold World.cell? at this ⊢
 rw [hb]
 exact this⟩
theorem WsC.lt {w:World} {v:Value} {b o cap:Nat} {ws:List ByteArray} (h:WsC w v b o cap ws) (hne:ws≠[]):b < w.heap.size:=by
 obtain ⟨x,hx⟩:=getElem?_lt (l:=ws) (k:=0) (List.length_pos_iff.2 hne)
 have:=h.at_ 0 x hx
 rcases Nat.lt_or_ge b w.heap.size with h' | h'
 · exact h'
 · simp [World.cell?,Array.getElem?_eq_none h'] at this
def n29c1 (t2 t4 t5:Value) (R:RT) (w:World):Prop :=
 opV Pg (Instr.loadAt 50 t4) (panK R) w fun t62 w =>
 opV Pg (Builtin.len_ #[73] 3 #[t5]) (panK R) w fun t64 w =>
 opV Pg (binS .eql 3 true t64 (.int .i64 0)) (panK R) w fun t65 w =>
 opU Pg (Instr.storeAt 50 t2 t62) (panK R) w fun w =>
 qW Pg 50 t2 w fun r0 =>
 R (.returned (.tuple #[r0,t65])) w
def n29c2 (t2 t4 t5 t54 t59:Value) (R:RT) (w:World):Prop :=
 pickK t54 t59 (.bool false) fun t60 =>
 joinK (fun (t5:Value) (w:World) =>
 n29c1 t2 t4 t5 R w) fun K5 =>
 condP t60 (
 opV Pg (Instr.fieldAt 50 t4 1) (panK R) w fun t61 w =>
 opU Pg (Instr.storeAt 4 t61 (.bool true)) (panK R) w fun w =>
 K5 (Value.slice none 0 0) w) (
 K5 t5 w)
def n29c3 (t2 t4 t5:Value) (R:RT) (w:World):Prop :=
 opV Pg (Builtin.len_ #[73] 3 #[t5]) (panK R) w fun t53 w =>
 opV Pg (binS .eql 3 true t53 (.int .i64 1)) (panK R) w fun t54 w =>
 joinK (fun (t59:Value) (w:World) =>
 n29c2 t2 t4 t5 t54 t59 R w) fun K4 =>
 guardP t54 true (
 opV Pg (Instr.indexAt 73 t5 (.int .i64 0)) (panK R) w fun t57 w =>
 opV Pg (Instr.loadAt 9 t57) (panK R) w fun t58 w =>
 opV Pg (binS .eql 9 true t58 (.string { data := #[102,105,110,97,108] })) (panK R) w fun t59 w =>
 K4 t59 w) (
 K4 undef w)
def n29c4 (t4 t24 t39:Value) (C7:World→Prop) (K3:KV) (R:RT) (w:World):Prop :=
 qV Pg C7 (Instr.sliceAt 73 t24 (some (.int .i64 2)) none none) fun t50 =>
 qV Pg C7 (Instr.fieldAt 50 t4 2) fun t51 =>
 opU Pg (Instr.storeAt 3 t51 t39) (panK R) w fun w =>
 C7 w∧(
 K3 t50 w)
def n29c5 (t2:Value) (R:RT) (w:World):Prop :=
 opV Pg (Instr.build 50 #[]) (panK R) w fun t47 w =>
 opU Pg (Instr.storeAt 50 t2 t47) (panK R) w fun w =>
 qW Pg 50 t2 w fun r0 =>
 R (.returned (.tuple #[r0,(.bool false)])) w
def n29c6 (t2 t4 t24 t38:Value) (K3:KV) (R:RT) (w:World):Prop :=
 opV Pg (Instr.extract t38 0) (panK R) w fun t39 w =>
 opV Pg (Instr.extract t38 1) (panK R) w fun t40 w =>
 opV Pg (Op.unary .not t40) (panK R) w fun t42 w =>
 joinK (fun (t45:Value) (w:World) =>
 pickK t42 (.bool true) t45 fun t46 =>
 condP t46 (
 n29c5 t2 R w) (
 drawK w fun C7 w =>
 n29c4 t4 t24 t39 C7 K3 R w)) fun K6 =>
 guardP t42 false (
 opV Pg (binS .eql 3 true t39 (.int .i64 0)) (panK R) w fun t45 w =>
 K6 t45 w) (
 K6 undef w)
def n29c7 (t2 t4 t24:Value) (K3:KV) (R:RT) (w:World):Prop :=
 opV Pg (Instr.indexAt 73 t24 (.int .i64 1)) (panK R) w fun t36 w =>
 opV Pg (Instr.loadAt 9 t36) (panK R) w fun t37 w =>
 callK Pg 72 #[t37] (panK R) w fun t38 w =>
 n29c6 t2 t4 t24 t38 K3 R w
def n29c8 (t2 t4 t24 t27 t32:Value) (R:RT) (w:World):Prop :=
 pickK t27 t32 (.bool false) fun t33 =>
 joinK (fun (t5:Value) (w:World) =>
 n29c3 t2 t4 t5 R w) fun K3 =>
 condP t33 (
 n29c7 t2 t4 t24 K3 R w) (
 K3 t24 w)
def n29c9 (t2:Value) (R:RT) (w:World):Prop :=
 opV Pg (Instr.build 50 #[]) (panK R) w fun t18 w =>
 opU Pg (Instr.storeAt 50 t2 t18) (panK R) w fun w =>
 qW Pg 50 t2 w fun r0 =>
 R (.returned (.tuple #[r0,(.bool false)])) w
def n29c10 (t0 t2:Value) (R:RT) (w:World):Prop :=
 opV Pg (Instr.indexAt 73 t0 (.int .i64 1)) (panK R) w fun t20 w =>
 opV Pg (Instr.loadAt 9 t20) (panK R) w fun t21 w =>
 opV Pg (Instr.build 50 #[(0,t21)]) (panK R) w fun t22 w =>
 opV Pg (Instr.alloc 50 true (.tuple #[])) (panK R) w fun t4 w =>
 opU Pg (Instr.storeAt 50 t4 t22) (panK R) w fun w =>
 opV Pg (Instr.sliceAt 73 t0 (some (.int .i64 2)) none none) (panK R) w fun t24 w =>
 opV Pg (Builtin.len_ #[73] 3 #[t24]) (panK R) w fun t26 w =>
 opV Pg (binS .geq 3 true t26 (.int .i64 2)) (panK R) w fun t27 w =>
 joinK (fun (t32:Value) (w:World) =>
 n29c8 t2 t4 t24 t27 t32 R w) fun K2 =>
 guardP t27 true (
 opV Pg (Instr.indexAt 73 t24 (.int .i64 0)) (panK R) w fun t30 w =>
 opV Pg (Instr.loadAt 9 t30) (panK R) w fun t31 w =>
 opV Pg (binS .eql 9 true t31 (.string { data := #[119,97,105,116] })) (panK R) w fun t32 w =>
 K2 t32 w) (
 K2 undef w)
def n29 (t0:Value) (R:RT) (w:World):Prop :=
 opV Pg (Instr.alloc 50 true (.tuple #[])) (panK R) w fun t2 w =>
 opV Pg (Builtin.len_ #[73] 3 #[t0]) (panK R) w fun t9 w =>
 opV Pg (binS .lss 3 true t9 (.int .i64 2)) (panK R) w fun t10 w =>
 joinK (fun (t16:Value) (w:World) =>
 pickK t10 (.bool true) t16 fun t17 =>
 condP t17 (
 n29c9 t2 R w) (
 n29c10 t0 t2 R w)) fun K1 =>
 guardP t10 false (
 opV Pg (Instr.indexAt 73 t0 (.int .i64 1)) (panK R) w fun t13 w =>
 opV Pg (Instr.loadAt 9 t13) (panK R) w fun t14 w =>
 callK Pg 18 #[t14] (panK R) w fun t15 w =>
 opV Pg (Op.unary .not t15) (panK R) w fun t16 w =>
 K1 t16 w) (
 K1 undef w)
set_option maxHeartbeats 40000000 in
theorem n29s {t0:Value} {R:RT} {w:World} (h:n29 t0 R w):Calls Pg 92 #[t0] w R:=by
 refine yD Tryz.func92 ?_
 refine zs<|zr<|yv h fun _ w h=>zm<|zn<|zk<|zs<|zs<|sim_regionG<|yG 4<|zm<|yx h fun _ w h=>yb h fun _ w h=>zm<|zn ?_
 refine yg1 5 3 false [12,13,14,15,16] 16 h (fun _ T hT h=>?_) fun σ w h=>?_
 · refine zm<|yv h fun _ w h=>yv h fun _ w h=>yc h c18 fun _ w h=>yv h fun _ w h=>zn ?_
   exact zt hT h
 refine yG 1<|yp h fun _ h=>zn<|sim_end<|zk<|yC h (fun h=>zs<|zr<|yB h fun _ w h=>yu h fun w h=>zm<|zn<|zk<|sim_ret<|sim_then_ret<|body_retCT rfl rfl rfl h) fun h=>sim_skip<|zk<|zs<|zr<|zm<|yv h fun _ w h=>yv h fun _ w h=>yB h fun _ w h=>?_
 refine yv h fun _ w h=>yu h fun w h=>zn<|zk<|zs<|zr<|zm<|yv h fun _ w h=>zm<|zn<|zk<|zs<|zs<|sim_regionG<|yG 4 ?_
 refine zm<|yx h fun _ w h=>yb h fun _ w h=>zm<|zn<|yg1 4 3 true [29,30,31,32] 32 h (fun _ T hT h=>?_) fun σ w h=>?_
 · refine zm<|yv h fun _ w h=>yv h fun _ w h=>yb h fun _ w h=>zn ?_
   exact zt hT h
 refine yG 1<|yp h fun _ h=>zn<|sim_end<|zk<|yJ1 [3,5,6,7,34,35,36,37,38,39,40,41,42,43,44,45,46,47,48,49,50,51] 5 h (fun _ _ hkK3 h=>?_) fun σ w h=>?_
 · refine yC h (fun h=>?_) fun h=>?_
   · refine zs<|zr<|zm<|yv h fun _ w h=>yv h fun _ w h=>yc h c72 fun _ w h=>zm<|yv h fun _ w h=>yv h fun _ w h=>zm<|zm<|zn<|zk<|zs<|zs ?_
     refine sim_regionG<|yG 3<|zm<|yv h fun _ w h=>zm<|zn<|yg1 2 2 false [44,45] 45 h (fun _ T hT h=>?_) fun σ w h=>?_
     · refine zm<|yb h fun _ w h=>zn ?_
       exact zt hT h
     refine yG 1<|yp h fun _ h=>zn<|sim_end<|zk<|yC h (fun h=>zs<|zr<|yB h fun _ w h=>yu h fun w h=>zm<|zn<|zk<|sim_ret<|sim_then_ret<|sim_then_ret<|sim_then_ret<|body_retCT rfl rfl rfl h) fun h=>sim_skip<|zk<|yh [5,48,49,50,51] h fun C hC h=>yw 0 hC ?_
     refine yw 1 hC ?_
     refine ye 2 hC h fun _ h=>?_
     refine ye 3 hC h fun _ h=>?_
     refine yo 4 ?_
     refine yu h fun w h=>zn ?_
     obtain ⟨hC,h⟩:=h
     refine ⟨hC,?_⟩
     refine yw 5 hC ?_
     refine yz<|zk ?_
     exact zt hkK3 h
   refine sim_skip<|zk ?_
   exact zt hkK3 h
 refine zk<|zs<|zs<|sim_regionG<|yG 4<|zm<|yx h fun _ w h=>yb h fun _ w h=>zm<|zn<|yg1 4 3 true [56,57,58,59] 59 h (fun _ T hT h=>?_) fun σ w h=>?_
 · refine zm<|yv h fun _ w h=>yv h fun _ w h=>yb h fun _ w h=>zn ?_
   exact zt hT h
 refine yG 1<|yp h fun _ h=>zn<|sim_end<|zk<|yJ1 [5,61] 5 h (fun _ _ hkK5 h=>?_) fun σ w h=>?_
 · refine yC h (fun h=>?_) fun h=>?_
   · refine zr<|yv h fun _ w h=>yu h fun w h=>zm<|zn<|zk ?_
     exact zt hkK5 h
   refine sim_skip<|zk ?_
   exact zt hkK5 h
 exact zk<|zs<|zr<|yv h fun _ w h=>zm<|yx h fun _ w h=>yb h fun _ w h=>yu h fun w h=>zm<|zn<|zk<|sim_ret<|body_retCT rfl rfl rfl h
def n30c1 (t4 t6 t46 t47:Value) (C7:World→Prop) (next5:KV) (R:RT) (w:World):Prop :=
 qV Pg C7 (Instr.indexAt 73 t47 t6) fun t49 =>
 qV Pg C7 (Instr.loadAt 9 t49) fun t50 =>
 qV Pg C7 (binS .eql 9 false t46 t50) fun t51 =>
 joinK (fun (w:World) =>
 opV Pg (binS .add 3 true t6 (.int .i64 1)) (panK R) w fun t43 w =>
 next5 t43 w) fun K8 =>
 condP t51 (
 opV Pg (Instr.fieldAt 71 t4 2) (panK R) w fun t53 w =>
 opU Pg (Instr.storeAt 69 t53 t6) (panK R) w fun w =>
 K8 w) (
 K8 w)
def n30c2 (t0 t4 t6:Value) (C6:World→Prop) (next5:KV) (R:RT) (w:World):Prop :=
 qV Pg C6 (Instr.indexAt 73 t0 (.int .i64 3)) fun t45 =>
 qV Pg C6 (Instr.loadAt 9 t45) fun t46 =>
 opV Pg (Instr.buildSlice 73 5 #[(0,(.string { data := #[] })),(1,(.string { data := #[115,101,110,100] })),(2,(.string { data := #[114,101,99,101,105,118,101] })),(3,(.string { data := #[116,105,109,101,111,117,116] })),(4,(.string { data := #[115,105,108,101,110,116] }))]) (panK R) w fun t47 w =>
 narrowK C6 w fun C7 w =>
 n30c1 t4 t6 t46 t47 C7 next5 R w
def n30c3 (t2 t116 t130 t141 t144:Value) (R:RT) (w:World):Prop :=
 pickK t116 t144 (.bool false) fun t145 =>
 joinK (fun (t147:Value) (w:World) =>
 pickK t145 t147 (.bool false) fun t148 =>
 opU Pg (Instr.storeAt 71 t2 t141) (panK R) w fun w =>
 qW Pg 71 t2 w fun r0 =>
 R (.returned (.tuple #[r0,t148])) w) fun K13 =>
 guardP t145 true (
 K13 t130 w) (
 K13 undef w)
def n30c4 (t2 t4 t5 t115 t116 t122 t123 t128:Value) (R:RT) (w:World):Prop :=
 opV Pg (Instr.extract t128 0) (panK R) w fun t129 w =>
 opV Pg (Instr.extract t128 1) (panK R) w fun t130 w =>
 opV Pg (Instr.indexAt 73 t5 (.int .i64 1)) (panK R) w fun t132 w =>
 opV Pg (Instr.loadAt 9 t132) (panK R) w fun t133 w =>
 opV Pg (Instr.fieldAt 71 t4 5) (panK R) w fun t137 w =>
 opU Pg (Instr.storeAt 9 t137 t133) (panK R) w fun w =>
 opV Pg (Instr.fieldAt 71 t4 6) (panK R) w fun t138 w =>
 opU Pg (Instr.storeAt 3 t138 t115) (panK R) w fun w =>
 opV Pg (Instr.fieldAt 71 t4 7) (panK R) w fun t139 w =>
 opU Pg (Instr.storeAt 3 t139 t122) (panK R) w fun w =>
 opV Pg (Instr.fieldAt 71 t4 8) (panK R) w fun t140 w =>
 opU Pg (Instr.storeAt 3 t140 t129) (panK R) w fun w =>
 opV Pg (Instr.loadAt 71 t4) (panK R) w fun t141 w =>
 joinK (fun (t144:Value) (w:World) =>
 n30c3 t2 t116 t130 t141 t144 R w) fun K12 =>
 guardP t116 true (
 K12 t123 w) (
 K12 undef w)
def n30c5 (t2 t4 t5 t115 t116 t121:Value) (R:RT) (w:World):Prop :=
 opV Pg (Instr.extract t121 0) (panK R) w fun t122 w =>
 opV Pg (Instr.extract t121 1) (panK R) w fun t123 w =>
 opV Pg (Instr.indexAt 73 t5 (.int .i64 4)) (panK R) w fun t126 w =>
 opV Pg (Instr.loadAt 9 t126) (panK R) w fun t127 w =>
 callK Pg 72 #[t127] (panK R) w fun t128 w =>
 n30c4 t2 t4 t5 t115 t116 t122 t123 t128 R w
def n30c6 (t2 t4 t5 t114:Value) (R:RT) (w:World):Prop :=
 opV Pg (Instr.extract t114 0) (panK R) w fun t115 w =>
 opV Pg (Instr.extract t114 1) (panK R) w fun t116 w =>
 opV Pg (Instr.indexAt 73 t5 (.int .i64 3)) (panK R) w fun t119 w =>
 opV Pg (Instr.loadAt 9 t119) (panK R) w fun t120 w =>
 callK Pg 72 #[t120] (panK R) w fun t121 w =>
 n30c5 t2 t4 t5 t115 t116 t121 R w
def n30c7 (t2:Value) (R:RT) (w:World):Prop :=
 opV Pg (Instr.build 71 #[]) (panK R) w fun t109 w =>
 opU Pg (Instr.storeAt 71 t2 t109) (panK R) w fun w =>
 qW Pg 71 t2 w fun r0 =>
 R (.returned (.tuple #[r0,(.bool false)])) w
def n30c8 (t2 t4 t5:Value) (R:RT) (w:World):Prop :=
 opV Pg (Instr.indexAt 73 t5 (.int .i64 2)) (panK R) w fun t112 w =>
 opV Pg (Instr.loadAt 9 t112) (panK R) w fun t113 w =>
 callK Pg 72 #[t113] (panK R) w fun t114 w =>
 n30c6 t2 t4 t5 t114 R w
def n30c9 (t2 t4 t5 t95 t100:Value) (R:RT) (w:World):Prop :=
 pickK t95 (.bool true) t100 fun t101 =>
 joinK (fun (t107:Value) (w:World) =>
 pickK t101 (.bool true) t107 fun t108 =>
 condP t108 (
 n30c7 t2 R w) (
 n30c8 t2 t4 t5 R w)) fun K11 =>
 guardP t101 false (
 opV Pg (Instr.indexAt 73 t5 (.int .i64 1)) (panK R) w fun t104 w =>
 opV Pg (Instr.loadAt 9 t104) (panK R) w fun t105 w =>
 callK Pg 18 #[t105] (panK R) w fun t106 w =>
 opV Pg (Op.unary .not t106) (panK R) w fun t107 w =>
 K11 t107 w) (
 K11 undef w)
def n30c10 (t2 t4:Value) (R:RT) (w:World):Prop :=
 opV Pg (Instr.loadAt 71 t4) (panK R) w fun t92 w =>
 opU Pg (Instr.storeAt 71 t2 t92) (panK R) w fun w =>
 qW Pg 71 t2 w fun r0 =>
 R (.returned (.tuple #[r0,(.bool true)])) w
def n30c11 (t2 t4 t5:Value) (R:RT) (w:World):Prop :=
 opV Pg (Builtin.len_ #[73] 3 #[t5]) (panK R) w fun t94 w =>
 opV Pg (binS .neq 3 true t94 (.int .i64 5)) (panK R) w fun t95 w =>
 joinK (fun (t100:Value) (w:World) =>
 n30c9 t2 t4 t5 t95 t100 R w) fun K10 =>
 guardP t95 false (
 opV Pg (Instr.indexAt 73 t5 (.int .i64 0)) (panK R) w fun t98 w =>
 opV Pg (Instr.loadAt 9 t98) (panK R) w fun t99 w =>
 opV Pg (binS .neq 9 true t99 (.string { data := #[119,104,101,110] })) (panK R) w fun t100 w =>
 K10 t100 w) (
 K10 undef w)
def n30c12 (t2 t4 t5:Value) (R:RT) (w:World):Prop :=
 opV Pg (Builtin.len_ #[73] 3 #[t5]) (panK R) w fun t90 w =>
 opV Pg (binS .eql 3 true t90 (.int .i64 0)) (panK R) w fun t91 w =>
 condP t91 (
 n30c10 t2 t4 R w) (
 n30c11 t2 t4 t5 R w)
def n30c13 (t4 t39:Value) (C16:World→Prop) (K9:KV) (R:RT) (w:World):Prop :=
 qV Pg C16 (Instr.indexAt 73 t39 (.int .i64 0)) fun t80 =>
 qV Pg C16 (Instr.loadAt 9 t80) fun t81 =>
 qV Pg C16 (Instr.indexAt 73 t39 (.int .i64 1)) fun t83 =>
 qV Pg C16 (Instr.loadAt 9 t83) fun t84 =>
 qV Pg C16 (Instr.sliceAt 73 t39 (some (.int .i64 2)) none none) fun t86 =>
 qV Pg C16 (Instr.fieldAt 71 t4 3) fun t87 =>
 opU Pg (Instr.storeAt 9 t87 t81) (panK R) w fun w =>
 C16 w∧(
 qV Pg C16 (Instr.fieldAt 71 t4 4) fun t88 =>
 opU Pg (Instr.storeAt 9 t88 t84) (panK R) w fun w =>
 C16 w∧(
 K9 t86 w))
def n30c14 (t2:Value) (R:RT) (w:World):Prop :=
 opV Pg (Instr.build 71 #[]) (panK R) w fun t78 w =>
 opU Pg (Instr.storeAt 71 t2 t78) (panK R) w fun w =>
 qW Pg 71 t2 w fun r0 =>
 R (.returned (.tuple #[r0,(.bool false)])) w
def n30c15 (t2 t4 t39 t63 t69:Value) (K9:KV) (R:RT) (w:World):Prop :=
 pickK t63 (.bool true) t69 fun t70 =>
 joinK (fun (t76:Value) (w:World) =>
 pickK t70 (.bool true) t76 fun t77 =>
 condP t77 (
 n30c14 t2 R w) (
 drawK w fun C16 w =>
 n30c13 t4 t39 C16 K9 R w)) fun K15 =>
 guardP t70 false (
 opV Pg (Instr.indexAt 73 t39 (.int .i64 1)) (panK R) w fun t73 w =>
 opV Pg (Instr.loadAt 9 t73) (panK R) w fun t74 w =>
 callK Pg 18 #[t74] (panK R) w fun t75 w =>
 opV Pg (Op.unary .not t75) (panK R) w fun t76 w =>
 K15 t76 w) (
 K15 undef w)
def n30c16 (t2 t4 t39:Value) (K9:KV) (R:RT) (w:World):Prop :=
 opV Pg (Builtin.len_ #[73] 3 #[t39]) (panK R) w fun t62 w =>
 opV Pg (binS .lss 3 true t62 (.int .i64 2)) (panK R) w fun t63 w =>
 joinK (fun (t69:Value) (w:World) =>
 n30c15 t2 t4 t39 t63 t69 K9 R w) fun K14 =>
 guardP t63 false (
 opV Pg (Instr.indexAt 73 t39 (.int .i64 0)) (panK R) w fun t66 w =>
 opV Pg (Instr.loadAt 9 t66) (panK R) w fun t67 w =>
 callK Pg 18 #[t67] (panK R) w fun t68 w =>
 opV Pg (Op.unary .not t68) (panK R) w fun t69 w =>
 K14 t69 w) (
 K14 undef w)
def n30c17 (t2:Value) (R:RT) (w:World):Prop :=
 opV Pg (Instr.build 71 #[]) (panK R) w fun t57 w =>
 opU Pg (Instr.storeAt 71 t2 t57) (panK R) w fun w =>
 qW Pg 71 t2 w fun r0 =>
 R (.returned (.tuple #[r0,(.bool false)])) w
def n30c18 (t2 t4 t39:Value) (R:RT) (w:World):Prop :=
 opV Pg (Instr.fieldAt 71 t4 2) (panK R) w fun t58 w =>
 opV Pg (Instr.loadAt 69 t58) (panK R) w fun t59 w =>
 opV Pg (binS .leq 69 true t59 (.int .i64 2)) (panK R) w fun t60 w =>
 joinK (fun (t5:Value) (w:World) =>
 n30c12 t2 t4 t5 R w) fun K9 =>
 condP t60 (
 n30c16 t2 t4 t39 K9 R w) (
 K9 t39 w)
def n30c19 (t2 t4 t39:Value) (R:RT) (w:World):Prop :=
 opV Pg (Instr.fieldAt 71 t4 2) (panK R) w fun t54 w =>
 opV Pg (Instr.loadAt 69 t54) (panK R) w fun t55 w =>
 opV Pg (binS .eql 69 true t55 (.int .i64 0)) (panK R) w fun t56 w =>
 condP t56 (
 n30c17 t2 R w) (
 n30c18 t2 t4 t39 R w)
def n30c20 (t0 t2 t4 t6 t39:Value) (next5:KV) (R:RT) (w:World):Prop :=
 opV Pg (binS .leq 3 true t6 (.int .i64 4)) (panK R) w fun t41 w =>
 condP t41 (
 drawK w fun C6 w =>
 n30c2 t0 t4 t6 C6 next5 R w) (
 n30c19 t2 t4 t39 R w)
def n30c21 (t0 t2 t4 t37:Value) (R:RT) (w:World):Prop :=
 opU Pg (Instr.storeAt 71 t4 t37) (panK R) w fun w =>
 turnK w fun C4 w =>
 opV Pg (Instr.sliceAt 73 t0 (some (.int .i64 4)) none none) (panK R) w fun t39 w =>
 loop1 (fun t6 w next5 =>
 n30c20 t0 t2 t4 t6 t39 next5 R w) (.int .i64 1) w
def n30c22 (t0 t2:Value) (C3:World→Prop) (R:RT) (w:World):Prop :=
 qV Pg C3 (Instr.indexAt 73 t0 (.int .i64 1)) fun t32 =>
 qV Pg C3 (Instr.loadAt 9 t32) fun t33 =>
 qV Pg C3 (Instr.indexAt 73 t0 (.int .i64 2)) fun t35 =>
 qV Pg C3 (Instr.loadAt 9 t35) fun t36 =>
 qV Pg C3 (Instr.build 71 #[(0,t33),(1,t36)]) fun t37 =>
 opV Pg (Instr.alloc 71 true (.tuple #[])) (panK R) w fun t4 w =>
 C3 w∧(
 n30c21 t0 t2 t4 t37 R w)
def n30c23 (t2:Value) (R:RT) (w:World):Prop :=
 opV Pg (Instr.build 71 #[]) (panK R) w fun t30 w =>
 opU Pg (Instr.storeAt 71 t2 t30) (panK R) w fun w =>
 qW Pg 71 t2 w fun r0 =>
 R (.returned (.tuple #[r0,(.bool false)])) w
def n30c24 (t0 t2 t15 t21:Value) (R:RT) (w:World):Prop :=
 pickK t15 (.bool true) t21 fun t22 =>
 joinK (fun (t28:Value) (w:World) =>
 pickK t22 (.bool true) t28 fun t29 =>
 condP t29 (
 n30c23 t2 R w) (
 drawK w fun C3 w =>
 n30c22 t0 t2 C3 R w)) fun K2 =>
 guardP t22 false (
 opV Pg (Instr.indexAt 73 t0 (.int .i64 2)) (panK R) w fun t25 w =>
 opV Pg (Instr.loadAt 9 t25) (panK R) w fun t26 w =>
 callK Pg 18 #[t26] (panK R) w fun t27 w =>
 opV Pg (Op.unary .not t27) (panK R) w fun t28 w =>
 K2 t28 w) (
 K2 undef w)
def n30 (t0:Value) (R:RT) (w:World):Prop :=
 opV Pg (Instr.alloc 71 true (.tuple #[])) (panK R) w fun t2 w =>
 opV Pg (Builtin.len_ #[73] 3 #[t0]) (panK R) w fun t14 w =>
 opV Pg (binS .lss 3 true t14 (.int .i64 4)) (panK R) w fun t15 w =>
 joinK (fun (t21:Value) (w:World) =>
 n30c24 t0 t2 t15 t21 R w) fun K1 =>
 guardP t15 false (
 opV Pg (Instr.indexAt 73 t0 (.int .i64 1)) (panK R) w fun t18 w =>
 opV Pg (Instr.loadAt 9 t18) (panK R) w fun t19 w =>
 callK Pg 18 #[t19] (panK R) w fun t20 w =>
 opV Pg (Op.unary .not t20) (panK R) w fun t21 w =>
 K1 t21 w) (
 K1 undef w)
set_option maxHeartbeats 40000000 in
theorem n30s {t0:Value} {R:RT} {w:World} (h:n30 t0 R w):Calls Pg 93 #[t0] w R:=by
 refine yD Tryz.func93 ?_
 refine zs<|zr<|yv h fun _ w h=>zm<|zn<|zk<|zs<|zs<|sim_regionG<|yG 4<|zm<|yx h fun _ w h=>yb h fun _ w h=>zm<|zn ?_
 refine yg1 5 3 false [17,18,19,20,21] 21 h (fun _ T hT h=>?_) fun σ w h=>?_
 · refine zm<|yv h fun _ w h=>yv h fun _ w h=>yc h c18 fun _ w h=>yv h fun _ w h=>zn ?_
   exact zt hT h
 refine yG 2<|yp h fun _ h=>zm<|zn<|yg1 5 10 false [24,25,26,27,28] 28 h (fun _ T hT h=>?_) fun σ w h=>?_
 · refine zm<|yv h fun _ w h=>yv h fun _ w h=>yc h c18 fun _ w h=>yv h fun _ w h=>zn ?_
   exact zt hT h
 refine yG 1<|yp h fun _ h=>zn<|sim_end<|zk<|yC h (fun h=>zs<|zr<|yB h fun _ w h=>yu h fun w h=>zm<|zn<|zk<|sim_ret<|sim_then_ret<|body_retCT rfl rfl rfl h) fun h=>sim_skip<|zk<|zs<|yh [4,31,32,33,34,35,36,37] h fun C hC h=>yw 0 hC ?_
 refine ye 1 hC h fun _ h=>?_
 refine ye 2 hC h fun _ h=>?_
 refine yw 3 hC ?_
 refine ye 4 hC h fun _ h=>?_
 refine ye 5 hC h fun _ h=>?_
 refine ye 6 hC h fun _ h=>?_
 refine yo 7 ?_
 refine yv h fun _ w h=>zn ?_
 obtain ⟨hC,h⟩:=h
 refine ⟨hC,?_⟩
 refine yq 8 1 ?_
 refine yu h fun w h=>zn ?_
 obtain ⟨C4,hC,h⟩:=h
 refine ⟨C4,hC,?_⟩
 refine yz<|zk<|zs<|zr<|zm<|yv h fun _ w h=>zm<|zn<|zk<|zs<|zs<|zr<|zm<|zn<|zk ?_
 refine sim_block<|yl1 [6,40,41,42,43,44,45,46,47,48,49,50,51,52,53] 6 h fun σ w next h=>zs<|zs<|zr<|zm<|yb h fun _ w h=>zn<|zk<|yC h (fun h=>?_) fun h=>?_
 · refine sim_skip<|zk<|zs<|sim_block<|zs<|yh [44,45,46,47,48,49,50,51] h fun C hC h=>yw 0 hC ?_
   refine ye 1 hC h fun _ h=>?_
   refine ye 2 hC h fun _ h=>?_
   refine yw 4 hC ?_
   refine yr 3 ?_
   refine yS h fun _ w h=>zn ?_
   obtain ⟨C7,hs,hC,h⟩:=h
   refine ⟨C7,hs,hC,?_⟩
   refine ye 5 hC h fun _ h=>?_
   refine ye 6 hC h fun _ h=>?_
   refine ye 7 hC h fun _ h=>?_
   refine yz<|zk<|yJ0 [52,53] h (fun _ _ hkK8 h=>?_) fun σ w h=>?_
   · refine yC h (fun h=>?_) fun h=>?_
     · refine zr<|zm<|yv h fun _ w h=>yu h fun w h=>zn<|zk ?_
       exact zt hkK8 h
     refine sim_skip<|zk ?_
     exact zt hkK8 h
   exact sim_block_normal<|zk<|zr<|zm<|yb h fun _ w h=>zm<|zn<|zk<|⟨rfl,h⟩
 refine sim_exit<|sim_then_exit<|sim_then_exit<|sim_block_hit<|zk<|zs<|zs<|zr<|yv h fun _ w h=>yv h fun _ w h=>yb h fun _ w h=>zn<|zk<|yC h (fun h=>zs<|zr<|yB h fun _ w h=>yu h fun w h=>zm<|zn<|zk<|sim_ret<|sim_then_ret<|body_retCT rfl rfl rfl h) fun h=>?_
 refine sim_skip<|zk<|zs<|zs<|zr<|yv h fun _ w h=>yv h fun _ w h=>yb h fun _ w h=>zn<|zk<|yJ1 [3,5,61,62,63,64,65,66,67,68,69,70,71,72,73,74,75,76,77,78,79,80,81,82,83,84,85,86,87,88] 5 h (fun _ _ hkK9 h=>?_) fun σ w h=>?_
 · refine yC h (fun h=>?_) fun h=>?_
   · refine zs<|zs<|sim_regionG<|yG 4<|zm<|yx h fun _ w h=>yb h fun _ w h=>zm<|zn<|yg1 5 3 false [65,66,67,68,69] 69 h (fun _ T hT h=>?_) fun σ w h=>?_
     · refine zm<|yv h fun _ w h=>yv h fun _ w h=>yc h c18 fun _ w h=>yv h fun _ w h=>zn ?_
       exact zt hT h
     refine yG 2<|yp h fun _ h=>zm<|zn<|yg1 5 10 false [72,73,74,75,76] 76 h (fun _ T hT h=>?_) fun σ w h=>?_
     · refine zm<|yv h fun _ w h=>yv h fun _ w h=>yc h c18 fun _ w h=>yv h fun _ w h=>zn ?_
       exact zt hT h
     refine yG 1<|yp h fun _ h=>zn<|sim_end<|zk<|yC h (fun h=>zs<|zr<|yB h fun _ w h=>yu h fun w h=>zm<|zn<|zk<|sim_ret<|sim_then_ret<|sim_then_ret<|sim_then_ret<|body_retCT rfl rfl rfl h) fun h=>sim_skip<|zk<|yh [5,79,80,81,82,83,84,85,86,87,88] h fun C hC h=>yw 0 hC ?_
     refine ye 1 hC h fun _ h=>?_
     refine ye 2 hC h fun _ h=>?_
     refine yw 3 hC ?_
     refine ye 4 hC h fun _ h=>?_
     refine ye 5 hC h fun _ h=>?_
     refine yw 6 hC ?_
     refine ye 7 hC h fun _ h=>?_
     refine ye 8 hC h fun _ h=>?_
     refine yo 9 ?_
     refine yu h fun w h=>zn ?_
     obtain ⟨hC,h⟩:=h
     refine ⟨hC,?_⟩
     refine ye 10 hC h fun _ h=>?_
     refine yo 11 ?_
     refine yu h fun w h=>zn ?_
     obtain ⟨hC,h⟩:=h
     refine ⟨hC,?_⟩
     refine yw 12 hC ?_
     refine yz<|zk ?_
     exact zt hkK9 h
   refine sim_skip<|zk ?_
   exact zt hkK9 h
 refine zk<|zs<|zs<|zr<|zm<|yx h fun _ w h=>yb h fun _ w h=>zn<|zk<|yC h (fun h=>zs<|zr<|yv h fun _ w h=>yu h fun w h=>zm<|zn<|zk<|sim_ret<|sim_then_ret<|body_retCT rfl rfl rfl h) fun h=>sim_skip<|zk<|zs<|zs ?_
 refine sim_regionG<|yG 4<|zm<|yx h fun _ w h=>yb h fun _ w h=>zm<|zn<|yg1 4 3 false [97,98,99,100] 100 h (fun _ T hT h=>?_) fun σ w h=>?_
 · refine zm<|yv h fun _ w h=>yv h fun _ w h=>yb h fun _ w h=>zn ?_
   exact zt hT h
 refine yG 2<|yp h fun _ h=>zm<|zn<|yg1 5 9 false [103,104,105,106,107] 107 h (fun _ T hT h=>?_) fun σ w h=>?_
 · refine zm<|yv h fun _ w h=>yv h fun _ w h=>yc h c18 fun _ w h=>yv h fun _ w h=>zn ?_
   exact zt hT h
 refine yG 1<|yp h fun _ h=>zn<|sim_end<|zk<|yC h (fun h=>zs<|zr<|yB h fun _ w h=>yu h fun w h=>zm<|zn<|zk<|sim_ret<|sim_then_ret<|body_retCT rfl rfl rfl h) fun h=>sim_skip<|zk<|zs<|zr<|zm<|yv h fun _ w h=>yv h fun _ w h=>yc h c72 fun _ w h=>?_
 refine zm<|yv h fun _ w h=>yv h fun _ w h=>zm<|zm<|zn<|zk<|zs<|zr<|zm<|yv h fun _ w h=>yv h fun _ w h=>yc h c72 fun _ w h=>zm<|yv h fun _ w h=>?_
 refine yv h fun _ w h=>zm<|zm<|zn<|zk<|zs<|zr<|zm<|yv h fun _ w h=>yv h fun _ w h=>yc h c72 fun _ w h=>zm<|yv h fun _ w h=>yv h fun _ w h=>zm ?_
 refine zm<|zn<|zk<|zs<|zr<|zm<|yv h fun _ w h=>yv h fun _ w h=>zm<|zm<|zm<|yv h fun _ w h=>yu h fun w h=>yv h fun _ w h=>yu h fun w h=>?_
 refine yv h fun _ w h=>yu h fun w h=>yv h fun _ w h=>yu h fun w h=>zn<|zk<|zs<|sim_regionG<|yG 3<|yv h fun _ w h=>zm<|zm<|zn<|yg1 1 2 true [144] 144 h (fun _ T hT h=>?_) fun σ w h=>?_
 · refine zm<|zn ?_
   exact zt hT h
 refine yG 2<|yp h fun _ h=>zm<|zn<|yg1 1 5 true [147] 147 h (fun _ T hT h=>?_) fun σ w h=>?_
 · refine zm<|zn ?_
   exact zt hT h
 exact yG 3<|yp h fun _ h=>yu h fun w h=>zm<|zn<|sim_end<|zk<|sim_ret<|body_retCT rfl rfl rfl h
abbrev StlR (w0:World) (ws:List ByteArray):Ending→World→Prop:=retR fun u w'=>(∃ x is,u = .tuple #[.agg (staCells x).toArray,.bool is]∧staP ws=if is then some x else none)∧Ext w0 w'
theorem stl_fin {w0 w:World} {p2 p4 len cap:Nat} {A:Option Addr} {full:List ByteArray} {y:StaD} {z0 z1 z2:Value} (h2:w.heap[p2]?=some (.cells #[z0,z1,z2] 50 (0,0))) (h4:w.heap[p4]?=some (.cells (staCells y).toArray 50 (0,0))) (l2:w0.heap.size≤p2) (e:Ext w0 w)
 (hR:staP full=if ((len:Int) == 0) then some y else none):n29c1 (.pointer (some ⟨p2,0,none⟩)) (.pointer (some ⟨p4,0,none⟩)) (.slice A len cap) (StlR w0 full) w:=by
 unfold n29c1
 simp (disch:=try exact DI) only [↓PR,QR,simprocAttr,(cells_of_heap h4).1,(cells_of_heap h2).1,(cells_of_heap h2).2]
 generalize hV:World.setCell _ _ _=V
 have h2':V.heap[p2]?=some (.cells (staCells y).toArray 50 (0,0)):=by rw [← hV];exact heap_set (heap_set (heap_set h2 _) _) _
 have eV:Ext w0 V:=by rw [← hV];exact ((e.setCell (p:=⟨p2,0,none⟩) l2 _).setCell (p:=⟨p2,0+1,none⟩) l2 _).setCell (p:=⟨p2,0+2,none⟩) l2 _
 clear hV
 exact ⟨⟨y,_,rfl,hR⟩,eV⟩
theorem stl_none {w0 w:World} {p2:Nat} {full:List ByteArray} {z0 z1 z2:Value} (h2:w.heap[p2]?=some (.cells #[z0,z1,z2] 50 (0,0))) (l2:w0.heap.size≤p2) (e:Ext w0 w) (hR:staP full=none):n29c5 (.pointer (some ⟨p2,0,none⟩)) (StlR w0 full) w:=by
 unfold n29c5
 simp (disch:=try exact DI) only [↓PR,QR,simprocAttr,(cells_of_heap h2).1,(cells_of_heap h2).2]
 generalize hV:World.setCell _ _ _=V
 have eV:Ext w0 V:=by rw [← hV];exact ((e.setCell (p:=⟨p2,0,none⟩) l2 _).setCell (p:=⟨p2,0+1,none⟩) l2 _).setCell (p:=⟨p2,0+2,none⟩) l2 _
 exact ⟨⟨⟨ByteArray.empty,false,0⟩,false,rfl,hR⟩,eV⟩
theorem stl_tail {w0 w:World} {p2 p4:Nat} {v:Value} {b o cap:Nat} {rest full:List ByteArray} {x1:ByteArray} {k:Int} {z0 z1 z2:Value} (h2:w.heap[p2]?=some (.cells #[z0,z1,z2] 50 (0,0))) (h4:w.heap[p4]?=some (.cells (staCells ⟨x1,false,k⟩).toArray 50 (0,0))) (hne:p2≠p4) (l2:w0.heap.size≤p2) (l4:w0.heap.size≤p4) (hW:WsC w v b o cap rest) (e:Ext w0 w)
 (hR:staP full=endP (⟨x1,skipB kFinal rest,k⟩:StaD) (tailIf (skipB kFinal rest) rest)):n29c3 (.pointer (some ⟨p2,0,none⟩)) (.pointer (some ⟨p4,0,none⟩)) v (StlR w0 full) w:=by
 obtain rfl:=hW.val
 unfold n29c3
 match rest,hW,hR with
 | [],hW,hR =>
  have d1:(((([]:List ByteArray).length:Nat):Int) == 1)=false:=rfl
  simp (disch:=try exact DI) only [↓PR,QR,simprocAttr,d1,↓n29c2]
  exact stl_fin h2 h4 l2 e hR
 | [f],hW,hR =>
  have d1:(((([f]:List ByteArray).length:Nat):Int) == 1)=true:=rfl
  have c0:w.cell? ⟨b,o,none⟩=some (.string f):=hW.at_ 0 f rfl
  have i0:0 < ([f]:List ByteArray).length:=by simp
  by_cases hf:f=kFinal
  · have q1:decide (f=⟨#[102,105,110,97,108]⟩)=true:=decide_eq_true hf
    have hs:skipB kFinal [f]=true:=by unfold skipB;simp [hf]
    rw [hs] at hR
    simp (disch:=try exact DI) only [↓PR,QR,simprocAttr,d1,op_ws0 b o _ cap i0,Nat.add_zero,c0,q1,↓n29c2,(cells_of_heap h4).1,(cells_of_heap h4).2]
    generalize hV:World.setCell _ _ _=V
    have h4':V.heap[p4]?=some (.cells (staCells ⟨x1,true,k⟩).toArray 50 (0,0)):=by rw [← hV];exact heap_set h4 _
    have h2':V.heap[p2]?=some (.cells #[z0,z1,z2] 50 (0,0)):=by rw [← hV,Only.setCell w p4 _ _ p2 hne];exact h2
    have eV:Ext w0 V:=by rw [← hV];exact e.setCell (p:=⟨p4,0+1,none⟩) l4 _
    clear hV
    exact stl_fin (A:=none) (cap:=0) (len:=0) h2' h4' l2 eV hR
  · have q1:decide (f=⟨#[102,105,110,97,108]⟩)=false:=decide_eq_false hf
    have hs:skipB kFinal [f]=false:=by unfold skipB;simp [hf]
    rw [hs] at hR
    simp (disch:=try exact DI) only [↓PR,QR,simprocAttr,d1,op_ws0 b o _ cap i0,Nat.add_zero,c0,q1,↓n29c2]
    exact stl_fin h2 h4 l2 e hR
 | f::g::r,hW,hR =>
  have d1:((((f::g::r).length:Nat):Int) == 1)=false:=by rw [beq_eq_false_iff_ne];simp only [List.length_cons];omega
  have d2:((((f::g::r).length:Nat):Int) == 0)=false:=by rw [beq_eq_false_iff_ne];simp only [List.length_cons];omega
  simp (disch:=try exact DI) only [↓PR,QR,simprocAttr,d1,↓n29c2]
  refine stl_fin h2 h4 l2 e ?_
  rw [hR,d2]
  unfold endP tailIf
  cases skipB kFinal (f::g::r)<;>simp
theorem rstate_line (w0:World) (v:Value) (ws:List ByteArray) (hs:SliceOf w0 1 EStr v ws) (hne:ws≠[]):Ret Pg 92 #[v] w0 fun u w'=>(∃ x is,u = .tuple #[.agg (staCells x).toArray,.bool is]∧staP ws.tail=if is then some x else none)∧Ext w0 w':=by
 obtain ⟨b,o,cap,hW⟩:=ws_of hs hne
 have hv:=hW.val
 have hle:=hW.le
 subst hv
 refine n29s (R:=retR _) ?_;unfold n29
 match ws,hne,hW,hle with
 | [a],_,hW,hle =>
  have d1:decide ((([a]:List ByteArray).length:Int) < 2)=true:=rfl
  simp (disch:=try exact DI) only [↓PR,QR,simprocAttr,d1,↓n29c9]
  exact ⟨⟨⟨ByteArray.empty,false,0⟩,false,rfl,rfl⟩,ee⟩
 | a::x1::rest,_,hW,hle =>
  have d1:decide (((a::x1::rest).length:Int) < 2)=false:=decide_eq_false (by simp only [List.length_cons];omega)
  have hL:(a::x1::rest).length=rest.length+2:=rfl
  have i1:1 < (a::x1::rest).length:=by omega
  simp (disch:=try exact DI) only [↓PR,QR,simprocAttr,d1]
  have h2:=heap_new w0 #[.string ByteArray.empty,.bool false,.int .i64 0] 50
  have eW:Ext w0 (w0.alloc (.cells #[.string ByteArray.empty,.bool false,.int .i64 0] 50)):=ee
  have sW:w0.heap.size < (w0.alloc (.cells #[.string ByteArray.empty,.bool false,.int .i64 0] 50)).heap.size:=by show _ < (w0.heap.push _).size;rw [Array.size_push];omega
  generalize (w0.alloc (.cells #[.string ByteArray.empty,.bool false,.int .i64 0] 50))=W at h2 eW sW ⊢
  have lp:w0.heap.size≤w0.heap.size:=Nat.le_refl _
  generalize hp2:w0.heap.size=p2 at h2 sW ⊢
  replace lp:w0.heap.size≤p2:=by omega
  have c1:=(hW.ext eW).at_ 1 x1 rfl
  simp (disch:=try exact DI) only [↓PR,QR,simprocAttr,op_ws1 b o _ cap i1,c1]
  refine zcr (rName_ret W x1) fun w1 e1=>?_
  have E1:=eW.trans e1
  have s1:=e1.size
  replace h2:=e1.obj h2
  cases hn:nameB x1 with
  | false =>
   simp (disch:=try exact DI) only [↓PR,QR,simprocAttr,d1,↓n29c9,(cells_of_heap h2).1,(cells_of_heap h2).2]
   generalize hV:World.setCell _ _ _=V
   have h2':V.heap[p2]?=some (.cells (staCells ⟨ByteArray.empty,false,0⟩).toArray 50 (0,0)):=by rw [← hV];exact heap_set (heap_set (heap_set h2 _) _) _
   have eV:Ext w0 V:=by rw [← hV];exact ((E1.setCell (p:=⟨p2,0,none⟩) lp _).setCell (p:=⟨p2,0+1,none⟩) lp _).setCell (p:=⟨p2,0+2,none⟩) lp _
   clear hV
   exact ⟨⟨⟨ByteArray.empty,false,0⟩,false,rfl,by simp [staP,nameP,hn]⟩,eV⟩
  | true =>
   have c1':=(hW.ext E1).at_ 1 x1 rfl
   simp (disch:=try exact DI) only [↓PR,QR,simprocAttr,d1,↓n29c10,op_ws1 b o _ cap i1,c1']
   have h4:=heap_new w1 #[.string x1,.bool false,.int .i64 0] 50
   have eV:Ext w1 (w1.alloc (.cells #[.string x1,.bool false,.int .i64 0] 50)):=ee
   have l4:=E1.size
   generalize (w1.alloc (.cells #[.string x1,.bool false,.int .i64 0] 50))=V at h4 eV ⊢
   have hne:p2≠w1.heap.size:=by omega
   replace l4:w0.heap.size≤w1.heap.size:=l4
   generalize w1.heap.size=p4 at h4 hne l4 ⊢
   replace h2:=eV.obj h2
   have E2:=E1.trans eV
   rw [op_drop2 b o _ cap (by omega) hle]
   have hD:=(hW.ext E2).drop 2 (by omega)
   have hval:dropV 2 b o (a::x1::rest).length cap = .slice (some ⟨b,if cap=2 then o else o+2,none⟩) rest.length (cap - 2):=rfl
   have hd2:(a::x1::rest).drop 2=rest:=rfl
   rw [hval,hd2] at hD
   rw [hval]
   clear hval hd2
   generalize (if cap=2 then o else o+2)=o2 at hD ⊢
   generalize cap - 2=cap2 at hD ⊢
   have hP:staP (x1::rest)=(waitP rest).bind fun b=>endP (⟨x1,skipB kFinal b.2,b.1⟩:StaD) (tailIf (skipB kFinal b.2) b.2):=by unfold staP;rw [nameP_eq,hn];rfl
   match rest,hD,hP with
   | [],hD,hP =>
    have dge:decide (((([]:List ByteArray).length:Nat):Int)≥2)=false:=rfl
    simp (disch:=try exact DI) only [↓PR,QR,simprocAttr,dge,↓n29c8]
    exact stl_tail h2 h4 hne lp l4 hD E2 hP
   | [y],hD,hP =>
    have dge:decide (((([y]:List ByteArray).length:Nat):Int)≥2)=false:=rfl
    simp (disch:=try exact DI) only [↓PR,QR,simprocAttr,dge,↓n29c8]
    refine stl_tail h2 h4 hne lp l4 hD E2 (hP.trans ?_)
    unfold waitP skipB
    by_cases hy:y=kWait
    · simp [hy,numP,tailIf,endP]
    · simp [hy]
   | y::z::r2,hD,hP =>
    have dge:decide ((((y::z::r2).length:Nat):Int)≥2)=true:=decide_eq_true (by simp only [List.length_cons];omega)
    have j0:0 < (y::z::r2).length:=by simp
    have j1:1 < (y::z::r2).length:=by simp
    have c0:V.cell? ⟨b,o2,none⟩=some (.string y):=hD.at_ 0 y rfl
    have c2:=hD.at_ 1 z rfl
    by_cases hy:y=kWait
    · have q1:decide (y=⟨#[119,97,105,116]⟩)=true:=decide_eq_true hy
      have hsk:skipB kWait (y::z::r2)=true:=by unfold skipB;simp [hy]
      simp (disch:=try exact DI) only [↓PR,QR,simprocAttr,dge,op_ws0 b o2 _ cap2 j0,Nat.add_zero,c0,q1,↓n29c8,↓n29c7,op_ws1 b o2 _ cap2 j1,c2]
      refine callK_ret (rnumber_ret V z) ?_
      rintro _ V' ⟨rfl,hV'⟩
      rw [hV']
      clear hV' V'
      have hP2:staP (x1::y::z::r2)=((numP (z::r2)).bind fun q=>if q.1=0 then none else some q).bind fun b=>endP (⟨x1,skipB kFinal b.2,b.1⟩:StaD) (tailIf (skipB kFinal b.2) b.2):=by rw [hP];unfold waitP;rw [hsk];rfl
      rw [numP_cons] at hP2
      cases hz:numB z with
      | none =>
       rw [hz] at hP2
       simp (disch:=try exact DI) only [↓PR,QR,simprocAttr,numT,↓n29c6]
       exact stl_none h2 lp E2 hP2
      | some n =>
       rw [hz] at hP2
       by_cases hn0:n=0
       · have q2:(n == 0)=true:=by simp [hn0]
         simp (disch:=try exact DI) only [↓PR,QR,simprocAttr,numT,↓n29c6,q2]
         refine stl_none h2 lp E2 (hP2.trans ?_)
         simp [hn0]
       · have q2:(n == 0)=false:=by simp [hn0]
         have hle2:=hD.le
         have hbl:b < w0.heap.size:=hW.lt (by simp)
         simp (disch:=try exact DI) only [↓PR,QR,simprocAttr,numT,↓n29c6,q2]
         refine drawK_introB p4 p4 (w1:=V) (fun _ _ _ _=>rfl) ?_
         have eD:Ext V (Sw.drew V):=(Ext.refl V).drew
         have hK:KB V p4 p4 (Sw.drew V):=fun _ _ _ _=>rfl
         generalize Sw.drew V=D at eD hK ⊢
         have h2D:=eD.obj h2
         have h4D:=eD.obj h4
         have E3:=E2.trans eD
         unfold n29c4
         rw [q_drop2 b o2 _ cap2 (by simp) hle2]
         simp (disch:=try exact DI) only [↓PR,QR,simprocAttr,(cells_of_heap h4D).1,(cells_of_heap h4D).2]
         have h2':(D.setCell ⟨p4,2,none⟩ (.int .i64 n)).heap[p2]?=some (.cells #[.string ByteArray.empty,.bool false,.int .i64 0] 50 (0,0)):=by rw [Only.setCell D p4 _ _ p2 hne];exact h2D
         have h4':(D.setCell ⟨p4,2,none⟩ (.int .i64 n)).heap[p4]?=some (.cells (staCells ⟨x1,false,n⟩).toArray 50 (0,0)):=heap_set h4D _
         have E4:Ext w0 (D.setCell ⟨p4,2,none⟩ (.int .i64 n)):=E3.setCell (p:=⟨p4,2,none⟩) l4 _
         have hK2:KB V p4 p4 (D.setCell ⟨p4,2,none⟩ (.int .i64 n)):=fun c hc h1 h2=>(Only.setCell D p4 2 _ c h1).trans (hK c hc h1 h2)
         have hD2:=((hD.ext eD).drop 2 (by simp)).other (w':=D.setCell ⟨p4,2,none⟩ (.int .i64 n)) (Only.setCell D p4 2 _ b (by omega))
         refine ⟨hK2,?_⟩
         exact stl_tail h2' h4' hne lp l4 hD2 E4 (hP2.trans (by simp [hn0]))
    · have q1:decide (y=⟨#[119,97,105,116]⟩)=false:=decide_eq_false hy
      have hsk:skipB kWait (y::z::r2)=false:=by unfold skipB;simp [hy]
      simp (disch:=try exact DI) only [↓PR,QR,simprocAttr,dge,op_ws0 b o2 _ cap2 j0,Nat.add_zero,c0,q1,↓n29c8]
      refine stl_tail h2 h4 hne lp l4 hD E2 (hP.trans ?_)
      unfold waitP
      rw [hsk]
      rfl
abbrev StplR (w0:World) (ws:List ByteArray):Ending→World→Prop:=retR fun u w'=>(∃ x is,u = .tuple #[.agg (stpCells x).toArray,.bool is]∧stpP ws=if is then some x else none)∧Ext w0 w'
def zeroS:StpD:=⟨ByteArray.empty,ByteArray.empty,0,ByteArray.empty,ByteArray.empty,ByteArray.empty,0,0,0⟩
theorem numT_eq (o:Option Int):numT o = .tuple #[.int .i64 (o.getD 0),.bool o.isSome]:=by cases o<;>rfl
theorem stp_ret {w0 w:World} {QP:List PanicEntry→World→Prop} {p2:Nat} {full:List ByteArray} {zs:Array Value} (h2:w.heap[p2]?=some (.cells zs 71 (0,0))) (hz:zs.size=9) (l2:w0.heap.size≤p2) (e:Ext w0 w) (y:StpD) {is:Bool} (hR:stpP full=if is then some y else none) :
 opU Pg (Instr.storeAt 71 (.pointer (some ⟨p2,0,none⟩)) (.agg (stpCells y).toArray)) QP w fun w=>qW Pg 71 (.pointer (some ⟨p2,0,none⟩)) w fun r0=>StplR w0 full (.returned (.tuple #[r0,.bool is])) w:=by
 rw [op_storeO ty71 h2 (vs:=stpCells y) rfl (by omega) (by intro v hv;simp only [List.mem_cons,List.not_mem_nil,or_false] at hv;rcases hv with rfl | rfl | rfl | rfl | rfl | rfl | rfl | rfl | rfl<;>rfl)]
 have h2':=setCells_heap (stpCells y) 0 h2
 rw [setA_all (by rw [hz];rfl)] at h2'
 have eV:Ext w0 (setCells w p2 0 (stpCells y)):=setCells_ext _ _ _ _ e l2
 generalize setCells w p2 0 (stpCells y)=V at h2' eV ⊢
 simp (disch:=try exact DI) only [↓PR,QR,simprocAttr,(cells_of_heap h2').1]
 exact ⟨⟨y,is,rfl,hR⟩,eV⟩
def whenR (y:StpD) (rest:List ByteArray):Option StpD:=(whenP rest).bind fun h=>endP ({ y with counter:=h.1.counter,low:=h.1.low,high:=h.1.high,add:=h.1.add }:StpD) h.2
theorem when_nil (y:StpD) (hy:y.counter=ByteArray.empty∧y.low=0∧y.high=0∧y.add=0):whenR y []=some y:=by
 obtain ⟨a,b,c,d⟩:=hy
 unfold whenR
 show some _=some _
 congr 1
 cases y
 simp_all
theorem numP_nil:numP []=none:=rfl
theorem when_len {y:StpD} {rest:List ByteArray} (h0:rest≠[]) (h5:rest.length≠5):whenR y rest=none:=by
 unfold whenR whenP
 cases hs:skipB kWhen rest with
 | false =>
  simp only [Bool.false_eq_true,if_false,Option.bind_some]
  unfold endP
  rw [if_neg h0]
 | true =>
  simp only [if_true]
  match rest,h0,h5 with
  | [k],_,_=>rfl
  | [k,a],_,_=>cases hn:nameB a<;>simp [nameP,hn,numP_nil]
  | [k,a,b],_,_=>cases hn:nameB a<;>cases hb:numB b<;>simp [nameP,hn,numP_cons,hb,numP_nil]
  | [k,a,b,c],_,_=>cases hn:nameB a<;>cases hb:numB b<;>cases hc:numB c<;>simp [nameP,hn,numP_cons,hb,hc,numP_nil]
  | [k,a,b,c,d],_,h5=>exact absurd rfl h5
  | k::a::b::c::d::f::r,_,_=>cases hn:nameB a<;>cases hb:numB b<;>cases hc:numB c<;>cases hd:numB d<;>simp [nameP,hn,numP_cons,hb,hc,hd,endP]
theorem when_five (y:StpD) (k a b c d:ByteArray):whenR y [k,a,b,c,d]=if k=kWhen∧nameB a=true∧(numB b).isSome=true∧(numB c).isSome=true∧(numB d).isSome=true then some { y with counter:=a,low:=(numB b).getD 0,high:=(numB c).getD 0,add:=(numB d).getD 0 } else none:=by
 unfold whenR whenP skipB
 by_cases hk:k=kWhen
 · cases hn:nameB a<;>cases hb:numB b<;>cases hc:numB c<;>cases hd:numB d<;>simp [hk,nameP,hn,numP_cons,hb,hc,hd,endP]
 · simp [hk,endP]
theorem stp_when {w0 w:World} {p2 p4:Nat} {v:Value} {b o cap:Nat} {rest full:List ByteArray} {y:StpD} {zs:Array Value} (h2:w.heap[p2]?=some (.cells zs 71 (0,0))) (hz:zs.size=9) (h4:w.heap[p4]?=some (.cells (stpCells y).toArray 71 (0,0))) (hne:p2≠p4) (l2:w0.heap.size≤p2) (l4:w0.heap.size≤p4) (hb:b < w0.heap.size) (hW:WsC w v b o cap rest) (e:Ext w0 w)
 (hy:y.counter=ByteArray.empty∧y.low=0∧y.high=0∧y.add=0) (hR:stpP full=whenR y rest):n30c12 (.pointer (some ⟨p2,0,none⟩)) (.pointer (some ⟨p4,0,none⟩)) v (StplR w0 full) w:=by
 obtain rfl:=hW.val
 unfold n30c12
 by_cases h0:rest=[]
 · subst h0
   have d1:(((([]:List ByteArray).length:Nat):Int) == 0)=true:=rfl
   rw [when_nil y hy] at hR
   simp (disch:=try exact DI) only [↓PR,QR,simprocAttr,d1,↓n30c10,(cells_of_heap h4).1]
   exact stp_ret h2 hz l2 e y (is:=true) hR
 have d1:(((rest.length:Nat):Int) == 0)=false:=by
  rw [beq_eq_false_iff_ne]
  have:rest.length≠0:=fun h=>h0 (List.eq_nil_of_length_eq_zero h)
  omega
 by_cases h5:rest.length=5
 case neg =>
  have d2:(((rest.length:Nat):Int) != 5)=true:=by simp only [bne_iff_ne,ne_eq];omega
  rw [when_len h0 h5] at hR
  simp (disch:=try exact DI) only [↓PR,QR,simprocAttr,d1,d2,↓n30c11,↓n30c9,↓n30c7]
  exact stp_ret h2 hz l2 e zeroS (is:=false) hR
 have d2:(((rest.length:Nat):Int) != 5)=false:=by rw [h5];rfl
 match rest,h5 with
 | [k,a,b1,c,d],_ =>
 have L5:([k,a,b1,c,d]:List ByteArray).length=5:=rfl
 have i0:0 < ([k,a,b1,c,d]:List ByteArray).length:=by simp
 have i1:1 < ([k,a,b1,c,d]:List ByteArray).length:=by simp
 have i2:2 < ([k,a,b1,c,d]:List ByteArray).length:=by simp
 have i3:3 < ([k,a,b1,c,d]:List ByteArray).length:=by simp
 have i4:4 < ([k,a,b1,c,d]:List ByteArray).length:=by simp
 have c0:w.cell? ⟨b,o,none⟩=some (.string k):=hW.at_ 0 k rfl
 have c1:=hW.at_ 1 a rfl
 rw [when_five] at hR
 by_cases hk:k=kWhen
 case neg =>
  have q1:(!decide (k=⟨#[119,104,101,110]⟩))=true:=by simp [hk]
  rw [if_neg (by simp [hk])] at hR
  simp (disch:=try exact DI) only [↓PR,QR,simprocAttr,d1,d2,op_ws0 b o _ cap i0,Nat.add_zero,c0,q1,↓n30c11,↓n30c9,↓n30c7]
  exact stp_ret h2 hz l2 e zeroS (is:=false) hR
 have q1:decide (k=⟨#[119,104,101,110]⟩)=true:=decide_eq_true hk
 simp (disch:=try exact DI) only [↓PR,QR,simprocAttr,d1,d2,op_ws0 b o _ cap i0,Nat.add_zero,c0,q1,Bool.not_true,↓n30c11,↓n30c9,op_ws1 b o _ cap i1,c1]
 refine zcr (rName_ret w a) fun w1 e1=>?_
 have E1:=e.trans e1
 replace h2:=e1.obj h2
 replace h4:=e1.obj h4
 replace hW:=hW.ext e1
 cases hn:nameB a with
 | false =>
  rw [if_neg (by simp [hn])] at hR
  simp (disch:=try exact DI) only [↓PR,QR,simprocAttr,d1,d2,q1,Bool.not_true,↓n30c7]
  exact stp_ret h2 hz l2 E1 zeroS (is:=false) hR
 | true =>
 have c1:=hW.at_ 1 a rfl
 have c2:=hW.at_ 2 b1 rfl
 have c3:=hW.at_ 3 c rfl
 have c4:=hW.at_ 4 d rfl
 simp (disch:=try exact DI) only [↓PR,QR,simprocAttr,d1,d2,q1,Bool.not_true,↓n30c8,op_ws2 b o _ cap i2,c2]
 refine callK_ret (rnumber_ret w1 b1) ?_
 rintro _ V' ⟨rfl,hV'⟩
 rw [hV',numT_eq]
 clear hV' V'
 simp (disch:=try exact DI) only [↓PR,QR,simprocAttr,↓n30c6,op_ws3 b o _ cap i3,c3]
 refine callK_ret (rnumber_ret w1 c) ?_
 rintro _ V' ⟨rfl,hV'⟩
 rw [hV',numT_eq]
 clear hV' V'
 simp (disch:=try exact DI) only [↓PR,QR,simprocAttr,↓n30c5,op_ws4 b o _ cap i4,c4]
 refine callK_ret (rnumber_ret w1 d) ?_
 rintro _ V' ⟨rfl,hV'⟩
 rw [hV',numT_eq]
 clear hV' V'
 simp (disch:=try exact DI) only [↓PR,QR,simprocAttr,↓n30c4,op_ws1 b o _ cap i1,c1,(cells_of_heap h4).1,(cells_of_heap h4).2]
 generalize hV:World.setCell _ _ _=V
 have h2V:V.heap[p2]?=some (.cells zs 71 (0,0)):=by
  rw [← hV,Only.setCell _ p4 _ _ p2 hne,Only.setCell _ p4 _ _ p2 hne,Only.setCell _ p4 _ _ p2 hne,Only.setCell _ p4 _ _ p2 hne]
  exact h2
 have eV:Ext w0 V:=by
  rw [← hV]
  exact (((E1.setCell (p:=⟨p4,5,none⟩) l4 _).setCell (p:=⟨p4,6,none⟩) l4 _).setCell (p:=⟨p4,7,none⟩) l4 _).setCell (p:=⟨p4,8,none⟩) l4 _
 clear hV
 cases s1:(numB b1).isSome with
 | false =>
  rw [if_neg (by simp [s1])] at hR
  simp (disch:=try exact DI) only [↓PR,QR,simprocAttr,↓n30c3]
  exact stp_ret h2V hz l2 eV { y with counter:=a,low:=(numB b1).getD 0,high:=(numB c).getD 0,add:=(numB d).getD 0 } (is:=false) hR
 | true =>
 cases s2:(numB c).isSome with
 | false =>
  rw [if_neg (by simp [s2])] at hR
  simp (disch:=try exact DI) only [↓PR,QR,simprocAttr,↓n30c3]
  exact stp_ret h2V hz l2 eV { y with counter:=a,low:=(numB b1).getD 0,high:=(numB c).getD 0,add:=(numB d).getD 0 } (is:=false) hR
 | true =>
 cases s3:(numB d).isSome with
 | false =>
  rw [if_neg (by simp [s3])] at hR
  simp (disch:=try exact DI) only [↓PR,QR,simprocAttr,↓n30c3]
  exact stp_ret h2V hz l2 eV { y with counter:=a,low:=(numB b1).getD 0,high:=(numB c).getD 0,add:=(numB d).getD 0 } (is:=false) hR
 | true =>
  rw [if_pos ⟨hk,hn,s1,s2,s3⟩] at hR
  simp (disch:=try exact DI) only [↓PR,QR,simprocAttr,↓n30c3]
  exact stp_ret h2V hz l2 eV { y with counter:=a,low:=(numB b1).getD 0,high:=(numB c).getD 0,add:=(numB d).getD 0 } (is:=true) hR
def msgR (y:StpD) (rest:List ByteArray):Option StpD:=(msgP y.kind rest).bind fun m=>whenR { y with message:=m.1.1,peer:=m.1.2 } m.2
structure Blank (y:StpD):Prop where
 m:y.message=ByteArray.empty
 p:y.peer=ByteArray.empty
 c:y.counter=ByteArray.empty
 l:y.low=0
 h:y.high=0
 a:y.add=0
theorem Blank.same {y:StpD} (h:Blank y):({ y with message:=ByteArray.empty,peer:=ByteArray.empty }:StpD)=y:=by
 obtain ⟨a,b,_⟩:=h
 cases y
 simp_all
theorem msgR_quiet {y:StpD} {rest:List ByteArray} (hb:Blank y) (hk:speaksB y.kind=false):msgR y rest=whenR y rest:=by
 unfold msgR msgP
 rw [hk]
 show whenR _ _=_
 rw [hb.same]
theorem msgR_two {y:StpD} {a b:ByteArray} {r:List ByteArray} (hk:speaksB y.kind=true):msgR y (a::b::r)=if nameB a=true∧nameB b=true then whenR { y with message:=a,peer:=b } r else none:=by
 unfold msgR msgP
 rw [hk]
 cases ha:nameB a<;>cases hb:nameB b<;>simp [nameP,ha,hb]
theorem msgR_few {y:StpD} {rest:List ByteArray} (hk:speaksB y.kind=true) (h:rest.length < 2):msgR y rest=none:=by
 unfold msgR msgP
 rw [hk]
 match rest,h with
 | [],_=>rfl
 | [a],_=>cases ha:nameB a<;>simp [nameP,ha]
theorem stp_msg {w0 w:World} {p2 p4:Nat} {v:Value} {b o cap:Nat} {rest full:List ByteArray} {y:StpD} {zs:Array Value} (h2:w.heap[p2]?=some (.cells zs 71 (0,0))) (hz:zs.size=9) (h4:w.heap[p4]?=some (.cells (stpCells y).toArray 71 (0,0))) (hne:p2≠p4) (l2:w0.heap.size≤p2) (l4:w0.heap.size≤p4) (hb:b < w0.heap.size) (hW:WsC w v b o cap rest) (e:Ext w0 w)
 (hy:Blank y) (hk:y.kind=0∨(1≤y.kind∧y.kind≤4)) (hR:stpP full=if y.kind=0 then none else msgR y rest):n30c19 (.pointer (some ⟨p2,0,none⟩)) (.pointer (some ⟨p4,0,none⟩)) v (StplR w0 full) w:=by
 have hv:=hW.val
 unfold n30c19
 by_cases h0:y.kind=0
 · have d1:(y.kind == 0)=true:=by simp [h0]
   rw [if_pos h0] at hR
   simp (disch:=try exact DI) only [↓PR,QR,simprocAttr,(cells_of_heap h4).1,d1,↓n30c17]
   exact stp_ret h2 hz l2 e zeroS (is:=false) hR
 have d1:(y.kind == 0)=false:=by simp [h0]
 rw [if_neg h0] at hR
 by_cases h3:y.kind≤2
 case neg =>
  have d2:decide (y.kind≤2)=false:=decide_eq_false h3
  have hs:speaksB y.kind=false:=by unfold speaksB;rw [decide_eq_false (by omega),decide_eq_false (by omega)];rfl
  rw [msgR_quiet hy hs] at hR
  simp (disch:=try exact DI) only [↓PR,QR,simprocAttr,(cells_of_heap h4).1,d1,d2,↓n30c18]
  exact stp_when h2 hz h4 hne l2 l4 hb hW e ⟨hy.c,hy.l,hy.h,hy.a⟩ hR
 have d2:decide (y.kind≤2)=true:=decide_eq_true h3
 have hs:speaksB y.kind=true:=by
  unfold speaksB
  rcases (by omega:y.kind=1∨y.kind=2) with h | h<;>simp [h]
 subst hv
 by_cases hl:rest.length < 2
 · have d3:decide ((rest.length:Int) < 2)=true:=decide_eq_true (by omega)
   rw [msgR_few hs hl] at hR
   simp (disch:=try exact DI) only [↓PR,QR,simprocAttr,(cells_of_heap h4).1,d1,d2,d3,↓n30c18,↓n30c16,↓n30c15,↓n30c14]
   exact stp_ret h2 hz l2 e zeroS (is:=false) hR
 match rest,hl with
 | [],hl=>exact absurd (by simp) hl
 | [_],hl=>exact absurd (by simp) hl
 | a::c::r,hl =>
 have d3:decide (((a::c::r).length:Int) < 2)=false:=decide_eq_false (by omega)
 have i0:0 < (a::c::r).length:=by simp
 have i1:1 < (a::c::r).length:=by simp
 have c0:w.cell? ⟨b,o,none⟩=some (.string a):=hW.at_ 0 a rfl
 rw [msgR_two hs] at hR
 simp (disch:=try exact DI) only [↓PR,QR,simprocAttr,(cells_of_heap h4).1,d1,d2,d3,↓n30c18,↓n30c16,op_ws0 b o _ cap i0,Nat.add_zero,c0]
 refine zcr (rName_ret w a) fun w1 e1=>?_
 have E1:=e.trans e1
 replace h2:=e1.obj h2
 replace h4:=e1.obj h4
 replace hW:=hW.ext e1
 cases ha:nameB a with
 | false =>
  rw [if_neg (by simp [ha])] at hR
  simp (disch:=try exact DI) only [↓PR,QR,simprocAttr,d3,↓n30c15,↓n30c14]
  exact stp_ret h2 hz l2 E1 zeroS (is:=false) hR
 | true =>
 have c1:=hW.at_ 1 c rfl
 simp (disch:=try exact DI) only [↓PR,QR,simprocAttr,d3,↓n30c15,op_ws1 b o _ cap i1,c1]
 refine zcr (rName_ret w1 c) fun w2 e2=>?_
 have E2:=E1.trans e2
 replace h2:=e2.obj h2
 replace h4:=e2.obj h4
 replace hW:=hW.ext e2
 cases hc:nameB c with
 | false =>
  rw [if_neg (by simp [hc])] at hR
  simp (disch:=try exact DI) only [↓PR,QR,simprocAttr,d3,↓n30c14]
  exact stp_ret h2 hz l2 E2 zeroS (is:=false) hR
 | true =>
 rw [if_pos ⟨ha,hc⟩] at hR
 simp (disch:=try exact DI) only [↓PR,QR,simprocAttr,d3]
 refine drawK_introB p4 p4 (w1:=w2) (fun _ _ _ _=>rfl) ?_
 have eD:Ext w2 (Sw.drew w2):=(Ext.refl w2).drew
 have hK:KB w2 p4 p4 (Sw.drew w2):=fun _ _ _ _=>rfl
 generalize Sw.drew w2=D at eD hK ⊢
 have h2D:=eD.obj h2
 have h4D:=eD.obj h4
 have hWD:=hW.ext eD
 have E3:=E2.trans eD
 have c0:w2.cell? ⟨b,o,none⟩=some (.string a):=hW.at_ 0 a rfl
 have c1:=hW.at_ 1 c rfl
 have hle:=hW.le
 have hb4:b≠p4:=by omega
 have hbs:b < w2.heap.size:=hW.lt (by simp)
 have hK1:KB w2 p4 p4 (D.setCell ⟨p4,3,none⟩ (.string a)):=fun x hx g1 g2=>(Only.setCell D p4 3 _ x g1).trans (hK x hx g1 g2)
 have hK2:KB w2 p4 p4 ((D.setCell ⟨p4,3,none⟩ (.string a)).setCell ⟨p4,4,none⟩ (.string c)):=fun x hx g1 g2=>(Only.setCell _ p4 4 _ x g1).trans (hK1 x hx g1 g2)
 have hq2:2≤(a::c::r).length:=by simp
 unfold n30c13
 simp (disch:=try exact DI) only [↓PR,QR,simprocAttr,q_ws0 b o _ cap i0,Nat.add_zero,q_ws1 b o _ cap i1,c0,c1,q_drop2 b o _ cap hq2 hle,(cells_of_heap h4D).1,(cells_of_heap h4D).2]
 refine ⟨hK1,hK2,?_⟩
 have h2V:((D.setCell ⟨p4,3,none⟩ (.string a)).setCell ⟨p4,4,none⟩ (.string c)).heap[p2]?=some (.cells zs 71 (0,0)):=by
  rw [Only.setCell _ p4 _ _ p2 hne,Only.setCell _ p4 _ _ p2 hne]
  exact h2D
 have h4V:((D.setCell ⟨p4,3,none⟩ (.string a)).setCell ⟨p4,4,none⟩ (.string c)).heap[p4]?=some (.cells (stpCells { y with message:=a,peer:=c }).toArray 71 (0,0)):=heap_set (heap_set h4D _) _
 have E4:Ext w0 ((D.setCell ⟨p4,3,none⟩ (.string a)).setCell ⟨p4,4,none⟩ (.string c)):=(E3.setCell (p:=⟨p4,3,none⟩) l4 _).setCell (p:=⟨p4,4,none⟩) l4 _
 have hWV:=(hWD.drop 2 (by simp)).other (w':=(D.setCell ⟨p4,3,none⟩ (.string a)).setCell ⟨p4,4,none⟩ (.string c)) (by rw [Only.setCell _ p4 _ _ b hb4,Only.setCell _ p4 _ _ b hb4])
 exact stp_when h2V hz h4V hne l2 l4 hb hWV E4 ⟨hy.c,hy.l,hy.h,hy.a⟩ hR
def kUp (s:ByteArray) (k:Int):Int:=if 1 < k∧s=kwB 1 then 1 else if 2 < k∧s=kwB 2 then 2 else if 3 < k∧s=kwB 3 then 3 else if 4 < k∧s=kwB 4 then 4 else 0
theorem kUp_one (s:ByteArray):kUp s 1=0:=by unfold kUp;simp
theorem kUp_five (s:ByteArray):kUp s 5=kindP s:=by unfold kUp kindP;simp
theorem kUp_hit1:kUp (kwB 1) 2=1:=by decide
theorem kUp_miss1 {s:ByteArray} (h:s≠kwB 1):kUp s 2=kUp s 1:=by unfold kUp;simp [h]
theorem kUp_hit2:kUp (kwB 2) 3=2:=by decide
theorem kUp_miss2 {s:ByteArray} (h:s≠kwB 2):kUp s 3=kUp s 2:=by unfold kUp;simp [h]
theorem kUp_hit3:kUp (kwB 3) 4=3:=by decide
theorem kUp_miss3 {s:ByteArray} (h:s≠kwB 3):kUp s 4=kUp s 3:=by unfold kUp;simp [h]
theorem kUp_hit4:kUp (kwB 4) 5=4:=by decide
theorem kUp_miss4 {s:ByteArray} (h:s≠kwB 4):kUp s 5=kUp s 4:=by unfold kUp;simp [h]
abbrev stpK (fr to:ByteArray) (k:Int):StpD:=⟨fr,to,k,ByteArray.empty,ByteArray.empty,ByteArray.empty,0,0,0⟩
theorem blankK (fr to:ByteArray) (k:Int):Blank (stpK fr to k):=⟨rfl,rfl,rfl,rfl,rfl,rfl⟩
structure KL (w0 w:World) (p2 p4:Nat) (zs:Array Value) (fr to s:ByteArray) (k:Int):Prop where
 e:Ext w0 w
 h2:w.heap[p2]?=some (.cells zs 71 (0,0))
 h4:w.heap[p4]?=some (.cells (stpCells (stpK fr to (kUp s k))).toArray 71 (0,0))
theorem step_kinds {w0 w:World} {p2 p4:Nat} {b o cap len:Nat} {fr to s:ByteArray} {rest full:List ByteArray} {v39:Value} {b' o' cap':Nat} {zs:Array Value} (hz:zs.size=9) (h:KL w0 w p2 p4 zs fr to s 1) (hne:p2≠p4) (l2:w0.heap.size≤p2) (l4:w0.heap.size≤p4) (hb:b < w0.heap.size) (hb':b' < w0.heap.size) (h3:3 < len) (c3:w0.cell? ⟨b,o+3,none⟩=some (.string s)) (hW:WsC w0 v39 b' o' cap' rest)
 (hR:stpP full=if kindP s=0 then none else msgR (stpK fr to (kindP s)) rest):loop1 (fun t6 w next5=>n30c20 (.slice (some ⟨b,o,none⟩) len cap) (.pointer (some ⟨p2,0,none⟩)) (.pointer (some ⟨p4,0,none⟩)) t6 v39 next5 (StplR w0 full) w) (.int .i64 1) w:=by
 refine loop1_intro (fun i w=>∃ k:Int,i = .int .i64 k∧1≤k∧k≤5∧KL w0 w p2 p4 zs fr to s k) (fun i _=>5 - (intOf i).toNat) ⟨1,rfl,by omega,by omega,h⟩ ?_
 rintro _ w ⟨k,rfl,k1,k5,h⟩
 unfold n30c20
 have hb4:b≠p4:=by omega
 rcases (by omega:k=1∨k=2∨k=3∨k=4∨k=5) with rfl | rfl | rfl | rfl | rfl
 · have d1:decide ((1:Int)≤4)=true:=by decide
   simp (disch:=try exact DI) only [↓PR,QR,simprocAttr,d1]
   refine drawK_intro ?_
   have eD:Ext w (Sw.drew w):=(Ext.refl w).drew
   generalize Sw.drew w=D at eD ⊢
   have ED:=h.e.trans eD
   have cD:=ED.cell c3
   unfold n30c2
   simp (disch:=try exact DI) only [↓PR,QR,simprocAttr,q_ws3 b o _ cap h3,cD]
   have oY:=heap_new D #[.string ⟨#[]⟩,.string ⟨#[115,101,110,100]⟩,.string ⟨#[114,101,99,101,105,118,101]⟩,.string ⟨#[116,105,109,101,111,117,116]⟩,.string ⟨#[115,105,108,101,110,116]⟩] 9
   have eY:Ext D (D.alloc (.cells #[.string ⟨#[]⟩,.string ⟨#[115,101,110,100]⟩,.string ⟨#[114,101,99,101,105,118,101]⟩,.string ⟨#[116,105,109,101,111,117,116]⟩,.string ⟨#[115,105,108,101,110,116]⟩] 9)):=ee
   generalize (D.alloc (.cells #[.string ⟨#[]⟩,.string ⟨#[115,101,110,100]⟩,.string ⟨#[114,101,99,101,105,118,101]⟩,.string ⟨#[116,105,109,101,111,117,116]⟩,.string ⟨#[115,105,108,101,110,116]⟩] 9))=Y at oY eY ⊢
   generalize D.heap.size=N at oY ⊢
   refine narrowK_EC eY ?_
   have cN:Y.cell? ⟨N,1,none⟩=some (.string ⟨#[115,101,110,100]⟩):=(cells_of_heap oY).1 1
   have h2Y:=eY.obj (eD.obj h.h2)
   have h4Y:=eY.obj (eD.obj h.h4)
   have EY:=ED.trans eY
   unfold n30c1
   by_cases hs:s=kwB 1
   · have q1:decide (s=⟨#[115,101,110,100]⟩)=true:=decide_eq_true hs
     have hw:IntKind.i64.wrap ((1:Int)+1)=2:=by decide
     simp (disch:=try exact DI) only [↓PR,QR,simprocAttr,q_ws1 N 0 5 5 (by decide),Nat.zero_add,cN,q1,(cells_of_heap h4Y).1,(cells_of_heap h4Y).2,hw]
     refine ⟨⟨2,rfl,by omega,by omega,EY.setCell (p:=⟨p4,2,none⟩) l4 _,?_,?_⟩,by decide⟩
     · rw [Only.setCell _ p4 _ _ p2 hne]
       exact h2Y
     · rw [hs,kUp_hit1]
       exact heap_set h4Y _
   · have q1:decide (s=⟨#[115,101,110,100]⟩)=false:=decide_eq_false hs
     have hw:IntKind.i64.wrap ((1:Int)+1)=2:=by decide
     simp (disch:=try exact DI) only [↓PR,QR,simprocAttr,q_ws1 N 0 5 5 (by decide),Nat.zero_add,cN,q1,hw]
     exact ⟨⟨2,rfl,by omega,by omega,EY,h2Y,by rw [kUp_miss1 hs];exact h4Y⟩,by decide⟩
 · have d1:decide ((2:Int)≤4)=true:=by decide
   simp (disch:=try exact DI) only [↓PR,QR,simprocAttr,d1]
   refine drawK_intro ?_
   have eD:Ext w (Sw.drew w):=(Ext.refl w).drew
   generalize Sw.drew w=D at eD ⊢
   have ED:=h.e.trans eD
   have cD:=ED.cell c3
   unfold n30c2
   simp (disch:=try exact DI) only [↓PR,QR,simprocAttr,q_ws3 b o _ cap h3,cD]
   have oY:=heap_new D #[.string ⟨#[]⟩,.string ⟨#[115,101,110,100]⟩,.string ⟨#[114,101,99,101,105,118,101]⟩,.string ⟨#[116,105,109,101,111,117,116]⟩,.string ⟨#[115,105,108,101,110,116]⟩] 9
   have eY:Ext D (D.alloc (.cells #[.string ⟨#[]⟩,.string ⟨#[115,101,110,100]⟩,.string ⟨#[114,101,99,101,105,118,101]⟩,.string ⟨#[116,105,109,101,111,117,116]⟩,.string ⟨#[115,105,108,101,110,116]⟩] 9)):=ee
   generalize (D.alloc (.cells #[.string ⟨#[]⟩,.string ⟨#[115,101,110,100]⟩,.string ⟨#[114,101,99,101,105,118,101]⟩,.string ⟨#[116,105,109,101,111,117,116]⟩,.string ⟨#[115,105,108,101,110,116]⟩] 9))=Y at oY eY ⊢
   generalize D.heap.size=N at oY ⊢
   refine narrowK_EC eY ?_
   have cN:Y.cell? ⟨N,2,none⟩=some (.string ⟨#[114,101,99,101,105,118,101]⟩):=(cells_of_heap oY).1 2
   have h2Y:=eY.obj (eD.obj h.h2)
   have h4Y:=eY.obj (eD.obj h.h4)
   have EY:=ED.trans eY
   unfold n30c1
   by_cases hs:s=kwB 2
   · have q1:decide (s=⟨#[114,101,99,101,105,118,101]⟩)=true:=decide_eq_true hs
     have hw:IntKind.i64.wrap ((2:Int)+1)=3:=by decide
     simp (disch:=try exact DI) only [↓PR,QR,simprocAttr,q_ws2 N 0 5 5 (by decide),Nat.zero_add,cN,q1,(cells_of_heap h4Y).1,(cells_of_heap h4Y).2,hw]
     refine ⟨⟨3,rfl,by omega,by omega,EY.setCell (p:=⟨p4,2,none⟩) l4 _,?_,?_⟩,by decide⟩
     · rw [Only.setCell _ p4 _ _ p2 hne]
       exact h2Y
     · rw [hs,kUp_hit2]
       exact heap_set h4Y _
   · have q1:decide (s=⟨#[114,101,99,101,105,118,101]⟩)=false:=decide_eq_false hs
     have hw:IntKind.i64.wrap ((2:Int)+1)=3:=by decide
     simp (disch:=try exact DI) only [↓PR,QR,simprocAttr,q_ws2 N 0 5 5 (by decide),Nat.zero_add,cN,q1,hw]
     exact ⟨⟨3,rfl,by omega,by omega,EY,h2Y,by rw [kUp_miss2 hs];exact h4Y⟩,by decide⟩
 · have d1:decide ((3:Int)≤4)=true:=by decide
   simp (disch:=try exact DI) only [↓PR,QR,simprocAttr,d1]
   refine drawK_intro ?_
   have eD:Ext w (Sw.drew w):=(Ext.refl w).drew
   generalize Sw.drew w=D at eD ⊢
   have ED:=h.e.trans eD
   have cD:=ED.cell c3
   unfold n30c2
   simp (disch:=try exact DI) only [↓PR,QR,simprocAttr,q_ws3 b o _ cap h3,cD]
   have oY:=heap_new D #[.string ⟨#[]⟩,.string ⟨#[115,101,110,100]⟩,.string ⟨#[114,101,99,101,105,118,101]⟩,.string ⟨#[116,105,109,101,111,117,116]⟩,.string ⟨#[115,105,108,101,110,116]⟩] 9
   have eY:Ext D (D.alloc (.cells #[.string ⟨#[]⟩,.string ⟨#[115,101,110,100]⟩,.string ⟨#[114,101,99,101,105,118,101]⟩,.string ⟨#[116,105,109,101,111,117,116]⟩,.string ⟨#[115,105,108,101,110,116]⟩] 9)):=ee
   generalize (D.alloc (.cells #[.string ⟨#[]⟩,.string ⟨#[115,101,110,100]⟩,.string ⟨#[114,101,99,101,105,118,101]⟩,.string ⟨#[116,105,109,101,111,117,116]⟩,.string ⟨#[115,105,108,101,110,116]⟩] 9))=Y at oY eY ⊢
   generalize D.heap.size=N at oY ⊢
   refine narrowK_EC eY ?_
   have cN:Y.cell? ⟨N,3,none⟩=some (.string ⟨#[116,105,109,101,111,117,116]⟩):=(cells_of_heap oY).1 3
   have h2Y:=eY.obj (eD.obj h.h2)
   have h4Y:=eY.obj (eD.obj h.h4)
   have EY:=ED.trans eY
   unfold n30c1
   by_cases hs:s=kwB 3
   · have q1:decide (s=⟨#[116,105,109,101,111,117,116]⟩)=true:=decide_eq_true hs
     have hw:IntKind.i64.wrap ((3:Int)+1)=4:=by decide
     simp (disch:=try exact DI) only [↓PR,QR,simprocAttr,q_ws3 N 0 5 5 (by decide),Nat.zero_add,cN,q1,(cells_of_heap h4Y).1,(cells_of_heap h4Y).2,hw]
     refine ⟨⟨4,rfl,by omega,by omega,EY.setCell (p:=⟨p4,2,none⟩) l4 _,?_,?_⟩,by decide⟩
     · rw [Only.setCell _ p4 _ _ p2 hne]
       exact h2Y
     · rw [hs,kUp_hit3]
       exact heap_set h4Y _
   · have q1:decide (s=⟨#[116,105,109,101,111,117,116]⟩)=false:=decide_eq_false hs
     have hw:IntKind.i64.wrap ((3:Int)+1)=4:=by decide
     simp (disch:=try exact DI) only [↓PR,QR,simprocAttr,q_ws3 N 0 5 5 (by decide),Nat.zero_add,cN,q1,hw]
     exact ⟨⟨4,rfl,by omega,by omega,EY,h2Y,by rw [kUp_miss3 hs];exact h4Y⟩,by decide⟩
 · have d1:decide ((4:Int)≤4)=true:=by decide
   simp (disch:=try exact DI) only [↓PR,QR,simprocAttr,d1]
   refine drawK_intro ?_
   have eD:Ext w (Sw.drew w):=(Ext.refl w).drew
   generalize Sw.drew w=D at eD ⊢
   have ED:=h.e.trans eD
   have cD:=ED.cell c3
   unfold n30c2
   simp (disch:=try exact DI) only [↓PR,QR,simprocAttr,q_ws3 b o _ cap h3,cD]
   have oY:=heap_new D #[.string ⟨#[]⟩,.string ⟨#[115,101,110,100]⟩,.string ⟨#[114,101,99,101,105,118,101]⟩,.string ⟨#[116,105,109,101,111,117,116]⟩,.string ⟨#[115,105,108,101,110,116]⟩] 9
   have eY:Ext D (D.alloc (.cells #[.string ⟨#[]⟩,.string ⟨#[115,101,110,100]⟩,.string ⟨#[114,101,99,101,105,118,101]⟩,.string ⟨#[116,105,109,101,111,117,116]⟩,.string ⟨#[115,105,108,101,110,116]⟩] 9)):=ee
   generalize (D.alloc (.cells #[.string ⟨#[]⟩,.string ⟨#[115,101,110,100]⟩,.string ⟨#[114,101,99,101,105,118,101]⟩,.string ⟨#[116,105,109,101,111,117,116]⟩,.string ⟨#[115,105,108,101,110,116]⟩] 9))=Y at oY eY ⊢
   generalize D.heap.size=N at oY ⊢
   refine narrowK_EC eY ?_
   have cN:Y.cell? ⟨N,4,none⟩=some (.string ⟨#[115,105,108,101,110,116]⟩):=(cells_of_heap oY).1 4
   have h2Y:=eY.obj (eD.obj h.h2)
   have h4Y:=eY.obj (eD.obj h.h4)
   have EY:=ED.trans eY
   unfold n30c1
   by_cases hs:s=kwB 4
   · have q1:decide (s=⟨#[115,105,108,101,110,116]⟩)=true:=decide_eq_true hs
     have hw:IntKind.i64.wrap ((4:Int)+1)=5:=by decide
     simp (disch:=try exact DI) only [↓PR,QR,simprocAttr,q_ws4 N 0 5 5 (by decide),Nat.zero_add,cN,q1,(cells_of_heap h4Y).1,(cells_of_heap h4Y).2,hw]
     refine ⟨⟨5,rfl,by omega,by omega,EY.setCell (p:=⟨p4,2,none⟩) l4 _,?_,?_⟩,by decide⟩
     · rw [Only.setCell _ p4 _ _ p2 hne]
       exact h2Y
     · rw [hs,kUp_hit4]
       exact heap_set h4Y _
   · have q1:decide (s=⟨#[115,105,108,101,110,116]⟩)=false:=decide_eq_false hs
     have hw:IntKind.i64.wrap ((4:Int)+1)=5:=by decide
     simp (disch:=try exact DI) only [↓PR,QR,simprocAttr,q_ws4 N 0 5 5 (by decide),Nat.zero_add,cN,q1,hw]
     exact ⟨⟨5,rfl,by omega,by omega,EY,h2Y,by rw [kUp_miss4 hs];exact h4Y⟩,by decide⟩
 · have d1:decide ((5:Int)≤4)=false:=by decide
   simp (disch:=try exact DI) only [↓PR,QR,simprocAttr,d1]
   have h4:=h.h4
   rw [kUp_five] at h4
   exact stp_msg h.h2 hz h4 hne l2 l4 hb' (hW.ext h.e) h.e (blankK _ _ _) (kindP_range s) hR
theorem stpP_few {ws:List ByteArray} (h:ws.length < 3):stpP ws=none:=by
 unfold stpP
 match ws,h with
 | [],_=>rfl
 | [a],_=>cases ha:nameB a<;>simp [nameP,ha]
 | [a,b],_=>cases ha:nameB a<;>cases hb:nameB b<;>simp [nameP,ha,hb,wordP]
theorem stpP_three (a b c:ByteArray) (rest:List ByteArray):stpP (a::b::c::rest)=if nameB a=true∧nameB b=true then (if kindP c=0 then none else msgR (stpK a b (kindP c)) rest) else none:=by
 unfold stpP msgR whenR
 cases ha:nameB a<;>cases hb:nameB b<;>simp [nameP,ha,hb,wordP]
theorem rstep_line (w0:World) (v:Value) (ws:List ByteArray) (hs:SliceOf w0 1 EStr v ws) (hne:ws≠[]):Ret Pg 93 #[v] w0 fun u w'=>(∃ x is,u = .tuple #[.agg (stpCells x).toArray,.bool is]∧stpP ws.tail=if is then some x else none)∧Ext w0 w':=by
 obtain ⟨b,o,cap,hW⟩:=ws_of hs hne
 have hv:=hW.val
 have hle:=hW.le
 have hb:=hW.lt hne
 subst hv
 refine n30s (R:=retR _) ?_;unfold n30
 by_cases h4:ws.length < 4
 · have d1:decide ((ws.length:Int) < 4)=true:=decide_eq_true (by omega)
   have hR:stpP ws.tail=none:=stpP_few (by rw [List.length_tail];omega)
   simp (disch:=try exact DI) only [↓PR,QR,simprocAttr,d1,↓n30c24,↓n30c23]
   have eW:Ext w0 (w0.alloc (.cells (stpCells zeroS).toArray 71)):=ee
   exact ⟨⟨zeroS,false,rfl,hR⟩,eW⟩
 match ws,hne,hW,hle,h4 with
 | [],hne,hW,hle,h4=>exact absurd rfl hne
 | [_],hne,hW,hle,h4=>exact absurd (by simp) h4
 | [_,_],hne,hW,hle,h4=>exact absurd (by simp) h4
 | [_,_,_],hne,hW,hle,h4=>exact absurd (by simp) h4
 | kw::x1::x2::x3::rest,_,hW,hle,h4 =>
 have d1:decide (((kw::x1::x2::x3::rest).length:Int) < 4)=false:=decide_eq_false (by omega)
 have i1:1 < (kw::x1::x2::x3::rest).length:=by simp
 have i2:2 < (kw::x1::x2::x3::rest).length:=by simp
 have i3:3 < (kw::x1::x2::x3::rest).length:=by simp
 simp (disch:=try exact DI) only [↓PR,QR,simprocAttr,d1]
 have h2:=heap_new w0 (stpCells zeroS).toArray 71
 have eW:Ext w0 (w0.alloc (.cells (stpCells zeroS).toArray 71)):=ee
 have sW:w0.heap.size < (w0.alloc (.cells (stpCells zeroS).toArray 71)).heap.size:=by show _ < (w0.heap.push _).size;rw [Array.size_push];omega
 change opV _ _ _ (w0.alloc (.cells (stpCells zeroS).toArray 71)) _
 generalize (w0.alloc (.cells (stpCells zeroS).toArray 71))=W at h2 eW sW ⊢
 have lp:w0.heap.size≤w0.heap.size:=Nat.le_refl _
 generalize hp2:w0.heap.size=p2 at h2 sW ⊢
 replace lp:w0.heap.size≤p2:=by omega
 have c1:=(hW.ext eW).at_ 1 x1 rfl
 simp (disch:=try exact DI) only [↓PR,QR,simprocAttr,op_ws1 b o _ cap i1,c1]
 refine zcr (rName_ret W x1) fun w1 e1=>?_
 have E1:=eW.trans e1
 have s1:=e1.size
 replace h2:=e1.obj h2
 cases hn1:nameB x1 with
 | false =>
  have hR:stpP (kw::x1::x2::x3::rest).tail=none:=by rw [List.tail_cons,stpP_three,if_neg (by simp [hn1])]
  simp (disch:=try exact DI) only [↓PR,QR,simprocAttr,d1,↓n30c24,↓n30c23]
  exact stp_ret h2 rfl lp E1 zeroS (is:=false) hR
 | true =>
 have c2:=(hW.ext E1).at_ 2 x2 rfl
 simp (disch:=try exact DI) only [↓PR,QR,simprocAttr,d1,↓n30c24,op_ws2 b o _ cap i2,c2]
 refine zcr (rName_ret w1 x2) fun w2 e2=>?_
 have E2:=E1.trans e2
 have s2:=e2.size
 replace h2:=e2.obj h2
 cases hn2:nameB x2 with
 | false =>
  have hR:stpP (kw::x1::x2::x3::rest).tail=none:=by rw [List.tail_cons,stpP_three,if_neg (by simp [hn2])]
  simp (disch:=try exact DI) only [↓PR,QR,simprocAttr,d1,↓n30c23]
  exact stp_ret h2 rfl lp E2 zeroS (is:=false) hR
 | true =>
 have hR:stpP (kw::x1::x2::x3::rest).tail=if kindP x3=0 then none else msgR (stpK x1 x2 (kindP x3)) rest:=by rw [List.tail_cons,stpP_three,if_pos ⟨hn1,hn2⟩]
 simp (disch:=try exact DI) only [↓PR,QR,simprocAttr,d1]
 refine drawK_intro ?_
 have eD:Ext w2 (Sw.drew w2):=(Ext.refl w2).drew
 generalize Sw.drew w2=D at eD ⊢
 have E3:=E2.trans eD
 have c1:=(hW.ext E3).at_ 1 x1 rfl
 have c2:=(hW.ext E3).at_ 2 x2 rfl
 replace h2:=eD.obj h2
 have s3:=eD.size
 unfold n30c22
 simp (disch:=try exact DI) only [↓PR,QR,simprocAttr,q_ws1 b o _ cap i1,c1,q_ws2 b o _ cap i2,c2]
 have h4:=heap_new D (stpCells zeroS).toArray 71
 have eY:Ext D (D.alloc (.cells (stpCells zeroS).toArray 71)):=ee
 have hne:p2≠D.heap.size:=by omega
 have l4:w0.heap.size≤D.heap.size:=E3.size
 change EC D (D.alloc (.cells (stpCells zeroS).toArray 71))∧n30c21 (Value.slice (some { block:=b,off:=o }) (kw::x1::x2::x3::rest).length cap) (Value.pointer (some { block:=p2,off:=0 })) (Value.pointer (some { block:=D.heap.size,off:=0 })) (Value.agg (stpCells (stpK x1 x2 0)).toArray) (StplR w0 (kw::x1::x2::x3::rest).tail) (D.alloc (.cells (stpCells zeroS).toArray 71))
 generalize (D.alloc (.cells (stpCells zeroS).toArray 71))=Y at h4 eY ⊢
 generalize D.heap.size=p4 at h4 hne l4 ⊢
 refine ⟨eY,?_⟩
 unfold n30c21
 have E4:=E3.trans eY
 replace h2:=eY.obj h2
 rw [op_storeO ty71 h4 (vs:=stpCells (stpK x1 x2 0)) rfl (Nat.le_refl _) (by intro v hv;simp only [List.mem_cons,List.not_mem_nil,or_false] at hv;rcases hv with rfl | rfl | rfl | rfl | rfl | rfl | rfl | rfl | rfl<;>rfl)]
 have h4':=setCells_heap (stpCells (stpK x1 x2 0)) 0 h4
 rw [setA_all (vs:=stpCells (stpK x1 x2 0)) (cs:=(stpCells zeroS).toArray) rfl] at h4'
 have E5:Ext w0 (setCells Y p4 0 (stpCells (stpK x1 x2 0))):=setCells_ext _ _ _ _ E4 l4
 have h2':(setCells Y p4 0 (stpCells (stpK x1 x2 0))).heap[p2]?=some (.cells (stpCells zeroS).toArray 71 (0,0)):=by rw [setCells_only _ _ _ p2 hne];exact h2
 generalize setCells Y p4 0 (stpCells (stpK x1 x2 0))=V at h4' E5 h2' ⊢
 refine turnK_intro ?_
 rw [op_drop4 b o _ cap (by simp) hle]
 have hD:=hW.drop 4 (by simp)
 exact step_kinds rfl ⟨E5,h2',by rw [kUp_one];exact h4'⟩ hne lp l4 hb hb i3 (hW.at_ 3 x3 rfl) hD hR
def goP (p:Nat) (r:RolD) (L:List (List ByteArray)) (n:Nat):Option RolD×Nat :=
 if p=0 then accP kCounter cntP (statesP r.name) r.counters L n else if p=1 then accP kState staP (stepsP r.name r.counters) r.states L n
 else accP kStep stpP (fun ts _ n=>(some ⟨r.name,r.states,r.counters,ts⟩,n)) r.steps L n
structure At (p:Nat) (r:RolD):Prop where
 le:p≤2
 s:p=0→r.states=[]
 t:p≤1→r.steps=[]
theorem accP_nil {α:Type} {kw:ByteArray} {p:List ByteArray→Option α} {F:List α→List (List ByteArray)→Nat→Option RolD×Nat} {L:List (List ByteArray)} {n:Nat}:accP kw p F [] L n=match manyP kw p L with
 | (none,k)=>(none,n+k)
 | (some l,k)=>F l (L.drop k) (n+k):=rfl
theorem goP_0 (nm:ByteArray) (L:List (List ByteArray)) (n:Nat):goP 0 ⟨nm,[],[],[]⟩ L n=countersP nm L n:=by
 unfold goP countersP
 rw [if_pos rfl,accP_nil]
 cases manyP kCounter cntP L with
 | mk o k=>cases o<;>rfl
theorem goP_up0 {r:RolD} {L:List (List ByteArray)} {n:Nat} (hr:r.states=[]) (h:∀ w∈L.head?,∀ k∈w.head?,k≠kCounter):goP 0 r L n=goP 1 r L n:=by
 unfold goP
 rw [if_pos rfl,if_neg (by decide),if_pos rfl,accP_stop h,hr,accP_nil]
 unfold statesP
 cases manyP kState staP L with
 | mk o k=>cases o<;>rfl
theorem goP_up1 {r:RolD} {L:List (List ByteArray)} {n:Nat} (hr:r.steps=[]) (h:∀ w∈L.head?,∀ k∈w.head?,k≠kState):goP 1 r L n=goP 2 r L n:=by
 unfold goP
 rw [if_neg (by decide),if_pos rfl,if_neg (by decide),if_neg (by decide),accP_stop h,hr,accP_nil]
 unfold stepsP
 cases manyP kStep stpP L with
 | mk o k=>cases o<;>rfl
theorem goP_end {r:RolD} {L:List (List ByteArray)} {n:Nat} (h:∀ w∈L.head?,∀ k∈w.head?,k≠kStep):goP 2 r L n=(some r,n):=by
 unfold goP
 rw [if_neg (by decide),if_neg (by decide),accP_stop h]
section
variable {p:Nat} {r:RolD} {L:List (List ByteArray)} {n:Nat} {k:ByteArray} {ws:List ByteArray}
theorem head_ne {kw:ByteArray} (h:k≠kw):∀ w∈((k::ws)::L).head?,∀ k'∈w.head?,k'≠kw:=by
 intro w hw k' hk'
 simp only [List.head?_cons,Option.mem_def,Option.some.injEq] at hw
 subst hw
 simp only [List.head?_cons,Option.mem_def,Option.some.injEq] at hk'
 subst hk'
 exact h
theorem goP_over (ha:At p r) (h0:p=0→k≠kCounter) (h1:p≤1→k≠kState) (h2:k≠kStep):goP p r ((k::ws)::L) n=(some r,n):=by
 have two:goP 2 r ((k::ws)::L) n=(some r,n):=goP_end (head_ne h2)
 rcases (by have:=ha.le;omega:p=0∨p=1∨p=2) with rfl | rfl | rfl
 · rw [goP_up0 (ha.s rfl) (head_ne (h0 rfl)),goP_up1 (ha.t (by omega)) (head_ne (h1 (by omega)))]
   exact two
 · rw [goP_up1 (ha.t (by omega)) (head_ne (h1 (by omega)))]
   exact two
 · exact two
theorem goP_none (ha:At p r):goP p r [] n=(some r,n):=by
 have hn:∀ kw:ByteArray,∀ w∈([]:List (List ByteArray)).head?,∀ k∈w.head?,k≠kw:=fun kw w hw=>by cases hw
 have two:goP 2 r [] n=(some r,n):=goP_end (hn _)
 rcases (by have:=ha.le;omega:p=0∨p=1∨p=2) with rfl | rfl | rfl
 · rw [goP_up0 (ha.s rfl) (hn _),goP_up1 (ha.t (by omega)) (hn _)]
   exact two
 · rw [goP_up1 (ha.t (by omega)) (hn _)]
   exact two
 · exact two
theorem goP_counter:goP 0 r ((kCounter::ws)::L) n=match cntP ws with
 | none=>(none,n+1)
 | some x=>goP 0 { r with counters:=r.counters++[x] } L (n+1):=by
 unfold goP
 simp only [if_true]
 cases h:cntP ws with
 | none=>rw [accP_fail h]
 | some x=>rw [accP_step h]
theorem goP_state (ha:At p r) (h1:p≤1):goP p r ((kState::ws)::L) n=match staP ws with
 | none=>(none,n+1)
 | some x=>goP 1 { r with states:=r.states++[x] } L (n+1):=by
 have one:goP 1 r ((kState::ws)::L) n=match staP ws with
  | none=>(none,n+1)
  | some x=>goP 1 { r with states:=r.states++[x] } L (n+1):=by
  unfold goP
  simp only [Nat.one_ne_zero,if_false,if_true]
  cases h:staP ws with
  | none=>rw [accP_fail h]
  | some x=>rw [accP_step h]
 rcases (by omega:p=0∨p=1) with rfl | rfl
 · rw [goP_up0 (ha.s rfl) (head_ne (by decide))]
   exact one
 · exact one
theorem goP_step (ha:At p r):goP p r ((kStep::ws)::L) n=match stpP ws with
 | none=>(none,n+1)
 | some x=>goP 2 { r with steps:=r.steps++[x] } L (n+1):=by
 have two:goP 2 r ((kStep::ws)::L) n=match stpP ws with
  | none=>(none,n+1)
  | some x=>goP 2 { r with steps:=r.steps++[x] } L (n+1):=by
  unfold goP
  rw [if_neg (by decide),if_neg (by decide)]
  cases h:stpP ws with
  | none=>rw [accP_fail h]
  | some x =>
   rw [accP_step h]
   simp only
   rw [if_neg (by decide),if_neg (by decide)]
 rcases (by have:=ha.le;omega:p=0∨p=1∨p=2) with rfl | rfl | rfl
 · rw [goP_up0 (ha.s rfl) (head_ne (by decide)),goP_up1 (ha.t (by omega)) (head_ne (by decide))]
   exact two
 · rw [goP_up1 (ha.t (by omega)) (head_ne (by decide))]
   exact two
 · exact two
end
def refR (L:List (List ByteArray)):RolD×Int:=match roleP L with
 | (none,n)=>(zeroR,-(n:Int))
 | (some r,n)=>match L.drop n with
  | []=>(r,n)
  | w::_=>if w.head?=some kRole then (r,n) else (zeroR,-((n:Int)+1))
theorem refR_none {L:List (List ByteArray)} {n:Nat} (h:roleP L=(none,n+1)):refR L=(zeroR,-1 - (n:Int)):=by
 unfold refR
 rw [h]
 simp only [Prod.mk.injEq,true_and]
 omega
theorem refR_bad {L t:List (List ByteArray)} {n:Nat} {r:RolD} {k:ByteArray} {ws:List ByteArray} (h:roleP L=(some r,n)) (hd:L.drop n=(k::ws)::t) (hk:k≠kRole):refR L=(zeroR,-1 - (n:Int)):=by
 unfold refR
 rw [h]
 simp only [hd]
 rw [if_neg (show ¬ (k::ws).head?=some kRole from fun e=>by injection e with e;exact hk e)]
 simp only [Prod.mk.injEq,true_and]
 omega
theorem refR_role {L t:List (List ByteArray)} {n:Nat} {r:RolD} {ws:List ByteArray} (h:roleP L=(some r,n)) (hd:L.drop n=(kRole::ws)::t):refR L=(r,(n:Int)):=by
 unfold refR
 rw [h]
 simp only [hd]
 rw [if_pos (show (kRole::ws).head?=some kRole from rfl)]
theorem refR_end {L:List (List ByteArray)} {r:RolD} (h:roleP L=(some r,L.length)):refR L=(r,(L.length:Int)):=by
 unfold refR
 rw [h]
 simp
theorem append1_cnt {w:World} {QP:List PanicEntry→World→Prop} {k:Value→World→Prop} {base:Nat} {v:Value} {l:List CntD} (x:CntD) {b:Nat} (hown:OwnE w base 52 2 cntCells v l) (hc:w.heap[b]?=some (.cells (cntCells x).toArray 52 (0,0))) (hbase:base≤w.heap.size) (hl:l.length≤1048576)
 (hk:∀ v' w',OwnE w' base 52 2 cntCells v' (l++[x])→w.grownBy w' v.ownBlock→k v' w') :
 opV Pg (Builtin.append_ #[23,23] 23 #[v,.slice (some ⟨b,0,none⟩) 1 1]) QP w k:=by
 have hby:=by52
 refine op_appendE (l':=[x]) Tryz.underlying23 ty52 rfl (by decide) (fun _=>rfl) (fun x _=>one_Counter x) hown (fun j y hy=>?_) hbase ?_ (by simp;omega) hk
 · cases j with
   | zero =>
    simp at hy;subst hy
    intro j v hv
    rw [(cells_of_heap hc).1]
    simpa using hv
   | succ j=>simp at hy
 · simp only [List.length_cons,List.length_nil]
   exact Nat.le_trans (Nat.mul_le_mul (Nat.add_le_add_right hl 1) hby) (by decide)
theorem append1_sta {w:World} {QP:List PanicEntry→World→Prop} {k:Value→World→Prop} {base:Nat} {v:Value} {l:List StaD} (x:StaD) {b:Nat} (hown:OwnE w base 50 3 staCells v l) (hc:w.heap[b]?=some (.cells (staCells x).toArray 50 (0,0))) (hbase:base≤w.heap.size) (hl:l.length≤1048576)
 (hk:∀ v' w',OwnE w' base 50 3 staCells v' (l++[x])→w.grownBy w' v.ownBlock→k v' w') :
 opV Pg (Builtin.append_ #[22,22] 22 #[v,.slice (some ⟨b,0,none⟩) 1 1]) QP w k:=by
 have hby:=by50
 refine op_appendE (l':=[x]) Tryz.underlying22 ty50 rfl (by decide) (fun _=>rfl) (fun x _=>one_State x) hown (fun j y hy=>?_) hbase ?_ (by simp;omega) hk
 · cases j with
   | zero =>
    simp at hy;subst hy
    intro j v hv
    rw [(cells_of_heap hc).1]
    simpa using hv
   | succ j=>simp at hy
 · simp only [List.length_cons,List.length_nil]
   exact Nat.le_trans (Nat.mul_le_mul (Nat.add_le_add_right hl 1) hby) (by decide)
theorem append1_stp {w:World} {QP:List PanicEntry→World→Prop} {k:Value→World→Prop} {base:Nat} {v:Value} {l:List StpD} (x:StpD) {b:Nat} (hown:OwnE w base 71 9 stpCells v l) (hc:w.heap[b]?=some (.cells (stpCells x).toArray 71 (0,0))) (hbase:base≤w.heap.size) (hl:l.length≤1048576)
 (hk:∀ v' w',OwnE w' base 71 9 stpCells v' (l++[x])→w.grownBy w' v.ownBlock→k v' w') :
 opV Pg (Builtin.append_ #[24,24] 24 #[v,.slice (some ⟨b,0,none⟩) 1 1]) QP w k:=by
 have hby:=by71
 refine op_appendE (l':=[x]) Tryz.underlying24 ty71 rfl (by decide) (fun _=>rfl) (fun x _=>one_Step x) hown (fun j y hy=>?_) hbase ?_ (by simp;omega) hk
 · cases j with
   | zero =>
    simp at hy;subst hy
    intro j v hv
    rw [(cells_of_heap hc).1]
    simpa using hv
   | succ j=>simp at hy
 · simp only [List.length_cons,List.length_nil]
   exact Nat.le_trans (Nat.mul_le_mul (Nat.add_le_add_right hl 1) hby) (by decide)
abbrev zR:Array Value := #[.string ByteArray.empty,.slice none 0 0,.slice none 0 0,.slice none 0 0]
structure LS (w0 w:World) (base p2 p5 B1 B2:Nat) (r:RolD) (sv cv tv:Value):Prop where
 e:Ext w0 w
 h2:w.heap[p2]?=some (.cells zR TRol (0,0))
 h5:w.heap[p5]?=some (.cells (rolCells r sv cv tv).toArray TRol (0,0))
 oc:OwnE w base 52 2 cntCells cv r.counters
 lc:∀ b,cv.ownBlock=some b→b < B1
 os:OwnE w B1 50 3 staCells sv r.states
 ls:∀ b,sv.ownBlock=some b→b < B2
 ot:OwnE w B2 71 9 stpCells tv r.steps
 bb:base≤B1
 b12:B1≤B2
 b2:B2≤w.heap.size
 p2b:p2 < base
 p5b:p5 < base
 ne:p2≠p5
 l2:w0.heap.size≤p2
 l5:w0.heap.size≤p5
theorem LS.ext {w0 w w':World} {base p2 p5 B1 B2:Nat} {r:RolD} {sv cv tv:Value} (h:LS w0 w base p2 p5 B1 B2 r sv cv tv) (e:Ext w w'):LS w0 w' base p2 p5 B1 B2 r sv cv tv :=
 { h with e:=h.e.trans e,h2:=e.obj h.h2,h5:=e.obj h.h5,oc:=h.oc.ext e,os:=h.os.ext e,ot:=h.ot.ext e,b2:=Nat.le_trans h.b2 e.size }
abbrev RlR (w0:World) (L:List (List ByteArray)):Ending→World→Prop:=retR fun u w'=>(∃ x,u = .tuple #[x,.int .i64 (refR L).2]∧RolOwn w' w0.heap.size x (refR L).1)∧Ext w0 w'
abbrev Fin (w0:World) (L:List (List ByteArray)) (cs:List Value) (n:Int) (V:World):Prop:=(∃ x,Value.tuple #[.agg cs.toArray,.int .i64 n] = .tuple #[x,.int .i64 (refR L).2]∧RolOwn V w0.heap.size x (refR L).1)∧Ext w0 V
theorem rl_fin {w0 w:World} {L:List (List ByteArray)} {p2 base:Nat} {r:RolD} {sv cv tv:Value} {n:Int} (l2:w0.heap.size≤p2) (e:Ext w0 w) (hb:w0.heap.size≤base) (hp:p2 < base) (hs:OwnE w base 50 3 staCells sv r.states) (hc:OwnE w base 52 2 cntCells cv r.counters) (ht:OwnE w base 71 9 stpCells tv r.steps) (hR:refR L=(r,n)) :
 Fin w0 L (rolCells r sv cv tv) n (setCells w p2 0 (rolCells r sv cv tv)):=by
 have eV:Ext w0 (setCells w p2 0 (rolCells r sv cv tv)):=setCells_ext _ _ _ _ e l2
 have hk:∀ b,base≤b→(setCells w p2 0 (rolCells r sv cv tv)).heap[b]?=w.heap[b]?:=fun b hb=>setCells_only _ _ _ b (by omega)
 generalize setCells w p2 0 (rolCells r sv cv tv)=V at eV hk ⊢
 refine ⟨⟨_,by rw [hR],sv,cv,tv,by rw [hR],?_,?_,?_⟩,eV⟩<;>rw [hR]
 · exact (OwnE.keep hs fun b hb=>hk b (World.ownsRow.lt hs b hb).1).base hb
 · exact (OwnE.keep hc fun b hb=>hk b (World.ownsRow.lt hc b hb).1).base hb
 · exact (OwnE.keep ht fun b hb=>hk b (World.ownsRow.lt ht b hb).1).base hb
theorem LS.give {w0 w:World} {L:List (List ByteArray)} {base p2 p5 B1 B2:Nat} {r:RolD} {sv cv tv:Value} {n:Int} (h:LS w0 w base p2 p5 B1 B2 r sv cv tv) (hR:refR L=(r,n)):Fin w0 L (rolCells r sv cv tv) n (setCells w p2 0 (rolCells r sv cv tv)) :=
 rl_fin h.l2 h.e (base:=base) (by have:=h.l2;have:=h.p2b;omega) h.p2b (h.os.base h.bb) h.oc (h.ot.base (Nat.le_trans h.bb h.b12)) hR
theorem LS.deny {w0 w:World} {L:List (List ByteArray)} {base p2 p5 B1 B2:Nat} {r:RolD} {sv cv tv:Value} {n:Int} (h:LS w0 w base p2 p5 B1 B2 r sv cv tv) (hR:refR L=(zeroR,n)):Fin w0 L (rolCells zeroR (.slice none 0 0) (.slice none 0 0) (.slice none 0 0)) n (setCells w p2 0 (rolCells zeroR (.slice none 0 0) (.slice none 0 0) (.slice none 0 0))) :=
 rl_fin (r:=zeroR) h.l2 h.e (base:=base) (by have:=h.l2;have:=h.p2b;omega) h.p2b (OwnE.nil _ _ _ _ _) (OwnE.nil _ _ _ _ _) (OwnE.nil _ _ _ _ _) hR
section
variable {w0 w:World} {base p2 p5 B1 B2 i p:Nat} {r:RolD} {sv cv tv wv:Value} {L T:List (List ByteArray)} {ws:List ByteArray} {k:ByteArray} {next3:Value→Value→World→Prop}
def Keep (w0:World) (base p2 p5:Nat) (L:List (List ByteArray)) (a b:Value) (w:World):Prop:=∃ (p i B1 B2:Nat) (r:RolD) (sv cv tv:Value),a = .int .i64 (p:Int)∧b = .int .i64 (i:Int)∧LS w0 w base p2 p5 B1 B2 r sv cv tv∧At p r∧(p=0→sv = .slice none 0 0)∧(p≤1→tv = .slice none 0 0)∧i≤L.length∧r.counters.length≤i∧r.states.length≤i∧r.steps.length≤i∧roleP L=goP p r (L.drop i) i
theorem rl_bad (h:LS w0 w base p2 p5 B1 B2 r sv cv tv) (hi:i≤100000) (v6:Value) (hR:refR L=(zeroR,-1 - (i:Int))):n27c2 (.pointer (some ⟨p2,0,none⟩)) v6 (.int .i64 (i:Int)) (.bool false) next3 (RlR w0 L) w:=by
 unfold n27c2
 have hw:IntKind.i64.wrap (-1 - (i:Int)) = -1 - (i:Int):=wrap_ok (by omega) (by omega)
 simp (disch:=try exact DI) only [↓PR,QR,simprocAttr,↓n27c1,hw,(cells_of_heap h.h2).1,(cells_of_heap h.h2).2]
 exact h.deny hR
theorem rl_good (hi:i≤100000) (v6:Value) (hk:next3 v6 (.int .i64 ((i+1:Nat):Int)) w):n27c2 (.pointer (some ⟨p2,0,none⟩)) v6 (.int .i64 (i:Int)) (.bool true) next3 (RlR w0 L) w:=by
 unfold n27c2
 have hw:IntKind.i64.wrap ((i:Int)+1)=((i+1:Nat):Int):=by rw [wrap_ok (by omega) (by omega)];omega
 simp (disch:=try exact DI) only [↓PR,QR,simprocAttr,hw]
 exact hk
theorem LS.row_ne (h:LS w0 w base p2 p5 B1 B2 r sv cv tv) (x:Nat) (hx:x < base):cv.ownBlock≠some x∧sv.ownBlock≠some x∧tv.ownBlock≠some x:=by
 have:=h.bb
 have:=h.b12
 refine ⟨fun e=>?_,fun e=>?_,fun e=>?_⟩
 · have:=(World.ownsRow.lt h.oc x e).1;omega
 · have:=(World.ownsRow.lt h.os x e).1;omega
 · have:=(World.ownsRow.lt h.ot x e).1;omega
theorem LS.pushC {w':World} {x:CntD} (h:LS w0 w base p2 p5 B1 B2 r (.slice none 0 0) cv (.slice none 0 0)) (hs:r.states=[]) (ht:r.steps=[]) {v':Value} (hO:OwnE w' base 52 2 cntCells v' (r.counters++[x])) (hg:w.grownBy w' cv.ownBlock) :
 LS w0 (w'.setCell ⟨p5,2,none⟩ v') base p2 p5 w'.heap.size w'.heap.size { r with counters:=r.counters++[x] } (.slice none 0 0) v' (.slice none 0 0):=by
 have hz:=hg.size
 have g1:=h.p2b
 have g2:=h.p5b
 have g3:=h.bb
 have g4:=h.b12
 have g5:=h.b2
 have n2:=(h.row_ne p2 g1).1
 have n5:=(h.row_ne p5 g2).1
 have l2:=h.l2
 refine ⟨(h.e.grown hg fun b hb=>by have:=(World.ownsRow.lt h.oc b hb).1;omega).setCell (p:=⟨p5,2,none⟩) h.l5 _,?_,?_,?_,?_,?_,fun b hb=>(by cases hb),?_,by omega,Nat.le_refl _,by rw [World.size_setCell];exact Nat.le_refl _,g1,g2,h.ne,h.l2,h.l5⟩
 · rw [Only.setCell _ p5 _ _ p2 h.ne]
   exact (hg.block p2 (by omega) fun e=>n2 e.symm).trans h.h2
 · exact heap_set ((hg.block p5 (by omega) fun e=>n5 e.symm).trans h.h5) _
 · exact OwnE.keep hO fun b hb=>Only.setCell _ p5 _ _ b (by have:=(World.ownsRow.lt hO b hb).1;omega)
 · exact fun b hb=>(World.ownsRow.lt hO b hb).2
 · show OwnE _ _ _ _ _ _ r.states
   rw [hs]
   exact OwnE.nil _ _ _ _ _
 · show OwnE _ _ _ _ _ _ r.steps
   rw [ht]
   exact OwnE.nil _ _ _ _ _
theorem LS.pushS {w':World} {x:StaD} (h:LS w0 w base p2 p5 B1 B2 r sv cv (.slice none 0 0)) (ht:r.steps=[]) {v':Value} (hO:OwnE w' B1 50 3 staCells v' (r.states++[x])) (hg:w.grownBy w' sv.ownBlock) :
 LS w0 (w'.setCell ⟨p5,1,none⟩ v') base p2 p5 B1 w'.heap.size { r with states:=r.states++[x] } v' cv (.slice none 0 0):=by
 have hz:=hg.size
 have g1:=h.p2b
 have g2:=h.p5b
 have g3:=h.bb
 have g4:=h.b12
 have g5:=h.b2
 have n2:=(h.row_ne p2 g1).2.1
 have n5:=(h.row_ne p5 g2).2.1
 have l2:=h.l2
 refine ⟨(h.e.grown hg fun b hb=>by have:=(World.ownsRow.lt h.os b hb).1;omega).setCell (p:=⟨p5,1,none⟩) h.l5 _,?_,?_,?_,h.lc,?_,?_,?_,g3,by omega,by rw [World.size_setCell];exact Nat.le_refl _,g1,g2,h.ne,h.l2,h.l5⟩
 · rw [Only.setCell _ p5 _ _ p2 h.ne]
   exact (hg.block p2 (by omega) fun e=>n2 e.symm).trans h.h2
 · exact heap_set ((hg.block p5 (by omega) fun e=>n5 e.symm).trans h.h5) _
 · refine OwnE.keep h.oc fun b hb=>?_
   have a1:=(World.ownsRow.lt h.oc b hb).1
   have a2:=h.lc b hb
   rw [Only.setCell _ p5 _ _ b (by omega)]
   exact hg.block b (by omega) fun e=>by have:=(World.ownsRow.lt h.os b e.symm).1;omega
 · exact OwnE.keep hO fun b hb=>Only.setCell _ p5 _ _ b (by have:=(World.ownsRow.lt hO b hb).1;omega)
 · exact fun b hb=>(World.ownsRow.lt hO b hb).2
 · show OwnE _ _ _ _ _ _ r.steps
   rw [ht]
   exact OwnE.nil _ _ _ _ _
theorem LS.pushT {w':World} {x:StpD} (h:LS w0 w base p2 p5 B1 B2 r sv cv tv) {v':Value} (hO:OwnE w' B2 71 9 stpCells v' (r.steps++[x])) (hg:w.grownBy w' tv.ownBlock) :
 LS w0 (w'.setCell ⟨p5,3,none⟩ v') base p2 p5 B1 B2 { r with steps:=r.steps++[x] } sv cv v':=by
 have hz:=hg.size
 have g1:=h.p2b
 have g2:=h.p5b
 have g3:=h.bb
 have g4:=h.b12
 have g5:=h.b2
 have n2:=(h.row_ne p2 g1).2.2
 have n5:=(h.row_ne p5 g2).2.2
 have l2:=h.l2
 refine ⟨(h.e.grown hg fun b hb=>by have:=(World.ownsRow.lt h.ot b hb).1;omega).setCell (p:=⟨p5,3,none⟩) h.l5 _,?_,?_,?_,h.lc,?_,h.ls,?_,g3,g4,by rw [World.size_setCell];omega,g1,g2,h.ne,h.l2,h.l5⟩
 · rw [Only.setCell _ p5 _ _ p2 h.ne]
   exact (hg.block p2 (by omega) fun e=>n2 e.symm).trans h.h2
 · exact heap_set ((hg.block p5 (by omega) fun e=>n5 e.symm).trans h.h5) _
 · refine OwnE.keep h.oc fun b hb=>?_
   have a1:=(World.ownsRow.lt h.oc b hb).1
   have a2:=h.lc b hb
   rw [Only.setCell _ p5 _ _ b (by omega)]
   exact hg.block b (by omega) fun e=>by have:=(World.ownsRow.lt h.ot b e.symm).1;omega
 · refine OwnE.keep h.os fun b hb=>?_
   have a1:=(World.ownsRow.lt h.os b hb).1
   have a2:=h.ls b hb
   rw [Only.setCell _ p5 _ _ b (by omega)]
   exact hg.block b (by omega) fun e=>by have:=(World.ownsRow.lt h.ot b e.symm).1;omega
 · exact OwnE.keep hO fun b hb=>Only.setCell _ p5 _ _ b (by have:=(World.ownsRow.lt hO b hb).1;omega)
end
section
variable {w0 w:World} {base p2 p5 B1 B2 i p b o cap:Nat} {r:RolD} {sv cv tv v51:Value} {L:List (List ByteArray)} {ws:List ByteArray} {k:ByteArray} {next3:Value→Value→World→Prop}
theorem At.c (ha:At 0 r) (x:CntD):At 0 { r with counters:=r.counters++[x] }:=⟨by omega,fun _=>ha.s rfl,fun h=>ha.t h⟩
theorem At.s1 (ha:At p r) (hp:p≤1) (x:StaD):At 1 { r with states:=r.states++[x] }:=⟨by omega,fun h=>by omega,fun _=>ha.t hp⟩
theorem At.t2 (x:StpD):At 2 { r with steps:=r.steps++[x] }:=⟨by omega,fun h=>by omega,fun h=>by omega⟩
theorem cntP_len {ws:List ByteArray} (h:ws.length≠2):cntP ws=none:=by
 unfold cntP
 match ws,h with
 | [],_=>rfl
 | [a],_=>cases ha:nameB a<;>simp [nameP,ha,numP_nil]
 | [a,c],h=>exact absurd rfl h
 | a::c::d::r,_=>cases ha:nameB a<;>cases hc:numB c<;>simp [nameP,ha,numP_cons,hc,endP]
theorem cntP_two (a c:ByteArray):cntP [a,c]=if nameB a=true then (numB c).map fun n=>⟨a,n⟩ else none:=by
 unfold cntP
 cases ha:nameB a<;>cases hc:numB c<;>simp [nameP,ha,numP_cons,hc,endP]
theorem rl_counter (h:LS w0 w base p2 p5 B1 B2 r sv cv tv) (ha:At p r) (hs0:p=0→sv = .slice none 0 0) (ht0:p≤1→tv = .slice none 0 0) (hi:i < L.length) (hl:L.length≤100000) (k1:r.counters.length≤i) (k2:r.states.length≤i) (k3:r.steps.length≤i)
 (hd:L.drop i=(kCounter::ws)::L.drop (i+1)) (hg:roleP L=goP p r (L.drop i) i) (hW:WsC w v51 b o cap (kCounter::ws)) (hb5:b≠p5) (hbc:cv.ownBlock≠some b)
 (hk:∀ a w',Keep w0 base p2 p5 L a (.int .i64 ((i+1:Nat):Int)) w'→next3 a (.int .i64 ((i+1:Nat):Int)) w') :
 n27c12 (.pointer (some ⟨p5,0,none⟩)) (.int .i64 (p:Int)) v51 (fun t6 t9 w=>n27c2 (.pointer (some ⟨p2,0,none⟩)) t6 (.int .i64 (i:Int)) t9 next3 (RlR w0 L) w) (RlR w0 L) w:=by
 obtain rfl:=hW.val
 have bad:(p=0→cntP ws=none)→refR L=(zeroR,-1 - (i:Int)):=by
  intro hn
  rw [hd] at hg
  by_cases hp:p=0
  · subst hp
    rw [goP_counter,hn rfl] at hg
    exact refR_none hg
  · rw [goP_over ha (fun e=>absurd e hp) (fun _=>by decide) (by decide)] at hg
    exact refR_bad hg hd (by decide)
 unfold n27c12
 by_cases h2:ws.length=2
 case neg =>
  have d1:((((kCounter::ws).length:Nat):Int) == 3)=false:=by rw [beq_eq_false_iff_ne];simp only [List.length_cons];omega
  simp (disch:=try exact DI) only [↓PR,QR,simprocAttr,d1,↓n27c7]
  exact rl_bad h (by omega) _ (bad fun _=>cntP_len h2)
 match ws,h2 with
 | [a,c],_ =>
 have d1:((((kCounter::[a,c]).length:Nat):Int) == 3)=true:=rfl
 have i1:1 < (kCounter::[a,c]).length:=by simp
 have i2:2 < (kCounter::[a,c]).length:=by simp
 have c1:=hW.at_ 1 a rfl
 simp (disch:=try exact DI) only [↓PR,QR,simprocAttr,d1,op_ws1 b o _ cap i1,c1]
 refine zcr (rName_ret w a) fun w1 e1=>?_
 replace h:=h.ext e1
 replace hW:=hW.ext e1
 cases hn:nameB a with
 | false =>
  simp (disch:=try exact DI) only [↓PR,QR,simprocAttr,d1,↓n27c7]
  exact rl_bad h (by omega) _ (bad fun _=>by rw [cntP_two,hn];rfl)
 | true =>
 by_cases hp:p=0
 case neg =>
  have d2:((p:Int) == 0)=false:=by rw [beq_eq_false_iff_ne];omega
  simp (disch:=try exact DI) only [↓PR,QR,simprocAttr,d1,d2,↓n27c7]
  exact rl_bad h (by omega) _ (bad fun e=>absurd e hp)
 subst hp
 obtain rfl:=hs0 rfl
 obtain rfl:=ht0 (by omega)
 have d2:(((0:Nat):Int) == 0)=true:=rfl
 have c2:=hW.at_ 2 c rfl
 simp (disch:=try exact DI) only [↓PR,QR,simprocAttr,d1,d2,↓n27c7,↓n27c6,op_ws2 b o _ cap i2,c2]
 refine callK_ret (rnumber_ret w1 c) ?_
 rintro _ V' ⟨rfl,hV'⟩
 rw [hV',numT_eq]
 clear hV' V'
 simp (disch:=try exact DI) only [↓PR,QR,simprocAttr,↓n27c5]
 have hb1:b < w1.heap.size:=hW.lt (by simp)
 have hlo:∀ g,cv.ownBlock=some g→base≤g∧g < w1.heap.size:=fun g hg=>World.ownsRow.lt h.oc g hg
 have hp2s:p2 < w1.heap.size:=by have:=h.p2b;have:=h.bb;have:=h.b12;have:=h.b2;omega
 have hp5s:p5 < w1.heap.size:=by have:=h.p5b;have:=h.bb;have:=h.b12;have:=h.b2;omega
 obtain ⟨q,hq⟩:∃ q,q=cv.ownBlock.getD w1.heap.size:=⟨_,rfl⟩
 have q5:p5≠q:=by
  rw [hq]
  cases hc:cv.ownBlock with
  | none=>simp only [Option.getD_none];omega
  | some g=>simp only [Option.getD_some];have:=(hlo g hc).1;have:=h.p5b;omega
 have qb:b≠q:=by
  rw [hq]
  cases hc:cv.ownBlock with
  | none=>simp only [Option.getD_none];omega
  | some g=>simp only [Option.getD_some];intro e;exact hbc (by rw [hc,e])
 refine drawK_introB q q (w1:=w1) (fun _ _ _ _=>rfl) ?_
 have eD:Ext w1 (Sw.drew w1):=(Ext.refl w1).drew
 have sD:(Sw.drew w1).heap=w1.heap:=rfl
 have hK:KB w1 q q (Sw.drew w1):=fun _ _ _ _=>rfl
 generalize Sw.drew w1=D at eD hK sD ⊢
 have c1:=hW.at_ 1 a rfl
 have c5:=(cells_of_heap h.h5).1
 have hD:=h.ext eD
 unfold n27c4
 simp (disch:=try exact DI) only [↓PR,QR,simprocAttr,q_ws1 b o _ cap i1,c1,c5]
 have oY:(D.alloc (.cells (cntCells ⟨a,(numB c).getD 0⟩).toArray 52)).heap[D.heap.size]?=some (.cells (cntCells ⟨a,(numB c).getD 0⟩).toArray 52 (0,0)):=heap_new _ _ _
 have eY:Ext D (D.alloc (.cells (cntCells ⟨a,(numB c).getD 0⟩).toArray 52)):=ee
 change KB w1 q q (D.alloc (.cells (cntCells ⟨a,(numB c).getD 0⟩).toArray 52))∧n27c3 _ _ _ _ _ _ _ _ (D.alloc (.cells (cntCells ⟨a,(numB c).getD 0⟩).toArray 52))
 generalize (D.alloc (.cells (cntCells ⟨a,(numB c).getD 0⟩).toArray 52))=Y at oY eY ⊢
 have hKY:KB w1 q q Y:=fun y hy _ _=>(eY.block y (by rw [sD];exact hy)).trans (by rw [sD])
 refine ⟨hKY,?_⟩
 have hY:=hD.ext eY
 unfold n27c3
 refine append1_cnt ⟨a,(numB c).getD 0⟩ hY.oc oY (by have:=hY.bb;have:=hY.b12;have:=hY.b2;omega) (by omega) ?_
 intro v' w' hO hgr
 have hKw:KB w1 q q w':=fun y hy h1 h2=>(hgr.block y (by have:=eD.size;have:=eY.size;omega) (by
  intro e
  rw [hq,← e] at h1
  exact h1 rfl)).trans (hKY y hy h1 h2)
 refine ⟨hKw,?_⟩
 have h5':w'.heap[p5]?=some (.cells (rolCells r (.slice none 0 0) cv (.slice none 0 0)).toArray TRol (0,0)):=(hKw p5 hp5s q5 q5).trans h.h5
 have hL:=hY.pushC (ha.s rfl) (ha.t (by omega)) hO hgr
 have ov:=own_one hO fun _=>rfl
 simp (disch:=try exact DI) only [↓PR,QR,simprocAttr,(cells_of_heap h5').1,(cells_of_heap h5').2]
 refine turnK_intro ?_
 rw [hd] at hg
 rw [goP_counter,cntP_two,if_pos hn] at hg
 cases hs:numB c with
 | none =>
  rw [hs] at hL
  simp only [Option.isSome_none]
  exact rl_bad hL (by omega) _ (bad fun _=>by rw [cntP_two,hs];simp)
 | some n =>
  rw [hs] at hL hg
  simp only [Option.isSome_some]
  exact rl_good (by omega) _ (hk _ _ ⟨0,i+1,_,_,_,_,_,_,rfl,rfl,hL,ha.c _,fun _=>rfl,fun _=>rfl,by omega,by simp;omega,by show r.states.length≤_;omega,by show r.steps.length≤_;omega,hg⟩)
end
section
variable {w0 w:World} {base p2 p5 B1 B2 i p b o cap:Nat} {r:RolD} {sv cv tv v51:Value} {L:List (List ByteArray)} {ws:List ByteArray} {next3:Value→Value→World→Prop}
theorem rl_bad0 (h2:w.heap[p2]?=some (.cells zR TRol (0,0))) (l2:w0.heap.size≤p2) (e:Ext w0 w) (hi:i≤100000) (v6:Value) (hR:refR L=(zeroR,-1 - (i:Int))):n27c2 (.pointer (some ⟨p2,0,none⟩)) v6 (.int .i64 (i:Int)) (.bool false) next3 (RlR w0 L) w:=by
 unfold n27c2
 have hw:IntKind.i64.wrap (-1 - (i:Int)) = -1 - (i:Int):=wrap_ok (by omega) (by omega)
 simp (disch:=try exact DI) only [↓PR,QR,simprocAttr,↓n27c1,hw,(cells_of_heap h2).1,(cells_of_heap h2).2]
 exact rl_fin (r:=zeroR) (base:=p2+1) l2 e (by omega) (by omega) (OwnE.nil _ _ _ _ _) (OwnE.nil _ _ _ _ _) (OwnE.nil _ _ _ _ _) hR
theorem rl_state (h:LS w0 w base p2 p5 B1 B2 r sv cv tv) (ha:At p r) (hs0:p=0→sv = .slice none 0 0) (ht0:p≤1→tv = .slice none 0 0) (hi:i < L.length) (hl:L.length≤100000) (k1:r.counters.length≤i) (k2:r.states.length≤i) (k3:r.steps.length≤i)
 (hd:L.drop i=(kState::ws)::L.drop (i+1)) (hg:roleP L=goP p r (L.drop i) i) (hW:SliceOf w 1 EStr v51 (kState::ws))
 (hk:∀ a w',Keep w0 base p2 p5 L a (.int .i64 ((i+1:Nat):Int)) w'→next3 a (.int .i64 ((i+1:Nat):Int)) w') :
 callK Pg 92 #[v51] (panK (RlR w0 L)) w fun t w=>n27c9 (.pointer (some ⟨p5,0,none⟩)) (.int .i64 (p:Int)) t (fun t6 t9 w=>n27c2 (.pointer (some ⟨p2,0,none⟩)) t6 (.int .i64 (i:Int)) t9 next3 (RlR w0 L) w) (RlR w0 L) w:=by
 refine callK_ret (rstate_line w v51 _ hW (by simp)) ?_
 rintro _ w1 ⟨⟨x,is,rfl,hx⟩,e1⟩
 rw [List.tail_cons] at hx
 replace h:=h.ext e1
 rw [hd] at hg
 obtain ⟨ok,hok⟩:∃ ok,ok=(is&&decide (p≤1)):=⟨_,rfl⟩
 have hbad:ok=false→refR L=(zeroR,-1 - (i:Int)):=by
  intro hf
  by_cases hp:p≤1
  · have:is=false:=by rw [hok,decide_eq_true hp,Bool.and_true] at hf;exact hf
    rw [goP_state ha hp,hx,this] at hg
    exact refR_none hg
  · rw [goP_over ha (fun e=>by omega) (fun e=>absurd e hp) (by decide)] at hg
    exact refR_bad hg hd (by decide)
 have dp:decide ((p:Int)≤1)=decide (p≤1):=by by_cases hp:p≤1<;>simp [hp]<;>omega
 have run:∀ (V:World),LS w0 V base p2 p5 B1 B2 r sv cv tv→∀ q,V.heap[q]?=some (.cells (staCells x).toArray 50 (0,0))→n27c8 (.pointer (some ⟨p5,0,none⟩)) (.pointer (some ⟨q,0,none⟩)) (.bool true) (.bool ok) (fun t6 t9 w=>n27c2 (.pointer (some ⟨p2,0,none⟩)) t6 (.int .i64 (i:Int)) t9 next3 (RlR w0 L) w) (RlR w0 L) V:=by
  intro V hV q hq
  unfold n27c8
  simp (disch:=try exact DI) only [↓PR,QR,simprocAttr,(cells_of_heap hV.h5).1,(cells_of_heap hq).1]
  generalize hY:World.alloc V _=Y
  have eY:Ext V Y:=by rw [← hY];exact (Ext.refl V).alloc _
  have oY:Y.heap[V.heap.size]?=some (.cells (staCells x).toArray 50 (0,0)):=by rw [← hY];exact heap_new _ _ _
  clear hY
  have hY:=hV.ext eY
  refine append1_sta x hY.os oY (by have:=hY.b12;have:=hY.b2;omega) (by omega) ?_
  intro v' w' hO hgr
  have gz:=hgr.size
  have n5:=(hY.row_ne p5 hY.p5b).2.1
  have n2:=(hY.row_ne p2 hY.p2b).2.1
  have lt5:p5 < Y.heap.size:=by have:=hY.p5b;have:=hY.bb;have:=hY.b12;have:=hY.b2;omega
  have lt2:p2 < Y.heap.size:=by have:=hY.p2b;have:=hY.bb;have:=hY.b12;have:=hY.b2;omega
  have h5':w'.heap[p5]?=some (.cells (rolCells r sv cv tv).toArray TRol (0,0)):=(hgr.block p5 lt5 fun e=>n5 e.symm).trans hY.h5
  have ov:=own_one hO fun _=>rfl
  have h2':(w'.setCell ⟨p5,1,none⟩ v').heap[p2]?=some (.cells zR TRol (0,0)):=by
   rw [Only.setCell _ p5 _ _ p2 hY.ne]
   exact (hgr.block p2 lt2 fun e=>n2 e.symm).trans hY.h2
  have E':Ext w0 (w'.setCell ⟨p5,1,none⟩ v'):=(hY.e.grown hgr fun b hb=>by have:=(World.ownsRow.lt hY.os b hb).1;have:=hY.l2;have:=hY.p2b;have:=hY.bb;omega).setCell (p:=⟨p5,1,none⟩) hY.l5 _
  simp (disch:=try exact DI) only [↓PR,QR,simprocAttr,(cells_of_heap h5').1,(cells_of_heap h5').2]
  cases hf:ok with
  | false=>exact rl_bad0 h2' hY.l2 E' (by omega) _ (hbad hf)
  | true =>
   have hb2:=hok.symm.trans hf
   rw [Bool.and_eq_true,decide_eq_true_eq] at hb2
   obtain ⟨hi1,hp⟩:=hb2
   obtain rfl:=ht0 hp
   have hL:=hY.pushS (ha.t hp) hO hgr
   rw [goP_state ha hp,hx,hi1] at hg
   exact rl_good (by omega) _ (hk _ _ ⟨1,i+1,_,_,_,_,_,_,rfl,rfl,hL,ha.s1 hp _,fun h=>(by cases h),fun _=>rfl,by omega,by show r.counters.length≤_;omega,by simp;omega,by show r.steps.length≤_;omega,hg⟩)
 have eY:Ext w1 (w1.alloc (.cells (staCells x).toArray 50)):=ee
 have oY:(w1.alloc (.cells (staCells x).toArray 50)).heap[w1.heap.size]?=some (.cells (staCells x).toArray 50 (0,0)):=heap_new _ _ _
 have hrun:=run _ (h.ext eY) _ oY
 cases is with
 | false =>
  obtain rfl:ok=false:=hok
  simp (disch:=try exact DI) only [↓PR,QR,simprocAttr,↓n27c9]
  exact hrun
 | true =>
  rw [Bool.true_and] at hok
  rw [hok] at hrun
  simp (disch:=try exact DI) only [↓PR,QR,simprocAttr,↓n27c9,dp]
  exact hrun
theorem rl_step (h:LS w0 w base p2 p5 B1 B2 r sv cv tv) (ha:At p r) (hs0:p=0→sv = .slice none 0 0) (ht0:p≤1→tv = .slice none 0 0) (hi:i < L.length) (hl:L.length≤100000) (k1:r.counters.length≤i) (k2:r.states.length≤i) (k3:r.steps.length≤i)
 (hd:L.drop i=(kStep::ws)::L.drop (i+1)) (hg:roleP L=goP p r (L.drop i) i) (hW:SliceOf w 1 EStr v51 (kStep::ws))
 (hk:∀ a w',Keep w0 base p2 p5 L a (.int .i64 ((i+1:Nat):Int)) w'→next3 a (.int .i64 ((i+1:Nat):Int)) w') :
 callK Pg 93 #[v51] (panK (RlR w0 L)) w fun t w=>n27c10 (.pointer (some ⟨p5,0,none⟩)) t (fun t6 t9 w=>n27c2 (.pointer (some ⟨p2,0,none⟩)) t6 (.int .i64 (i:Int)) t9 next3 (RlR w0 L) w) (RlR w0 L) w:=by
 refine callK_ret (rstep_line w v51 _ hW (by simp)) ?_
 rintro _ w1 ⟨⟨x,is,rfl,hx⟩,e1⟩
 rw [List.tail_cons] at hx
 replace h:=h.ext e1
 rw [hd] at hg
 have hbad:is=false→refR L=(zeroR,-1 - (i:Int)):=by
  intro hf
  rw [goP_step ha,hx,hf] at hg
  exact refR_none hg
 have eX:Ext w1 (w1.alloc (.cells (stpCells x).toArray 71)):=ee
 have oX:(w1.alloc (.cells (stpCells x).toArray 71)).heap[w1.heap.size]?=some (.cells (stpCells x).toArray 71 (0,0)):=heap_new _ _ _
 have hX:=h.ext eX
 have c5:=(cells_of_heap hX.h5).1
 simp (disch:=try exact DI) only [↓PR,QR,simprocAttr,↓n27c10,c5,(cells_of_heap oX).1]
 have oZ:((w1.alloc (.cells (stpCells x).toArray 71)).alloc (.cells (stpCells x).toArray 71)).heap[w1.heap.size+1]?=some (.cells (stpCells x).toArray 71 (0,0)):=by
  have:=heap_new (w1.alloc (.cells (stpCells x).toArray 71)) (stpCells x).toArray 71
  rwa [show (w1.alloc (.cells (stpCells x).toArray 71)).heap.size=w1.heap.size+1 from Array.size_push ..] at this
 have eZ:Ext w1 ((w1.alloc (.cells (stpCells x).toArray 71)).alloc (.cells (stpCells x).toArray 71)):=eX.alloc _
 change opV _ _ _ ((w1.alloc (.cells (stpCells x).toArray 71)).alloc (.cells (stpCells x).toArray 71)) _
 generalize ((w1.alloc (.cells (stpCells x).toArray 71)).alloc (.cells (stpCells x).toArray 71))=Y at oZ eZ ⊢
 have hY:=h.ext eZ
 refine append1_stp x hY.ot oZ (by have:=hY.b2;omega) (by omega) ?_
 intro v' w' hO hgr
 have n5:=(hY.row_ne p5 hY.p5b).2.2
 have lt5:p5 < Y.heap.size:=by have:=hY.p5b;have:=hY.bb;have:=hY.b12;have:=hY.b2;omega
 have h5':w'.heap[p5]?=some (.cells (rolCells r sv cv tv).toArray TRol (0,0)):=(hgr.block p5 lt5 fun e=>n5 e.symm).trans hY.h5
 have ov:=own_one hO fun _=>rfl
 have hL:=hY.pushT hO hgr
 simp (disch:=try exact DI) only [↓PR,QR,simprocAttr,(cells_of_heap h5').1,(cells_of_heap h5').2]
 cases is with
 | false=>exact rl_bad0 hL.h2 hL.l2 hL.e (by omega) _ (hbad rfl)
 | true =>
  rw [goP_step ha,hx] at hg
  exact rl_good (by omega) _ (hk _ _ ⟨2,i+1,_,_,_,_,_,_,rfl,rfl,hL,At.t2 _,fun h=>(by cases h),fun h=>(by omega),by omega,by show r.counters.length≤_;omega,by show r.states.length≤_;omega,by simp;omega,hg⟩)
end
theorem roleL_head (k:ByteArray) (ws:List ByteArray) (L:List (List ByteArray)) (h:¬ (k=kRole∧∃ x,ws=[x]∧nameB x=true)):roleP ((k::ws)::L)=(none,1):=by
 rw [roleP_eq]
 by_cases hk:k=kRole
 · rw [if_pos hk]
   have:rnameP ws=none:=by
    unfold rnameP
    match ws,h with
    | [],_=>rfl
    | [a],h=>cases ha:nameB a with
     | false=>simp [nameP,ha]
     | true=>exact absurd ⟨hk,a,rfl,ha⟩ h
    | a::c::r,_=>cases ha:nameB a<;>simp [nameP,ha,endP]
   rw [this]
 · rw [if_neg hk]
theorem roleL_good {x:ByteArray} (L:List (List ByteArray)) (h:nameB x=true):roleP ([kRole,x]::L)=countersP x L 1:=by
 rw [roleP_eq,if_pos rfl]
 unfold rnameP
 simp [nameP,h,endP]
theorem rl_loop {w0 w:World} {base p2 p5 b o cap:Nat} {v0:Value} {lines:List ByteArray} (hz:∀ x∈lines,x.size≤100000) (hl:lines.length≤100000) (hW:WsC w0 v0 b o cap lines)
 (h:Keep w0 base p2 p5 (lines.map spW) (.int .i64 0) (.int .i64 1) w):loop2 (fun t6 t7 w next3=>n27c18 v0 (.pointer (some ⟨p2,0,none⟩)) (.pointer (some ⟨p5,0,none⟩)) t6 t7 next3 (RlR w0 (lines.map spW)) w) (.int .i64 0) (.int .i64 1) w:=by
 obtain rfl:=hW.val
 refine loop2_intro (Keep w0 base p2 p5 (lines.map spW)) (fun _ b _=>lines.length - (intOf b).toNat) h ?_
 rintro _ _ w ⟨p,i,B1,B2,r,sv,cv,tv,rfl,rfl,h,ha,hs0,ht0,hi,k1,k2,k3,hg⟩
 have hLl:(lines.map spW).length=lines.length:=List.length_map ..
 unfold n27c18
 by_cases hlt:i < lines.length
 case neg =>
  obtain rfl:i=lines.length:=by omega
  have d1:decide ((lines.length:Int) < (lines.length:Int))=false:=decide_eq_false (by omega)
  have hd:(lines.map spW).drop lines.length=[]:=by rw [List.drop_eq_nil_iff];omega
  rw [hd,goP_none ha] at hg
  have hR:refR (lines.map spW)=(r,(lines.length:Int)):=by
   rw [← hLl] at hg
   rw [refR_end hg,hLl]
  have o1:=own_one h.os fun _=>rfl
  have o2:=own_one h.oc fun _=>rfl
  have o3:=own_one h.ot fun _=>rfl
  simp (disch:=try exact DI) only [↓PR,QR,simprocAttr,d1,↓n27c16,(cells_of_heap h.h5).1,(cells_of_heap h.h2).1,(cells_of_heap h.h2).2]
  exact h.give hR
 have dk:(i:Int) < (lines.length:Int):=by omega
 have d1:decide ((i:Int) < (lines.length:Int))=true:=decide_eq_true dk
 obtain ⟨l,hx⟩:=getElem?_lt hlt
 have c1:w.cell? ⟨b,o+i*1,none⟩=some (.string l):=by rw [Nat.mul_one];exact (hW.ext h.e).at_ i l hx
 have hzl:=hz l (List.mem_of_getElem? hx)
 simp (disch:=try exact DI) only [↓PR,QR,simprocAttr,d1,↓n27c17,c1]
 refine callK_ret (cut_ret w l 32 hzl) ?_
 rintro u w1 ⟨hO,e1⟩
 have hSw:SliceOf w1 1 EStr u (cutW 32 l):=OwnE.slice hO (fun _=>rfl) (fun _ _=>rfl)
 have hd:=drop_words hx (spW_cut l)
 have hlo:=World.ownsRow.lt hO
 have hoc:∀ g,cv.ownBlock=some g→g < w.heap.size:=fun g hg=>(World.ownsRow.lt h.oc g hg).2
 have h5s:p5 < w.heap.size:=by have:=h.p5b;have:=h.bb;have:=h.b12;have:=h.b2;omega
 have h1:=h.ext e1
 have hk:∀ a w',Keep w0 base p2 p5 (lines.map spW) a (.int .i64 ((i+1:Nat):Int)) w'→Keep w0 base p2 p5 (lines.map spW) a (.int .i64 ((i+1:Nat):Int)) w'∧lines.length - (intOf (.int .i64 ((i+1:Nat):Int))).toNat < lines.length - (intOf (.int .i64 (i:Int))).toNat:=fun a w' h=>⟨h,meas_lt (kd := .i64) hlt⟩
 cases hc:cutW 32 l with
 | nil=>exact absurd hc (cutW_ne 32 l)
 | cons k ws =>
 rw [hc] at hSw hd
 obtain ⟨b1,o1,cap1,hV⟩:=ws_of hSw (by simp)
 obtain rfl:=hV.val
 have hb1:w.heap.size≤b1:=(hlo b1 rfl).1
 have i0:0 < (k::ws).length:=by simp
 have c0:w1.cell? ⟨b1,o1,none⟩=some (.string k):=hV.at_ 0 k rfl
 unfold n27c15
 by_cases hr:k=kRole
 · subst hr
   have q1:decide (kRole=⟨#[114,111,108,101]⟩)=true:=decide_eq_true rfl
   rw [hd,goP_over ha (fun _=>by decide) (fun _=>by decide) (by decide)] at hg
   have hR:=refR_role hg hd
   have o1':=own_one h.os fun _=>rfl
   have o2:=own_one h.oc fun _=>rfl
   have o3:=own_one h.ot fun _=>rfl
   simp (disch:=try exact DI) only [↓PR,QR,simprocAttr,op_ws0 b1 o1 _ cap1 i0,Nat.add_zero,c0,q1,(cells_of_heap h1.h5).1,(cells_of_heap h1.h2).1,(cells_of_heap h1.h2).2]
   exact h1.give hR
 have q1:decide (k=⟨#[114,111,108,101]⟩)=false:=decide_eq_false hr
 by_cases hcn:k=kCounter
 · subst hcn
   have q2:decide (kCounter=⟨#[99,111,117,110,116,101,114]⟩)=true:=decide_eq_true rfl
   simp (disch:=try exact DI) only [↓PR,QR,simprocAttr,op_ws0 b1 o1 _ cap1 i0,Nat.add_zero,c0,q1,q2,↓n27c14]
   exact rl_counter h1 ha hs0 ht0 (by omega) (by omega) k1 k2 k3 hd hg hV (by omega) (fun e=>by have:=hoc b1 e;omega) hk
 have q2:decide (k=⟨#[99,111,117,110,116,101,114]⟩)=false:=decide_eq_false hcn
 by_cases hst:k=kState
 · subst hst
   have q3:decide (kState=⟨#[115,116,97,116,101]⟩)=true:=decide_eq_true rfl
   simp (disch:=try exact DI) only [↓PR,QR,simprocAttr,op_ws0 b1 o1 _ cap1 i0,Nat.add_zero,c0,q1,q2,q3,↓n27c14,↓n27c13]
   exact rl_state h1 ha hs0 ht0 (by omega) (by omega) k1 k2 k3 hd hg hSw hk
 have q3:decide (k=⟨#[115,116,97,116,101]⟩)=false:=decide_eq_false hst
 by_cases hsp:k=kStep
 · subst hsp
   have q4:decide (kStep=⟨#[115,116,101,112]⟩)=true:=decide_eq_true rfl
   simp (disch:=try exact DI) only [↓PR,QR,simprocAttr,op_ws0 b1 o1 _ cap1 i0,Nat.add_zero,c0,q1,q2,q3,q4,↓n27c14,↓n27c13,↓n27c11]
   exact rl_step h1 ha hs0 ht0 (by omega) (by omega) k1 k2 k3 hd hg hSw hk
 have q4:decide (k=⟨#[115,116,101,112]⟩)=false:=decide_eq_false hsp
 rw [hd,goP_over ha (fun _=>hcn) (fun _=>hst) hsp] at hg
 simp (disch:=try exact DI) only [↓PR,QR,simprocAttr,op_ws0 b1 o1 _ cap1 i0,Nat.add_zero,c0,q1,q2,q3,q4,↓n27c14,↓n27c13,↓n27c11]
 exact rl_bad h1 (by omega) _ (refR_bad hg hd hr)
theorem rrole_lines (w0:World) (v:Value) (lines:List ByteArray) (hs:SliceOf w0 1 EStr v lines) (hne:lines≠[]) (hz:∀ x∈lines,x.size≤100000) (hl:lines.length≤100000):Ret Pg 54 #[v] w0 fun u w'=>(∃ x,u = .tuple #[x,.int .i64 (refR (lines.map spW)).2]∧RolOwn w' w0.heap.size x (refR (lines.map spW)).1)∧Ext w0 w':=by
 obtain ⟨b,o,cap,hW⟩:=ws_of hs hne
 have hv:=hW.val
 subst hv
 refine n27s (R:=retR _) ?_;unfold n27
 match lines,hne,hs,hz,hl,hW with
 | l0::rest,_,hs,hz,hl,hW =>
 have i0:0 < (l0::rest).length:=by simp
 have eW:Ext w0 (w0.alloc (.cells zR TRol)):=ee
 have h2:(w0.alloc (.cells zR TRol)).heap[w0.heap.size]?=some (.cells zR TRol (0,0)):=heap_new _ _ _
 have sW:(w0.alloc (.cells zR TRol)).heap.size=w0.heap.size+1:=Array.size_push ..
 have c0:(w0.alloc (.cells zR TRol)).cell? ⟨b,o,none⟩=some (.string l0):=(hW.ext eW).at_ 0 l0 rfl
 simp (disch:=try exact DI) only [↓PR,QR,simprocAttr,op_ws0 b o _ cap i0,Nat.add_zero,c0]
 change callK _ _ _ _ (w0.alloc (.cells zR TRol)) _
 generalize (w0.alloc (.cells zR TRol))=W at eW h2 sW c0 ⊢
 refine callK_ret (cut_ret W l0 32 (hz l0 (List.mem_cons_self ..))) ?_
 rintro u w1 ⟨hO,e1⟩
 have hSw:SliceOf w1 1 EStr u (cutW 32 l0):=OwnE.slice hO (fun _=>rfl) (fun _ _=>rfl)
 have E1:=eW.trans e1
 have s1:=e1.size
 replace h2:=e1.obj h2
 have hmap:(l0::rest).map spW=cutW 32 l0::rest.map spW:=by rw [List.map_cons,spW_cut]
 cases hc:cutW 32 l0 with
 | nil=>exact absurd hc (cutW_ne 32 l0)
 | cons k ws =>
 rw [hc] at hSw hmap
 obtain ⟨b1,o1,cap1,hV⟩:=ws_of hSw (by simp)
 obtain rfl:=hV.val
 have bad:¬ (k=kRole∧∃ x,ws=[x]∧nameB x=true)→∀ w2,Ext w1 w2→n27c19 (.pointer (some ⟨w0.heap.size,0,none⟩)) (RlR w0 ((l0::rest).map spW)) w2:=by
  intro hn w2 e2
  have hR:refR ((l0::rest).map spW)=(zeroR,-1):=by
   rw [hmap]
   exact refR_none (n:=0) (roleL_head k ws _ hn)
  have h2':=e2.obj h2
  unfold n27c19
  simp (disch:=try exact DI) only [↓PR,QR,simprocAttr,(cells_of_heap h2').1,(cells_of_heap h2').2]
  exact rl_fin (r:=zeroR) (base:=w0.heap.size+1) (Nat.le_refl _) (E1.trans e2) (by omega) (by omega) (OwnE.nil _ _ _ _ _) (OwnE.nil _ _ _ _ _) (OwnE.nil _ _ _ _ _) hR
 unfold n27c22
 by_cases hl2:ws.length=1
 case neg =>
  have d1:((((k::ws).length:Nat):Int) != 2)=true:=by simp only [bne_iff_ne,ne_eq,List.length_cons];omega
  simp (disch:=try exact DI) only [↓PR,QR,simprocAttr,d1,↓n27c21]
  exact bad (fun ⟨_,x,h,_⟩=>hl2 (by rw [h];rfl)) _ (Ext.refl _)
 match ws,hl2 with
 | [x],_ =>
 have d1:((((k::[x]).length:Nat):Int) != 2)=false:=rfl
 have j0:0 < (k::[x]).length:=by simp
 have j1:1 < (k::[x]).length:=by simp
 have ck:w1.cell? ⟨b1,o1,none⟩=some (.string k):=hV.at_ 0 k rfl
 have cx:=hV.at_ 1 x rfl
 by_cases hk:k=kRole
 case neg =>
  have q1:(!decide (k=⟨#[114,111,108,101]⟩))=true:=by simp [hk]
  simp (disch:=try exact DI) only [↓PR,QR,simprocAttr,d1,op_ws0 b1 o1 _ cap1 j0,Nat.add_zero,ck,q1,↓n27c21]
  exact bad (fun ⟨h,_⟩=>hk h) _ (Ext.refl _)
 subst hk
 have q1:decide (kRole=⟨#[114,111,108,101]⟩)=true:=decide_eq_true rfl
 simp (disch:=try exact DI) only [↓PR,QR,simprocAttr,d1,op_ws0 b1 o1 _ cap1 j0,Nat.add_zero,ck,q1,Bool.not_true,↓n27c21,op_ws1 b1 o1 _ cap1 j1,cx]
 refine zcr (rName_ret w1 x) fun w2 e2=>?_
 cases hn:nameB x with
 | false =>
  simp (disch:=try exact DI) only [↓PR,QR,simprocAttr,d1,q1,Bool.not_true]
  exact bad (fun ⟨_,y,h,h'⟩=>by injection h with h;rw [← h,hn] at h';cases h') _ e2
 | true =>
 have cx:=(hV.ext e2).at_ 1 x rfl
 simp (disch:=try exact DI) only [↓PR,QR,simprocAttr,d1,q1,Bool.not_true,↓n27c20,op_ws1 b1 o1 _ cap1 j1,cx]
 have eX:Ext w2 (w2.alloc (.cells (rolCells ⟨x,[],[],[]⟩ (.slice none 0 0) (.slice none 0 0) (.slice none 0 0)).toArray TRol)):=ee
 have h5:(w2.alloc (.cells (rolCells ⟨x,[],[],[]⟩ (.slice none 0 0) (.slice none 0 0) (.slice none 0 0)).toArray TRol)).heap[w2.heap.size]?=some (.cells (rolCells ⟨x,[],[],[]⟩ (.slice none 0 0) (.slice none 0 0) (.slice none 0 0)).toArray TRol (0,0)):=heap_new _ _ _
 have sX:(w2.alloc (.cells (rolCells ⟨x,[],[],[]⟩ (.slice none 0 0) (.slice none 0 0) (.slice none 0 0)).toArray TRol)).heap.size=w2.heap.size+1:=Array.size_push ..
 change loop2 _ _ _ (w2.alloc (.cells (rolCells ⟨x,[],[],[]⟩ (.slice none 0 0) (.slice none 0 0) (.slice none 0 0)).toArray TRol))
 generalize (w2.alloc (.cells (rolCells ⟨x,[],[],[]⟩ (.slice none 0 0) (.slice none 0 0) (.slice none 0 0)).toArray TRol))=X at eX h5 sX ⊢
 have s2:=e2.size
 have EX:=(E1.trans e2).trans eX
 have hLS:LS w0 X X.heap.size w0.heap.size w2.heap.size X.heap.size X.heap.size ⟨x,[],[],[]⟩ (.slice none 0 0) (.slice none 0 0) (.slice none 0 0) :=
  ⟨EX,eX.obj (e2.obj h2),h5,OwnE.nil _ _ _ _ _,fun b hb=>(by cases hb),OwnE.nil _ _ _ _ _,fun b hb=>(by cases hb),OwnE.nil _ _ _ _ _,Nat.le_refl _,Nat.le_refl _,Nat.le_refl _,by omega,by omega,by omega,Nat.le_refl _,by omega⟩
 have hrl:=rl_loop (w:=X) (base:=X.heap.size) (p2:=w0.heap.size) (p5:=w2.heap.size) hz hl hW ⟨0,1,_,_,_,_,_,_,rfl,rfl,hLS,⟨by omega,fun _=>rfl,fun _=>rfl⟩,fun _=>rfl,fun _=>rfl,by simp,by simp,by simp,by simp,by rw [hmap,roleL_good _ hn,List.drop_succ_cons,List.drop_zero,goP_0]⟩
 exact hrl
theorem stepsP_ge (nm:ByteArray) (cs:List CntD) (ss:List StaD) (L:List (List ByteArray)) (n:Nat):n≤(stepsP nm cs ss L n).2:=by unfold stepsP;simp
theorem statesP_ge (nm:ByteArray) (cs:List CntD) (L:List (List ByteArray)) (n:Nat):n≤(statesP nm cs L n).2:=by
 unfold statesP
 split
 · simp
 · exact Nat.le_trans (Nat.le_add_right _ _) (stepsP_ge ..)
theorem countersP_ge (nm:ByteArray) (L:List (List ByteArray)) (n:Nat):n≤(countersP nm L n).2:=by
 unfold countersP
 split
 · simp
 · exact Nat.le_trans (Nat.le_add_right _ _) (statesP_ge ..)
theorem roleP_ge (L:List (List ByteArray)):1≤(roleP L).2:=by
 unfold roleP
 split
 · split
   · split
     · exact Nat.le_refl _
     · exact countersP_ge ..
   · exact Nat.le_refl _
 · exact Nat.le_refl _
theorem stepsP_le (nm:ByteArray) (cs:List CntD) (ss:List StaD) (L:List (List ByteArray)) (n:Nat):(stepsP nm cs ss L n).2≤n+L.length:=by
 unfold stepsP
 exact Nat.add_le_add_left (many_le L) n
theorem statesP_le (nm:ByteArray) (cs:List CntD) (L:List (List ByteArray)) (n:Nat):(statesP nm cs L n).2≤n+L.length:=by
 unfold statesP
 have hm:=many_le (kw:=kState) (p:=staP) L
 cases h:manyP kState staP L with
 | mk o k =>
  rw [h] at hm
  cases o with
  | none=>exact Nat.add_le_add_left hm n
  | some l =>
   have:=stepsP_le nm cs l (L.drop k) (n+k)
   rw [List.length_drop] at this
   simp only at hm ⊢
   omega
theorem countersP_le (nm:ByteArray) (L:List (List ByteArray)) (n:Nat):(countersP nm L n).2≤n+L.length:=by
 unfold countersP
 have hm:=many_le (kw:=kCounter) (p:=cntP) L
 cases h:manyP kCounter cntP L with
 | mk o k =>
  rw [h] at hm
  cases o with
  | none=>exact Nat.add_le_add_left hm n
  | some l =>
   have:=statesP_le nm l (L.drop k) (n+k)
   rw [List.length_drop] at this
   simp only at hm ⊢
   omega
theorem roleP_le (L:List (List ByteArray)):(roleP L).2≤L.length+1:=by
 unfold roleP
 split
 · split
   · split
     · simp
     · exact Nat.le_trans (countersP_le ..) (by simp;omega)
   · simp
 · simp
theorem refR_num (L:List (List ByteArray)) : -(L.length:Int) - 2≤(refR L).2∧(refR L).2≤(L.length:Int)+1:=by
 have h1:=roleP_le L
 unfold refR
 cases h:roleP L with
 | mk o n =>
  rw [h] at h1
  cases o with
  | none=>simp only at h1 ⊢;omega
  | some r =>
   simp only at h1 ⊢
   split
   · simp only;omega
   · split<;>simp only<;>omega
abbrev kSession:ByteArray:=⟨#[115,101,115,115,105,111,110]⟩
def classB (k:Int):ByteArray:=if k=1 then ⟨#[111,114,100,101,114,101,100]⟩ else if k=2 then ⟨#[109,105,120,101,100]⟩ else if k=3 then ⟨#[108,111,115,115,121]⟩ else ⟨#[]⟩
def sesH (s:SesD):List AnyD:=[.str kSession,.str s.name,.str (classB s.cls),.num s.capacity]
def printS (s:SesD):ByteArray:=if (checkS s).2=0 then joinW ⟨#[10]⟩ (lineA (sesH s)::s.roles.map printR) else ⟨#[]⟩
def sesT (s:SesD):ByteArray:=⟨#[115,101,115,115,105,111,110,32]⟩++s.name++⟨#[32]⟩++classB s.cls++⟨#[32]⟩++decB s.capacity
def rolT (t:ByteArray) (r:RolD):ByteArray:=t++⟨#[10]⟩++textP r
def textS (s:SesD):ByteArray:=s.roles.foldl rolT (sesT s)
theorem rolesE_ok:∀ {l done:List RolD} {i:Int},(rolesE done l i).2=0→∀ r∈l,(checkR r).2=0
 | [],done,i,h,r,hr=>by cases hr
 | x::l,done,i,h,r,hr=>by
  unfold rolesE at h
  by_cases hx:(checkR x).2=0
  case neg=>rw [if_pos hx] at h;exact absurd h hx
  rw [if_neg (fun e=>e hx)] at h
  rcases List.mem_cons.1 hr with rfl | hr
  · exact hx
  · split at h
    · cases h
    · exact rolesE_ok h r hr
structure SesOk (s:SesD):Prop where
 nm:nameB s.name=true
 n1:2≤s.roles.length
 n2:s.roles.length≤4
 c1:1≤s.cls
 c2:s.cls≤3
 p1:1≤s.capacity
 p2:s.capacity≤4
 rs:∀ r∈s.roles,(checkR r).2=0
theorem check_ses {s:SesD} (h:(checkS s).2=0):SesOk s:=by
 unfold checkS at h
 by_cases h1:nameB s.name=false
 · rw [if_pos h1] at h;cases h
 rw [if_neg h1] at h
 by_cases h2:s.roles.length < 2∨4 < s.roles.length∨s.cls < 1∨3 < s.cls∨s.capacity < 1∨4 < s.capacity
 · rw [if_pos h2] at h;cases h
 rw [if_neg h2] at h
 by_cases h3:(rolesE [] s.roles 0).2=0
 case neg=>rw [if_pos h3] at h;exact absurd h h3
 exact ⟨by simpa using h1,by omega,by omega,by omega,by omega,by omega,by omega,rolesE_ok h3⟩
theorem sesT_line (s:SesD):sesT s=lineA (sesH s):=by
 unfold sesT lineA sesH
 simp only [List.map_cons,List.map_nil,wordA,joinW_two,joinW_one]
 rw [show (⟨#[115,101,115,115,105,111,110,32]⟩:ByteArray)=kSession++⟨#[32]⟩ from by rw [lit_app];rfl]
 simp only [app_assoc]
theorem printS_eq {s:SesD} (h:(checkS s).2=0):printS s=textS s:=by
 have ho:=check_ses h
 unfold printS textS
 rw [if_pos h,sesT_line,← joinW_one ⟨#[10]⟩ (lineA (sesH s)),fold_lines (f:=rolT) (g:=textP) (fun _ _=>rfl) _ _ (by simp),joinW_one]
 congr 2
 exact List.map_congr_left fun r hr=>by unfold printR;rw [if_pos (ho.rs r hr),textP_eq]
def classI (x:ByteArray):Int:=if x=classB 1 then 1 else if x=classB 2 then 2 else if x=classB 3 then 3 else 0
structure HeadD where
 name:ByteArray
 cls:Int
 capacity:Int
def headP (ws:List ByteArray):Option HeadD:=(nameP ws).bind fun a=>(wordP a.2).bind fun b=>if classI b.1=0 then none else (numP b.2).bind fun c=>endP (⟨a.1,classI b.1,c.1⟩:HeadD) c.2
def goS:Nat→List RolD→List (List ByteArray)→Nat→Option (List RolD)×Nat
 | 0,acc,_,n=>(some acc,n)
 | f+1,acc,L,n=>if L=[] then (some acc,n) else match roleP L with
  | (none,k)=>(none,n+k)
  | (some r,k)=>goS f (acc++[r]) (L.drop k) (n+k)
def goR:Nat→List RolD→List (List ByteArray)→Nat→Option (List RolD)×Nat
 | 0,acc,_,n=>(some acc,n)
 | f+1,acc,L,n=>if L=[] then (some acc,n) else if (refR L).2 < 0 then (none,n+(-(refR L).2).toNat) else goR f (acc++[(refR L).1]) (L.drop (refR L).2.toNat) (n+(refR L).2.toNat)
theorem goS_ref:∀ (f:Nat) (acc:List RolD) (L:List (List ByteArray)) (n:Nat),L.length≤f→goS f acc L n=goR f acc L n
 | 0,acc,L,n,h=>rfl
 | f+1,acc,L,n,h=>by
  unfold goS goR
  by_cases hL:L=[]
  · rw [if_pos hL,if_pos hL]
  rw [if_neg hL,if_neg hL]
  have hge:=roleP_ge L
  cases hr:roleP L with
  | mk o k =>
  rw [hr] at hge
  have hge:1≤k:=hge
  cases o with
  | none =>
   have hf:refR L=(zeroR,-(k:Int)):=by unfold refR;rw [hr]
   rw [hf]
   simp only
   rw [if_pos (by omega)]
   congr 1
   omega
  | some r =>
   simp only
   have hd:(L.drop k).length≤f:=by rw [List.length_drop];omega
   cases hdr:L.drop k with
   | nil =>
    have hf:refR L=(r,(k:Int)):=by unfold refR;rw [hr];simp only [hdr]
    rw [hf]
    simp only
    rw [if_neg (by omega),Int.toNat_natCast,hdr]
    exact goS_ref f _ _ _ (by rw [← hdr];exact hd)
   | cons w t =>
    by_cases hw:w.head?=some kRole
    · have hf:refR L=(r,(k:Int)):=by unfold refR;rw [hr];simp only [hdr];rw [if_pos hw]
      rw [hf]
      simp only
      rw [if_neg (by omega),Int.toNat_natCast,hdr]
      exact goS_ref f _ _ _ (by rw [← hdr];exact hd)
    · have hf:refR L=(zeroR,-((k:Int)+1)):=by unfold refR;rw [hr];simp only [hdr];rw [if_neg hw]
      rw [hf]
      simp only
      rw [if_pos (by omega)]
      rw [hdr] at hd
      cases f with
      | zero=>simp at hd
      | succ f =>
       unfold goS
       rw [if_neg (by simp),roleP_stop (fun x hx k hk e=>by
        injection hx with hx
        subst hx e
        exact hw hk)]
       simp only
       congr 1<;>omega
def sesP:List (List ByteArray)→Option SesD×Nat
 | (k::ws)::L=>if k=kSession then (match headP ws with
  | none=>(none,1)
  | some h=>match goS L.length [] L 1 with
   | (none,n)=>(none,n)
   | (some rs,n)=>(some ⟨h.name,rs,h.cls,h.capacity⟩,n)) else (none,1)
 | _=>(none,1)
def zeroSes:SesD:=⟨ByteArray.empty,[],0,0⟩
def parseS (text:ByteArray):SesD×Int×Int:=match sesP (linesT text) with
 | (none,n)=>(zeroSes,(n:Int),6)
 | (some s,_)=>if (checkS s).2=0 then (s,0,0) else (zeroSes,0,(checkS s).2)
theorem goS_len:∀ {f:Nat} {acc rs:List RolD} {L:List (List ByteArray)} {n m:Nat},L.length≤f→goS f acc L n=(some rs,m)→m=n+L.length∧rs.length≤acc.length+L.length∧((∀ r∈acc,Read r)→∀ r∈rs,Read r)
 | 0,acc,rs,L,n,m,h,e=>by
  injection e with e1 e2
  injection e1 with e1
  subst e1 e2
  exact ⟨by omega,by omega,fun h=>h⟩
 | f+1,acc,rs,L,n,m,h,e=>by
  unfold goS at e
  by_cases hL:L=[]
  · rw [if_pos hL] at e
    injection e with e1 e2
    injection e1 with e1
    subst e1 e2 hL
    exact ⟨by simp,by omega,fun h=>h⟩
  rw [if_neg hL] at e
  cases hr:roleP L with
  | mk o k =>
  rw [hr] at e
  cases o with
  | none=>cases e
  | some r =>
   obtain ⟨hrd,_,_,_,h1,h2⟩:=roleP_read hr
   obtain ⟨g1,g2,g3⟩:=goS_len (by rw [List.length_drop];omega) e
   rw [List.length_drop] at g1 g2
   rw [List.length_append,List.length_singleton] at g2
   refine ⟨by omega,by omega,fun ha=>g3 fun x hx=>?_⟩
   rcases List.mem_append.1 hx with hx | hx
   · exact ha x hx
   · rw [List.mem_singleton.1 hx];exact hrd
theorem goS_pos {f:Nat} {acc:List RolD}:∀ {L:List (List ByteArray)} {n m:Nat},goS f acc L n=(none,m)→n < m:=by
 induction f generalizing acc with
 | zero=>intro L n m e;cases e
 | succ f ih =>
  intro L n m e
  unfold goS at e
  split at e
  · cases e
  · have hge:=roleP_ge L
    cases hr:roleP L with
    | mk o k =>
    rw [hr] at e hge
    have hge:1≤k:=hge
    cases o with
    | none=>injection e with _ e;omega
    | some r=>have:=ih e;omega
theorem sesP_pos {L:List (List ByteArray)} {n:Nat} (h:sesP L=(none,n)):0 < n:=by
 unfold sesP at h
 split at h
 · split at h
   · split at h
     · injection h with _ h;omega
     · split at h
       · rename_i hg
         have:=goS_pos hg
         injection h with _ h
         omega
       · cases h
   · injection h with _ h;omega
 · injection h with _ h;omega
def n32c1 (t51 t68:Value) (next6:KV) (R:RT) (w:World):Prop :=
 opV Pg (binS .lss 3 false t68 t51) (panK R) w fun t70 w =>
 condP t70 (
 R (.returned (.tuple #[t51,(.int .i64 290)])) w) (
 opV Pg (binS .add 3 true t51 (.int .i64 1)) (panK R) w fun t72 w =>
 next6 t72 w)
def n32c2 (t4 t6 t51:Value) (next6:KV) (R:RT) (w:World):Prop :=
 opV Pg (Instr.loadAt 104 t4) (panK R) w fun t65 w =>
 opV Pg (Instr.fieldAt 26 t6 0) (panK R) w fun t66 w =>
 opV Pg (Instr.loadAt 9 t66) (panK R) w fun t67 w =>
 callV Pg t65 #[t67] (panK R) w fun t68 w =>
 n32c1 t51 t68 next6 R w
def n32c3 (t4 t6 t51 t58:Value) (next6:KV) (R:RT) (w:World):Prop :=
 opV Pg (Instr.extract t58 0) (panK R) w fun t59 w =>
 opV Pg (Instr.extract t58 1) (panK R) w fun t60 w =>
 opV Pg (binS .neq 29 true t60 (.int .i64 0)) (panK R) w fun t62 w =>
 condP t62 (
 R (.returned (.tuple #[t51,t60])) w) (
 n32c2 t4 t6 t51 next6 R w)
def n32c4 (t76 t84:Value) (next7:KV) (R:RT) (w:World):Prop :=
 opV Pg (binS .geq 3 true t84 (.int .i64 0)) (panK R) w fun t85 w =>
 condP t85 (
 R (.returned (.tuple #[t76,(.int .i64 294)])) w) (
 opV Pg (binS .add 3 true t76 (.int .i64 1)) (panK R) w fun t87 w =>
 next7 t87 w)
def n32c5 (t4 t74 t76:Value) (next7:KV) (R:RT) (w:World):Prop :=
 opV Pg (Instr.indexAt 54 t74 t76) (panK R) w fun t79 w =>
 opV Pg (Instr.loadAt 26 t79) (panK R) w fun t80 w =>
 opV Pg (Instr.alloc 26 true (.tuple #[])) (panK R) w fun t10 w =>
 opU Pg (Instr.storeAt 26 t10 t80) (panK R) w fun w =>
 opV Pg (Instr.fieldAt 26 t10 3) (panK R) w fun t81 w =>
 opV Pg (Instr.loadAt 24 t81) (panK R) w fun t82 w =>
 opV Pg (Instr.makeFunc (.func 62) #[] #[t4]) (panK R) w fun t83 w =>
 callK Pg 61 #[t82,t83] (panK R) w fun t84 w =>
 n32c4 t76 t84 next7 R w
def n32c6 (t1 t4:Value) (R:RT) (w:World):Prop :=
 opV Pg (Instr.fieldAt 57 t1 1) (panK R) w fun t73 w =>
 opV Pg (Instr.loadAt 54 t73) (panK R) w fun t74 w =>
 opV Pg (Builtin.len_ #[54] 3 #[t74]) (panK R) w fun t75 w =>
 loop1 (fun t76 w next7 =>
 opV Pg (binS .lss 3 false t76 t75) (panK R) w fun t77 w =>
 condP t77 (
 n32c5 t4 t74 t76 next7 R w) (
 R (.returned (.tuple #[(.int .i64 0),(.int .i64 0)])) w)) (.int .i64 0) w
def n32c7 (t4 t49 t51:Value) (next6:KV) (R:RT) (w:World):Prop :=
 opV Pg (Instr.indexAt 54 t49 t51) (panK R) w fun t54 w =>
 opV Pg (Instr.loadAt 26 t54) (panK R) w fun t55 w =>
 opV Pg (Instr.alloc 26 true (.tuple #[])) (panK R) w fun t6 w =>
 opU Pg (Instr.storeAt 26 t6 t55) (panK R) w fun w =>
 opV Pg (Instr.loadAt 26 t6) (panK R) w fun t57 w =>
 callK Pg 12 #[t57] (panK R) w fun t58 w =>
 n32c3 t4 t6 t51 t58 next6 R w
def n32c8 (t1 t4:Value) (R:RT) (w:World):Prop :=
 opV Pg (Instr.fieldAt 57 t1 1) (panK R) w fun t48 w =>
 opV Pg (Instr.loadAt 54 t48) (panK R) w fun t49 w =>
 opV Pg (Builtin.len_ #[54] 3 #[t49]) (panK R) w fun t50 w =>
 loop1 (fun t51 w next6 =>
 opV Pg (binS .lss 3 false t51 t50) (panK R) w fun t52 w =>
 condP t52 (
 n32c7 t4 t49 t51 next6 R w) (
 n32c6 t1 t4 R w)) (.int .i64 0) w
def n32c9 (t1 t4 t37 t41:Value) (R:RT) (w:World):Prop :=
 pickK t37 (.bool true) t41 fun t42 =>
 joinK (fun (t46:Value) (w:World) =>
 pickK t42 (.bool true) t46 fun t47 =>
 condP t47 (
 R (.returned (.tuple #[(.int .i64 0),(.int .i64 2)])) w) (
 n32c8 t1 t4 R w)) fun K5 =>
 guardP t42 false (
 opV Pg (Instr.fieldAt 57 t1 3) (panK R) w fun t44 w =>
 opV Pg (Instr.loadAt 3 t44) (panK R) w fun t45 w =>
 opV Pg (binS .gtr 3 true t45 (.int .i64 4)) (panK R) w fun t46 w =>
 K5 t46 w) (
 K5 undef w)
def n32c10 (t1 t4 t32 t36:Value) (R:RT) (w:World):Prop :=
 pickK t32 (.bool true) t36 fun t37 =>
 joinK (fun (t41:Value) (w:World) =>
 n32c9 t1 t4 t37 t41 R w) fun K4 =>
 guardP t37 false (
 opV Pg (Instr.fieldAt 57 t1 3) (panK R) w fun t39 w =>
 opV Pg (Instr.loadAt 3 t39) (panK R) w fun t40 w =>
 opV Pg (binS .lss 3 true t40 (.int .i64 1)) (panK R) w fun t41 w =>
 K4 t41 w) (
 K4 undef w)
def n32c11 (t1 t4 t27 t31:Value) (R:RT) (w:World):Prop :=
 pickK t27 (.bool true) t31 fun t32 =>
 joinK (fun (t36:Value) (w:World) =>
 n32c10 t1 t4 t32 t36 R w) fun K3 =>
 guardP t32 false (
 opV Pg (Instr.fieldAt 57 t1 2) (panK R) w fun t34 w =>
 opV Pg (Instr.loadAt 55 t34) (panK R) w fun t35 w =>
 opV Pg (binS .gtr 55 true t35 (.int .i64 3)) (panK R) w fun t36 w =>
 K3 t36 w) (
 K3 undef w)
def n32c12 (t1 t4 t21 t26:Value) (R:RT) (w:World):Prop :=
 pickK t21 (.bool true) t26 fun t27 =>
 joinK (fun (t31:Value) (w:World) =>
 n32c11 t1 t4 t27 t31 R w) fun K2 =>
 guardP t27 false (
 opV Pg (Instr.fieldAt 57 t1 2) (panK R) w fun t29 w =>
 opV Pg (Instr.loadAt 55 t29) (panK R) w fun t30 w =>
 opV Pg (binS .lss 55 true t30 (.int .i64 1)) (panK R) w fun t31 w =>
 K2 t31 w) (
 K2 undef w)
def n32c13 (t1 t4:Value) (R:RT) (w:World):Prop :=
 opV Pg (Instr.fieldAt 57 t1 1) (panK R) w fun t18 w =>
 opV Pg (Instr.loadAt 54 t18) (panK R) w fun t19 w =>
 opV Pg (Builtin.len_ #[54] 3 #[t19]) (panK R) w fun t20 w =>
 opV Pg (binS .lss 3 true t20 (.int .i64 2)) (panK R) w fun t21 w =>
 joinK (fun (t26:Value) (w:World) =>
 n32c12 t1 t4 t21 t26 R w) fun K1 =>
 guardP t21 false (
 opV Pg (Instr.fieldAt 57 t1 1) (panK R) w fun t23 w =>
 opV Pg (Instr.loadAt 54 t23) (panK R) w fun t24 w =>
 opV Pg (Builtin.len_ #[54] 3 #[t24]) (panK R) w fun t25 w =>
 opV Pg (binS .gtr 3 true t25 (.int .i64 4)) (panK R) w fun t26 w =>
 K1 t26 w) (
 K1 undef w)
def n32 (t0:Value) (R:RT) (w:World):Prop :=
 opV Pg (Instr.box 57 t0) (panK R) w fun t1 w =>
 opV Pg (Instr.makeFunc (.func 58) #[] #[t1]) (panK R) w fun t11 w =>
 opV Pg (Instr.alloc 104 true (.tuple #[])) (panK R) w fun t4 w =>
 opU Pg (Instr.storeAt 104 t4 t11) (panK R) w fun w =>
 opV Pg (Instr.fieldAt 57 t1 0) (panK R) w fun t13 w =>
 opV Pg (Instr.loadAt 9 t13) (panK R) w fun t14 w =>
 callK Pg 17 #[t14] (panK R) w fun t15 w =>
 opV Pg (Op.unary .not t15) (panK R) w fun t16 w =>
 condP t16 (
 R (.returned (.tuple #[(.int .i64 0),(.int .i64 290)])) w) (
 n32c13 t1 t4 R w)
set_option maxHeartbeats 40000000 in
theorem n32s {t0:Value} {R:RT} {w:World} (h:n32 t0 R w):Calls Pg 26 #[t0] w R:=by
 refine yD Tryz.func26 ?_
 refine zs<|zr<|yv h fun _ w h=>zm<|zm<|zn<|zk<|zs<|zr<|yF h fun _ w h=>yv h fun _ w h=>yu h fun w h=>zn<|zk<|zs ?_
 refine sim_block<|zs<|zr<|yv h fun _ w h=>yv h fun _ w h=>yc h c17 fun _ w h=>yv h fun _ w h=>zm<|zn<|zk<|yC h (fun h=>zs<|zr<|zm<|zm<|zn<|zk<|sim_ret<|sim_block_ret<|sim_then_ret<|body_ret2 rfl rfl rfl h) fun h=>zs<|sim_regionG<|yG 5 ?_
 refine yv h fun _ w h=>yv h fun _ w h=>yx h fun _ w h=>yb h fun _ w h=>zm<|zn<|yg1 4 4 false [23,24,25,26] 26 h (fun _ T hT h=>?_) fun σ w h=>?_
 · refine yv h fun _ w h=>yv h fun _ w h=>yx h fun _ w h=>yb h fun _ w h=>zn ?_
   exact zt hT h
 refine yG 2<|yp h fun _ h=>zm<|zn<|yg1 3 10 false [29,30,31] 31 h (fun _ T hT h=>?_) fun σ w h=>?_
 · refine yv h fun _ w h=>yv h fun _ w h=>yb h fun _ w h=>zn ?_
   exact zt hT h
 refine yG 2<|yp h fun _ h=>zm<|zn<|yg1 3 15 false [34,35,36] 36 h (fun _ T hT h=>?_) fun σ w h=>?_
 · refine yv h fun _ w h=>yv h fun _ w h=>yb h fun _ w h=>zn ?_
   exact zt hT h
 refine yG 2<|yp h fun _ h=>zm<|zn<|yg1 3 20 false [39,40,41] 41 h (fun _ T hT h=>?_) fun σ w h=>?_
 · refine yv h fun _ w h=>yv h fun _ w h=>yb h fun _ w h=>zn ?_
   exact zt hT h
 refine yG 2<|yp h fun _ h=>zm<|zn<|yg1 3 25 false [44,45,46] 46 h (fun _ T hT h=>?_) fun σ w h=>?_
 · refine yv h fun _ w h=>yv h fun _ w h=>yb h fun _ w h=>zn ?_
   exact zt hT h
 refine yG 2<|yp h fun _ h=>zm<|zn<|sim_end<|zk<|yC h (fun h=>zs<|zr<|zm<|zm<|zn<|zk<|sim_ret<|sim_block_ret<|sim_then_ret<|body_ret2 rfl rfl rfl h) fun h=>sim_skip<|sim_block_normal<|zk<|zs<|zs<|zr<|yv h fun _ w h=>?_
 refine yv h fun _ w h=>yx h fun _ w h=>zm<|zn<|zk<|sim_block<|yl1 [2,3,5,6,7,8,51,52,53,54,55,56,57,58,59,60,61,62,63,64,65,66,67,68,69,70,71,72] 51 h fun σ w next h=>zs<|zr<|yb h fun _ w h=>zn<|zk<|zs<|yC h (fun h=>?_) fun h=>?_
 · refine sim_skip<|zk<|zs<|sim_block<|zs<|zr<|zm<|yv h fun _ w h=>yv h fun _ w h=>yv h fun _ w h=>zm<|yu h fun w h=>zn<|zk<|zs ?_
   refine zs<|zr<|yv h fun _ w h=>yc h c12 fun _ w h=>zm<|yv h fun _ w h=>yv h fun _ w h=>zm<|zm<|zn<|zk<|zs<|zr<|zm<|yb h fun _ w h=>?_
   refine zn<|zk<|yC h (fun h=>?_) fun h=>?_
   · refine zs<|zr<|zm<|zm<|zm<|zm<|zn<|zk<|sim_ret<|sim_then_ret<|sim_block_ret<|sim_then_ret<|sim_then_ret<|sim_block_ret<|sim_then_ret ?_
     exact body_ret2 rfl rfl rfl h
   refine sim_skip<|zk<|zs<|zr<|yv h fun _ w h=>yv h fun _ w h=>yv h fun _ w h=>yV h fun _ w h=>zm<|yb h fun _ w h=>zn<|zk<|yC h (fun h=>zs<|zr<|zm<|zm<|zm<|zn<|zk<|sim_ret<|sim_block_ret<|sim_then_ret<|sim_then_ret<|sim_block_ret<|sim_then_ret<|body_ret2 rfl rfl rfl h) fun h=>sim_skip ?_
   exact sim_block_normal<|zk<|zr<|yb h fun _ w h=>zm<|zn<|zk<|⟨rfl,h⟩
 refine sim_exit<|sim_then_exit<|sim_then_exit<|sim_block_hit<|zk<|zs<|zs<|zr<|yv h fun _ w h=>yv h fun _ w h=>yx h fun _ w h=>zm<|zn<|zk<|sim_block ?_
 refine yl1 [2,3,9,10,76,77,78,79,80,81,82,83,84,85,86,87] 76 h fun σ w next h=>zs<|zr<|yb h fun _ w h=>zn<|zk<|zs<|yC h (fun h=>?_) fun h=>?_
 · refine sim_skip<|zk<|zs<|sim_block<|zs<|zr<|zm<|yv h fun _ w h=>yv h fun _ w h=>yv h fun _ w h=>zm<|yu h fun w h=>zn<|zk<|zs ?_
   refine zr<|yv h fun _ w h=>yv h fun _ w h=>yF h fun _ w h=>yc h c61 fun _ w h=>yb h fun _ w h=>zn<|zk<|yC h (fun h=>zs<|zr<|zm<|zm<|zm<|zn<|zk<|sim_ret<|sim_block_ret<|sim_then_ret<|sim_then_ret<|sim_block_ret<|sim_then_ret<|body_ret2 rfl rfl rfl h) fun h=>sim_skip<|sim_block_normal<|zk<|zr<|yb h fun _ w h=>?_
   exact zm<|zn<|zk<|⟨rfl,h⟩
 exact sim_exit<|sim_then_exit<|sim_then_exit<|sim_block_hit<|zk<|zs<|zr<|zm<|zm<|zn<|zk<|sim_ret<|body_ret2 rfl rfl rfl h
def RolFit (r:RolD):Prop:=(∀ x∈r.steps,StpSm x)∧r.counters.length≤1000000000∧r.states.length≤1000000000∧r.steps.length≤1000000000
def namedI (s:SesD) (nm:ByteArray):Int:=idx (fun x:RolD=>decide (x.name=nm)) s.roles
abbrev TSes:TypeId:=57
section
variable {w:World} {q:Nat} {s:SesD} {rv:Value}
theorem CheckS11_ret (w:World) (v:Value) (r:RolD) (q:Nat) (nm:ByteArray) (hr:RolVal w v r) (hq:w.heap[q]?=some (.cells #[.string nm] 9 (0,0))):Ret Pg 60 #[v,.pointer (some ⟨q,0,none⟩)] w fun u w'=>u = .bool (decide (r.name=nm))∧Ext w w':=by
 obtain ⟨sv,cv,tv,rfl,_,_,_,o1,o2,o3⟩:=hr.op
 refine n34s (R:=retR _) ?_;unfold n34
 rw [op_boxA]
 have hBW:=ElemAt.new (w:=w) (rolCells r sv cv tv) (26)
 have eW:Ext w (w.alloc (Obj.cells (List.toArray (rolCells r sv cv tv)) (26))):=(Ext.refl _).alloc _
 generalize (w.alloc (Obj.cells (List.toArray (rolCells r sv cv tv)) (26)))=W at hBW eW ⊢
 have c:=cells_of_heap (eW.obj hq)
 simp (disch:=try exact DI) only [↓PR,QR,simprocAttr,hBW.c4 (Ext.refl W),c.1]
 exact ⟨by trivial,eW⟩
theorem CheckS1n_ret (nm:ByteArray) (hq:w.heap[q]?=some (.cells (sesCells s rv).toArray TSes (0,0))) (hR:RolsOf w rv s.roles):Ret Pg 58 #[.string nm,.pointer (some ⟨q,0,none⟩)] w fun u w'=>u = .int .i64 (namedI s nm)∧Ext w w':=by
 have o1:=SliceOf.oneCell hR
 refine n33s (R:=retR _) ?_;unfold n33
 simp (disch:=try exact DI) only [↓PR,QR,simprocAttr,fun o=>(cells_of_heap (((Ext.refl w).alloc o).obj hq)).1]
 generalize hV:World.alloc w _=V
 have oV:V.heap[w.heap.size]?=some (.cells #[.string nm] 9 (0,0)):=by rw [← hV];exact heap_new _ _ _
 have eV:Ext w V:=by rw [← hV];exact (Ext.refl w).alloc _
 clear hV
 refine callK_ret (index_Role_ret V _ s.roles _ _ (fun x=>decide (x.name=nm)) (hR.ext eV) c60 fun w u x _ e hu=>CheckS11_ret w u x _ nm hu (e.obj oV)) ?_
 rintro _ w' ⟨rfl,e⟩
 simp (disch:=try exact DI) only [↓PR,QR,simprocAttr]
 exact ⟨by trivial,eV.trans e⟩
def lostB (s:SesD) (x:StpD):Bool:=speaksB x.kind&&decide (namedI s x.peer < 0)
theorem CheckS2_rets (x:StpD) {f:Nat} (hf:w.heap[f]?=some (.cells #[.func (.func 58) #[] #[.pointer (some ⟨q,0,none⟩)]] 104 (0,0))) (hq:w.heap[q]?=some (.cells (sesCells s rv).toArray TSes (0,0))) (hR:RolsOf w rv s.roles) (hk:1≤x.kind∧x.kind≤4):Ret Pg 62 #[stpVal x,.pointer (some ⟨f,0,none⟩)] w fun u w'=>u = .bool (lostB s x)∧Ext w w':=by
 refine n35s (R:=retR _) ?_;unfold n35
 unfold stpVal
 rw [op_boxA]
 have hBW:=ElemAt.new (w:=w) (stpCells x) (71)
 have eW:Ext w (w.alloc (Obj.cells (List.toArray (stpCells x)) (71))):=(Ext.refl _).alloc _
 generalize (w.alloc (Obj.cells (List.toArray (stpCells x)) (71)))=W at hBW eW ⊢
 generalize w.heap.size=p at *
 refine drawK_intro ?_
 have eD:Ext W (Sw.drew W):=(Ext.refl W).drew
 generalize Sw.drew W=D at eD ⊢
 have ED:=eW.trans eD
 unfold n35c2
 simp (disch:=try exact DI) only [↓PR,QR,simprocAttr,hBW.c9 eD]
 refine callK_ret (kinds_ret D) ?_
 rintro _ w6 ⟨m,L,cc,rfl,hm,hM,hL,e6⟩
 have E6:=ED.trans e6
 refine narrowK_EC e6 ?_
 have cf:=cells_of_heap (E6.obj hf)
 have hB:=hBW.c9 (eD.trans e6)
 unfold n35c1 lostB
 rw [qV_kind1 hM,hL,if_pos hk,Option.getD_some]
 cases hs:speaksB x.kind with
 | false =>
  simp (disch:=try exact DI) only [↓PR,QR,simprocAttr,hs]
  exact ⟨by trivial,E6⟩
 | true =>
  simp (disch:=try exact DI) only [↓PR,QR,simprocAttr,hs,hB,cf.1]
  rw [callV_func c58]
  refine zcr (CheckS1n_ret (s:=s) (rv:=rv) x.peer (E6.obj hq) (hR.ext E6)) fun w7 e7=>?_
  refine ⟨e7,?_⟩
  simp (disch:=try exact DI) only [↓PR,QR,simprocAttr,hs]
  exact ⟨by trivial,E6.trans e7⟩
end
theorem rolesE_cons (done l:List RolD) (r:RolD) (i:Int):rolesE done (r::l) i=if (checkR r).2≠0 then (i,(checkR r).2) else if done.any (fun x=>decide (x.name=r.name)) then (i,290) else rolesE (done++[r]) l (i+1):=rfl
theorem peersE_cons (rs l:List RolD) (r:RolD) (i:Int):peersE rs (r::l) i=if r.steps.all (peerB rs) then peersE rs l (i+1) else (i,294):=rfl
theorem drop_at {α:Type} {l:List α} {k:Nat} {x:α} (h:l[k]?=some x):l.drop k=x::l.drop (k+1):=by
 obtain ⟨hk,rfl⟩:=List.getElem?_eq_some_iff.1 h
 exact List.drop_eq_getElem_cons hk
theorem named_lt {s:SesD} {k:Nat} {x:RolD} (hx:s.roles[k]?=some x):decide (namedI s x.name < (k:Int))=(s.roles.take k).any fun y=>decide (y.name=x.name):=by
 unfold namedI
 cases ha:(s.roles.take k).any fun y=>decide (y.name=x.name) with
 | true =>
  refine decide_eq_true ?_
  rw [List.any_eq_true] at ha
  obtain ⟨y,hy,hp⟩:=ha
  obtain ⟨j,hj⟩:=List.getElem?_of_mem hy
  have hjk:j < k:=by
   have:=(List.getElem?_eq_some_iff.1 hj).1
   rw [List.length_take] at this
   omega
  rw [List.getElem?_take_of_lt hjk] at hj
  have:=(idx_le (p:=fun z:RolD=>decide (z.name=x.name)) hj hp).2
  omega
 | false =>
  refine decide_eq_false ?_
  rw [List.any_eq_false] at ha
  rw [idx_here (k:=k) hx (by simp) fun j y hj hy=>?_]
  · omega
  · have:=ha y (List.mem_of_getElem? (i:=j) (by rw [List.getElem?_take_of_lt hj];exact hy))
    simpa using this
theorem lost_peer {s:SesD} {x:StpD} (hk:1≤x.kind∧x.kind≤4):lostB s x=!peerB s.roles x:=by
 unfold lostB peerB namedI speaksB
 have h:=idx_neg (p:=fun r:RolD=>decide (r.name=x.peer)) (l:=s.roles)
 rw [← h,Bool.eq_iff_iff]
 simp only [Bool.and_eq_true,Bool.or_eq_true,decide_eq_true_eq,Bool.not_eq_true',Bool.or_eq_false_iff,decide_eq_false_iff_not]
 omega
theorem lost_all {s:SesD} {l:List StpD} (hk:∀ x∈l,1≤x.kind∧x.kind≤4):decide (0≤idx (lostB s) l)=!l.all (peerB s.roles):=by
 rw [idx_neg,List.not_all_eq_any_not,Bool.eq_iff_iff,List.any_eq_true,List.any_eq_true]
 constructor
 · rintro ⟨x,hx,h⟩
   exact ⟨x,hx,by rw [← lost_peer (hk x hx)];exact h⟩
 · rintro ⟨x,hx,h⟩
   exact ⟨x,hx,by rw [lost_peer (hk x hx)];exact h⟩
theorem CheckSession_ret (w0:World) (v:Value) (s:SesD) (hs:SesVal w0 v s) (hF:∀ r∈s.roles,RolFit r) (hl:s.roles.length≤1000000000):Ret Pg 26 #[v] w0 fun u w'=>u = .tuple #[.int .i64 (checkS s).1,.int .i64 (checkS s).2]∧Ext w0 w':=by
 obtain ⟨rv,rfl,hR⟩:=hs
 have o1:=SliceOf.oneCell hR
 refine n32s (R:=retR _) ?_;unfold n32
 rw [op_boxA]
 have hp:=heap_new w0 (sesCells s rv).toArray TSes
 have eW:Ext w0 (w0.alloc (.cells (sesCells s rv).toArray TSes)):=ee
 generalize (w0.alloc (.cells (sesCells s rv).toArray TSes))=W at hp eW ⊢
 generalize w0.heap.size=p at hp ⊢
 simp (disch:=try exact DI) only [↓PR,QR,simprocAttr,fun o=>(cells_of_heap (((Ext.refl W).alloc o).obj hp)).1]
 generalize hV:World.alloc W _=V
 have oV:V.heap[W.heap.size]?=some (.cells #[.func (.func 58) #[] #[.pointer (some ⟨p,0,none⟩)]] 104 (0,0)):=by rw [← hV];exact heap_new _ _ _
 have eV:Ext W V:=by rw [← hV];exact (Ext.refl W).alloc _
 clear hV
 generalize hf:W.heap.size=f at oV ⊢
 refine zcr (Name_ret V s.name) fun w1 e1=>?_
 have E1:=(eW.trans eV).trans e1
 have hp1:=(eV.trans e1).obj hp
 have oV1:=e1.obj oV
 have hR1:=hR.ext E1
 unfold checkS
 by_cases hn:nameB s.name=false
 · rw [if_pos hn]
   simp (disch:=try exact DI) only [↓PR,QR,simprocAttr,hn]
   exact ⟨by trivial,E1⟩
 have hn:nameB s.name=true:=by simpa using hn
 rw [hn,if_neg (by simp)]
 obtain ⟨A,c,rfl,_,_,hlm,hel⟩:=SliceOf.open hR1
 simp (disch:=try exact DI) only [↓PR,QR,simprocAttr,↓n32c13,(cells_of_heap hp1).1]
 by_cases h1:s.roles.length < 2
 · have d1:decide ((s.roles.length:Int) < 2)=true:=decide_eq_true (by omega)
   rw [if_pos (by omega)]
   simp (disch:=try exact DI) only [↓PR,QR,simprocAttr,d1,↓n32c12,↓n32c11,↓n32c10,↓n32c9]
   exact ⟨by trivial,E1⟩
 have d1:decide ((s.roles.length:Int) < 2)=false:=decide_eq_false (by omega)
 by_cases h2:4 < s.roles.length
 · have d2:decide ((s.roles.length:Int) > 4)=true:=decide_eq_true (by omega)
   rw [if_pos (by omega)]
   simp (disch:=try exact DI) only [↓PR,QR,simprocAttr,d1,d2,↓n32c12,↓n32c11,↓n32c10,↓n32c9]
   exact ⟨by trivial,E1⟩
 have d2:decide ((s.roles.length:Int) > 4)=false:=decide_eq_false (by omega)
 by_cases h3:s.cls < 1
 · have d3:decide (s.cls < 1)=true:=decide_eq_true h3
   rw [if_pos (by omega)]
   simp (disch:=try exact DI) only [↓PR,QR,simprocAttr,d1,d2,d3,↓n32c12,↓n32c11,↓n32c10,↓n32c9,(cells_of_heap hp1).1]
   exact ⟨by trivial,E1⟩
 have d3:decide (s.cls < 1)=false:=decide_eq_false h3
 by_cases h4:3 < s.cls
 · have d4:decide (s.cls > 3)=true:=decide_eq_true h4
   rw [if_pos (by omega)]
   simp (disch:=try exact DI) only [↓PR,QR,simprocAttr,d1,d2,d3,d4,↓n32c12,↓n32c11,↓n32c10,↓n32c9,(cells_of_heap hp1).1]
   exact ⟨by trivial,E1⟩
 have d4:decide (s.cls > 3)=false:=decide_eq_false h4
 by_cases h5:s.capacity < 1
 · have d5:decide (s.capacity < 1)=true:=decide_eq_true h5
   rw [if_pos (by omega)]
   simp (disch:=try exact DI) only [↓PR,QR,simprocAttr,d1,d2,d3,d4,d5,↓n32c12,↓n32c11,↓n32c10,↓n32c9,(cells_of_heap hp1).1]
   exact ⟨by trivial,E1⟩
 have d5:decide (s.capacity < 1)=false:=decide_eq_false h5
 by_cases h6:4 < s.capacity
 · have d6:decide (s.capacity > 4)=true:=decide_eq_true h6
   rw [if_pos (by omega)]
   simp (disch:=try exact DI) only [↓PR,QR,simprocAttr,d1,d2,d3,d4,d5,d6,↓n32c12,↓n32c11,↓n32c10,↓n32c9,(cells_of_heap hp1).1]
   exact ⟨by trivial,E1⟩
 have d6:decide (s.capacity > 4)=false:=decide_eq_false h6
 rw [if_neg (by omega)]
 simp (disch:=try exact DI) only [↓PR,QR,simprocAttr,d1,d2,d3,d4,d5,d6,↓n32c12,↓n32c11,↓n32c10,↓n32c9,↓n32c8,(cells_of_heap hp1).1]
 refine loop1_intro (fun a w=>∃ k:Nat,a = .int .i64 k∧k≤s.roles.length∧Ext w1 w∧rolesE [] s.roles 0=rolesE (s.roles.take k) (s.roles.drop k) (k:Int)) (fun a _=>s.roles.length - (intOf a).toNat) ⟨0,rfl,by omega,Ext.refl _,rfl⟩ ?_
 rintro _ w ⟨k,rfl,hk,e,hI⟩
 by_cases hlt:k < s.roles.length
 · obtain ⟨x,hx⟩:=getElem?_lt hlt
   obtain ⟨b,o,cs,rfl,_,hA,sv,cv,tv,rfl,i1,i2,i3⟩:=hel k x hx
   have dk:(k:Int) < (s.roles.length:Int):=by omega
   have dl:decide ((k:Int) < (s.roles.length:Int))=true:=decide_eq_true dk
   have hw:IntKind.i64.wrap ((k:Int)+1)=((k+1:Nat):Int):=by rw [wrap_ok (by omega) (by omega)];omega
   have f1:=SliceOf.oneCell i1
   have f2:=SliceOf.oneCell i2
   have f3:=SliceOf.oneCell i3
   rw [drop_at hx,rolesE_cons] at hI
   simp (disch:=try exact DI) only [↓PR,QR,simprocAttr,dl,↓n32c7,hA.c4 e]
   generalize hY:World.alloc w _=Y
   have oY:Y.heap[w.heap.size]?=some (.cells (rolCells x sv cv tv).toArray TRol (0,0)):=by rw [← hY];exact heap_new _ _ _
   have eY:Ext w Y:=by rw [← hY];exact (Ext.refl w).alloc _
   clear hY
   have EY:=e.trans eY
   refine zcr (Check_ret Y _ x ⟨sv,cv,tv,rfl,i1.ext EY,i2.ext EY,i3.ext EY⟩ (hF x (List.mem_of_getElem? hx)).1 (hF x (List.mem_of_getElem? hx)).2) fun w2 e2=>?_
   have E2:=EY.trans e2
   by_cases hc:(checkR x).2=0
   · have q2:((checkR x).2 != 0)=false:=by simp [hc]
     rw [if_neg (fun h=>h hc)] at hI
     simp (disch:=try exact DI) only [↓PR,QR,simprocAttr,↓n32c3,q2,↓n32c2,(cells_of_heap (E2.obj oV1)).1,(cells_of_heap (e2.obj oY)).1]
     rw [callV_func c58]
     refine zcr (CheckS1n_ret (s:=s) x.name (E2.obj hp1) (hR1.ext E2)) fun w3 e3=>?_
     have E3:=E2.trans e3
     have hnl:=named_lt (s:=s) hx
     cases ha:(s.roles.take k).any fun y=>decide (y.name=x.name) with
     | true =>
      rw [ha] at hnl
      rw [if_pos ha] at hI
      rw [hI]
      simp (disch:=try exact DI) only [↓PR,QR,simprocAttr,↓n32c1,hnl]
      exact ⟨by simp,E1.trans E3⟩
     | false =>
      rw [ha] at hnl
      rw [if_neg (by rw [ha];simp)] at hI
      simp (disch:=try exact DI) only [↓PR,QR,simprocAttr,↓n32c1,hnl,hw]
      exact ⟨⟨k+1,rfl,by omega,E3,by rw [hI,take_snoc hx];rfl⟩,meas_lt (kd := .i64) hlt⟩
   · have q2:((checkR x).2 != 0)=true:=by simp [hc]
     rw [if_pos hc] at hI
     rw [hI,if_pos hc]
     simp (disch:=try exact DI) only [↓PR,QR,simprocAttr,↓n32c3,q2]
     exact ⟨by trivial,E1.trans E2⟩
 · obtain rfl:k=s.roles.length:=by omega
   have dl:decide ((s.roles.length:Int) < (s.roles.length:Int))=false:=decide_eq_false (by omega)
   rw [List.drop_length] at hI
   have hI2:(rolesE [] s.roles 0).2=0:=by rw [hI];rfl
   have hrok:=rolesE_ok hI2
   rw [if_neg (fun h=>h hI2)]
   have E0:=E1.trans e
   clear hI hlt hk
   simp (disch:=try exact DI) only [↓PR,QR,simprocAttr,dl,↓n32c6,(cells_of_heap (e.obj hp1)).1]
   refine loop1_intro (fun a w'=>∃ k:Nat,a = .int .i64 k∧k≤s.roles.length∧Ext w w'∧peersE s.roles s.roles 0=peersE s.roles (s.roles.drop k) (k:Int)) (fun a _=>s.roles.length - (intOf a).toNat) ⟨0,rfl,by omega,Ext.refl _,rfl⟩ ?_
   rintro _ w2 ⟨k,rfl,hk,e2,hI⟩
   have E2:=e.trans e2
   by_cases hlt:k < s.roles.length
   · obtain ⟨x,hx⟩:=getElem?_lt hlt
     obtain ⟨b,o,cs,rfl,_,hA,sv,cv,tv,rfl,i1,i2,i3⟩:=hel k x hx
     have dk:(k:Int) < (s.roles.length:Int):=by omega
     have dl:decide ((k:Int) < (s.roles.length:Int))=true:=decide_eq_true dk
     have hw:IntKind.i64.wrap ((k:Int)+1)=((k+1:Nat):Int):=by rw [wrap_ok (by omega) (by omega)];omega
     have f1:=SliceOf.oneCell i1
     have f2:=SliceOf.oneCell i2
     have f3:=SliceOf.oneCell i3
     rw [drop_at hx,peersE_cons] at hI
     simp (disch:=try exact DI) only [↓PR,QR,simprocAttr,dl,↓n32c5,hA.c4 E2]
     generalize hY:World.alloc w2 _=Y
     have eY:Ext w2 Y:=by rw [← hY];exact (Ext.refl w2).alloc _
     clear hY
     have EY:=E2.trans eY
     have hkd:∀ y∈x.steps,1≤y.kind∧y.kind≤4:=fun y hy=>by
      obtain ⟨j,hj⟩:=List.getElem?_of_mem hy
      exact step_kind (hrok x (List.mem_of_getElem? hx)) hj
     refine callK_ret (index_Step_ret Y _ x.steps _ _ (lostB s) (i3.ext EY) c62 fun w u y hy e' hu=>?_) ?_
     · subst hu
       have Ey:=EY.trans e'
       exact CheckS2_rets (s:=s) y (Ey.obj oV1) (Ey.obj hp1) (hR1.ext Ey) (hkd y hy)
     rintro _ w3 ⟨rfl,e3⟩
     have E3:=EY.trans e3
     have hla:=lost_all (s:=s) hkd
     cases ha:x.steps.all (peerB s.roles) with
     | true =>
      rw [ha] at hla
      rw [if_pos ha] at hI
      have dg:decide (idx (lostB s) x.steps≥0)=false:=hla
      simp (disch:=try exact DI) only [↓PR,QR,simprocAttr,↓n32c4,dg,hw]
      exact ⟨⟨k+1,rfl,by omega,e2.trans (eY.trans e3),hI⟩,meas_lt (kd := .i64) hlt⟩
     | false =>
      rw [ha] at hla
      rw [if_neg (by rw [ha];simp)] at hI
      rw [hI]
      have dg:decide (idx (lostB s) x.steps≥0)=true:=hla
      simp (disch:=try exact DI) only [↓PR,QR,simprocAttr,↓n32c4,dg]
      exact ⟨by trivial,E1.trans E3⟩
   · obtain rfl:k=s.roles.length:=by omega
     have dl:decide ((s.roles.length:Int) < (s.roles.length:Int))=false:=decide_eq_false (by omega)
     rw [List.drop_length] at hI
     rw [hI]
     simp (disch:=try exact DI) only [↓PR,QR,simprocAttr,dl]
     exact ⟨by trivial,E1.trans E2⟩
end Go.Proofs.YtngflmjncplkaaaGreatDoor
