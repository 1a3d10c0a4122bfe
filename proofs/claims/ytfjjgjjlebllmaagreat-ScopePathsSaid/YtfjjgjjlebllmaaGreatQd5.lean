/-
  Lemmas for the claim.
-/
import Derived.Test.YtfjjgjjlebllmaaGreatQd4
set_option linter.all false
set_option maxHeartbeats 4000000
set_option maxRecDepth 100000
namespace Go.Proofs.YtfjjgjjlebllmaaGreat
open Sw
def n140 (t0:Value) (R:RT) (w:World):Prop :=
 opV Pg (Instr.box 30 t0) (panK R) w fun t1 w =>
 opV Pg (Instr.makeFunc (.func 86) #[] #[t1]) (panK R) w fun t3 w =>
 R (.returned t3) w
theorem n140s {t0:Value} {R:RT} {w:World} (h:n140 t0 R w):Calls Pg 50 #[t0] w R:=by
 refine yD Tryz.func50 ?_
 exact zs<|zr<|yv h fun _ w h=>zm<|zn<|zk<|zs<|zr<|yF h fun _ w h=>zm<|zn<|zk<|sim_ret<|body_ret1 rfl rfl h
def n96c1 (t3 t10:Value) (R:RT) (w:World):Prop :=
 opV Pg (Instr.extract t10 0) (panK R) w fun t11 w =>
 opV Pg (Instr.extract t10 1) (panK R) w fun t12 w =>
 opV Pg (Instr.makeFunc (.func 88) #[] #[t3]) (panK R) w fun t14 w =>
 C0 87 #[t11,t14] R w fun t15 w =>
 R (.returned (.tuple #[t15,t12])) w
def n96 (t0 t1:Value) (R:RT) (w:World):Prop :=
 opV Pg (Instr.box 28 t0) (panK R) w fun t2 w =>
 opV Pg (Instr.box 4 t1) (panK R) w fun t3 w =>
 L0 28 t2 R w fun t9 w =>
 C0 55 #[t9] R w fun t10 w =>
 n96c1 t3 t10 R w
theorem n96s {t0 t1:Value} {R:RT} {w:World} (h:n96 t0 t1 R w):Calls Pg 51 #[t0,t1] w R:=by
 refine yD Tryz.func51 ?_
 refine zs<|zr<|yv h fun _ w h=>yv h fun _ w h=>zm<|zm<|zn<|zk<|zs<|zr<|yv h fun _ w h=>yc h c55 fun _ w h=>zm<|yv h fun _ w h=>yv h fun _ w h=>?_
 refine zm<|zm<|zn<|zk<|zs<|zr<|zm<|yF h fun _ w h=>yc h c87 fun _ w h=>zm<|zm<|zm<|zn<|zk<|sim_ret ?_
 exact body_ret2 rfl rfl rfl h
def n18c1 (t2 t5 t7 t79:Value) (R:RT) (w:World):Prop :=
 opV Pg (Instr.build 90 #[(0,t5),(1,t7),(2,t79)]) (panK R) w fun t85 w =>
 opU Pg (Instr.storeAt 90 t2 t85) (panK R) w fun w =>
 qW Pg 90 t2 w fun r0 =>
 R (.returned (.tuple #[r0,(.bool true)])) w
def n18c2 (t2 t5 t7 t79:Value) (next4:KV) (R:RT) (w:World):Prop :=
 B0 .neq 3 true t79 (.int .i64 0) R w fun t81 w =>
 condP t81 (
 n18c1 t2 t5 t7 t79 R w) (
 B0 .add 3 true t7 (.int .i64 1) R w fun t75 w =>
 next4 t75 w)
def n18c3 (t5 t10 t30 t99 t107:Value) (C7:World→Prop) (next5:KV) (R:RT) (w:World):Prop :=
 qV Pg C7 (Instr.indexAt 30 t30 t107) fun t108 =>
 qV Pg C7 (Instr.loadAt 3 t108) fun t109 =>
 qV Pg C7 (Builtin.max_ #[3,3] 3 #[t99,t109]) fun t110 =>
 qV Pg C7 (Instr.indexAt 30 t30 t5) fun t111 =>
 opU Pg (Instr.storeAt 3 t111 t110) (panK R) w fun w =>
 turnK w fun C8 w =>
 B0 .add 3 true t10 (.int .i64 1) R w fun t93 w =>
 next5 t93 w
def n18c4 (t1 t5 t10 t30 t87:Value) (C6:World→Prop) (next5:KV) (R:RT) (w:World):Prop :=
 qV Pg C6 (Instr.indexAt 30 t30 t5) fun t98 =>
 qV Pg C6 (Instr.loadAt 3 t98) fun t99 =>
 qV Pg C6 (Instr.loadAt 28 t1) fun t101 =>
 qV Pg C6 (Instr.indexAt 82 t87 t10) fun t104 =>
 qV Pg C6 (Instr.loadAt 9 t104) fun t105 =>
 C0 53 #[t101,t105,t5] R w fun t107 w =>
 narrowK C6 w fun C7 w =>
 n18c3 t5 t10 t30 t99 t107 C7 next5 R w
def n18c5 (t2 t5:Value) (R:RT) (w:World):Prop :=
 opV Pg (Instr.build 90 #[(0,t5),(1,(.int .i64 (-1))),(2,(.int .i64 10))]) (panK R) w fun t124 w =>
 opU Pg (Instr.storeAt 90 t2 t124) (panK R) w fun w =>
 qW Pg 90 t2 w fun r0 =>
 R (.returned (.tuple #[r0,(.bool true)])) w
def n18c6 (t2 t5 t30:Value) (next2:KV) (R:RT) (w:World):Prop :=
 X0 30 t30 t5 R w fun t114 w =>
 L0 3 t114 R w fun t115 w =>
 B0 .add 3 true t115 (.int .i64 1) R w fun t116 w =>
 X0 30 t30 t5 R w fun t117 w =>
 opU Pg (Instr.storeAt 3 t117 t116) (panK R) w fun w =>
 X0 30 t30 t5 R w fun t120 w =>
 L0 3 t120 R w fun t121 w =>
 B0 .gtr 3 true t121 (.int .i64 16) R w fun t122 w =>
 condP t122 (
 n18c5 t2 t5 R w) (
 B0 .add 3 true t5 (.int .i64 1) R w fun t37 w =>
 next2 t37 w)
def n18c7 (t1 t2 t5 t10 t30 t87:Value) (next2:KV) (next5:KV) (R:RT) (w:World):Prop :=
 opV Pg (Builtin.len_ #[82] 3 #[t87]) (panK R) w fun t90 w =>
 B0 .lss 3 false t10 t90 R w fun t91 w =>
 condP t91 (
 drawK w fun C6 w =>
 n18c4 t1 t5 t10 t30 t87 C6 next5 R w) (
 n18c6 t2 t5 t30 next2 R w)
def n18c8 (t1 t2 t5 t6 t30:Value) (next2:KV) (R:RT) (w:World):Prop :=
 L0 24 t6 R w fun t86 w =>
 C0 54 #[t86] R w fun t87 w =>
 loop1 (fun t10 w next5 =>
 n18c7 t1 t2 t5 t10 t30 t87 next2 next5 R w) (.int .i64 0) w
def n18c9 (t1 t2 t5 t6 t7 t30:Value) (next2:KV) (next4:KV) (R:RT) (w:World):Prop :=
 F0 24 t6 1 R w fun t70 w =>
 L0 22 t70 R w fun t71 w =>
 opV Pg (Builtin.len_ #[22] 3 #[t71]) (panK R) w fun t72 w =>
 B0 .lss 3 false t7 t72 R w fun t73 w =>
 condP t73 (
 L0 28 t1 R w fun t76 w =>
 C0 90 #[t76,t5,t7] R w fun t79 w =>
 n18c2 t2 t5 t7 t79 next4 R w) (
 n18c8 t1 t2 t5 t6 t30 next2 R w)
def n18c10 (t2 t5:Value) (R:RT) (w:World):Prop :=
 opV Pg (Instr.build 90 #[(0,t5),(1,(.int .i64 (-1))),(2,(.int .i64 3))]) (panK R) w fun t68 w =>
 opU Pg (Instr.storeAt 90 t2 t68) (panK R) w fun w =>
 qW Pg 90 t2 w fun r0 =>
 R (.returned (.tuple #[r0,(.bool true)])) w
def n18c11 (t1 t2 t5 t6 t30 t60 t65:Value) (next2:KV) (R:RT) (w:World):Prop :=
 pickK t60 (.bool true) t65 fun t66 =>
 condP t66 (
 n18c10 t2 t5 R w) (
 loop1 (fun t7 w next4 =>
 n18c9 t1 t2 t5 t6 t7 t30 next2 next4 R w) (.int .i64 0) w)
def n18c12 (t2 t5:Value) (R:RT) (w:World):Prop :=
 opV Pg (Instr.build 90 #[(0,t5),(1,(.int .i64 (-1))),(2,(.int .i64 2))]) (panK R) w fun t56 w =>
 opU Pg (Instr.storeAt 90 t2 t56) (panK R) w fun w =>
 qW Pg 90 t2 w fun r0 =>
 R (.returned (.tuple #[r0,(.bool true)])) w
def n18c13 (t1 t2 t5 t6 t30:Value) (next2:KV) (R:RT) (w:World):Prop :=
 F0 24 t6 1 R w fun t57 w =>
 L0 22 t57 R w fun t58 w =>
 opV Pg (Builtin.len_ #[22] 3 #[t58]) (panK R) w fun t59 w =>
 B0 .lss 3 true t59 (.int .i64 1) R w fun t60 w =>
 joinK (fun (t65:Value) (w:World) =>
 n18c11 t1 t2 t5 t6 t30 t60 t65 next2 R w) fun K3 =>
 guardP t60 false (
 F0 24 t6 1 R w fun t62 w =>
 L0 22 t62 R w fun t63 w =>
 opV Pg (Builtin.len_ #[22] 3 #[t63]) (panK R) w fun t64 w =>
 B0 .gtr 3 true t64 (.int .i64 40) R w fun t65 w =>
 K3 t65 w) (
 K3 undef w)
def n18c14 (t2 t5:Value) (R:RT) (w:World):Prop :=
 opV Pg (Instr.build 90 #[(0,t5),(1,(.int .i64 (-1))),(2,(.int .i64 1))]) (panK R) w fun t48 w =>
 opU Pg (Instr.storeAt 90 t2 t48) (panK R) w fun w =>
 qW Pg 90 t2 w fun r0 =>
 R (.returned (.tuple #[r0,(.bool true)])) w
def n18c15 (t1 t2 t5 t6 t30:Value) (next2:KV) (R:RT) (w:World):Prop :=
 L0 28 t1 R w fun t49 w =>
 F0 24 t6 0 R w fun t50 w =>
 L0 9 t50 R w fun t51 w =>
 C0 53 #[t49,t51,t5] R w fun t53 w =>
 B0 .geq 3 true t53 (.int .i64 0) R w fun t54 w =>
 condP t54 (
 n18c12 t2 t5 R w) (
 n18c13 t1 t2 t5 t6 t30 next2 R w)
def n18c16 (t2:Value) (R:RT) (w:World):Prop :=
 opV Pg (Instr.build 90 #[(0,(.int .i64 (-1))),(1,(.int .i64 (-1))),(2,(.int .i64 11))]) (panK R) w fun t133 w =>
 opU Pg (Instr.storeAt 90 t2 t133) (panK R) w fun w =>
 qW Pg 90 t2 w fun r0 =>
 R (.returned (.tuple #[r0,(.bool true)])) w
def n18c17 (t2:Value) (R:RT) (w:World):Prop :=
 opV Pg (Instr.build 90 #[]) (panK R) w fun t134 w =>
 opU Pg (Instr.storeAt 90 t2 t134) (panK R) w fun w =>
 qW Pg 90 t2 w fun r0 =>
 R (.returned (.tuple #[r0,(.bool false)])) w
def n18c18 (t1 t2:Value) (R:RT) (w:World):Prop :=
 L0 28 t1 R w fun t125 w =>
 F0 28 t1 2 R w fun t126 w =>
 L0 9 t126 R w fun t127 w =>
 F0 28 t1 1 R w fun t128 w =>
 L0 26 t128 R w fun t129 w =>
 opV Pg (Builtin.len_ #[26] 3 #[t129]) (panK R) w fun t130 w =>
 C0 53 #[t125,t127,t130] R w fun t131 w =>
 B0 .lss 3 true t131 (.int .i64 0) R w fun t132 w =>
 condP t132 (
 n18c16 t2 R w) (
 n18c17 t2 R w)
def n18c19 (t1 t2 t5 t30:Value) (next2:KV) (R:RT) (w:World):Prop :=
 F0 28 t1 1 R w fun t38 w =>
 L0 26 t38 R w fun t39 w =>
 X0 26 t39 t5 R w fun t41 w =>
 L0 24 t41 R w fun t42 w =>
 opV Pg (Instr.alloc 24 true (.tuple #[])) (panK R) w fun t6 w =>
 opU Pg (Instr.storeAt 24 t6 t42) (panK R) w fun w =>
 F0 24 t6 0 R w fun t43 w =>
 L0 9 t43 R w fun t44 w =>
 C0 89 #[t44] R w fun t45 w =>
 opV Pg (Op.unary .not t45) (panK R) w fun t46 w =>
 condP t46 (
 n18c14 t2 t5 R w) (
 n18c15 t1 t2 t5 t6 t30 next2 R w)
def n18c20 (t1 t2 t5 t30:Value) (next2:KV) (R:RT) (w:World):Prop :=
 F0 28 t1 1 R w fun t32 w =>
 L0 26 t32 R w fun t33 w =>
 opV Pg (Builtin.len_ #[26] 3 #[t33]) (panK R) w fun t34 w =>
 B0 .lss 3 false t5 t34 R w fun t35 w =>
 condP t35 (
 n18c19 t1 t2 t5 t30 next2 R w) (
 n18c18 t1 t2 R w)
def n18c21 (t2:Value) (R:RT) (w:World):Prop :=
 opV Pg (Instr.build 90 #[(0,(.int .i64 (-1))),(1,(.int .i64 (-1))),(2,(.int .i64 3))]) (panK R) w fun t26 w =>
 opU Pg (Instr.storeAt 90 t2 t26) (panK R) w fun w =>
 qW Pg 90 t2 w fun r0 =>
 R (.returned (.tuple #[r0,(.bool true)])) w
def n18c22 (t1 t2:Value) (R:RT) (w:World):Prop :=
 F0 28 t1 1 R w fun t27 w =>
 L0 26 t27 R w fun t28 w =>
 opV Pg (Builtin.len_ #[26] 3 #[t28]) (panK R) w fun t29 w =>
 opV Pg (Instr.makeSlice 30 t29 t29) (panK R) w fun t30 w =>
 loop1 (fun t5 w next2 =>
 n18c20 t1 t2 t5 t30 next2 R w) (.int .i64 0) w
def n18c23 (t2:Value) (R:RT) (w:World):Prop :=
 opV Pg (Instr.build 90 #[(0,(.int .i64 (-1))),(1,(.int .i64 (-1))),(2,(.int .i64 1))]) (panK R) w fun t15 w =>
 opU Pg (Instr.storeAt 90 t2 t15) (panK R) w fun w =>
 qW Pg 90 t2 w fun r0 =>
 R (.returned (.tuple #[r0,(.bool true)])) w
def n18c24 (t1 t2:Value) (R:RT) (w:World):Prop :=
 F0 28 t1 1 R w fun t16 w =>
 L0 26 t16 R w fun t17 w =>
 opV Pg (Builtin.len_ #[26] 3 #[t17]) (panK R) w fun t18 w =>
 B0 .lss 3 true t18 (.int .i64 1) R w fun t19 w =>
 joinK (fun (t24:Value) (w:World) =>
 pickK t19 (.bool true) t24 fun t25 =>
 condP t25 (
 n18c21 t2 R w) (
 n18c22 t1 t2 R w)) fun K1 =>
 guardP t19 false (
 F0 28 t1 1 R w fun t21 w =>
 L0 26 t21 R w fun t22 w =>
 opV Pg (Builtin.len_ #[26] 3 #[t22]) (panK R) w fun t23 w =>
 B0 .gtr 3 true t23 (.int .i64 60) R w fun t24 w =>
 K1 t24 w) (
 K1 undef w)
def n18 (t0:Value) (R:RT) (w:World):Prop :=
 opV Pg (Instr.box 28 t0) (panK R) w fun t1 w =>
 opV Pg (Instr.alloc 90 true (.tuple #[])) (panK R) w fun t2 w =>
 F0 28 t1 0 R w fun t11 w =>
 L0 9 t11 R w fun t12 w =>
 C0 89 #[t12] R w fun t13 w =>
 opV Pg (Op.unary .not t13) (panK R) w fun t14 w =>
 condP t14 (
 n18c23 t2 R w) (
 n18c24 t1 t2 R w)
set_option maxHeartbeats 40000000 in
theorem n18s {t0:Value} {R:RT} {w:World} (h:n18 t0 R w):Calls Pg 52 #[t0] w R:=by
 refine yD Tryz.func52 ?_
 refine zs<|zr<|yv h fun _ w h=>yv h fun _ w h=>zm<|zn<|zk<|zs<|zs<|zr<|yv h fun _ w h=>yv h fun _ w h=>yc h c89 fun _ w h=>yv h fun _ w h=>zn ?_
 refine zk<|yC h (fun h=>zs<|zr<|yB h fun _ w h=>yu h fun w h=>zm<|zn<|zk<|sim_ret<|sim_then_ret<|body_retCT rfl rfl rfl h) fun h=>sim_skip<|zk<|zs<|zs<|sim_regionG<|yG 5<|yv h fun _ w h=>yv h fun _ w h=>yx h fun _ w h=>yb h fun _ w h=>zm<|zn ?_
 refine yg1 4 4 false [21,22,23,24] 24 h (fun _ T hT h=>?_) fun σ w h=>?_
 · refine yv h fun _ w h=>yv h fun _ w h=>yx h fun _ w h=>yb h fun _ w h=>zn ?_
   exact zt hT h
 refine yG 1<|yp h fun _ h=>zn<|sim_end<|zk<|yC h (fun h=>zs<|zr<|yB h fun _ w h=>yu h fun w h=>zm<|zn<|zk<|sim_ret<|sim_then_ret<|body_retCT rfl rfl rfl h) fun h=>sim_skip<|zk<|zs<|zr<|yv h fun _ w h=>yv h fun _ w h=>yx h fun _ w h=>yv h fun _ w h=>?_
 refine zm<|zn<|zk<|zs<|zs<|zr<|zm<|zn<|zk<|sim_block<|yl1 [3,5,6,7,8,9,10,31,32,33,34,35,36,37,38,39,40,41,42,43,44,45,46,47,48,49,50,51,52,53,54,55,56,57,58,59,60,61,62,63,64,65,66,67,68,69,70,71,72,73,74,75,76,77,78,79,80,81,82,83,84,85,86,87,88,89,90,91,92,93,94,95,96,97,98,99,100,101,102,103,104,105,106,107,108,109,110,111,112,113,114,115,116,117,118,119,120,121,122,123,124] 5 h fun σ w next h=>zs<|zs<|zr<|zm ?_
 refine yv h fun _ w h=>yv h fun _ w h=>yx h fun _ w h=>yb h fun _ w h=>zn<|zk<|yC h (fun h=>?_) fun h=>?_
 · refine sim_skip<|zk<|zs<|sim_block<|zs<|zr<|yv h fun _ w h=>yv h fun _ w h=>zm<|yv h fun _ w h=>yv h fun _ w h=>yv h fun _ w h=>yu h fun w h=>zn<|zk ?_
   refine zs<|zs<|zr<|yv h fun _ w h=>yv h fun _ w h=>yc h c89 fun _ w h=>yv h fun _ w h=>zn<|zk<|yC h (fun h=>?_) fun h=>?_
   · refine zs<|zr<|zm<|yB h fun _ w h=>yu h fun w h=>zm<|zn<|zk<|sim_ret<|sim_then_ret<|sim_block_ret<|sim_then_ret<|sim_then_ret<|sim_block_ret<|sim_then_ret ?_
     exact body_retCT rfl rfl rfl h
   refine sim_skip<|zk<|zs<|zs<|zr<|yv h fun _ w h=>yv h fun _ w h=>yv h fun _ w h=>zm<|yc h c53 fun _ w h=>yb h fun _ w h=>zn<|zk<|yC h (fun h=>?_) fun h=>?_
   · refine zs<|zr<|zm<|yB h fun _ w h=>yu h fun w h=>zm<|zn<|zk<|sim_ret<|sim_then_ret<|sim_block_ret<|sim_then_ret<|sim_then_ret<|sim_block_ret<|sim_then_ret ?_
     exact body_retCT rfl rfl rfl h
   refine sim_skip<|zk<|zs<|zs<|sim_regionG<|yG 5<|yv h fun _ w h=>yv h fun _ w h=>yx h fun _ w h=>yb h fun _ w h=>zm<|zn<|yg1 4 4 false [62,63,64,65] 65 h (fun _ T hT h=>?_) fun σ w h=>?_
   · refine yv h fun _ w h=>yv h fun _ w h=>yx h fun _ w h=>yb h fun _ w h=>zn ?_
     exact zt hT h
   refine yG 1<|yp h fun _ h=>zn<|sim_end<|zk<|yC h (fun h=>?_) fun h=>?_
   · refine zs<|zr<|zm<|yB h fun _ w h=>yu h fun w h=>zm<|zn<|zk<|sim_ret<|sim_then_ret<|sim_block_ret<|sim_then_ret<|sim_then_ret<|sim_block_ret<|sim_then_ret ?_
     exact body_retCT rfl rfl rfl h
   refine sim_skip<|zk<|zs<|zs<|zr<|zm<|zn<|zk<|sim_block<|yl1 [3,7,8,69,70,71,72,73,74,75,76,77,78,79,80,81,82,83,84,85] 7 h fun σ w next h=>zs<|zs<|zr<|zm<|yv h fun _ w h=>?_
   refine yv h fun _ w h=>yx h fun _ w h=>yb h fun _ w h=>zn<|zk<|yC h (fun h=>?_) fun h=>?_
   · refine sim_skip<|zk<|zs<|sim_block<|zs<|zr<|yv h fun _ w h=>zm<|zm<|yc h c90 fun _ w h=>zm<|zn<|zk<|zs<|zr ?_
     refine zm<|yb h fun _ w h=>zn<|zk<|yC h (fun h=>?_) fun h=>?_
     · refine zs<|zr<|zm<|zm<|zm<|yB h fun _ w h=>yu h fun w h=>zm<|zn<|zk<|sim_ret<|sim_block_ret<|sim_then_ret<|sim_then_ret<|sim_block_ret ?_
       exact sim_then_ret<|sim_block_ret<|sim_then_ret<|sim_then_ret<|sim_block_ret<|sim_then_ret<|body_retCT rfl rfl rfl h
     exact sim_skip<|sim_block_normal<|zk<|zr<|zm<|yb h fun _ w h=>zm<|zn<|zk<|⟨rfl,h⟩
   refine sim_exit<|sim_then_exit<|sim_then_exit<|sim_block_hit<|zk<|zs<|zr<|yv h fun _ w h=>yc h c54 fun _ w h=>zm<|zn<|zk<|zs<|zs<|zr ?_
   refine zm<|zn<|zk<|sim_block<|yl1 [10,88,89,90,91,92,93,94,95,96,97,98,99,100,101,102,103,104,105,106,107,108,109,110,111] 10 h fun σ w next h=>zs<|zs<|zr<|zm<|zm<|yx h fun _ w h=>yb h fun _ w h=>zn<|zk<|yC h (fun h=>?_) fun h=>?_
   · refine sim_skip<|zk<|zs<|sim_block<|yh [94,95,96,97,98,99,100,101,102,103,104,105,106,107,108,109,110,111] h fun C hC h=>yw 0 hC ?_
     refine yw 1 hC ?_
     refine yw 2 hC ?_
     refine yw 3 hC ?_
     refine ye 4 hC h fun _ h=>?_
     refine ye 5 hC h fun _ h=>?_
     refine yw 6 hC ?_
     refine ye 7 hC h fun _ h=>?_
     refine yw 8 hC ?_
     refine yw 9 hC ?_
     refine ye 10 hC h fun _ h=>?_
     refine ye 11 hC h fun _ h=>?_
     refine yw 12 hC ?_
     refine yr 13 ?_
     refine yc h c53 fun _ w h=>zn ?_
     obtain ⟨C7,hs,hC,h⟩:=h
     refine ⟨C7,hs,hC,?_⟩
     refine ye 14 hC h fun _ h=>?_
     refine ye 15 hC h fun _ h=>?_
     refine ye 16 hC h fun _ h=>?_
     refine ye 17 hC h fun _ h=>?_
     refine yq 18 1 ?_
     refine yu h fun w h=>zn ?_
     obtain ⟨C8,hC,h⟩:=h
     refine ⟨C8,hC,?_⟩
     exact yz<|sim_block_normal<|zk<|zr<|zm<|yb h fun _ w h=>zm<|zn<|zk<|⟨rfl,h⟩
   refine sim_exit<|sim_then_exit<|sim_then_exit<|sim_block_hit<|zk<|zs<|zr<|zm<|zm<|yv h fun _ w h=>yv h fun _ w h=>yb h fun _ w h=>yv h fun _ w h=>yu h fun w h=>zn ?_
   refine zk<|zs<|zr<|zm<|zm<|yv h fun _ w h=>yv h fun _ w h=>yb h fun _ w h=>zn<|zk<|yC h (fun h=>zs<|zr<|zm<|yB h fun _ w h=>yu h fun w h=>zm<|zn<|zk<|sim_ret<|sim_block_ret<|sim_then_ret<|sim_then_ret<|sim_block_ret<|sim_then_ret<|body_retCT rfl rfl rfl h) fun h=>sim_skip<|sim_block_normal<|zk ?_
   exact zr<|zm<|yb h fun _ w h=>zm<|zn<|zk<|⟨rfl,h⟩
 refine sim_exit<|sim_then_exit<|sim_then_exit<|sim_block_hit<|zk<|zs<|zs<|zr<|yv h fun _ w h=>yv h fun _ w h=>yv h fun _ w h=>yv h fun _ w h=>yv h fun _ w h=>yx h fun _ w h=>yc h c53 fun _ w h=>?_
 refine yb h fun _ w h=>zn<|zk<|yC h (fun h=>zs<|zr<|yB h fun _ w h=>yu h fun w h=>zm<|zn<|zk<|sim_ret<|sim_then_ret<|body_retCT rfl rfl rfl h) fun h=>sim_skip<|zk<|zs<|zr<|yB h fun _ w h=>yu h fun w h=>zm<|zn<|zk<|sim_ret ?_
 exact body_retCT rfl rfl rfl h
def n21c1 (t1 t3 t7:Value) (next1:KV) (R:RT) (w:World):Prop :=
 F0 28 t3 1 R w fun t13 w =>
 L0 26 t13 R w fun t14 w =>
 X0 26 t14 t7 R w fun t16 w =>
 F0 24 t16 0 R w fun t17 w =>
 L0 9 t17 R w fun t18 w =>
 B0 .eql 9 false t18 t1 R w fun t20 w =>
 condP t20 (
 R (.returned t7) w) (
 B0 .add 3 true t7 (.int .i64 1) R w fun t12 w =>
 next1 t12 w)
def n21 (t0 t1 t2:Value) (R:RT) (w:World):Prop :=
 opV Pg (Instr.box 28 t0) (panK R) w fun t3 w =>
 loop1 (fun t7 w next1 =>
 B0 .lss 3 false t7 t2 R w fun t10 w =>
 condP t10 (
 n21c1 t1 t3 t7 next1 R w) (
 R (.returned (.int .i64 (-1))) w)) (.int .i64 0) w
theorem n21s {t0 t1 t2:Value} {R:RT} {w:World} (h:n21 t0 t1 t2 R w):Calls Pg 53 #[t0,t1,t2] w R:=by
 refine yD Tryz.func53 ?_
 refine zs<|zr<|yv h fun _ w h=>zm<|zn<|zk<|zs<|zs<|zr<|zm<|zn<|zk<|sim_block<|yl1 [6,7,8,9,10,11,12,13,14,15,16,17,18,19,20,21] 7 h fun σ w next h=>zs ?_
 refine zs<|zr<|zm<|zm<|yb h fun _ w h=>zn<|zk<|yC h (fun h=>?_) fun h=>?_
 · refine sim_skip<|zk<|zs<|sim_block<|zs<|zr<|yv h fun _ w h=>yv h fun _ w h=>zm<|yv h fun _ w h=>yv h fun _ w h=>yv h fun _ w h=>zm<|yb h fun _ w h=>zn ?_
   exact zk<|yC h (fun h=>zs<|zr<|zm<|zm<|zn<|zk<|sim_ret<|sim_block_ret<|sim_then_ret<|sim_then_ret<|sim_block_ret<|sim_then_ret<|body_ret1 rfl rfl h) fun h=>sim_skip<|sim_block_normal<|zk<|zr<|zm<|yb h fun _ w h=>zm<|zn<|zk<|⟨rfl,h⟩
 exact sim_exit<|sim_then_exit<|sim_then_exit<|sim_block_hit<|zk<|zs<|zr<|zm<|zn<|zk<|sim_ret<|body_ret1 rfl rfl h
open Go.RowKit (intOf Below)
theorem take_get {α:Type} {l:List α} {n k:Nat} {x:α} (h:(l.take n)[k]?=some x):l[k]?=some x:=by
 rw [List.getElem?_take] at h
 split at h
 · exact h
 · cases h
theorem rFind_ret (w0:World) (v:Value) (d:DefD) (s:ByteArray) (n:Nat) (hd:DefVal w0 v d) (hn:n≤d.msgs.length) :
 Ret Pg 53 #[v,.string s,.int .i64 (n:Int)] w0 fun r w'=>r = .int .i64 (idx (fun m=>decide (m.name=s)) (d.msgs.take n))∧Ext w0 w':=by
 obtain ⟨mv,rfl,hM⟩:=hd
 obtain ⟨A,c,rfl,hlc,hcm,hlm,hel⟩:=SliceOf.open hM
 have hlen:(d.msgs.take n).length=n:=by rw [List.length_take];omega
 refine n21s (R:=retR _) ?_;unfold n21
 simp (disch:=try exact DI) only [↓PR,QR,simprocAttr]
 generalize hW:World.alloc w0 _=W
 have e0:Ext w0 W:=by rw [← hW];exact ee
 have o3:W.heap[w0.heap.size]?=some (.cells #[.string d.name,.slice A d.msgs.length c,.string d.start] 28 (0,0)):=by rw [← hW];simp (disch:=try exact DI) only [↓PR,QR,simprocAttr]
 clear hW
 refine loop1_intro (fun a0 w=>∃ (k:Nat) , a0 = .int .i64 (k:Int)∧k≤(d.msgs.take n).length∧Ext W w∧∀ (j:Nat) y,j < k→(d.msgs.take n)[j]?=some y→decide (y.name=s)=false) (fun a0 _=>(d.msgs.take n).length - (intOf a0).toNat) ⟨0,rfl,Nat.zero_le _,ee,fun j y h=>by omega⟩ ?_
 rintro _ w ⟨k,rfl,hk,e,hI⟩
 have se:=e.size
 rcases drop_cases hk with ⟨x,hx,hd,hlt,hdec⟩ | ⟨hk,hd,hdec⟩
 · obtain ⟨b,o,cs,rfl,_,hA,hE⟩:=hel k x (take_get hx)
   obtain ⟨fv,rfl,hF⟩:=hE
   rw [hlen] at hdec hlt
   have hlt':k < d.msgs.length:=by omega
   have e0':=e0.trans e
   simp (disch:=try exact DI) only [↓PR,QR,simprocAttr,↓n21c1,hdec,(cells_of_heap (e.obj o3)).1,hA.c2]
   cases hp:decide (x.name=s) with
   | true =>
    simp (disch:=try exact DI) only [↓PR,QR,simprocAttr]
    exact ⟨by rw [idx_here hx hp hI],e0'⟩
   | false =>
    simp (disch:=try exact DI) only [↓PR,QR,simprocAttr]
    have hlt:k < (d.msgs.take n).length:=by omega
    exact ⟨⟨k+1,rfl,by omega,ee,before_succ hI hx hp⟩,meas_lt (kd := .i64) hlt⟩
 · rw [hlen] at hk hdec
   subst hk
   simp (disch:=try exact DI) only [↓PR,QR,simprocAttr,↓n21c1,hdec]
   exact ⟨by rw [idx_none fun j y hy=>hI j y (by have:=(List.getElem?_eq_some_iff.1 hy).1;omega) hy],e0.trans e⟩
theorem rField_ret (w0:World) (v:Value) (d:MsgD) (s:ByteArray) (n:Nat) (hd:MsgVal w0 v d) (hn:n≤d.fields.length) :
 Ret Pg 45 #[v,.string s,.int .i64 (n:Int)] w0 fun r w'=>r = .int .i64 (idx (fun m=>decide (m.name=s)) (d.fields.take n))∧Ext w0 w':=by
 obtain ⟨mv,rfl,hM⟩:=hd
 obtain ⟨A,c,rfl,hlc,hcm,hlm,hel⟩:=SliceOf.open hM
 have hlen:(d.fields.take n).length=n:=by rw [List.length_take];omega
 refine n19s (R:=retR _) ?_;unfold n19
 simp (disch:=try exact DI) only [↓PR,QR,simprocAttr]
 generalize hW:World.alloc w0 _=W
 have e0:Ext w0 W:=by rw [← hW];exact ee
 have o3:W.heap[w0.heap.size]?=some (.cells #[.string d.name,.slice A d.fields.length c] 24 (0,0)):=by rw [← hW];simp (disch:=try exact DI) only [↓PR,QR,simprocAttr]
 clear hW
 refine loop1_intro (fun a0 w=>∃ (k:Nat) , a0 = .int .i64 (k:Int)∧k≤(d.fields.take n).length∧Ext W w∧∀ (j:Nat) y,j < k→(d.fields.take n)[j]?=some y→decide (y.name=s)=false) (fun a0 _=>(d.fields.take n).length - (intOf a0).toNat) ⟨0,rfl,Nat.zero_le _,ee,fun j y h=>by omega⟩ ?_
 rintro _ w ⟨k,rfl,hk,e,hI⟩
 have se:=e.size
 rcases drop_cases hk with ⟨x,hx,hd,hlt,hdec⟩ | ⟨hk,hd,hdec⟩
 · obtain ⟨b,o,cs,rfl,_,hA,hE⟩:=hel k x (take_get hx)
   obtain ⟨tv,cv,rfl,hT,hC,ht1,hc1⟩:=hE.op
   rw [hlen] at hdec hlt
   have hlt':k < d.fields.length:=by omega
   have e0':=e0.trans e
   simp (disch:=try exact DI) only [↓PR,QR,simprocAttr,↓n19c1,hdec,(cells_of_heap (e.obj o3)).1,hA.c15]
   cases hp:decide (x.name=s) with
   | true =>
    simp (disch:=try exact DI) only [↓PR,QR,simprocAttr]
    exact ⟨by rw [idx_here hx hp hI],e0'⟩
   | false =>
    simp (disch:=try exact DI) only [↓PR,QR,simprocAttr]
    have hlt:k < (d.fields.take n).length:=by omega
    exact ⟨⟨k+1,rfl,by omega,ee,before_succ hI hx hp⟩,meas_lt (kd := .i64) hlt⟩
 · rw [hlen] at hk hdec
   subst hk
   simp (disch:=try exact DI) only [↓PR,QR,simprocAttr,↓n19c1,hdec]
   exact ⟨by rw [idx_none fun j y hy=>hI j y (by have:=(List.getElem?_eq_some_iff.1 hy).1;omega) hy],e0.trans e⟩
def hasB (s:ByteArray) (c:Int):Bool:=s.data.toList.any (fun x=>(x.toNat:Int) == c)
theorem rhas_ret (w0:World) (s:ByteArray) (c:Int) (hl:s.size≤9223372036854775806):Ret Pg 147 #[.string s,.int .u8 c] w0 fun r w'=>r = .bool (hasB s c)∧w'=w0:=by
 have hsz:s.data.toList.length=s.size:=by rw [Array.length_toList];rfl
 refine n29s (R:=retR _) ?_;unfold n29
 refine loop1_intro (fun i w'=>∃ k:Nat,i = .int .i64 k∧k≤s.data.toList.length∧w'=w0∧(s.data.toList.drop k).any (fun x=>(x.toNat:Int) == c)=hasB s c) (fun i _=>s.data.toList.length - (intOf i).toNat) ⟨0,rfl,by omega,rfl,rfl⟩ ?_
 rintro _ w2 ⟨k,rfl,hk,rfl,hI⟩
 unfold n29c2
 rcases drop_cases hk with ⟨x,hx,hd,hlt,hdec⟩ | ⟨hk,hd,hdec⟩
 · rw [hsz] at hdec
   rw [hd,List.any_cons] at hI
   simp (disch:=try exact DI) only [↓PR,QR,simprocAttr,hdec]
   unfold n29c1
   rw [op_indexS Tryz.underlying9 s .i64 k hx]
   cases hb:((x.toNat:Int) == c) with
   | true =>
    rw [hb] at hI
    simp (disch:=try exact DI) only [↓PR,QR,simprocAttr,hb]
    exact ⟨by rw [← hI];rfl,by trivial⟩
   | false =>
    rw [hb] at hI
    simp (disch:=try exact DI) only [↓PR,QR,simprocAttr,hb]
    exact ⟨⟨k+1,rfl,hlt,by trivial,by simpa using hI⟩,meas_lt (kd := .i64) hlt⟩
 · rw [hsz] at hdec
   rw [hd] at hI
   simp (disch:=try exact DI) only [↓PR,QR,simprocAttr,hdec]
   exact ⟨by rw [← hI];rfl,by trivial⟩
theorem rwide_ret (w0:World) (lo hi:Int):Ret Pg 149 #[.int .i64 lo,.int .i64 hi] w0 fun r w'=>r = .bool (wideB lo hi)∧Ext w0 w':=by
 refine n35s (R:=retR _) ?_;unfold n35
 unfold wideB
 by_cases h1:0≤lo
 · have d1:decide (lo≥0)=true:=by simpa using h1
   by_cases h2:lo≤hi
   · have d2:decide (lo≤hi)=true:=by simpa using h2
     simp (disch:=try exact DI) only [↓PR,QR,simprocAttr,d1,d2]
     unfold n35c1
     simp (disch:=try exact DI) only [↓PR,QR,simprocAttr]
     exact ⟨by simp [h1,h2],Ext.refl _⟩
   · have d2:decide (lo≤hi)=false:=by simpa using h2
     simp (disch:=try exact DI) only [↓PR,QR,simprocAttr,d1,d2]
     unfold n35c1
     simp (disch:=try exact DI) only [↓PR,QR,simprocAttr]
     exact ⟨by simp [h2],Ext.refl _⟩
 · have d1:decide (lo≥0)=false:=by simpa using h1
   simp (disch:=try exact DI) only [↓PR,QR,simprocAttr,d1]
   unfold n35c1
   simp (disch:=try exact DI) only [↓PR,QR,simprocAttr]
   exact ⟨by simp [h1],Ext.refl _⟩
def usedS (k:Int):ByteArray:=if k=1 then ⟨#[98,108,120,104]⟩ else if k=2 then ⟨#[98,108,120]⟩ else if k=3 then ⟨#[111,120,104]⟩ else if k=4 then ⟨#[115]⟩ else if k=5 then ⟨#[120,104]⟩ else if k=6 then ⟨#[111,104]⟩ else if k=7 then ⟨#[102,115]⟩ else if k=8 then ⟨#[102]⟩ else if k=9 then ⟨#[116,99]⟩ else if k=10 then ⟨#[98]⟩ else if k=11 then ⟨#[114,107]⟩ else if k=12 then ⟨#[102,115,121]⟩ else ByteArray.empty
theorem rused_ret (w0:World) (k:Int) (h1:1≤k) (h2:k≤12):Ret Pg 146 #[.int .i64 k] w0 fun r w'=>r = .string (usedS k)∧Ext w0 w':=by
 refine n34s (R:=retR _) ?_;unfold n34
 obtain ⟨n,rfl⟩:∃ n:Nat,k=n:=⟨k.toNat,by omega⟩
 have:n=1∨n=2∨n=3∨n=4∨n=5∨n=6∨n=7∨n=8∨n=9∨n=10∨n=11∨n=12:=by omega
 have hn:(n:Int) < ((13:Nat):Int):=by omega
 have hget:[Value.string ⟨#[]⟩,.string ⟨#[98,108,120,104]⟩,.string ⟨#[98,108,120]⟩,.string ⟨#[111,120,104]⟩,.string ⟨#[115]⟩,.string ⟨#[120,104]⟩,.string ⟨#[111,104]⟩,.string ⟨#[102,115]⟩,.string ⟨#[102]⟩,.string ⟨#[116,99]⟩,.string ⟨#[98]⟩,.string ⟨#[114,107]⟩,.string ⟨#[102,115,121]⟩][n*1]?=some (.string (usedS (n:Int))):=by
  rcases this with rfl | rfl | rfl | rfl | rfl | rfl | rfl | rfl | rfl | rfl | rfl | rfl<;>rfl
 simp (disch:=try exact DI) only [↓PR,QR,simprocAttr,hget]
 exact ⟨by first | trivial | rfl,ee⟩
theorem rtagged_ret (w0:World) (v:Value) (m:MsgD) (s:ByteArray) (n:Nat) (hm:MsgVal w0 v m) (hn:n≤m.fields.length):Ret Pg 151 #[v,.string s,.int .i64 (n:Int)] w0 fun r w'=>r = .bool ((m.fields.take n).any (taggedP s))∧Ext w0 w':=by
 obtain ⟨fv,rfl,hF⟩:=hm
 obtain ⟨A,c,rfl,hlc,hcm,hlm,hel⟩:=SliceOf.open hF
 refine n33s (R:=retR _) ?_;unfold n33
 simp (disch:=try exact DI) only [↓PR,QR,simprocAttr]
 have hBW:=ElemAt.new (w:=w0) (msgCells m (.slice A m.fields.length c)) (24)
 have eW:Ext w0 (w0.alloc (Obj.cells (List.toArray (msgCells m (.slice A m.fields.length c))) (24))):=(Ext.refl _).alloc _
 generalize (w0.alloc (Obj.cells (List.toArray (msgCells m (.slice A m.fields.length c))) (24)))=W at hBW eW ⊢
 have hlen:(m.fields.take n).length=n:=by rw [List.length_take];omega
 refine loop1_intro (fun i w'=>∃ k:Nat,i = .int .i64 k∧k≤n∧Ext W w'∧∀ j x,j < k→m.fields[j]?=some x→taggedP s x=false) (fun i _=>n - (intOf i).toNat) ⟨0,rfl,by omega,Ext.refl _,by intro j x h;omega⟩ ?_
 rintro _ w ⟨k,rfl,hk,e,hI⟩
 have E:=eW.trans e
 by_cases hkn:k < n
 · obtain ⟨x,hx⟩:=getElem?_lt (l:=m.fields) (k:=k) (by omega)
   obtain ⟨b,o,cs,rfl,hl,hA,hE⟩:=hel k x hx
   obtain ⟨tv,cv,rfl,hT,hC,ht1,hc1⟩:=hE.op
   have hcell:=hA.c15 E
   have d1:decide ((k:Int) < (n:Int))=true:=by simp;omega
   have hkl:(k:Int) < (m.fields.length:Int):=by omega
   have stop:taggedP s x=true→(m.fields.take n).any (taggedP s)=true:=fun h=>List.any_eq_true.2 ⟨x,List.mem_of_getElem? (i:=k) (by rw [List.getElem?_take,if_pos hkn];exact hx),h⟩
   have next:taggedP s x=false→∀ w',Ext W w'→(∃ k_1:Nat,Value.int .i64 ((k+1:Nat):Int) = .int .i64 k_1∧k_1≤n∧Ext W w'∧∀ j x,j < k_1→m.fields[j]?=some x→taggedP s x=false)∧n - (intOf (Value.int .i64 ((k+1:Nat):Int))).toNat < n - (intOf (Value.int .i64 (k:Int))).toNat:=by
    intro h w' e'
    refine ⟨⟨k+1,rfl,hkn,e',fun j y hj hy=>?_⟩,meas_lt (kd := .i64) hkn⟩
    by_cases hjk:j=k
    · subst hjk;rw [hx] at hy;injection hy with hy;subst hy;exact h
    · exact hI j y (by omega) hy
   simp (disch:=try exact DI) only [↓PR,QR,simprocAttr,d1]
   unfold n33c1
   cases hk9:(x.kind == 9) with
   | false =>
    simp (disch:=try exact DI) only [↓PR,QR,simprocAttr,hBW.c2,hcell,hk9]
    exact next (by unfold taggedP;rw [hk9];rfl) _ e
   | true =>
    by_cases hs:x.tag=s
    · simp (disch:=try exact DI) only [↓PR,QR,simprocAttr,hBW.c2,hcell,hk9,show decide (x.tag=s)=true by simp [hs]]
      exact ⟨by rw [stop (by unfold taggedP;rw [hk9];simp [hs])],E⟩
    · simp (disch:=try exact DI) only [↓PR,QR,simprocAttr,hBW.c2,hcell,hk9,show decide (x.tag=s)=false by simp [hs]]
      exact next (by unfold taggedP;simp [hs]) _ e
 · have hke:k=n:=by omega
   subst hke
   have d1:decide ((k:Int) < (k:Int))=false:=by simp
   simp (disch:=try exact DI) only [↓PR,QR,simprocAttr,d1]
   refine ⟨?_,E⟩
   congr 1
   symm
   rw [List.any_eq_false]
   intro x hx
   obtain ⟨j,hj⟩:=List.getElem?_of_mem hx
   rw [List.getElem?_take] at hj
   split at hj
   · rw [hI j x (by assumption) hj];decide
   · cases hj
def numC (f:FieldD):Int:=if bitsB f then (if f.low < 0∨f.low > (if f.kind=2 then f.low else f.high)∨(if f.kind=2 then f.low else f.high)≥2 ^ f.bits.toNat then 7 else 0) else 6
theorem numC_one {f:FieldD} (h:f.kind=1):numC f=orC (needC (bitsB f) 6) (withinC (topF f) 0 [f.low,f.high]):=by
 unfold numC topF
 have h2:¬ f.kind=2:=by omega
 simp only [if_neg h2]
 clear h h2
 cases bitsB f with
 | false=>rfl
 | true =>
  have hp:(0:Int) < 2 ^ f.bits.toNat:=Int.pow_pos (by decide)
  generalize (2:Int) ^ f.bits.toNat=q at *
  simp only [needC,if_true,orC,withinC]
  split<;>simp only [Bool.and_eq_true,decide_eq_true_eq]<;>(repeat' split)<;>first | rfl | omega | (simp only [Bool.and_eq_true,decide_eq_true_eq] at *;omega)
theorem numC_two {f:FieldD} (h:f.kind=2):numC f=orC (needC (bitsB f) 6) (withinC (topF f) 0 [f.low]):=by
 unfold numC topF
 simp only [if_pos h]
 clear h
 cases bitsB f with
 | false=>rfl
 | true =>
  have hp:(0:Int) < 2 ^ f.bits.toNat:=Int.pow_pos (by decide)
  generalize (2:Int) ^ f.bits.toNat=q at *
  simp only [needC,if_true,orC,withinC]
  split<;>simp only [Bool.and_eq_true,decide_eq_true_eq]<;>(repeat' split)<;>first | rfl | omega | (simp only [Bool.and_eq_true,decide_eq_true_eq] at *;omega)
theorem rnumber_ret (w0:World) (v:Value) (f:FieldD) (hf:FieldVal w0 v f):Ret Pg 148 #[v] w0 fun r w'=>r = .int .i64 (numC f)∧Ext w0 w':=by
 obtain ⟨tv,cv,rfl,hT,hC,ht1,hc1⟩:=hf.op
 refine n31s (R:=retR _) ?_;unfold n31
 simp (disch:=try exact DI) only [↓PR,QR,simprocAttr]
 have hBW:=ElemAt.new (w:=w0) (fieldCells f tv cv) (48)
 have eW:Ext w0 (w0.alloc (Obj.cells (List.toArray (fieldCells f tv cv)) (48))):=(Ext.refl _).alloc _
 generalize (w0.alloc (Obj.cells (List.toArray (fieldCells f tv cv)) (48)))=W at hBW eW ⊢
 have hcell:=hBW.c15 (Ext.refl W)
 have hbad:bitsB f=false→Value.int .i64 6 = .int .i64 (numC f):=fun h=>by unfold numC;rw [h];rfl
 by_cases h1:f.bits < 1
 · have d1:decide (f.bits < 1)=true:=by simpa using h1
   simp (disch:=try exact DI) only [↓PR,QR,simprocAttr,hcell,d1,↓n31c1,↓n31c2,↓n31c3,↓n31c4,↓n31c5,↓n31c6,↓n31c7,↓n31c8]
   exact ⟨hbad (by unfold bitsB;simp;omega),eW⟩
 have d1:decide (f.bits < 1)=false:=by simpa using h1
 by_cases h2:f.bits > 32
 · have d2:decide (f.bits > 32)=true:=by simpa using h2
   simp (disch:=try exact DI) only [↓PR,QR,simprocAttr,hcell,d1,d2,↓n31c1,↓n31c2,↓n31c3,↓n31c4,↓n31c5,↓n31c6,↓n31c7,↓n31c8]
   exact ⟨hbad (by unfold bitsB;simp;omega),eW⟩
 have d2:decide (f.bits > 32)=false:=by simpa using h2
 have hsh:IntKind.i64.wrap (1*2 ^ f.bits.toNat)=2 ^ f.bits.toNat:=by
  have hle:f.bits.toNat≤32:=by omega
  have hq:(2:Nat) ^ f.bits.toNat≤2 ^ 32:=Nat.pow_le_pow_right (by decide) hle
  have hc:(2:Int) ^ f.bits.toNat=((2 ^ f.bits.toNat:Nat):Int):=by simp
  rw [Int.one_mul,hc]
  generalize (2:Nat) ^ f.bits.toNat=q at *
  have:(2:Nat) ^ 32=4294967296:=rfl
  exact wrap_ok (by omega) (by omega)
 have hrest:bitsB f=true→n31c3 (.pointer (some ⟨w0.heap.size,0,none⟩)) (retR fun r w'=>r = .int .i64 (numC f)∧Ext w0 w') W:=by
  intro hb
  have hv:numC f=if f.low < 0∨f.low > (if f.kind=2 then f.low else f.high)∨(if f.kind=2 then f.low else f.high)≥2 ^ f.bits.toNat then 7 else 0:=by unfold numC;rw [if_pos hb]
  rw [hv]
  clear hv
  have tail:∀ top:Int,top=(if f.kind=2 then f.low else f.high)→n31c2 (.pointer (some ⟨w0.heap.size,0,none⟩)) (.int .i64 top) (retR fun r w'=>r = .int .i64 (if f.low < 0∨f.low > (if f.kind=2 then f.low else f.high)∨(if f.kind=2 then f.low else f.high)≥2 ^ f.bits.toNat then 7 else 0)∧Ext w0 w') W:=by
   intro top ht
   rw [← ht]
   have h0:(0:Int)≤f.bits:=by omega
   have h64:f.bits≤64:=by omega
   unfold n31c2
   by_cases a1:f.low < 0
   · simp (disch:=try exact DI) only [↓PR,QR,simprocAttr,hcell,show decide (f.low < 0)=true by simpa using a1]
     unfold n31c1
     simp (disch:=try exact DI) only [↓PR,QR,simprocAttr]
     exact ⟨by rw [if_pos (.inl a1)],eW⟩
   by_cases a2:f.low > top
   · simp (disch:=try exact DI) only [↓PR,QR,simprocAttr,hcell,show decide (f.low < 0)=false by simpa using a1,show decide (f.low > top)=true by simpa using a2]
     unfold n31c1
     simp (disch:=try exact DI) only [↓PR,QR,simprocAttr]
     exact ⟨by rw [if_pos (.inr (.inl a2))],eW⟩
   by_cases a3:top≥2 ^ f.bits.toNat
   · simp (disch:=try exact DI) only [↓PR,QR,simprocAttr,hcell,show decide (f.low < 0)=false by simpa using a1,show decide (f.low > top)=false by simpa using a2]
     unfold n31c1
     simp (disch:=try exact DI) only [↓PR,QR,simprocAttr,hcell,hsh,show decide (top≥2 ^ f.bits.toNat)=true by simpa using a3]
     exact ⟨by rw [if_pos (.inr (.inr a3))],eW⟩
   · simp (disch:=try exact DI) only [↓PR,QR,simprocAttr,hcell,show decide (f.low < 0)=false by simpa using a1,show decide (f.low > top)=false by simpa using a2]
     unfold n31c1
     simp (disch:=try exact DI) only [↓PR,QR,simprocAttr,hcell,hsh,show decide (top≥2 ^ f.bits.toNat)=false by simpa using a3]
     exact ⟨by rw [if_neg (by rintro (h | h | h)<;>contradiction)],eW⟩
  unfold n31c3
  by_cases hk:f.kind=2
  · simp (disch:=try exact DI) only [↓PR,QR,simprocAttr,hcell,show (f.kind == 2)=true by simpa using hk]
    exact tail _ (by rw [if_pos hk])
  · simp (disch:=try exact DI) only [↓PR,QR,simprocAttr,hcell,show (f.kind == 2)=false by simpa using hk]
    exact tail _ (by rw [if_neg hk])
 cases hli:f.little with
 | false =>
  simp (disch:=try exact DI) only [↓PR,QR,simprocAttr,hcell,hli,d1,d2,↓n31c8,↓n31c7,↓n31c6,↓n31c5,↓n31c4]
  exact hrest (by unfold bitsB;rw [hli];simp;omega)
 | true =>
  by_cases h16:f.bits=16
  · simp (disch:=try exact DI) only [↓PR,QR,simprocAttr,hcell,hli,d1,d2,show (f.bits != 16)=false by simp [h16],↓n31c8,↓n31c7,↓n31c6,↓n31c5,↓n31c4]
    exact hrest (by unfold bitsB;rw [hli,h16];rfl)
  by_cases h24:f.bits=24
  · simp (disch:=try exact DI) only [↓PR,QR,simprocAttr,hcell,hli,d1,d2,show (f.bits != 16)=true by simp [h16],show (f.bits != 24)=false by simp [h24],↓n31c8,↓n31c7,↓n31c6,↓n31c5,↓n31c4]
    exact hrest (by unfold bitsB;rw [hli,h24];rfl)
  by_cases h32:f.bits=32
  · simp (disch:=try exact DI) only [↓PR,QR,simprocAttr,hcell,hli,d1,d2,show (f.bits != 16)=true by simp [h16],show (f.bits != 24)=true by simp [h24],show (f.bits != 32)=false by simp [h32],↓n31c8,↓n31c7,↓n31c6,↓n31c5,↓n31c4]
    exact hrest (by unfold bitsB;rw [hli,h32];rfl)
  · simp (disch:=try exact DI) only [↓PR,QR,simprocAttr,hcell,hli,d1,d2,show (f.bits != 16)=true by simp [h16],show (f.bits != 24)=true by simp [h24],show (f.bits != 32)=true by simp [h32],↓n31c8,↓n31c7,↓n31c6,↓n31c5,↓n31c4]
    refine ⟨hbad ?_,eW⟩
    unfold bitsB
    rw [hli]
    by_cases h8:8 < f.bits
    · have:f.bits.tmod 8≠0:=by
       rw [Int.tmod_eq_emod_of_nonneg (by omega)];omega
      simp [this]
    · simp [h8]
def zeroB (f:FieldD):Bool :=
 (hasB (usedS f.kind) 98||!(f.bits != 0))&&((hasB (usedS f.kind) 108||!f.little)&&((hasB (usedS f.kind) 111||!f.loose)&&((hasB (usedS f.kind) 120||!(f.low != 0))&&((hasB (usedS f.kind) 104||!(f.high != 0)) &&
 ((hasB (usedS f.kind) 115||!(f.base != 0||(f.terms.length:Int) != 0))&&((hasB (usedS f.kind) 102||!!decide (f.of=⟨#[]⟩))&&((hasB (usedS f.kind) 116||!!decide (f.tag=⟨#[]⟩))&&((hasB (usedS f.kind) 114||!!decide (f.fr=⟨#[]⟩)) &&
 ((hasB (usedS f.kind) 99||(f.cases.length:Int) == 0)&&((hasB (usedS f.kind) 107||f.check == 0)&&(hasB (usedS f.kind) 121||f.key == 0)))))))))))
theorem zeroB_clear {f:FieldD} (h:1≤f.kind∧f.kind≤12):zeroB f=decide (clearK f=bareF f):=by
 have:f.kind=1∨f.kind=2∨f.kind=3∨f.kind=4∨f.kind=5∨f.kind=6∨f.kind=7∨f.kind=8∨f.kind=9∨f.kind=10∨f.kind=11∨f.kind=12:=by omega
 have e:(⟨#[]⟩:ByteArray)=ByteArray.empty:=rfl
 rw [Bool.eq_iff_iff]
 unfold zeroB
 rcases this with hk | hk | hk | hk | hk | hk | hk | hk | hk | hk | hk | hk
 all_goals
  simp [clearK,clear1,clear2,clear3,clear4,clear5,clear6,clear7,clear8,clear9,clear10,clear11,clear12,bareF,hk,usedS,hasB,FieldD.mk.injEq,and_assoc,e]
  try omega
theorem HT:hasB (usedS 1) 98=true∧hasB (usedS 1) 108=true∧hasB (usedS 1) 111=false∧hasB (usedS 1) 120=true∧hasB (usedS 1) 104=true∧hasB (usedS 1) 115=false∧hasB (usedS 1) 102=false∧hasB (usedS 1) 116=false∧hasB (usedS 1) 114=false∧hasB (usedS 1) 99=false∧hasB (usedS 1) 107=false∧hasB (usedS 1) 121=false∧hasB (usedS 2) 98=true∧hasB (usedS 2) 108=true∧hasB (usedS 2) 111=false∧hasB (usedS 2) 120=true∧hasB (usedS 2) 104=false∧hasB (usedS 2) 115=false∧hasB (usedS 2) 102=false∧hasB (usedS 2) 116=false∧hasB (usedS 2) 114=false∧hasB (usedS 2) 99=false∧hasB (usedS 2) 107=false∧hasB (usedS 2) 121=false∧hasB (usedS 3) 98=false∧hasB (usedS 3) 108=false∧hasB (usedS 3) 111=true∧hasB (usedS 3) 120=true∧hasB (usedS 3) 104=true∧hasB (usedS 3) 115=false∧hasB (usedS 3) 102=false∧hasB (usedS 3) 116=false∧hasB (usedS 3) 114=false∧hasB (usedS 3) 99=false∧hasB (usedS 3) 107=false∧hasB (usedS 3) 121=false∧hasB (usedS 4) 98=false∧hasB (usedS 4) 108=false∧hasB (usedS 4) 111=false∧hasB (usedS 4) 120=false∧hasB (usedS 4) 104=false∧hasB (usedS 4) 115=true∧hasB (usedS 4) 102=false∧hasB (usedS 4) 116=false∧hasB (usedS 4) 114=false∧hasB (usedS 4) 99=false∧hasB (usedS 4) 107=false∧hasB (usedS 4) 121=false∧hasB (usedS 5) 98=false∧hasB (usedS 5) 108=false∧hasB (usedS 5) 111=false∧hasB (usedS 5) 120=true∧hasB (usedS 5) 104=true∧hasB (usedS 5) 115=false∧hasB (usedS 5) 102=false∧hasB (usedS 5) 116=false∧hasB (usedS 5) 114=false∧hasB (usedS 5) 99=false∧hasB (usedS 5) 107=false∧hasB (usedS 5) 121=false∧hasB (usedS 6) 98=false∧hasB (usedS 6) 108=false∧hasB (usedS 6) 111=true∧hasB (usedS 6) 120=false∧hasB (usedS 6) 104=true∧hasB (usedS 6) 115=false∧hasB (usedS 6) 102=false∧hasB (usedS 6) 116=false∧hasB (usedS 6) 114=false∧hasB (usedS 6) 99=false∧hasB (usedS 6) 107=false∧hasB (usedS 6) 121=false∧hasB (usedS 7) 98=false∧hasB (usedS 7) 108=false∧hasB (usedS 7) 111=false∧hasB (usedS 7) 120=false∧hasB (usedS 7) 104=false∧hasB (usedS 7) 115=true∧hasB (usedS 7) 102=true∧hasB (usedS 7) 116=false∧hasB (usedS 7) 114=false∧hasB (usedS 7) 99=false∧hasB (usedS 7) 107=false∧hasB (usedS 7) 121=false∧hasB (usedS 8) 98=false∧hasB (usedS 8) 108=false∧hasB (usedS 8) 111=false∧hasB (usedS 8) 120=false∧hasB (usedS 8) 104=false∧hasB (usedS 8) 115=false∧hasB (usedS 8) 102=true∧hasB (usedS 8) 116=false∧hasB (usedS 8) 114=false∧hasB (usedS 8) 99=false∧hasB (usedS 8) 107=false∧hasB (usedS 8) 121=false∧hasB (usedS 9) 98=false∧hasB (usedS 9) 108=false∧hasB (usedS 9) 111=false∧hasB (usedS 9) 120=false∧hasB (usedS 9) 104=false∧hasB (usedS 9) 115=false∧hasB (usedS 9) 102=false∧hasB (usedS 9) 116=true∧hasB (usedS 9) 114=false∧hasB (usedS 9) 99=true∧hasB (usedS 9) 107=false∧hasB (usedS 9) 121=false∧hasB (usedS 10) 98=true∧hasB (usedS 10) 108=false∧hasB (usedS 10) 111=false∧hasB (usedS 10) 120=false∧hasB (usedS 10) 104=false∧hasB (usedS 10) 115=false∧hasB (usedS 10) 102=false∧hasB (usedS 10) 116=false∧hasB (usedS 10) 114=false∧hasB (usedS 10) 99=false∧hasB (usedS 10) 107=false∧hasB (usedS 10) 121=false∧hasB (usedS 11) 98=false∧hasB (usedS 11) 108=false∧hasB (usedS 11) 111=false∧hasB (usedS 11) 120=false∧hasB (usedS 11) 104=false∧hasB (usedS 11) 115=false∧hasB (usedS 11) 102=false∧hasB (usedS 11) 116=false∧hasB (usedS 11) 114=true∧hasB (usedS 11) 99=false∧hasB (usedS 11) 107=true∧hasB (usedS 11) 121=false∧hasB (usedS 12) 98=false∧hasB (usedS 12) 108=false∧hasB (usedS 12) 111=false∧hasB (usedS 12) 120=false∧hasB (usedS 12) 104=false∧hasB (usedS 12) 115=true∧hasB (usedS 12) 102=true∧hasB (usedS 12) 116=false∧hasB (usedS 12) 114=false∧hasB (usedS 12) 99=false∧hasB (usedS 12) 107=false∧hasB (usedS 12) 121=true:=by
 repeat' apply And.intro
 all_goals decide
theorem rzero_ret (w0:World) (v:Value) (f:FieldD) (hf:FieldVal w0 v f) (hk:1≤f.kind∧f.kind≤12):Ret Pg 119 #[v] w0 fun r w'=>r = .bool (zeroB f)∧Ext w0 w':=by
 obtain ⟨tv,cv,rfl,hT,hC,_,_⟩:=hf.op
 obtain ⟨At,ct,rfl,_⟩:=SliceOf.open hT
 obtain ⟨Ac,cc,rfl,_⟩:=SliceOf.open hC
 refine n36s (R:=retR _) ?_;unfold n36
 simp (disch:=try exact DI) only [↓PR,QR,simprocAttr]
 have hBW:=ElemAt.new (w:=w0) (fieldCells f (.slice At f.terms.length ct) (.slice Ac f.cases.length cc)) (48)
 have eW:Ext w0 (w0.alloc (Obj.cells (List.toArray (fieldCells f (.slice At f.terms.length ct) (.slice Ac f.cases.length cc))) (48))):=(Ext.refl _).alloc _
 generalize (w0.alloc (Obj.cells (List.toArray (fieldCells f (.slice At f.terms.length ct) (.slice Ac f.cases.length cc))) (48)))=W at hBW eW ⊢
 have hcell:=hBW.c15 (Ext.refl W)
 simp (disch:=try exact DI) only [↓PR,QR,simprocAttr,hcell]
 refine zcr (rused_ret _ f.kind hk.1 hk.2) fun w1 e1=>?_
 have hcell:=hBW.c15 e1
 have E:=eW.trans e1
 unfold zeroB
 have this:f.kind=1∨f.kind=2∨f.kind=3∨f.kind=4∨f.kind=5∨f.kind=6∨f.kind=7∨f.kind=8∨f.kind=9∨f.kind=10∨f.kind=11∨f.kind=12:=by omega
 clear hk hT hC e1 eW hBW
 rcases this with hk | hk | hk | hk | hk | hk | hk | hk | hk | hk | hk | hk
 all_goals
  simp only [hk,HT,Bool.true_or,Bool.false_or,Bool.true_and]
  repeat' first
   | exact ⟨by trivial,by first | trivial | exact E⟩
   | (refine callK_ret (rhas_ret _ _ _ (by decide)) ?_;rintro _ _ ⟨rfl,rfl⟩;simp (disch:=try exact DI) only [↓PR,QR,simprocAttr,↓n36c1,↓n36c2,↓n36c3,↓n36c4,↓n36c5,↓n36c6,↓n36c7,↓n36c8,↓n36c9,↓n36c10,↓n36c11,↓n36c12,↓n36c13,↓n36c14,↓n36c15,↓n36c16,↓n36c17,↓n36c18,↓n36c19,↓n36c20,↓n36c21,↓n36c22,↓n36c23,↓n36c24,↓n36c25,HT, *])
   | (refine guard_cases (fun _=>?_) (fun _=>?_)<;>simp (disch:=try exact DI) only [↓PR,QR,simprocAttr,↓n36c1,↓n36c2,↓n36c3,↓n36c4,↓n36c5,↓n36c6,↓n36c7,↓n36c8,↓n36c9,↓n36c10,↓n36c11,↓n36c12,↓n36c13,↓n36c14,↓n36c15,↓n36c16,↓n36c17,↓n36c18,↓n36c19,↓n36c20,↓n36c21,↓n36c22,↓n36c23,↓n36c24,↓n36c25,HT, *])
   | (refine cond_cases (fun _=>?_) (fun _=>?_)<;>simp (disch:=try exact DI) only [↓PR,QR,simprocAttr,↓n36c1,↓n36c2,↓n36c3,↓n36c4,↓n36c5,↓n36c6,↓n36c7,↓n36c8,↓n36c9,↓n36c10,↓n36c11,↓n36c12,↓n36c13,↓n36c14,↓n36c15,↓n36c16,↓n36c17,↓n36c18,↓n36c19,↓n36c20,↓n36c21,↓n36c22,↓n36c23,↓n36c24,↓n36c25,HT, *])
theorem append_one {α:Type} {t T n m:Nat} {z:Value} {agg:Bool} {enc:α→List Value} {v:Value} {l:List α} {base b:Nat} {w:World} {QP:List PanicEntry→World→Prop} {k:Value→World→Prop} (ht:Pg.underlying t=some (.slice T)) (hT:TyInfo Pg T agg n m z) (hby:m≤4096) (hz:z.cells.size=n) (h0:0 < n) (hn:∀ x,(enc x).length=n) (x:α) (h1:∀ u∈enc x,u.oneCell'=true)
 (hown:OwnE w base T n enc v l) (hc:ElemAt w b 0 (enc x)) (hbase:base≤w.heap.size) (hl:l.length≤1048576)
 (hk:∀ v' w',OwnE w' base T n enc v' (l++[x])→(∀ a,Ext a w→a.heap.size≤base→Ext a w')→k v' w') :
 opV Pg (Builtin.append_ #[t,t] t #[v,.slice (some ⟨b,0,none⟩) 1 1]) QP w k:=by
 refine op_appendE (l':=[x]) ht hT hz h0 hn (fun y hy=>by simp at hy;subst hy;exact h1) hown (fun j y hy=>?_) hbase ?_ (by simp;omega) (fun v' w' ho hg=>hk v' w' ho fun a e ha=>e.grown hg fun k hk=>Nat.le_trans ha ((World.ownsRow.lt hown k hk).1))
 · cases j with
   | zero=>simp at hy;subst hy;simpa using hc
   | succ j=>simp at hy
 · simp only [List.length_cons,List.length_nil]
   exact Nat.le_trans (Nat.mul_le_mul (Nat.add_le_add_right hl 1) hby) (by decide)
theorem op_boxA {P:Program} {QP:List PanicEntry→World→Prop} {w:World} {k:Value→World→Prop} (T:TypeId) (cs:Array Value):opV P (Instr.box T (.agg cs)) QP w k=k (.pointer (some ⟨w.heap.size,0,none⟩)) (w.alloc (.cells cs T)):=op_box T (.agg cs)
theorem open1 {α:Type} {w:World} {n:Nat} {E:World→List Value→α→Prop} {v:Value} {l:List α} (h:SliceOf w n E v l) {i:Nat} {x:α} (hi:l[i]?=some x) :
 ∃ b o c,v = .slice (some ⟨b,o,none⟩) l.length c∧l.length≤c∧c≤9223372036854775807∧l.length≤9223372036854775807∧i < l.length∧∀ k x,l[k]?=some x→∃ cs,cs.length=n∧ElemAt w b (o+k*n) cs∧E w cs x:=by
 obtain ⟨A,c,h1,h2,h3,h4⟩:=h
 obtain ⟨b,o,rfl,h5⟩:=h4 (by rintro rfl;cases hi)
 exact ⟨b,o,c,h1,h2,h3,by omega,(List.getElem?_eq_some_iff.1 hi).1,h5⟩
theorem all_take {α:Type} {p:α→Prop} {l:List α} {k:Nat} {x:α} (h:∀ y∈l.take k,p y) (hx:l[k]?=some x) (hp:p x):∀ y∈l.take (k+1),p y:=by
 rw [take_snoc hx]
 intro y hy
 rcases List.mem_append.1 hy with hy | hy
 · exact h y hy
 · rw [List.mem_singleton.1 hy];exact hp
def Dist (l:List FieldD):Prop:=l.Pairwise fun a b=>a.name≠b.name
theorem Dist.eq {l:List FieldD} (h:Dist l) {a b:FieldD} (ha:a∈l) (hb:b∈l) (hn:a.name=b.name):a=b:=by
 induction l with
 | nil=>cases ha
 | cons x l ih =>
  obtain ⟨h1,h2⟩:=List.pairwise_cons.1 h
  rcases List.mem_cons.1 ha with ha' | ha'<;>rcases List.mem_cons.1 hb with hb' | hb'
  · rw [ha',hb']
  · subst ha';exact absurd hn (h1 _ hb')
  · subst hb';exact absurd hn.symm (h1 _ ha')
  · exact ih h2 ha' hb'
theorem lastR_none {rp:List (ByteArray×Int×Int)} {s:ByteArray}:lastR rp s=none↔∀ q,(s,q) ∉ rp:=by
 constructor
 · intro h q hq
   unfold lastR at h
   rw [Option.map_eq_none_iff,List.find?_eq_none] at h
   exact h (s,q) (List.mem_reverse.2 hq) (by simp)
 · intro h
   cases hl:lastR rp s with
   | none=>rfl
   | some q=>exact absurd (lastP_mem hl) (h q)
theorem mem_numR {l:List FieldD} {s:ByteArray} {q:Int×Int}:(s,q)∈numR l↔∃ f∈l,numberB f=true∧f.name=s∧q=(f.low,highOf f):=by
 unfold numR
 simp only [List.mem_map,List.mem_filter,Prod.mk.injEq]
 constructor
 · rintro ⟨f,⟨h1,h2⟩,h3,h4⟩;exact ⟨f,h1,h2,h3,by rw [← h4]⟩
 · rintro ⟨f,h1,h2,h3,h4⟩;exact ⟨f,⟨h1,h2⟩,h3,by rw [h4]⟩
theorem num_first {bef:List FieldD} (hd:Dist bef) (s:ByteArray):(idx (fun g=>decide (g.name=s)) bef = -1∧lastR (numR bef) s=none) ∨
 ∃ (k:Nat) (g:FieldD),idx (fun g=>decide (g.name=s)) bef=k∧bef[k]?=some g∧lastR (numR bef) s=if numberB g then some (g.low,highOf g) else none:=by
 unfold idx
 cases h:bef.findIdx? (fun g=>decide (g.name=s)) with
 | none =>
  rw [List.findIdx?_eq_none_iff] at h
  refine .inl ⟨rfl,lastR_none.2 fun q hq=>?_⟩
  obtain ⟨f,hf,_,h3,_⟩:=mem_numR.1 hq
  simpa [h3] using h f hf
 | some k =>
  obtain ⟨hk,hp,_⟩:=List.findIdx?_eq_some_iff_getElem.1 h
  refine .inr ⟨k,bef[k],rfl,List.getElem?_eq_getElem hk,?_⟩
  have hg:bef[k]∈bef:=List.getElem_mem hk
  generalize bef[k]=g at hg hp
  simp only [decide_eq_true_eq] at hp
  cases hl:lastR (numR bef) s with
  | none =>
   rw [if_neg]
   intro hn
   exact lastR_none.1 hl _ (mem_numR.2 ⟨g,hg,hn,hp,rfl⟩)
  | some q =>
   obtain ⟨f,hf,h2,h3,h4⟩:=mem_numR.1 (lastP_mem hl)
   have:=hd.eq hf hg (h3.trans hp.symm)
   subst this
   rw [if_pos h2,h4]
theorem checked_congr {ps ps':List (ByteArray×Value)} {but:ByteArray} {p:Value→Bool}:∀ (ts:List TermD) (no:Bool),(∀ t∈ts,lastOf ps t.field=lastOf ps' t.field)→checkedF but ps p ts no=checkedF but ps' p ts no
 | [],no,_=>rfl
 | t::ts,no,h=>by
  have ih:=fun no=>checked_congr (but:=but) (p:=p) ts no fun t ht=>h t (List.mem_cons_of_mem _ ht)
  simp only [checkedF,h t (List.mem_cons_self ..),ih]
theorem numW_congr {f g:TermD→Int}:∀ (ts:List TermD) (n:Int),(∀ t∈ts,f t=g t)→numW n f ts=numW n g ts
 | [],n,_=>rfl
 | t::ts,n,h=>by
  have ih:=fun n=>numW_congr ts n fun t ht=>h t (List.mem_cons_of_mem _ ht)
  unfold numW at *
  simp only [List.foldl_cons,h t (List.mem_cons_self ..),ih]
theorem iv_congr {base:Int} {ts:List TermD} {rp rp':List (ByteArray×Int×Int)} (h:∀ t∈ts,lastR rp t.field=lastR rp' t.field):intervalE base ts rp=intervalE base ts rp'∧intervalL base ts rp=intervalL base ts rp'∧intervalH base ts rp=intervalH base ts rp':=by
 have he:intervalE base ts rp=intervalE base ts rp':=by
  unfold intervalE
  rw [checked_congr (ps':=RP rp') ts false fun t ht=>by rw [lastOf_RP,lastOf_RP,h t ht]]
 have hl:∀ least,numW base (endF rp least) ts=numW base (endF rp' least) ts:=fun least=>numW_congr ts base fun t ht=>by unfold endF;rw [h t ht]
 unfold intervalL intervalH
 rw [he,hl,hl]
 exact ⟨rfl,rfl,rfl⟩
def termR (rp:List (ByteArray×Int×Int)) (ts:List TermD):List (ByteArray×Int×Int):=ts.map fun t=>(t.field,rngT rp t)
theorem termR_last {rp:List (ByteArray×Int×Int)} {ts:List TermD} (h:∀ t∈ts,(lastR rp t.field).isSome=true) {t:TermD} (ht:t∈ts):lastR (termR rp ts) t.field=lastR rp t.field:=by
 have e:∀ t∈ts,lastR rp t.field=some (rngT rp t):=fun t ht=>by
  have:=h t ht
  unfold rngT
  cases hl:lastR rp t.field with
  | none=>rw [hl] at this;cases this
  | some q=>rfl
 cases hl:lastR (termR rp ts) t.field with
 | none=>exact absurd (List.mem_map.2 ⟨t,ht,rfl⟩) (lastR_none.1 hl (rngT rp t))
 | some q =>
  obtain ⟨u,hu,h2⟩:=List.mem_map.1 (lastP_mem hl)
  injection h2 with h2 h3
  rw [← h3,← e u hu,h2]
theorem namesC_zero {rp:List (ByteArray×Int×Int)}:∀ {ts:List TermD},(∀ t∈ts,(lastR rp t.field).isSome=true)→namesC rp ts=0
 | [],_=>rfl
 | t::ts,h=>by
  simp only [namesC,h t (List.mem_cons_self ..),namesC_zero fun t ht=>h t (List.mem_cons_of_mem _ ht)]
  rfl
theorem namesC_bad {rp:List (ByteArray×Int×Int)}:∀ {ts:List TermD} {t:TermD},t∈ts→lastR rp t.field=none→namesC rp ts=8
 | u::ts,t,ht,h=>by
  simp only [namesC]
  cases hu:(lastR rp u.field).isSome with
  | false=>rfl
  | true =>
   rcases List.mem_cons.1 ht with rfl | ht
   · rw [h] at hu;cases hu
   · rw [namesC_bad ht h];rfl
open Go.Shelf
def sh_lays189_ren:Go.Shelf.Ren:=⟨fun | 189=>83 | 125=>116 | 257=>115 | 128=>144 | 129=>145 | 294=>135 | 295=>136 | 296=>137 | 297=>138 | 298=>139 | 299=>140 | 216=>141 | 300=>142 | 301=>143 | 328=>176 | 329=>177 | 330=>178 | 331=>179 | 332=>180 | 215=>181 | 343=>191 | n=>n,fun | 28=>30 | 3=>3 | 46=>159 | 0=>0 | 51=>186 | 53=>188 | 4=>4 | 183=>179 | 182=>178 | 131=>63 | 5=>5 | 9=>9 | 218=>207 | 222=>211 | 228=>223 | 229=>194 | n=>n,fun | n=>n⟩
theorem sh_lays189:Go.Proofs.Lays.n189 Pg sh_lays189_ren:={
 mixed:=by kernel_rfl
 f125:=Tryz.func116.trans (congrArg some (by kernel_rfl))
 f128:=Tryz.func144.trans (congrArg some (by kernel_rfl))
 f129:=Tryz.func145.trans (congrArg some (by kernel_rfl))
 f189:=Tryz.func83.trans (congrArg some (by kernel_rfl))
 f215:=Tryz.func181.trans (congrArg some (by kernel_rfl))
 f216:=Tryz.func141.trans (congrArg some (by kernel_rfl))
 f257:=Tryz.func115.trans (congrArg some (by kernel_rfl))
 f294:=Tryz.func135.trans (congrArg some (by kernel_rfl))
 f295:=Tryz.func136.trans (congrArg some (by kernel_rfl))
 f296:=Tryz.func137.trans (congrArg some (by kernel_rfl))
 f297:=Tryz.func138.trans (congrArg some (by kernel_rfl))
 f298:=Tryz.func139.trans (congrArg some (by kernel_rfl))
 f299:=Tryz.func140.trans (congrArg some (by kernel_rfl))
 f300:=Tryz.func142.trans (congrArg some (by kernel_rfl))
 f301:=Tryz.func143.trans (congrArg some (by kernel_rfl))
 f328:=Tryz.func176.trans (congrArg some (by kernel_rfl))
 f329:=Tryz.func177.trans (congrArg some (by kernel_rfl))
 f330:=Tryz.func178.trans (congrArg some (by kernel_rfl))
 f331:=Tryz.func179.trans (congrArg some (by kernel_rfl))
 f332:=Tryz.func180.trans (congrArg some (by kernel_rfl))
 f343:=Tryz.func191.trans (congrArg some (by kernel_rfl))
 t0:=Tryz.underlying0
 a0:=Tryz.isAgg0
 z0:=Tryz.sizeOf0
 v0:=Tryz.zeroValue0
 t3:=Tryz.underlying3
 a3:=Tryz.isAgg3
 z3:=Tryz.sizeOf3
 v3:=Tryz.zeroValue3
 t4:=Tryz.underlying4
 a4:=Tryz.isAgg4
 z4:=Tryz.sizeOf4
 v4:=Tryz.zeroValue4
 t5:=Tryz.underlying5
 a5:=Tryz.isAgg5
 z5:=Tryz.sizeOf5
 v5:=Tryz.zeroValue5
 t9:=Tryz.underlying9
 a9:=Tryz.isAgg9
 z9:=Tryz.sizeOf9
 v9:=Tryz.zeroValue9
 t28:=Tryz.underlying30
 a28:=Tryz.isAgg30
 z28:=Tryz.sizeOf30
 v28:=Tryz.zeroValue30
 t46:=Tryz.underlying159
 a46:=Tryz.isAgg159
 z46:=Tryz.sizeOf159
 v46:=Tryz.zeroValue159
 t51:=Tryz.underlying186
 a51:=Tryz.isAgg186
 z51:=Tryz.sizeOf186
 v51:=Tryz.zeroValue186
 t53:=Tryz.underlying188
 a53:=Tryz.isAgg188
 z53:=Tryz.sizeOf188
 v53:=Tryz.zeroValue188
 t131:=Tryz.underlying63
 a131:=Tryz.isAgg63
 z131:=Tryz.sizeOf63
 v131:=Tryz.zeroValue63
 t182:=Tryz.underlying178
 a182:=Tryz.isAgg178
 z182:=Tryz.sizeOf178
 v182:=Tryz.zeroValue178
 t183:=Tryz.underlying179
 a183:=Tryz.isAgg179
 z183:=Tryz.sizeOf179
 v183:=Tryz.zeroValue179
 t218:=Tryz.underlying207
 a218:=Tryz.isAgg207
 z218:=Tryz.sizeOf207
 v218:=Tryz.zeroValue207
 t222:=Tryz.underlying211
 a222:=Tryz.isAgg211
 z222:=Tryz.sizeOf211
 v222:=Tryz.zeroValue211
 t228:=Tryz.underlying223
 a228:=Tryz.isAgg223
 z228:=Tryz.sizeOf223
 v228:=Tryz.zeroValue223
 t229:=Tryz.underlying194
 a229:=Tryz.isAgg194
 z229:=Tryz.sizeOf194
 v229:=Tryz.zeroValue194 }
open Go.Sort Go.RowKit in
theorem sh_slices_Sort_int (blk off cap:Nat) (zs:List Int) (w:World) (hH:Holds (Value.int .i64) w blk off zs.toArray) (hblk:blk < w.heap.size) (hsz:zs.length < 4611686018427387904) :
 Calls Pg 83 #[.slice (some ⟨blk,off,none⟩) zs.length cap] w fun e w' =>
  e = .returned (.tuple #[])∧∃ n os,w'=grow (putRow (Value.int .i64) (Sort.ahead w n) blk off (zs.mergeSort fun x y=>decide (x≤y)).toArray) os:=Any.slices_Sort_int sh_lays189 blk off cap zs w hH hblk hsz
def sh_laysNm220_ren:Go.Shelf.Ren:=⟨fun | 20=>84 | n=>n,fun | 22=>30 | 3=>3 | 4=>4 | 0=>0 | n=>n,fun | n=>n⟩
theorem sh_laysNm220:Go.Proofs.Lays2.n20 Pg sh_laysNm220_ren:={
 mixed:=by kernel_rfl
 f20:=Tryz.func84.trans (congrArg some (by kernel_rfl))
 t0:=Tryz.underlying0
 a0:=Tryz.isAgg0
 z0:=Tryz.sizeOf0
 v0:=Tryz.zeroValue0
 t3:=Tryz.underlying3
 a3:=Tryz.isAgg3
 z3:=Tryz.sizeOf3
 v3:=Tryz.zeroValue3
 t4:=Tryz.underlying4
 a4:=Tryz.isAgg4
 z4:=Tryz.sizeOf4
 v4:=Tryz.zeroValue4
 t22:=Tryz.underlying30
 a22:=Tryz.isAgg30
 z22:=Tryz.sizeOf30
 v22:=Tryz.zeroValue30
 i3:=by kernel_rfl }
open Go.RowKit Go.Lib Go.Sort in
open Go.RowKit Go.Lib Go.Sort in
theorem sh_slices_Compact_int (blk off cap:Nat) (zs:List Int) (w:World) (hH:Holds (Value.int .i64) w blk off zs.toArray) (hsz:zs.length≤9223372036854775807) (hcap:zs.length≤cap) :
 Calls Pg 84 #[.slice (some ⟨blk,off,none⟩) zs.length cap] w fun e w'=>e = .returned (.slice (some ⟨blk,off,none⟩) (Lib.compact zs).length cap)∧∃ q,w'=putRow (Value.int .i64) (Sort.ahead w q) blk off (Lib.compact zs++List.replicate (zs.length - (Lib.compact zs).length) 0).toArray:=Any.slices_Compact_int sh_laysNm220 blk off cap zs w hH hsz hcap
open Go.RowKit Go.Lib Go.Sort in
theorem sh_slices_Compact_int_empty (a:Option Addr) (cap:Nat) (w:World) :
 Calls Pg 84 #[.slice a 0 cap] w fun e w'=>e = .returned (.slice a 0 cap)∧w'=w:=Any.slices_Compact_int_empty sh_laysNm220 a cap w
open Go.RowKit Go.Sort in
theorem sh_slices_Sort_int_none (p:Option Addr) (cap:Nat) (w:World) :
 Calls Pg 83 #[.slice p 0 cap] w fun e w'=>e = .returned (.tuple #[])∧w'=w:=Any.slices_Sort_int_none sh_lays189 p cap w
abbrev encI (n:Int):List Value:=[.int .i64 n]
abbrev RowI (w:World) (base:Nat) (v:Value) (l:List Int):Prop:=OwnE w base 3 1 encI v l
theorem flat_encI (l:List Int):l.flatMap encI=l.map fun n=>Value.int .i64 n:=by
 induction l with
 | nil=>rfl
 | cons x l ih=>rw [List.flatMap_cons,ih];rfl
def Goes (base:Nat) (w w':World):Prop:=w.heap.size≤w'.heap.size∧(∀ a,Ext a w→a.heap.size≤base→Ext a w')∧∀ (k:Nat) (o:Obj),w.heap[k]?=some o→(∀ cs T fr,o ≠ .cells cs T fr)→w'.heap[k]?=some o
theorem Goes.refl (base:Nat) (w:World):Goes base w w:=⟨Nat.le_refl _,fun _ e _=>e,fun _ _ h _=>h⟩
theorem Goes.trans {base:Nat} {w w1 w2:World} (h:Goes base w w1) (k:Goes base w1 w2):Goes base w w2:=⟨Nat.le_trans h.1 k.1,fun a e ha=>k.2.1 a (h.2.1 a e ha) ha,fun q o hq hn=>k.2.2 q o (h.2.2 q o hq hn) hn⟩
theorem Goes.ext {base:Nat} {w w1 w2:World} (h:Goes base w w1) (e:Ext w1 w2):Goes base w w2:=⟨Nat.le_trans h.1 e.size,fun a ea ha=>(h.2.1 a ea ha).trans e,fun q o hq hn=>e.obj (h.2.2 q o hq hn)⟩
theorem Goes.mark {base:Nat} {w w':World} (h:Goes base w w') {B:Nat} (hm:MarkAt B w):MarkAt B w':=h.2.2 _ _ hm (fun _ _ _ e=>by cases e)
theorem Goes.rec {base:Nat} {w w':World} (h:Goes base w w') {r:Loop} {B:Nat} (hm:RecAt r B w):RecAt r B w':=⟨h.mark hm.1,let ⟨st,p,hp⟩:=hm.2; ⟨st,p,h.2.2 _ _ hp (fun _ _ _ e=>by cases e)⟩⟩
theorem Goes.low {base:Nat} {w w':World} (h:Goes base w w') {k:Nat} (hk:k < base) {o:Obj} (ho:w.heap[k]?=some o):w'.heap[k]?=some o:=by
 have hkl:=(Array.getElem?_eq_some_iff.1 ho).1
 have hb:∀ g,g < k+1→(w.heap.extract 0 (k+1))[g]?=w.heap[g]?:=fun g hg=>by
  rw [Array.getElem?_extract]
  simp only [Nat.zero_add]
  rw [if_pos (by omega)]
 have hs:(w.heap.extract 0 (k+1)).size=k+1:=by rw [Array.size_extract];omega
 have ea:Ext { w with heap:=w.heap.extract 0 (k+1) } w:=⟨rfl,rfl,rfl,by show (w.heap.extract 0 (k+1)).size≤_;omega,fun g hg=>(hb g (by rw [← hs];exact hg)).symm⟩
 have:=h.2.1 _ ea (by show (w.heap.extract 0 (k+1)).size≤base;omega)
 exact this.obj ((hb k (Nat.lt_succ_self _)).trans ho)
theorem own_type {w:World} {base:Nat} {v:Value} {l:List Int} (h:RowI w base v l) {g:Nat} (hg:v.ownBlock=some g):∃ cur,w.heap[g]?=some (.cells cur 3 (0,0)):=by
 rcases h.2 with ⟨rfl,_⟩ | ⟨g',cap,cur,rfl,_,h3,_⟩
 · cases hg
 · injection hg with hg;subst hg;exact ⟨cur,h3⟩
theorem goes_grown {α:Type} {base n:Nat} {T:TypeId} {enc:α→List Value} {w w':World} {v:Value} {l:List α} (h:OwnE w base T n enc v l) (hg:w.grownBy w' v.ownBlock):Goes base w w':=by
 refine ⟨hg.size,fun a e ha=>e.grown hg fun k hk=>Nat.le_trans ha ((World.ownsRow.lt h k hk).1),fun q o hq hn=>(hg.block q (Array.getElem?_eq_some_iff.1 hq).1 fun e=>?_).trans hq⟩
 rcases h.2 with ⟨rfl,_⟩ | ⟨g',cap,cur,rfl,_,h3,_⟩
 · cases e
 · injection e with e;subst e;rw [hq] at h3;injection h3 with h3;exact hn _ _ _ h3
theorem put_own {w:World} {base g cap:Nat} {l l':List Int} (h:RowI w base (.slice (some ⟨g,0,none⟩) l.length cap) l) (hl:l'.length=l.length) (n:Nat) (os:Array Obj) :
 RowI (Sort.grow (Sort.putRow (Value.int .i64) (Sort.ahead w n) g 0 l'.toArray) os) base (.slice (some ⟨g,0,none⟩) l.length cap) l'∧Goes base w (Sort.grow (Sort.putRow (Value.int .i64) (Sort.ahead w n) g 0 l'.toArray) os):=by
 rcases h.2 with ⟨h0,_⟩ | ⟨g',cap',cur,h1,hb,hg,hc,hm,hs,ht⟩
 · cases h0
 injection h1 with h1 h1' h1''
 injection h1 with h1
 injection h1 with h1
 subst h1 h1''
 have hlt:=(Array.getElem?_eq_some_iff.1 hg).1
 have hkeep:∀ k,k < w.heap.size→k≠g→(Sort.grow (Sort.putRow (Value.int .i64) (Sort.ahead w n) g 0 l'.toArray) os).heap[k]?=w.heap[k]?:=by
  intro k hk hne
  unfold Sort.grow Sort.putRow Sort.mapBlock Sort.ahead
  dsimp only
  rw [Array.getElem?_append_left (by simpa using hk),Array.getElem?_modify,if_neg (Ne.symm hne)]
 have hrow:(Sort.grow (Sort.putRow (Value.int .i64) (Sort.ahead w n) g 0 l'.toArray) os).heap[g]?=some (.cells (Sort.putCells (Value.int .i64) 0 l'.toArray cur) 3 (0,0)):=by
  unfold Sort.grow Sort.putRow Sort.mapBlock Sort.ahead
  dsimp only
  rw [Array.getElem?_append_left (by simpa using hlt),Array.getElem?_modify,if_pos rfl,hg]
  rfl
 have hsz:w.heap.size≤(Sort.grow (Sort.putRow (Value.int .i64) (Sort.ahead w n) g 0 l'.toArray) os).heap.size:=by
  unfold Sort.grow Sort.putRow Sort.mapBlock Sort.ahead
  simp
 refine ⟨⟨by rw [flat_encI,List.length_map,Nat.mul_one],.inr ⟨g,cap,_,by rw [hl],hb,hrow,by rw [hl];exact hc,hm,by unfold Sort.putCells;rw [Array.size_mapIdx];exact hs,?_⟩⟩,hsz,fun a e ha=>⟨e.os,e.tape,e.output,Nat.le_trans e.size hsz,fun k hk=>(hkeep k (Nat.lt_of_lt_of_le hk e.size) (by omega)).trans (e.block k hk)⟩,fun q o hq hn=>(hkeep q (Array.getElem?_eq_some_iff.1 hq).1 (by rintro rfl;rw [hg] at hq;injection hq with hq;exact hn _ _ _ hq.symm)).trans hq⟩
 rw [flat_encI]
 apply List.ext_getElem?
 intro k
 rw [List.getElem?_take,List.getElem?_map]
 by_cases hk:k < l'.length
 · rw [if_pos (by omega),Array.getElem?_toList]
   unfold Sort.putCells
   rw [Array.getElem?_mapIdx]
   have hkc:k < cur.size:=by rw [hs,Nat.mul_one];omega
   rw [Array.getElem?_eq_getElem hkc,List.getElem?_eq_getElem hk]
   simp only [Option.map_some,List.size_toArray]
   rw [if_pos ⟨Nat.zero_le _,by omega⟩,Nat.sub_zero,getElem!_pos _ k (by simpa using hk)]
   simp
 · rw [if_neg (by omega),List.getElem?_eq_none (by omega)]
   rfl
theorem own_front {w:World} {base g cap:Nat} {l r:List Int} {n:Nat} (h:RowI w base (.slice (some ⟨g,0,none⟩) n cap) (l++r)):RowI w base (.slice (some ⟨g,0,none⟩) l.length cap) l:=by
 rcases h.2 with ⟨h0,_⟩ | ⟨g',cap',cur,h1,hb,hg,hc,hm,hs,ht⟩
 · cases h0
 injection h1 with h1 h1' h1''
 injection h1 with h1
 injection h1 with h1
 subst h1 h1''
 refine ⟨by rw [flat_encI,List.length_map,Nat.mul_one],.inr ⟨g,cap,cur,rfl,hb,hg,by rw [List.length_append] at hc;omega,hm,hs,?_⟩⟩
 rw [flat_encI,Nat.mul_one] at *
 rw [List.map_append] at ht
 have:=congrArg (List.take l.length) ht
 rw [List.take_take,List.length_append,Nat.min_eq_left (by omega),List.take_append_of_le_length (by simp)] at this
 rw [this,List.take_of_length_le (by simp)]
theorem own_holds {w:World} {base g cap n:Nat} {l:List Int} (h:RowI w base (.slice (some ⟨g,0,none⟩) n cap) l):g < w.heap.size∧l.length≤cap∧cap≤9223372036854775807∧Sort.Holds (Value.int .i64) w g 0 l.toArray:=by
 rcases h.2 with ⟨h0,_⟩ | ⟨g',cap',cur,h1,hb,hg,hc,hm,hs,ht⟩
 · cases h0
 injection h1 with h1 h1' h1''
 injection h1 with h1
 injection h1 with h1
 subst h1 h1''
 refine ⟨(Array.getElem?_eq_some_iff.1 hg).1,hc,by simp only [maxLen] at hm;omega,fun j hj=>⟨?_,(cells_of_heap hg).2 _⟩⟩
 have hj':j < l.length:=by simpa using hj
 rw [(cells_of_heap hg).1,Nat.zero_add,getElem!_pos _ j hj]
 rw [flat_encI,Nat.mul_one] at ht
 have:=congrArg (fun x:List Value=>x[j]?) ht
 rw [List.getElem?_take,if_pos hj',List.getElem?_map,List.getElem?_eq_getElem hj',Array.getElem?_toList] at this
 simpa using this
theorem Sort_ret {w:World} {base:Nat} {v:Value} {l:List Int} (h:RowI w base v l) (hl:l.length≤1048576):Ret Pg 83 #[v] w fun r w'=>r = .tuple #[]∧RowI w' base v (l.mergeSort fun x y=>decide (x≤y))∧Goes base w w':=by
 rcases h.2 with ⟨rfl,h0⟩ | ⟨g,cap,cur,rfl,hb,hg,hc,hm,hs,ht⟩
 · obtain rfl:l=[]:=List.eq_nil_of_length_eq_zero h0
   refine Calls.mono (sh_slices_Sort_int_none none 0 w) ?_
   rintro e w' ⟨rfl,rfl⟩
   exact ⟨_,rfl,rfl,by rw [List.mergeSort_nil];exact h,Goes.refl _ _⟩
 · obtain ⟨a1,a2,a3,a4⟩:=own_holds h
   refine Calls.mono (sh_slices_Sort_int g 0 cap l w a4 a1 (by omega)) ?_
   rintro e w' ⟨rfl,n,os,rfl⟩
   have:=put_own h (l':=l.mergeSort fun x y=>decide (x≤y)) (List.length_mergeSort _) n os
   exact ⟨_,rfl,rfl,this.1,this.2⟩
theorem Compact_ret {w:World} {base:Nat} {v:Value} {l:List Int} (h:RowI w base v l) (hl:l.length≤1048576):Ret Pg 84 #[v] w fun r w'=>RowI w' base r (Go.Lib.compact l)∧Goes base w w':=by
 rcases h.2 with ⟨rfl,h0⟩ | ⟨g,cap,cur,rfl,hb,hg,hc,hm,hs,ht⟩
 · obtain rfl:l=[]:=List.eq_nil_of_length_eq_zero h0
   refine Calls.mono (sh_slices_Compact_int_empty none 0 w) ?_
   rintro e w' ⟨rfl,rfl⟩
   exact ⟨_,rfl,h,Goes.refl _ _⟩
 · obtain ⟨a1,a2,a3,a4⟩:=own_holds h
   refine Calls.mono (sh_slices_Compact_int g 0 cap l w a4 (by omega) a2) ?_
   rintro e w' ⟨rfl,q,rfl⟩
   have hcl:(Go.Lib.compact l).length≤l.length:=by
    unfold Go.Lib.compact Go.Lib.compactUpTo
    rw [List.length_map]
    exact Nat.le_trans (List.length_filter_le _ _) (by simp)
   have:=put_own h (l':=Go.Lib.compact l++List.replicate (l.length - (Go.Lib.compact l).length) 0) (by simp;omega) q #[]
   rw [Sort.grow_empty] at this
   exact ⟨_,rfl,own_front this.1,this.2⟩
theorem RowI.ints {w:World} {base:Nat} {v:Value} {l:List Int} (h:RowI w base v l):SliceOf w 1 EInt v l:=h.slice (fun _=>rfl) (fun _ _=>rfl)
def n103c1 (t2 t7 t9:Value) (next1:KW) (R:RT) (w:World):Prop :=
 X0 43 t7 t9 R w fun t11 w =>
 L0 62 t11 R w fun t12 w =>
 opV Pg (Instr.alloc 62 true (.tuple #[])) (panK R) w fun t4 w =>
 opU Pg (Instr.storeAt 62 t4 t12) (panK R) w fun w =>
 F0 62 t4 0 R w fun t14 w =>
 L0 9 t14 R w fun t15 w =>
 opV Pg (Instr.buildSlice 82 1 #[(0,t15)]) (panK R) w fun t16 w =>
 opV Pg (Builtin.append_ #[82,82] 82 #[t2,t16]) (panK R) w fun t17 w =>
 B0 .add 3 true t9 (.int .i64 1) R w fun t18 w =>
 next1 t17 t18 w
def n103 (t0:Value) (R:RT) (w:World):Prop :=
 opV Pg (Instr.box 48 t0) (panK R) w fun t1 w =>
 F0 48 t1 7 R w fun t5 w =>
 F0 45 t5 1 R w fun t6 w =>
 L0 43 t6 R w fun t7 w =>
 opV Pg (Builtin.len_ #[43] 3 #[t7]) (panK R) w fun t8 w =>
 loop2 (fun t2 t9 w next1 =>
 B0 .lss 3 false t9 t8 R w fun t10 w =>
 condP t10 (
 n103c1 t2 t7 t9 next1 R w) (
 R (.returned t2) w)) (Value.slice none 0 0) (.int .i64 0) w
theorem n103s {t0:Value} {R:RT} {w:World} (h:n103 t0 R w):Calls Pg 110 #[t0] w R:=by
 refine yD Tryz.func110 ?_
 refine zs<|zr<|yv h fun _ w h=>zm<|zn<|zk<|zs<|zs<|zr<|yv h fun _ w h=>yv h fun _ w h=>yv h fun _ w h=>yx h fun _ w h=>zm<|zn ?_
 refine zk<|sim_block<|yl2 [2,4,9,10,11,12,13,14,15,16,17,18] 2 9 h fun σ w next h=>zs<|zr<|yb h fun _ w h=>zn<|zk<|zs<|yC h (fun h=>?_) fun h=>?_
 · refine sim_skip<|zk<|zs<|sim_block<|zs<|zr<|yv h fun _ w h=>yv h fun _ w h=>yv h fun _ w h=>yu h fun w h=>zn<|zk<|zr<|zm<|yv h fun _ w h=>?_
   exact yv h fun _ w h=>yS h fun _ w h=>yx h fun _ w h=>zm<|zn<|sim_block_normal<|zk<|zr<|yb h fun _ w h=>zm<|zn<|zk<|⟨rfl,h⟩
 exact sim_exit<|sim_then_exit<|sim_then_exit<|sim_block_hit<|zk<|zs<|zr<|zm<|zm<|zn<|zk<|sim_ret<|body_ret1 rfl rfl h
def n104 (t0:Value) (R:RT) (w:World):Prop :=
 opV Pg (Instr.box 48 t0) (panK R) w fun t1 w =>
 F0 48 t1 9 R w fun t3 w =>
 L0 9 t3 R w fun t4 w =>
 opV Pg (Instr.buildSlice 82 1 #[(0,t4)]) (panK R) w fun t5 w =>
 R (.returned t5) w
theorem n104s {t0:Value} {R:RT} {w:World} (h:n104 t0 R w):Calls Pg 111 #[t0] w R:=by
 refine yD Tryz.func111 ?_
 refine zs<|zr<|yv h fun _ w h=>zm<|zn<|zk<|zs<|zr<|yv h fun _ w h=>yv h fun _ w h=>yS h fun _ w h=>zm<|zn<|zk<|sim_ret ?_
 exact body_ret1 rfl rfl h
theorem append_int {w:World} {QP:List PanicEntry→World→Prop} {k:Value→World→Prop} {base b:Nat} {v:Value} {l:List Int} (n:Int) (h:RowI w base v l) (hc:w.cell? ⟨b,0,none⟩=some (.int .i64 n)) (hb:base≤w.heap.size) (hl:l.length≤1048576) (hk:∀ v' w',RowI w' base v' (l++[n])→Goes base w w'→k v' w') :
 opV Pg (Builtin.append_ #[30,30] 30 #[v,.slice (some ⟨b,0,none⟩) 1 1]) QP w k:=by
 refine op_appendE (l':=[n]) Tryz.underlying30 ty3 rfl (by decide) (fun _=>rfl) (fun x hx u hu=>?_) h (fun j x hx=>?_) hb ?_ (by simp;omega) (fun v' w' ho hg=>hk v' w' ho (goes_grown h hg))
 · simp at hu;subst hu;rfl
 · cases j with
   | zero=>simp at hx;subst hx;intro i u hu;cases i with
    | zero=>injection hu with hu;subst hu;simpa using hc
    | succ i=>cases hu
   | succ j=>cases hx
 · exact Nat.le_trans (Nat.mul_le_mul (show l.length+[n].length≤1048577 by simp;omega) by3) (by decide)
theorem append_str' {w:World} {QP:List PanicEntry→World→Prop} {k:Value→World→Prop} {base b:Nat} {v:Value} {l:List ByteArray} (s:ByteArray) (h:OwnE w base 9 1 strEnc v l) (hc:w.cell? ⟨b,0,none⟩=some (.string s)) (hb:base≤w.heap.size) (hl:l.length≤1048576) (hk:∀ v' w',OwnE w' base 9 1 strEnc v' (l++[s])→Goes base w w'→k v' w') :
 opV Pg (Builtin.append_ #[82,82] 82 #[v,.slice (some ⟨b,0,none⟩) 1 1]) QP w k :=
 append_str s h hc hb hl fun v' w' ho hg=>hk v' w' ho (goes_grown h hg)
def Names (g:FuncId) (ns:FieldD→List ByteArray):Prop:=∀ (w:World) (v:Value) (f:FieldD),FieldVal w v f→f.terms.length≤1048576→Ret Pg g #[v] w fun r w'=>SliceOf w' 1 EStr r (ns f)∧Ext w w'
theorem uses1_names:Names 110 (fun f=>f.terms.map (·.field)):=by
 intro w0 v f hf hl
 obtain ⟨tv,cv,rfl,hT,hC⟩:=hf
 have ht1:=SliceOf.oneCell hT
 have hc1:=SliceOf.oneCell hC
 obtain ⟨A,c,rfl,hlc,hcm,hlm,hel⟩:=SliceOf.open hT
 refine n103s (R:=retR _) ?_;unfold n103
 rw [op_boxA]
 have hBW:=ElemAt.new (w:=w0) (fieldCells f (.slice A f.terms.length c) cv) (48)
 have eW:Ext w0 (w0.alloc (Obj.cells (List.toArray (fieldCells f (.slice A f.terms.length c) cv)) (48))):=(Ext.refl _).alloc _
 generalize (w0.alloc (Obj.cells (List.toArray (fieldCells f (.slice A f.terms.length c) cv)) (48)))=W at hBW eW ⊢
 simp (disch:=try exact DI) only [↓PR,QR,simprocAttr,hBW.c15 (Ext.refl W)]
 have hs:=eW.size
 refine loop2_intro (fun a0 a1 w=>∃ (k:Nat) (sv:Value),a0=sv∧a1 = .int .i64 (k:Int)∧k≤f.terms.length∧Ext w0 w∧OwnE w W.heap.size 9 1 strEnc sv ((f.terms.take k).map (·.field))∧W.heap.size≤w.heap.size) (fun a0 a1 _=>f.terms.length - (intOf a1).toNat) ⟨0,.slice none 0 0,rfl,rfl,Nat.zero_le _,ee,⟨OwnE.nil _ _ _ _ _,Nat.le_refl _⟩⟩ ?_
 rintro _ _ w ⟨k,sv,rfl,rfl,hk,e,hI⟩
 have se:=e.size
 rcases drop_cases hk with ⟨x,hx,hd,hlt,hdec⟩ | ⟨hk,hd,hdec⟩
 · obtain ⟨hO,hs1⟩:=hI
   obtain ⟨b,o,cs,rfl,hl',hA,rfl⟩:=hel k x hx
   simp (disch:=try exact DI) only [↓PR,QR,simprocAttr,hdec,↓n103c1,hA.c2 e]
   generalize hV:World.alloc (World.alloc w _) _=V
   have eV:Ext w V:=by rw [← hV];exact ee
   have oV:V.heap[w.heap.size+1]?=some (.cells #[.string x.field] 9 (0,0)):=by rw [← hV];simp (disch:=try exact DI) only [↓PR,QR,simprocAttr]
   have sV:=eV.size
   clear hV
   refine append_str' x.field (hO.ext eV) (by rw [(cells_of_heap oV).1];rfl) (by omega) (by simp;omega) ?_
   intro v' w' hO' hg
   have e':=hg.2.1 w0 (e.trans eV) eW.size
   have s':=hg.1
   simp (disch:=try exact DI) only [↓PR,QR,simprocAttr]
   exact ⟨⟨k+1,v',rfl,rfl,by omega,ee,⟨by rw [take_snoc hx,List.map_append];exact hO',by omega⟩⟩,meas_lt (kd := .i64) hlt⟩
 · obtain ⟨hO,hs1⟩:=hI
   subst hk
   simp (disch:=try exact DI) only [↓PR,QR,simprocAttr,hdec]
   rw [List.take_length] at hO
   exact ⟨hO.slice (fun _=>rfl) (fun _ _=>rfl),e⟩
theorem uses2_names:Names 111 (fun f=>[f.tag]):=by
 intro w0 v f hf hl
 obtain ⟨tv,cv,rfl,hT,hC⟩:=hf
 have ht1:=SliceOf.oneCell hT
 have hc1:=SliceOf.oneCell hC
 refine n104s (R:=retR _) ?_;unfold n104
 simp (disch:=try exact DI) only [↓PR,QR,simprocAttr]
 refine ⟨?_,ee⟩
 have:=SliceOf.new1 (E:=EStr) (fun s=>Value.string s) (fun _ _=>rfl) (w0.alloc (.cells (fieldCells f tv cv).toArray 48)) [f.tag] 9 (by simp)
 simpa using this
theorem uses3_names:Names 112 (fun f=>[f.fr]):=by
 intro w0 v f hf hl
 obtain ⟨tv,cv,rfl,hT,hC⟩:=hf
 have ht1:=SliceOf.oneCell hT
 have hc1:=SliceOf.oneCell hC
 refine n105s (R:=retR _) ?_;unfold n105
 simp (disch:=try exact DI) only [↓PR,QR,simprocAttr]
 refine ⟨?_,ee⟩
 have:=SliceOf.new1 (E:=EStr) (fun s=>Value.string s) (fun _ _=>rfl) (w0.alloc (.cells (fieldCells f tv cv).toArray 48)) [f.fr] 9 (by simp)
 simpa using this
def UsesIn (L:List (Int×Value×Nat)):Prop:=(∀ k,¬ (k=4∨k=7∨k=12∨k=9∨k=11)→Sw.look L k=none)∧(∀ k,k=4∨k=7∨k=12→Sw.look L k=some (.func (.func 110) #[] #[]))∧Sw.look L 9=some (.func (.func 111) #[] #[])∧Sw.look L 11=some (.func (.func 112) #[] #[])
theorem use_step {w0 w:World} {m c:Nat} {L:List (Int×Value×Nat)} {QP:List PanicEntry→World→Prop} {ku:World→Prop} (hM:MapB w m kindEnc L c) (e:Ext w0 w) (hm:w0.heap.size≤m) (k:Int) (v:Value)
 (h:∀ w' L' c',MapB w' m kindEnc L' c'→(∀ k',Sw.look L' k'=if k'=k then some v else Sw.look L k')→Ext w0 w'→ku w'):opU Pg (Instr.mapUpdate 128 (.map (some m)) (.int .i64 k) v) QP w ku:=by
 rw [op_mapUpdate Tryz.underlying128 (KeyOK.int Tryz.underlying42) hM k v]
 exact h _ _ _ (hM.put k v) (fun k'=>look_put _ _ _ _ _) (e.putObj hm _)
theorem uses_ret (w0:World):Ret Pg 81 #[] w0 fun r w'=>∃ m L c,r = .map (some m)∧w0.heap.size≤m∧MapB w' m kindEnc L c∧UsesIn L∧Ext w0 w':=by
 refine n102s (R:=retR _) ?_;unfold n102
 simp (disch:=try exact DI) only [↓PR,QR,simprocAttr]
 have hM0:MapB (w0.alloc (.map #[] 0)) w0.heap.size kindEnc [] 0:=MapB.new w0 _
 have e0:Ext w0 (w0.alloc (.map #[] 0)):=ee
 refine use_step hM0 e0 (Nat.le_refl _) 4 _ (fun w1 L1 c1 hM1 hl1 e1=>?_)
 simp (disch:=try exact DI) only [↓PR,QR,simprocAttr]
 refine use_step hM1 e1 (Nat.le_refl _) 7 _ (fun w2 L2 c2 hM2 hl2 e2=>?_)
 simp (disch:=try exact DI) only [↓PR,QR,simprocAttr]
 refine use_step hM2 e2 (Nat.le_refl _) 12 _ (fun w3 L3 c3 hM3 hl3 e3=>?_)
 simp (disch:=try exact DI) only [↓PR,QR,simprocAttr]
 refine use_step hM3 e3 (Nat.le_refl _) 9 _ (fun w4 L4 c4 hM4 hl4 e4=>?_)
 simp (disch:=try exact DI) only [↓PR,QR,simprocAttr]
 refine use_step hM4 e4 (Nat.le_refl _) 11 _ (fun w5 L5 c5 hM5 hl5 e5=>?_)
 simp (disch:=try exact DI) only [↓PR,QR,simprocAttr]
 have hn:∀ k,Sw.look ([]:List (Int×Value×Nat)) k=none:=fun _=>rfl
 refine ⟨_,_,_,rfl,Nat.le_refl _,hM5,⟨fun k hk=>?_,fun k hk=>?_,?_,?_⟩,e5⟩
 · rw [hl5,if_neg (by omega),hl4,if_neg (by omega),hl3,if_neg (by omega),hl2,if_neg (by omega),hl1,if_neg (by omega),hn]
 · rcases hk with rfl | rfl | rfl
   · rw [hl5,if_neg (by decide),hl4,if_neg (by decide),hl3,if_neg (by decide),hl2,if_neg (by decide),hl1,if_pos rfl]
   · rw [hl5,if_neg (by decide),hl4,if_neg (by decide),hl3,if_neg (by decide),hl2,if_pos rfl]
   · rw [hl5,if_neg (by decide),hl4,if_neg (by decide),hl3,if_pos rfl]
 · rw [hl5,if_neg (by decide),hl4,if_pos rfl]
 · rw [hl5,if_pos rfl]
theorem where_Field_ret (w0:World) (v:Value) (l:List FieldD) (g:FuncId) (caps:Array Value) (p:Nat→Bool) (hs:FieldsOf w0 v l) (hl:l.length≤1048576) (hg:Callable Pg g)
 (hc:∀ (w:World) (i:Nat) (x:FieldD) (u:Value),l[i]?=some x→Ext w0 w→FieldVal w u x→Ret Pg g (#[.int .i64 (i:Int),u]++caps) w fun r w'=>r = .bool (p i)∧Ext w w') :
 Ret Pg 41 #[v,.func (.func g) #[] caps] w0 fun r w'=>RowI w' w0.heap.size r (selP l.length p)∧Ext w0 w':=by
 obtain ⟨A,c,rfl,hlc,hcm,hlm,hel⟩:=SliceOf.open hs
 refine n106s (R:=retR _) ?_;unfold n106
 simp (disch:=try exact DI) only [↓PR,QR,simprocAttr]
 refine loop2_intro (fun a0 a1 w=>∃ (k:Nat) (sv:Value),a0=sv∧a1 = .int .i64 (k:Int)∧k≤l.length∧Ext w0 w∧RowI w w0.heap.size sv (selP k p)) (fun a0 a1 _=>l.length - (intOf a1).toNat) ⟨0,.slice none 0 0,rfl,rfl,Nat.zero_le _,ee,OwnE.nil _ _ _ _ _⟩ ?_
 rintro _ _ w ⟨k,sv,rfl,rfl,hk,e,hI⟩
 have se:=e.size
 rcases drop_cases hk with ⟨x,hx,hd,hlt,hdec⟩ | ⟨hk,hd,hdec⟩
 · obtain ⟨b,o,cs,rfl,hl',hA,hE⟩:=hel k x hx
   obtain ⟨tv,cv,rfl,hT,hC,ht1,hc1⟩:=hE.op
   simp (disch:=try exact DI) only [↓PR,QR,simprocAttr,hdec,↓n106c2,hA.c15 e]
   generalize hV:World.alloc w _=V
   have eV:Ext w V:=by rw [← hV];exact ee
   have sV:=eV.size
   clear hV
   rw [callV_func hg]
   simp only [Array.empty_append]
   refine zcr (hc V k x _ hx (e.trans eV) ⟨tv,cv,rfl,TermsOf.ext hT (e.trans eV),CasesOf.ext hC (e.trans eV)⟩) fun w2 e2=>?_
   have e02:=e.trans (eV.trans e2)
   have hR:=hI.ext (eV.trans e2)
   have hss:=sel_succ k p
   have hsl:=sel_len k p
   cases hp:p k with
   | false =>
    rw [hp] at hss
    simp only [Bool.false_eq_true,if_false,List.append_nil] at hss
    simp (disch:=try exact DI) only [↓PR,QR,simprocAttr,↓n106c1]
    exact ⟨⟨k+1,_,rfl,rfl,by omega,ee,by rw [hss];exact hR⟩,meas_lt (kd := .i64) hlt⟩
   | true =>
    rw [hp] at hss
    simp only [if_true] at hss
    simp (disch:=try exact DI) only [↓PR,QR,simprocAttr,↓n106c1]
    generalize hY:World.alloc w2 _=Y
    have eY:Ext w2 Y:=by rw [← hY];exact ee
    have oY:Y.heap[w2.heap.size]?=some (.cells #[.int .i64 (k:Int)] 3 (0,0)):=by rw [← hY];exact heap_new _ _ _
    clear hY
    refine append_int (k:Int) (hR.ext eY) (by rw [(cells_of_heap oY).1];rfl) (e02.trans eY).size (by omega) ?_
    intro v' w' hO' hg'
    have e':=hg'.2.1 w0 (e02.trans eY) (Nat.le_refl _)
    simp (disch:=try exact DI) only [↓PR,QR,simprocAttr]
    exact ⟨⟨k+1,v',rfl,rfl,by omega,ee,by rw [hss];exact hO'⟩,meas_lt (kd := .i64) hlt⟩
 · subst hk
   simp (disch:=try exact DI) only [↓PR,QR,simprocAttr,hdec]
   exact ⟨hI,e⟩
structure Save (lo hi:Nat) (w w':World):Prop where
 os:w'.os=w.os
 tape:w'.tape=w.tape
 output:w'.output=w.output
 size:w.heap.size≤w'.heap.size
 block:∀ k,k < w.heap.size→(k < lo∨hi≤k)→w'.heap[k]?=w.heap[k]?
section
variable {lo hi:Nat} {w w' w1 w2:World}
theorem Save.refl (lo hi:Nat) (w:World):Save lo hi w w:=⟨rfl,rfl,rfl,Nat.le_refl _,fun _ _ _=>rfl⟩
theorem Save.ext (h:Save lo hi w w1) (e:Ext w1 w2):Save lo hi w w2:=⟨e.os.trans h.os,e.tape.trans h.tape,e.output.trans h.output,Nat.le_trans h.size e.size,fun k hk hb=>(e.block k (Nat.lt_of_lt_of_le hk h.size)).trans (h.block k hk hb)⟩
theorem Save.trans (h:Save lo hi w w1) (k:Save lo hi w1 w2):Save lo hi w w2:=⟨k.os.trans h.os,k.tape.trans h.tape,k.output.trans h.output,Nat.le_trans h.size k.size,fun i hi' hb=>(k.block i (Nat.lt_of_lt_of_le hi' h.size) hb).trans (h.block i hi' hb)⟩
theorem Save.setCell (h:Save lo hi w w1) {b o:Nat} (h1:lo≤b) (h2:b < hi) (v:Value):Save lo hi w (w1.setCell ⟨b,o,none⟩ v) :=
 ⟨h.os,h.tape,h.output,by rw [World.size_setCell];exact h.size,fun k hk hb=>(Only.setCell w1 b o v k (by omega)).trans (h.block k hk hb)⟩
theorem Save.to_ext {a:World} (h:Save lo hi w w') (e:Ext a w) (hl:a.heap.size≤lo):Ext a w':=⟨h.os.trans e.os,h.tape.trans e.tape,h.output.trans e.output,Nat.le_trans e.size h.size,fun k hk=>(h.block k (Nat.lt_of_lt_of_le hk e.size) (.inl (by omega))).trans (e.block k hk)⟩
theorem Save.obj (h:Save lo hi w w') {b:Nat} {o:Obj} (hb:w.heap[b]?=some o) (hr:b < lo∨hi≤b):w'.heap[b]?=some o:=(h.block b (Array.getElem?_eq_some_iff.1 hb).1 hr).trans hb
theorem Save.cell (h:Save lo hi w w') {b o:Nat} {v:Value} (hb:w.cell? ⟨b,o,none⟩=some v) (hr:b < lo∨hi≤b):w'.cell? ⟨b,o,none⟩=some v:=(World.cell?_of_block (h.block b (World.block_lt_of_cell? w _ hb) hr)).trans hb
theorem Save.strs (h:Save lo hi w w') {pb:Nat} {sv:Value} {l:List ByteArray} (hs:StrsAt w pb sv l) (hp:hi≤pb):StrsAt w' pb sv l:=by
 obtain ⟨h1,⟨A,c,hv,h2,h3,h4⟩,h5⟩:=hs
 refine ⟨h.cell h1 (.inr hp),⟨A,c,hv,h2,h3,fun hne=>?_⟩,h5⟩
 obtain ⟨b,o,hA,hel⟩:=h4 hne
 refine ⟨b,o,hA,fun k x hx=>?_⟩
 obtain ⟨cs,a1,a2,a3⟩:=hel k x hx
 have hb:pb < b:=h5 ⟨b,o,none⟩ _ _ (by rw [hv,hA])
 exact ⟨cs,a1,fun j v hv=>h.cell (a2 j v hv) (.inr (by omega)),a3⟩
def ShapeC (w:World) (lo hi:Nat) (cv:Value):Prop:=cv = .slice none 0 0∨∃ g len cap cur,cv = .slice (some ⟨g,0,none⟩) len cap∧lo≤g∧g < hi∧w.heap[g]?=some (.cells cur TC (0,0))∧len*3≤cur.size∧len≤1048576
def ShapeF (w:World) (lo hi:Nat) (fv:Value) (n:Nat):Prop:=(fv = .slice none 0 0∧n=0)∨∃ g cap cur,fv = .slice (some ⟨g,0,none⟩) n cap∧lo≤g∧g < hi∧w.heap[g]?=some (.cells cur TF (0,0))∧n*15≤cur.size∧∀ k,k < n→∃ cv,cur[k*15+12]?=some cv∧ShapeC w lo hi cv
theorem ShapeC.set {cv:Value} (h:ShapeC w lo hi cv) (b o:Nat) (v:Value):ShapeC (w.setCell ⟨b,o,none⟩ v) lo hi cv:=by
 rcases h with h | ⟨g,len,cap,cur,h1,h2,h3,h4,h5,h6⟩
 · exact .inl h
 · by_cases e:g=b
   · subst e
     exact .inr ⟨g,len,cap,_,h1,h2,h3,heap_set h4 v,by simpa using h5,h6⟩
   · exact .inr ⟨g,len,cap,cur,h1,h2,h3,(Only.setCell w b o v g e).trans h4,h5,h6⟩
theorem ShapeC.ext {cv:Value} (h:ShapeC w lo hi cv) (e:Ext w w'):ShapeC w' lo hi cv:=by
 rcases h with h | ⟨g,len,cap,cur,h1,h2,h3,h4,h5,h6⟩
 · exact .inl h
 · exact .inr ⟨g,len,cap,cur,h1,h2,h3,e.obj h4,h5,h6⟩
theorem ShapeF.ext {fv:Value} {n:Nat} (h:ShapeF w lo hi fv n) (e:Ext w w'):ShapeF w' lo hi fv n:=by
 rcases h with h | ⟨g,cap,cur,h1,h2,h3,h4,h5,h6⟩
 · exact .inl h
 · exact .inr ⟨g,cap,cur,h1,h2,h3,e.obj h4,h5,fun k hk=>let ⟨cv,a,b⟩:=h6 k hk; ⟨cv,a,b.ext e⟩⟩
theorem ShapeF.set {fv:Value} {n:Nat} (h:ShapeF w lo hi fv n) (b o:Nat) (v:Value) (ho:∀ T cur,w.heap[b]?=some (.cells cur T (0,0))→T=TF→o % 15≠12):ShapeF (w.setCell ⟨b,o,none⟩ v) lo hi fv n:=by
 rcases h with h | ⟨g,cap,cur,h1,h2,h3,h4,h5,h6⟩
 · exact .inl h
 · by_cases e:g=b
   · subst e
     refine .inr ⟨g,cap,_,h1,h2,h3,heap_set h4 v,by simpa using h5,fun k hk=>?_⟩
     obtain ⟨cv,a,hc⟩:=h6 k hk
     have:=ho _ _ h4 rfl
     refine ⟨cv,?_,hc.set _ _ _⟩
     rw [Array.getElem?_setIfInBounds_ne (by omega)]
     exact a
   · exact .inr ⟨g,cap,cur,h1,h2,h3,(Only.setCell w b o v g e).trans h4,h5,fun k hk=>let ⟨cv,a,c⟩:=h6 k hk; ⟨cv,a,c.set _ _ _⟩⟩
end
def Away (w:World) (lo2 hi2 lo hi:Nat) (Ts:List TypeId):Prop:=hi2≤lo∨hi≤lo2∨hi=lo+1∧∃ T',TypeAt w lo T'∧∀ T∈Ts,T'≠T
section
variable {w w':World} {lo hi lo2 hi2:Nat}
theorem Away.sub {Ts Ts':List TypeId} (h:Away w lo2 hi2 lo hi Ts) (hs:∀ T∈Ts',T∈Ts):Away w lo2 hi2 lo hi Ts':=by
 rcases h with h | h | ⟨h0,T',h1,h2⟩
 · exact .inl h
 · exact .inr (.inl h)
 · exact .inr (.inr ⟨h0,T',h1,fun T hT=>h2 T (hs T hT)⟩)
end
theorem sl_front {α:Type} {w:World} {n:Nat} {E:World→List Value→α→Prop} {b o c:Nat} {l:List α} (h:SliceOf w n E (.slice (some ⟨b,o,none⟩) l.length c) l) {i:Nat} (hi:i≤l.length):SliceOf w n E (.slice (some ⟨b,o,none⟩) i c) (l.take i):=by
 obtain ⟨A,c',hv,h1,h2,h3⟩:=h
 injection hv with hA hv hc
 subst hA hc
 have hlen:(l.take i).length=i:=by rw [List.length_take];omega
 refine ⟨_,c,by rw [hlen],by rw [hlen];omega,h2,fun hne=>?_⟩
 obtain ⟨b',o',hA,hel⟩:=h3 (by intro e;rw [e] at hne;simp at hne)
 refine ⟨b',o',hA,fun k y hy=>hel k y ?_⟩
 rw [List.getElem?_take] at hy
 split at hy
 · exact hy
 · cases hy
theorem hits_snoc {bef:List FieldD} {ns:List ByteArray} {k:Nat} {s:ByteArray} (h:ns[k]?=some s):hitsU bef (ns.take (k+1))=hitsU bef (ns.take k)++(if bef.any (fun g=>decide (g.name=s)) then [idx (fun g=>decide (g.name=s)) bef] else []):=by
 unfold hitsU
 rw [take_snoc h,List.filterMap_append]
 congr 1
 rw [List.filterMap_cons,List.filterMap_nil]
 cases hb:bef.any (fun g=>decide (g.name=s))<;>simp
theorem hits_len {bef:List FieldD} {ns:List ByteArray}:(hitsU bef ns).length≤ns.length:=by unfold hitsU;exact List.length_filterMap_le _ _
theorem idx0_any {α:Type} {p:α→Bool} {l:List α} (h:l.any p=true):idx0 p l=idx p l:=by
 rw [← idx_neg] at h
 unfold idx0
 rw [if_neg (by simpa using h)]
theorem names_len {f:FieldD} (h:f.terms.length≤1048576):(namesU f).length≤1048576:=by
 unfold namesU
 split
 · simpa using h
 · split
   · simp
   · split<;>simp
theorem uses_nil {l:List FieldD} {k:Nat} {f:FieldD} (hf:l[k]?=some f) (hn:namesU f=[]):usesP l k=[]:=by
 unfold usesP selP
 rw [List.filter_eq_nil_iff.2]
 · rfl
 · intro i _
   unfold usesB
   rw [hf]
   simp [hn]
theorem used_tail {w0 w:World} {m:MsgD} {fv:Value} {k p2 p5:Nat} {f:FieldD} {tv cv:Value} {g:FuncId} (hk:m.fields[k]?=some f) (hF:FieldsOf w0 fv m.fields) (hb:f.terms.length≤1048576) (hT:TermsOf w0 tv f.terms) (hC:CasesOf w0 cv f.cases) (e:Ext w0 w) (hg:Callable Pg g) (ns:FieldD→List ByteArray) (hns:Names g ns) (hnu:ns f=namesU f)
 (o2:w.heap[p2]?=some (.cells (msgCells m fv).toArray 24 (0,0))) (o5:w.heap[p5]?=some (.cells (fieldCells f tv cv).toArray 48 (0,0))) :
 n101c4 (.int .i64 (k:Int)) (.pointer (some ⟨p2,0,none⟩)) (.pointer (some ⟨p5,0,none⟩)) (.func (.func g) #[] #[]) (retR fun r w'=>RowI w' w0.heap.size r (usesP m.fields k)∧Ext w0 w') w:=by
 have hkl:=(List.getElem?_eq_some_iff.1 hk).1
 obtain ⟨b,o,c,rfl,_,hcm,_,_,_⟩:=open1 hF hk
 have hlen:(m.fields.take k).length=k:=by rw [List.length_take];omega
 have hpre:=sl_front hF (i:=k) (by omega)
 have ht1:=SliceOf.oneCell hT
 have hc1:=SliceOf.oneCell hC
 have e00:=Ext.refl w
 unfold n101c4
 simp (disch:=try exact DI) only [↓PR,QR,simprocAttr,(cells_of_heap o2).1]
 rw [op_sliceTo Tryz.underlying22 ty48 b o m.fields.length c .i64 k (by omega)]
 have eq1:Ext w (w.alloc (.cells #[.string ByteArray.empty,.slice (some ⟨b,o,none⟩) k c] 24)):=ee
 simp (disch:=try exact DI) only [↓PR,QR,simprocAttr,(cells_of_heap (eq1.obj o5)).1]
 have o9:=heap_new w #[.string ByteArray.empty,.slice (some ⟨b,o,none⟩) k c] 24
 generalize (w.alloc (.cells #[.string ByteArray.empty,.slice (some ⟨b,o,none⟩) k c] 24))=V at eq1 o9 ⊢
 generalize w.heap.size=p9 at o9 ⊢
 have E1:=e.trans eq1
 rw [callV_func hg]
 simp only [Array.empty_append,Array.append_empty]
 refine callK_ret (hns V _ f ⟨tv,cv,rfl,hT.ext E1,hC.ext E1⟩ hb) ?_
 rintro nv W ⟨hN,e2⟩
 have E2:=E1.trans e2
 have s2:=E2.size
 rw [hnu] at hN
 obtain ⟨An,cn,rfl,hlcn,hcmn,hlmn,heln⟩:=SliceOf.open hN
 have x9:=e2.obj o9
 have hnl:=names_len hb
 have hus:=uses_sorted hk
 generalize namesU f=nl at *
 simp (disch:=try exact DI) only [↓PR,QR,simprocAttr]
 refine loop2_intro (fun a0 a1 wx=>∃ (kx:Nat) (sv:Value),a0=sv∧a1 = .int .i64 (kx:Int)∧kx≤nl.length∧Ext W wx∧RowI wx W.heap.size sv (hitsU (m.fields.take k) (nl.take kx))) (fun a0 a1 _=>nl.length - (intOf a1).toNat) ⟨0,.slice none 0 0,rfl,rfl,Nat.zero_le _,ee,OwnE.nil _ _ _ _ _⟩ ?_
 rintro _ _ wx ⟨kx,sv,rfl,rfl,hkx,ex,hIx⟩
 have sex:=ex.size
 rcases drop_cases hkx with ⟨xx,hxx,hdx,hltx,hdecx⟩ | ⟨hkx,hdx,hdecx⟩
 · obtain ⟨b',o',cs,rfl,hl',hA,rfl⟩:=heln kx xx hxx
   have hA':=hA.ext ex
   simp (disch:=try exact DI) only [↓PR,QR,simprocAttr,hdecx,↓n101c3,↓n101c2,(cells_of_heap (ex.obj x9)).1,hA'.c1 (Ext.refl _)]
   refine zcr (Field_ret wx _ ⟨ByteArray.empty,m.fields.take k⟩ xx ⟨_,rfl,by have:=FieldsOf.ext hpre (E2.trans ex);rw [hlen] at *;exact this⟩) fun w3 e3=>?_
   have hss:=hits_snoc (bef:=m.fields.take k) hxx
   have hsl:=hits_len (bef:=m.fields.take k) (ns:=nl.take kx)
   rw [List.length_take] at hsl
   have hR:=hIx.ext e3
   have s3:=(ex.trans e3).size
   dsimp only
   cases hp:(m.fields.take k).any (fun g=>decide (g.name=xx)) with
   | false =>
    rw [hp] at hss
    simp only [Bool.false_eq_true,if_false,List.append_nil] at hss
    simp (disch:=try exact DI) only [↓PR,QR,simprocAttr,↓n101c1]
    exact ⟨⟨kx+1,_,rfl,rfl,by omega,ee,by rw [hss];exact hR⟩,meas_lt (kd := .i64) hltx⟩
   | true =>
    rw [hp] at hss
    simp only [if_true] at hss
    rw [idx0_any hp]
    simp (disch:=try exact DI) only [↓PR,QR,simprocAttr,↓n101c1]
    generalize hY:World.alloc w3 _=Y
    have eY:Ext w3 Y:=by rw [← hY];exact ee
    have oY:Y.heap[w3.heap.size]?=some (.cells #[.int .i64 (idx (fun g=>decide (g.name=xx)) (m.fields.take k))] 3 (0,0)):=by rw [← hY];exact heap_new _ _ _
    clear hY
    refine append_int _ (hR.ext eY) (by rw [(cells_of_heap oY).1];rfl) (by have:=eY.size;omega) (by omega) ?_
    intro v' w' hO' hg'
    have e':=hg'.2.1 W ((ex.trans e3).trans eY) (Nat.le_refl _)
    simp (disch:=try exact DI) only [↓PR,QR,simprocAttr]
    exact ⟨⟨kx+1,v',rfl,rfl,by omega,ee,by rw [hss];exact hO'⟩,meas_lt (kd := .i64) hltx⟩
 · subst hkx
   simp (disch:=try exact DI) only [↓PR,QR,simprocAttr,hdecx,↓n101c3]
   rw [List.take_length] at hIx
   have hsl:=hits_len (bef:=m.fields.take k) (ns:=nl)
   refine callK_ret (Sort_ret hIx (by omega)) ?_
   rintro _ w4 ⟨rfl,hR4,g4⟩
   refine callK_ret (Compact_ret hR4 (by rw [List.length_mergeSort];omega)) ?_
   rintro r w5 ⟨hR5,g5⟩
   rw [hus] at hR5
   exact ⟨r,rfl,hR5.base s2,E2.trans ((g4.trans g5).2.1 W ex (Nat.le_refl _))⟩
def toB (l:List MsgD) (k i:Nat):Bool:=match l[k]? with
 | some m=>(refsM m).any fun s=>idx (fun x=>decide (x.name=s)) l == (i:Int)
 | none=>false
def toP (l:List MsgD) (k:Nat):List Int:=selP k (toB l k)
theorem fine_idx {l:List MsgD} (h:Fine l) {k:Nat} {m:MsgD} (hk:l[k]?=some m) {s:ByteArray} (hs:s∈refsM m):∃ (i:Nat) (m':MsgD),i < k∧l[i]?=some m'∧m'.name=s∧idx (fun x=>decide (x.name=s)) l=i∧idx (fun x=>decide (x.name=s)) (l.take k)=i:=by
 obtain ⟨i,m',h1,h2,h3,h4,_⟩:=h.refs hk hs
 refine ⟨i,m',h1,h2,h3,idx_here h2 (by simpa using h3) fun j y hj hy=>by simpa using h4 j y hj hy,idx_here (x:=m') (by rw [List.getElem?_take,if_pos h1];exact h2) (by simpa using h3) fun j y hj hy=>?_⟩
 rw [List.getElem?_take,if_pos (by omega)] at hy
 simpa using h4 j y hj hy
theorem to_lt {l:List MsgD} (h:Fine l) {k i:Nat} (ht:toB l k i=true):i < k∧k < l.length:=by
 unfold toB at ht
 cases hk:l[k]? with
 | none=>rw [hk] at ht;cases ht
 | some m =>
  rw [hk] at ht
  simp only [List.any_eq_true,beq_iff_eq] at ht
  obtain ⟨s,hs,he⟩:=ht
  obtain ⟨j,_,hj,_,_,hi,_⟩:=fine_idx h hk hs
  exact ⟨by omega,(List.getElem?_eq_some_iff.1 hk).1⟩
section
variable {l:List MsgD} {s:Nat}
def reachN (l:List MsgD) (s:Nat):Nat→Nat→Bool
 | 0,i=>i == s
 | t+1,i=>reachN l s t i||(reachN l s t (l.length - 1 - t)&&toB l (l.length - 1 - t) i)
def reachB (l:List MsgD) (s i:Nat):Bool:=reachN l s l.length i
theorem reachN_skip (h:Fine l):∀ t,t≤l.length - 1 - s→∀ i,reachN l s t i=(i == s)
 | 0,_,i=>rfl
 | t+1,ht,i=>by
  have ih:=reachN_skip h t (by omega)
  unfold reachN
  rw [ih,ih]
  have:(l.length - 1 - t == s)=false:=by simp;omega
  rw [this,Bool.false_and,Bool.or_false]
theorem reachN_stay (h:Fine l) {i:Nat}:∀ u t,l.length - 1 - t≤i→reachN l s (t+u) i=reachN l s t i
 | 0,t,_=>rfl
 | u+1,t,ht=>by
  rw [← Nat.add_assoc,reachN,reachN_stay h u t ht]
  cases hb:toB l (l.length - 1 - (t+u)) i with
  | false=>rw [Bool.and_false,Bool.or_false]
  | true=>have:=to_lt h hb;omega
theorem reach_stay (h:Fine l) {i t:Nat} (ht:l.length - 1 - t≤i) (htl:t≤l.length):reachB l s i=reachN l s t i:=by
 unfold reachB
 have:=reachN_stay (s:=s) h (i:=i) (l.length - t) t ht
 rw [show t+(l.length - t)=l.length by omega] at this
 exact this
theorem reachN_mono:∀ (u t i:Nat),reachN l s t i=true→reachN l s (t+u) i=true
 | 0,_,_,h=>h
 | u+1,t,i,h=>by rw [← Nat.add_assoc,reachN,reachN_mono u t i h,Bool.true_or]
theorem reach_start (hs:s < l.length):reachB l s s=true:=by
 have:=reachN_mono (l:=l) (s:=s) l.length 0 s (by unfold reachN;simp)
 rwa [Nat.zero_add] at this
theorem reach_more (h:Fine l) {k i:Nat} (hr:reachB l s k=true) (ht:toB l k i=true):reachB l s i=true:=by
 obtain ⟨h1,h2⟩:=to_lt h ht
 rw [reach_stay h (t:=l.length - 1 - k) (by omega) (by omega)] at hr
 have h3:reachN l s (l.length - 1 - k+1) i=true:=by
  rw [reachN,show l.length - 1 - (l.length - 1 - k)=k by omega,hr,ht];simp
 have:=reachN_mono (l:=l) (s:=s) k _ i h3
 rw [show l.length - 1 - k+1+k=l.length by omega] at this
 exact this
theorem reach_from (h:Fine l):∀ (t i:Nat),t≤l.length→reachN l s t i=true→i=s∨∃ k,reachB l s k=true∧toB l k i=true
 | 0,i,_,hr=>by unfold reachN at hr;simp only [beq_iff_eq] at hr;exact .inl hr
 | t+1,i,ht,hr=>by
  unfold reachN at hr
  simp only [Bool.or_eq_true,Bool.and_eq_true] at hr
  rcases hr with hr | ⟨h1,h2⟩
  · exact reach_from h t i (by omega) hr
  · exact .inr ⟨_,by rw [reach_stay h (Nat.le_refl _) (by omega)];exact h1,h2⟩
def refsI (l:List MsgD) (k:Nat):List Int:=match l[k]? with
 | some m=>(refsM m).map fun s=>idx (fun x=>decide (x.name=s)) l
 | none=>[]
theorem mem_refsI {k i:Nat}:(i:Int)∈refsI l k↔toB l k i=true:=by
 unfold refsI toB
 cases l[k]? with
 | none=>simp
 | some m=>simp only [List.mem_map,List.any_eq_true,beq_iff_eq]
theorem refsI_lt (h:Fine l) {k:Nat} {x:Int} (hx:x∈refsI l k):0≤x∧x < k:=by
 unfold refsI at hx
 cases hk:l[k]? with
 | none=>rw [hk] at hx;cases hx
 | some m =>
  rw [hk] at hx
  simp only [List.mem_map] at hx
  obtain ⟨s,hs,rfl⟩:=hx
  obtain ⟨i,_,hi,_,_,he,_⟩:=fine_idx h hk hs
  omega
def minI' (a b:Int):Int:=if b < a then b else a
def distS (to:Nat) (l:List MsgD) (ds:List Int) (k:Nat):Int:=if k=to then 0 else (refsI l k).foldl (fun n x=>minI' n (1+(ds[x.toNat]?).getD 1000)) 1000
def distL (to:Nat) (l:List MsgD):Nat→List Int
 | 0=>[]
 | k+1=>distL to l k++[distS to l (distL to l k) k]
def dN (to:Nat) (l:List MsgD) (k:Nat):Int:=distS to l (distL to l k) k
theorem distL_len (to:Nat):∀ k,(distL to l k).length=k
 | 0=>rfl
 | k+1=>by unfold distL;rw [List.length_append,distL_len to k];rfl
theorem distL_get (to:Nat):∀ (n k:Nat),k < n→(distL to l n)[k]?=some (dN to l k)
 | 0,k,h=>by omega
 | n+1,k,h=>by
  unfold distL
  by_cases hk:k=n
  · subst hk
    rw [List.getElem?_append_right (by rw [distL_len];exact Nat.le_refl _),distL_len,Nat.sub_self];rfl
  · rw [List.getElem?_append_left (by rw [distL_len];omega)]
    exact distL_get to n k (by omega)
theorem minI_le (a b:Int):minI' a b≤a∧minI' a b≤b∧(minI' a b=a∨minI' a b=b):=by unfold minI';split<;>omega
theorem fold_min (g:Int→Int):∀ (xs:List Int) (n:Int),xs.foldl (fun n x=>minI' n (g x)) n≤n∧(∀ x∈xs,xs.foldl (fun n x=>minI' n (g x)) n≤g x)∧(xs.foldl (fun n x=>minI' n (g x)) n=n∨∃ x∈xs,xs.foldl (fun n x=>minI' n (g x)) n=g x)
 | [],n=>⟨Int.le_refl _,fun x h=>(by cases h),.inl rfl⟩
 | x::xs,n=>by
  obtain ⟨h1,h2,h3⟩:=fold_min g xs (minI' n (g x))
  obtain ⟨a1,a2,a3⟩:=minI_le n (g x)
  simp only [List.foldl_cons]
  refine ⟨by omega,fun y hy=>?_,?_⟩
  · rcases List.mem_cons.1 hy with rfl | hy
    · omega
    · exact h2 y hy
  · rcases h3 with h3 | ⟨y,hy,h3⟩
    · rcases a3 with a3 | a3
      · exact .inl (h3.trans a3)
      · exact .inr ⟨x,List.mem_cons_self ..,h3.trans a3⟩
    · exact .inr ⟨y,List.mem_cons_of_mem _ hy,h3⟩
variable {to:Nat}
theorem dN_to:dN to l to=0:=by unfold dN distS;rw [if_pos rfl]
theorem dN_fold {k:Nat} (hk:k≠to):dN to l k=(refsI l k).foldl (fun n x=>minI' n (1+((distL to l k)[x.toNat]?).getD 1000)) 1000:=by unfold dN distS;rw [if_neg hk]
theorem dN_le (h:Fine l) {k i:Nat} (ht:toB l k i=true):dN to l k≤1+dN to l i∨k=to:=by
 by_cases hk:k=to
 · exact .inr hk
 · have:=(fold_min (fun x=>1+((distL to l k)[x.toNat]?).getD 1000) (refsI l k) 1000).2.1 i (mem_refsI.2 ht)
   rw [← dN_fold hk,Int.toNat_natCast,distL_get to k i (to_lt h ht).1] at this
   exact .inl this
theorem dN_ge (h:Fine l):∀ (n k:Nat),k < n→0≤dN to l k∧(k≠to→1≤dN to l k)
 | 0,k,hk=>by omega
 | n+1,k,hk=>by
  by_cases ht:k=to
  · subst ht;rw [dN_to];exact ⟨Int.le_refl _,fun h=>absurd rfl h⟩
  · have key:1≤dN to l k:=by
     rcases (fold_min (fun x=>1+((distL to l k)[x.toNat]?).getD 1000) (refsI l k) 1000).2.2 with h1 | ⟨x,hx,h1⟩
     · rw [← dN_fold ht] at h1;omega
     · rw [← dN_fold ht] at h1
       obtain ⟨a,b⟩:=refsI_lt h hx
       have:=(dN_ge h n x.toNat (by omega)).1
       rw [distL_get to k x.toNat (by omega)] at h1
       simp only [Option.getD_some] at h1
       omega
    exact ⟨by omega,fun _=>key⟩
theorem dN_pos (h:Fine l) (k:Nat):0≤dN to l k:=(dN_ge h (k+1) k (by omega)).1
theorem dN_zero (h:Fine l) {k:Nat}:dN to l k=0↔k=to:=by
 constructor
 · intro h0
   apply Classical.byContradiction
   intro hk
   have:=(dN_ge (to:=to) h (k+1) k (by omega)).2 hk
   omega
 · rintro rfl;exact dN_to
theorem dN_next (h:Fine l) {k:Nat} (hk:k≠to) (hf:dN to l k < 1000):∃ i,toB l k i=true∧dN to l i=dN to l k - 1:=by
 rcases (fold_min (fun x=>1+((distL to l k)[x.toNat]?).getD 1000) (refsI l k) 1000).2.2 with h1 | ⟨x,hx,h1⟩
 · rw [← dN_fold hk] at h1;omega
 · rw [← dN_fold hk] at h1
   obtain ⟨a,b⟩:=refsI_lt h hx
   rw [distL_get to k x.toNat (by omega)] at h1
   simp only [Option.getD_some] at h1
   refine ⟨x.toNat,mem_refsI.1 (by rw [Int.toNat_of_nonneg a];exact hx),by omega⟩
theorem dN_most:∀ k,dN to l k≤1000:=by
 intro k
 unfold dN distS
 split
 · omega
 · exact (fold_min _ _ _).1
theorem dN_up (h:Fine l):∀ (n i:Nat),l.length - i≤n→reachB l s i=true→∀ c:Int,dN to l i≤c→i < l.length→dN to l s≤c+(s - i)
 | 0,i,hn,_,c,_,hi=>by omega
 | n+1,i,hn,hr,c,hc,hi=>by
  rcases reach_from h l.length i (Nat.le_refl _) hr with rfl | ⟨k,h1,h2⟩
  · omega
  · obtain ⟨h3,h4⟩:=to_lt h h2
    have hk:dN to l k≤c+(k - i):=by
     rcases dN_le (to:=to) h h2 with h5 | h5
     · omega
     · subst h5;rw [dN_to];have:=dN_pos (to:=k) h i;omega
    have:=dN_up h n k (by omega) h1 _ hk h4
    omega
theorem reach_down (h:Fine l) (hs:s < l.length):∀ (n:Nat) (k:Nat),k < n→reachB l s k=true→dN to l k < 1000→reachB l s to=true
 | 0,k,hk,_,_=>by omega
 | n+1,k,hk,hr,hf=>by
  by_cases he:k=to
  · subst he;exact hr
  · obtain ⟨i,h1,h2⟩:=dN_next h he hf
    exact reach_down h hs n i (by have:=(to_lt h h1).1;omega) (reach_more h hr h1) (by omega)
theorem reach_dist (h:Fine l) (hs:s < l.length) (hto:to < l.length) (hl:l.length≤900):reachB l s to=true↔dN to l s < 1000:=by
 constructor
 · intro hr
   have:=dN_up (to:=to) h l.length to (by omega) hr 0 (by rw [dN_to];exact Int.le_refl _) hto
   omega
 · exact reach_down h hs (s+1) s (by omega) (reach_start hs)
def nextK (to:Nat) (l:List MsgD) (k:Nat):Nat:=(((List.range k).find? fun i=>toB l k i&&(dN to l i == dN to l k - 1))).getD 0
theorem next_spec (h:Fine l) {k:Nat} (hk:k≠to) (hf:dN to l k < 1000):toB l k (nextK to l k)=true∧dN to l (nextK to l k)=dN to l k - 1∧∀ i,i < nextK to l k→toB l k i=true→dN to l i≠dN to l k - 1:=by
 obtain ⟨i,h1,h2⟩:=dN_next h hk hf
 have hik:=(to_lt h h1).1
 cases hf':(List.range k).find? fun i=>toB l k i&&(dN to l i == dN to l k - 1) with
 | none =>
  rw [List.find?_eq_none] at hf'
  have:=hf' i (List.mem_range.2 hik)
  simp [h1,h2] at this
 | some j =>
  have hn:nextK to l k=j:=by unfold nextK;rw [hf'];rfl
  rw [hn]
  have hp:=List.find?_some hf'
  simp only [Bool.and_eq_true,beq_iff_eq] at hp
  refine ⟨hp.1,hp.2,fun i hi hti he=>?_⟩
  obtain ⟨_,l1,l2,hab,hno⟩:=List.find?_eq_some_iff_append.1 hf'
  have hjl:j < k:=List.mem_range.1 (List.mem_of_find?_eq_some hf')
  have hmem:i∈l1:=by
   have hi':(List.range k)[i]?=some i:=by rw [List.getElem?_range (by omega)]
   have hj':l1.length=j:=by
    have hl:(List.range k)[l1.length]?=some j:=by rw [hab,List.getElem?_append_right (Nat.le_refl _),Nat.sub_self];rfl
    have hlt:=(List.getElem?_eq_some_iff.1 hl).1
    rw [List.getElem?_range (by simpa using hlt)] at hl
    injection hl
   rw [hab,List.getElem?_append_left (by omega)] at hi'
   exact List.mem_of_getElem? hi'
  have:=hno i hmem
  simp [hti,he] at this
def pk (to:Nat) (l:List MsgD) (s:Nat):Nat→Nat
 | 0=>s
 | j+1=>nextK to l (pk to l s j)
def preP (to:Nat) (l:List MsgD) (s j:Nat):List Int:=(List.range (j+1)).map fun i=>(pk to l s i:Int)
def pathP (to:Nat) (l:List MsgD) (s:Nat):List Int:=preP to l s (dN to l s).toNat
theorem pre_succ (j:Nat):preP to l s (j+1)=preP to l s j++[(pk to l s (j+1):Int)]:=by unfold preP;rw [List.range_succ,List.map_append];rfl
theorem pre_len (j:Nat):(preP to l s j).length=j+1:=by unfold preP;simp
theorem pk_dist (h:Fine l) (hf:dN to l s < 1000):∀ j:Nat,(j:Int)≤dN to l s→dN to l (pk to l s j)=dN to l s - j
 | 0,_=>by unfold pk;omega
 | j+1,hj=>by
  have ih:=pk_dist h hf j (by omega)
  have hne:pk to l s j≠to:=fun he=>by rw [he,dN_to] at ih;omega
  have:=(next_spec h hne (by omega)).2.1
  unfold pk
  omega
theorem pk_to (h:Fine l) (hf:dN to l s < 1000) {j:Nat} (hj:(j:Int) < dN to l s):toB l (pk to l s j) (pk to l s (j+1))=true:=by
 have ih:=pk_dist h hf j (by omega)
 have hne:pk to l s j≠to:=fun he=>by rw [he,dN_to] at ih;omega
 exact (next_spec h hne (by omega)).1
theorem pk_lt (h:Fine l) (hs:s < l.length) (hf:dN to l s < 1000):∀ j:Nat,(j:Int)≤dN to l s→pk to l s j < l.length
 | 0,_=>hs
 | j+1,hj=>by
  have h1:=to_lt h (pk_to h hf (j:=j) (by omega))
  omega
end
end Go.Proofs.YtfjjgjjlebllmaaGreat
namespace Go.Sw
open Go.RowKit (Below)
section
variable {P:Program} {QP:List PanicEntry→World→Prop} {w:World}
theorem op_appendL {α:Type} {t ty T n m:Nat} {z:Value} {agg:Bool} {enc:α→List Value} {v:Value} {l l':List α} {base:Nat} {k:Value→World→Prop}
 (ht:P.underlying t=some (.slice T)) (hT:TyInfo P T agg n m z) (hz:z.cells.size=n) (h0:0 < n) (hn:∀ x,(enc x).length=n) (h1:∀ x,x∈l'→∀ u∈enc x,u.oneCell'=true)
 (hown:OwnE w base T n enc v l) {b o c:Nat} (hc:∀ j x,l'[j]?=some x→ElemAt w b (o+j*n) (enc x)) (hbase:base≤w.heap.size) (hl':0 < l'.length) (hm:(l.length+l'.length)*m≤140737488355328) (hb:l.length+l'.length≤140737488355328)
 (hk:∀ g cap w',OwnE w' base T n enc (.slice (some ⟨g,0,none⟩) (l.length+l'.length) cap) (l++l')→w.grownBy w' v.ownBlock→(v.ownBlock=some g∨g=w.heap.size)→g < w'.heap.size→k (.slice (some ⟨g,0,none⟩) (l.length+l'.length) cap) w') :
 opV P (Builtin.append_ #[t,t] ty #[v,.slice (some ⟨b,o,none⟩) l'.length c]) QP w k:=by
 obtain ⟨⟨i,hi,hs,hby,hzz⟩,_⟩:=hT
 have hfl:(l'.flatMap enc).length=l'.length*n:=by
  clear hm hb hc h1 hk hl'
  induction l' with
  | nil=>simp
  | cons a l ih=>rw [List.flatMap_cons,List.length_append,hn,ih,List.length_cons,Nat.add_mul];omega
 have hcells:∀ j u,(l'.flatMap enc)[j]?=some u→w.cell? ((⟨b,o,none⟩:Addr).add j)=some u:=by
  intro j u hu
  have hj:j < l'.length*n:=by have:=(List.getElem?_eq_some_iff.1 hu).1;rwa [hfl] at this
  have hq:j / n < l'.length:=Nat.div_lt_of_lt_mul (by rw [Nat.mul_comm];exact hj)
  obtain ⟨x,hx⟩:=getElem?_lt hq
  have hjn:j % n < (enc x).length:=by rw [hn];exact Nat.mod_lt _ h0
  have hdm:j / n*n+j % n=j:=by rw [Nat.mul_comm];exact Nat.div_add_mod j n
  have hg:=flatMap_get hn l' (j / n) x (j % n) _ hx (List.getElem?_eq_getElem hjn)
  rw [hdm,hu] at hg
  injection hg with hg
  rw [Addr.add_lit]
  have:=hc _ _ hx (j % n) _ (List.getElem?_eq_getElem hjn)
  rw [hg,← this]
  congr 2;omega
 obtain ⟨g,cap,w',hr,ho,hg,hgl,hlt⟩:=run_append_lies (P:=P) (w:=w) t ty base T i z n m ht hi hzz hs hby hz h0 v l.length (l.flatMap enc) hown ⟨b,o,none⟩ l'.length c (l'.flatMap enc) hfl hcells
  (by intro u hu;obtain ⟨x,hx,hux⟩:=List.mem_flatMap.1 hu;exact h1 x hx u hux) hl' (by simp only [maxLen];omega) hm hbase _ rfl
 rw [opV_ok hr]
 refine hk g cap w' ?_ hg hgl hlt
 unfold OwnE
 rw [List.flatMap_append,List.length_append];exact ho
end
theorem OwnE.grown {α:Type} {w w':World} {lo n:Nat} {T:TypeId} {enc:α→List Value} {v:Value} {l:List α} {row:Option Nat} (h:OwnE w lo T n enc v l) (hg:w.grownBy w' row) (hne:∀ b,v.ownBlock=some b→row≠some b):OwnE w' lo T n enc v l:=by
 obtain ⟨h1,h2⟩:=h
 refine ⟨h1,?_⟩
 rcases h2 with h2 | ⟨g,cap,cur,hv,hb,hc,h3⟩
 · exact .inl h2
 · refine .inr ⟨g,cap,cur,hv,hb,?_,h3⟩
   rw [hg.block g (Array.getElem?_eq_some_iff.1 hc).1 (fun e=>hne g (by rw [hv];rfl) e.symm)]
   exact hc
end Go.Sw
namespace Go.Proofs.YtfjjgjjlebllmaaGreat
open Sw
def n24c1 (t3 t6 t8 t9 t10:Value) (C9:World→Prop) (next8:KW) (R:RT) (w:World):Prop :=
 joinK (fun (t84:Value) (w:World) =>
 pickK t9 (.bool true) t84 fun t85 =>
 B0 .add 3 true t10 (.int .i64 1) R w fun t73 w =>
 next8 t85 t73 w) fun K10 =>
 guardP t9 false (
 qV Pg C9 (Instr.indexAt 82 t3 t10) fun t78 =>
 qV Pg C9 (Instr.loadAt 9 t78) fun t79 =>
 qV Pg C9 (Instr.indexAt 82 t6 t8) fun t82 =>
 qV Pg C9 (Instr.loadAt 9 t82) fun t83 =>
 qV Pg C9 (binS .eql 9 false t79 t83) fun t84 =>
 K10 t84 w) (
 K10 undef w)
def n24c2 (t3 t6 t8:Value) (K11:KV) (R:RT) (w:World):Prop :=
 X0 82 t6 t8 R w fun t91 w =>
 L0 9 t91 R w fun t92 w =>
 opV Pg (Instr.buildSlice 82 1 #[(0,t92)]) (panK R) w fun t93 w =>
 opV Pg (Builtin.append_ #[82,82] 82 #[t3,t93]) (panK R) w fun t94 w =>
 K11 t94 w
def n24c3 (t3 t6 t8 t9:Value) (next7:KW) (R:RT) (w:World):Prop :=
 opV Pg (Op.unary .not t9) (panK R) w fun t87 w =>
 joinK (fun (t3:Value) (w:World) =>
 B0 .add 3 true t8 (.int .i64 1) R w fun t67 w =>
 next7 t3 t67 w) fun K11 =>
 condP t87 (
 n24c2 t3 t6 t8 K11 R w) (
 K11 t3 w)
def n24c4 (t3 t6 t8 t9 t10:Value) (next7:KW) (next8:KW) (R:RT) (w:World):Prop :=
 opV Pg (Builtin.len_ #[82] 3 #[t3]) (panK R) w fun t70 w =>
 B0 .lss 3 false t10 t70 R w fun t71 w =>
 condP t71 (
 drawK w fun C9 w =>
 n24c1 t3 t6 t8 t9 t10 C9 next8 R w) (
 n24c3 t3 t6 t8 t9 next7 R w)
def n24c5 (t3 t4 t6 t8:Value) (next1:KW) (next7:KW) (R:RT) (w:World):Prop :=
 opV Pg (Builtin.len_ #[82] 3 #[t6]) (panK R) w fun t64 w =>
 B0 .lss 3 false t8 t64 R w fun t65 w =>
 condP t65 (
 loop2 (fun t9 t10 w next8 =>
 n24c4 t3 t6 t8 t9 t10 next7 next8 R w) (.bool false) (.int .i64 0) w) (
 B0 .add 3 true t4 (.int .i64 1) R w fun t17 w =>
 next1 t3 t17 w)
def n24c6 (t5 t6 t7:Value) (next5:KW) (R:RT) (w:World):Prop :=
 F0 48 t5 11 R w fun t54 w =>
 L0 46 t54 R w fun t55 w =>
 X0 46 t55 t7 R w fun t57 w =>
 F0 60 t57 2 R w fun t58 w =>
 L0 9 t58 R w fun t59 w =>
 opV Pg (Instr.buildSlice 82 1 #[(0,t59)]) (panK R) w fun t60 w =>
 opV Pg (Builtin.append_ #[82,82] 82 #[t6,t60]) (panK R) w fun t61 w =>
 B0 .add 3 true t7 (.int .i64 1) R w fun t52 w =>
 next5 t61 t52 w
def n24c7 (t3 t4 t5 t6 t7 t43 t49:Value) (next1:KW) (next5:KW) (R:RT) (w:World):Prop :=
 pickK t43 t49 (.bool false) fun t50 =>
 condP t50 (
 n24c6 t5 t6 t7 next5 R w) (
 loop2 (fun t3 t8 w next7 =>
 n24c5 t3 t4 t6 t8 next1 next7 R w) t3 (.int .i64 0) w)
def n24c8 (t3 t4 t5 t6 t7:Value) (next1:KW) (next5:KW) (R:RT) (w:World):Prop :=
 F0 48 t5 1 R w fun t41 w =>
 L0 42 t41 R w fun t42 w =>
 B0 .eql 42 true t42 (.int .i64 9) R w fun t43 w =>
 joinK (fun (t49:Value) (w:World) =>
 n24c7 t3 t4 t5 t6 t7 t43 t49 next1 next5 R w) fun K6 =>
 guardP t43 true (
 F0 48 t5 11 R w fun t46 w =>
 L0 46 t46 R w fun t47 w =>
 opV Pg (Builtin.len_ #[46] 3 #[t47]) (panK R) w fun t48 w =>
 B0 .lss 3 false t7 t48 R w fun t49 w =>
 K6 t49 w) (
 K6 undef w)
def n24c9 (t5:Value) (K4:KV) (R:RT) (w:World):Prop :=
 F0 48 t5 8 R w fun t37 w =>
 L0 9 t37 R w fun t38 w =>
 opV Pg (Instr.buildSlice 82 1 #[(0,t38)]) (panK R) w fun t39 w =>
 opV Pg (Builtin.append_ #[82,82] 82 #[(Value.slice none 0 0),t39]) (panK R) w fun t40 w =>
 K4 t40 w
def n24c10 (t3 t4 t5 t30 t34:Value) (next1:KW) (R:RT) (w:World):Prop :=
 pickK t30 (.bool true) t34 fun t35 =>
 joinK (fun (t6:Value) (w:World) =>
 loop2 (fun t6 t7 w next5 =>
 n24c8 t3 t4 t5 t6 t7 next1 next5 R w) t6 (.int .i64 0) w) fun K4 =>
 condP t35 (
 n24c9 t5 K4 R w) (
 K4 (Value.slice none 0 0) w)
def n24c11 (t3 t4 t5 t25 t29:Value) (next1:KW) (R:RT) (w:World):Prop :=
 pickK t25 (.bool true) t29 fun t30 =>
 joinK (fun (t34:Value) (w:World) =>
 n24c10 t3 t4 t5 t30 t34 next1 R w) fun K3 =>
 guardP t30 false (
 F0 48 t5 1 R w fun t32 w =>
 L0 42 t32 R w fun t33 w =>
 B0 .eql 42 true t33 (.int .i64 12) R w fun t34 w =>
 K3 t34 w) (
 K3 undef w)
def n24c12 (t1 t3 t4:Value) (next1:KW) (R:RT) (w:World):Prop :=
 F0 24 t1 1 R w fun t18 w =>
 L0 22 t18 R w fun t19 w =>
 X0 22 t19 t4 R w fun t21 w =>
 L0 48 t21 R w fun t22 w =>
 opV Pg (Instr.alloc 48 true (.tuple #[])) (panK R) w fun t5 w =>
 opU Pg (Instr.storeAt 48 t5 t22) (panK R) w fun w =>
 F0 48 t5 1 R w fun t23 w =>
 L0 42 t23 R w fun t24 w =>
 B0 .eql 42 true t24 (.int .i64 7) R w fun t25 w =>
 joinK (fun (t29:Value) (w:World) =>
 n24c11 t3 t4 t5 t25 t29 next1 R w) fun K2 =>
 guardP t25 false (
 F0 48 t5 1 R w fun t27 w =>
 L0 42 t27 R w fun t28 w =>
 B0 .eql 42 true t28 (.int .i64 8) R w fun t29 w =>
 K2 t29 w) (
 K2 undef w)
def n24c13 (t1 t3 t4:Value) (next1:KW) (R:RT) (w:World):Prop :=
 F0 24 t1 1 R w fun t12 w =>
 L0 22 t12 R w fun t13 w =>
 opV Pg (Builtin.len_ #[22] 3 #[t13]) (panK R) w fun t14 w =>
 B0 .lss 3 false t4 t14 R w fun t15 w =>
 condP t15 (
 n24c12 t1 t3 t4 next1 R w) (
 R (.returned t3) w)
def n24 (t0:Value) (R:RT) (w:World):Prop :=
 opV Pg (Instr.box 24 t0) (panK R) w fun t1 w =>
 loop2 (fun t3 t4 w next1 =>
 n24c13 t1 t3 t4 next1 R w) (Value.slice none 0 0) (.int .i64 0) w
set_option maxHeartbeats 40000000 in
theorem n24s {t0:Value} {R:RT} {w:World} (h:n24 t0 R w):Calls Pg 54 #[t0] w R:=by
 refine yD Tryz.func54 ?_
 refine zs<|zr<|yv h fun _ w h=>zm<|zn<|zk<|zs<|zr<|zm<|zn<|zk<|zs<|zs<|zr<|zm ?_
 refine zn<|zk<|sim_block<|yl2 [3,4,5,6,7,8,9,10,11,12,13,14,15,16,17,18,19,20,21,22,23,24,25,26,27,28,29,30,31,32,33,34,35,36,37,38,39,40,41,42,43,44,45,46,47,48,49,50,51,52,53,54,55,56,57,58,59,60,61,62,63,64,65,66,67,68,69,70,71,72,73,74,75,76,77,78,79,80,81,82,83,84,85,86,87,88,89,90,91,92,93,94] 3 4 h fun σ w next h=>zs<|zs<|zr<|zm<|yv h fun _ w h=>yv h fun _ w h=>yx h fun _ w h=>yb h fun _ w h=>zn<|zk<|yC h (fun h=>?_) fun h=>?_
 · refine sim_skip<|zk<|zs<|sim_block<|zs<|zr<|yv h fun _ w h=>yv h fun _ w h=>zm<|yv h fun _ w h=>yv h fun _ w h=>yv h fun _ w h=>yu h fun w h=>zn<|zk ?_
   refine zs<|zr<|zm<|zn<|zk<|zs<|zs<|sim_regionG<|yG 4<|yv h fun _ w h=>yv h fun _ w h=>yb h fun _ w h=>zm<|zn<|yg1 3 3 false [27,28,29] 29 h (fun _ T hT h=>?_) fun σ w h=>?_
   · refine yv h fun _ w h=>yv h fun _ w h=>yb h fun _ w h=>zn ?_
     exact zt hT h
   refine yG 2<|yp h fun _ h=>zm<|zn<|yg1 3 8 false [32,33,34] 34 h (fun _ T hT h=>?_) fun σ w h=>?_
   · refine yv h fun _ w h=>yv h fun _ w h=>yb h fun _ w h=>zn ?_
     exact zt hT h
   refine yG 1<|yp h fun _ h=>zn<|sim_end<|zk<|yJ1 [6,36,37,38,39,40] 6 h (fun _ _ hkK4 h=>?_) fun σ w h=>?_
   · refine yC h (fun h=>?_) fun h=>?_
     · refine zr<|zm<|yv h fun _ w h=>yv h fun _ w h=>yS h fun _ w h=>yx h fun _ w h=>zm<|zn<|zk ?_
       exact zt hkK4 h
     refine sim_skip<|zk ?_
     exact zt hkK4 h
   refine zk<|zs<|zs<|zr<|zm<|zn<|zk<|sim_block<|yl2 [6,7,41,42,43,44,45,46,47,48,49,50,51,52,53,54,55,56,57,58,59,60,61] 6 7 h fun σ w next h=>zs<|zs<|sim_regionG<|yG 4<|yv h fun _ w h=>yv h fun _ w h=>?_
   refine yb h fun _ w h=>zm<|zn<|yg1 5 3 true [45,46,47,48,49] 49 h (fun _ T hT h=>?_) fun σ w h=>?_
   · refine zm<|yv h fun _ w h=>yv h fun _ w h=>yx h fun _ w h=>yb h fun _ w h=>zn ?_
     exact zt hT h
   refine yG 1<|yp h fun _ h=>zn<|sim_end<|zk<|yC h (fun h=>?_) fun h=>?_
   · refine sim_skip<|zk<|zs<|sim_block<|zr<|zm<|yv h fun _ w h=>yv h fun _ w h=>zm<|yv h fun _ w h=>yv h fun _ w h=>yv h fun _ w h=>yS h fun _ w h=>yx h fun _ w h=>zm ?_
     exact zn<|sim_block_normal<|zk<|zr<|zm<|yb h fun _ w h=>zm<|zn<|zk<|⟨rfl,h⟩
   refine sim_exit<|sim_then_exit<|sim_then_exit<|sim_block_hit<|zk<|zs<|zr<|zm<|zn<|zk<|sim_block<|yl2 [3,8,9,10,62,63,64,65,66,67,68,69,70,71,72,73,74,75,76,77,78,79,80,81,82,83,84,85,86,87,88,89,90,91,92,93,94] 3 8 h fun σ w next h=>zs<|zs<|zr ?_
   refine zm<|zm<|yx h fun _ w h=>yb h fun _ w h=>zn<|zk<|yC h (fun h=>?_) fun h=>?_
   · refine sim_skip<|zk<|zs<|sim_block<|zs<|zr<|zm<|zn<|zk<|zs<|zs<|zr<|zm<|zn<|zk ?_
     refine sim_block<|yl2 [9,10,68,69,70,71,72,73,74,75,76,77,78,79,80,81,82,83,84,85] 9 10 h fun σ w next h=>zs<|zs<|zr<|zm<|zm<|yx h fun _ w h=>yb h fun _ w h=>zn<|zk<|yC h (fun h=>?_) fun h=>?_
     · refine sim_skip<|zk<|zs<|sim_block<|yh [9,74,75,76,77,78,79,80,81,82,83,84,85] h fun C hC h=>yw 0 hC ?_
       refine yw 1 hC ?_
       refine yj1 2 [10,9,8,7,6,5,4,3,2,1,0] [76,77,78,79,80,81,82,83,84] 84 h (fun _ hT hb h=>?_) (fun _ hT hb h=>?_) fun σ w hC h=>?_
       · refine yw 2 hC ?_
         refine yw 3 hC ?_
         refine ye 4 hC h fun _ h=>?_
         refine ye 5 hC h fun _ h=>?_
         refine yw 6 hC ?_
         refine yw 7 hC ?_
         refine ye 8 hC h fun _ h=>?_
         refine ye 9 hC h fun _ h=>?_
         refine ye 10 hC h fun _ h=>?_
         exact yt hT hC h
       · refine yi 2 hC ?_
         refine yi 3 hC ?_
         refine yi 4 hC ?_
         refine yi 5 hC ?_
         refine yi 6 hC ?_
         refine yi 7 hC ?_
         refine yi 8 hC ?_
         refine yi 9 hC ?_
         refine yi 10 hC ?_
         exact yt hT hC h
       refine yP 11 hC h fun _ h=>?_
       refine yw 12 hC ?_
       exact yz<|sim_block_normal<|zk<|zr<|zm<|yb h fun _ w h=>zm<|zn<|zk<|⟨rfl,h⟩
     refine sim_exit<|sim_then_exit<|sim_then_exit<|sim_block_hit<|zk<|zs<|zr<|zm<|yv h fun _ w h=>zn<|zk<|yJ1 [3,88,89,90,91,92,93,94] 3 h (fun _ _ hkK11 h=>?_) fun σ w h=>?_
     · refine yC h (fun h=>?_) fun h=>?_
       · refine zr<|zm<|zm<|zm<|yv h fun _ w h=>yv h fun _ w h=>yS h fun _ w h=>yx h fun _ w h=>zm<|zn<|zk ?_
         exact zt hkK11 h
       refine sim_skip<|zk ?_
       exact zt hkK11 h
     exact sim_block_normal<|zk<|zr<|zm<|yb h fun _ w h=>zm<|zn<|zk<|⟨rfl,h⟩
   exact sim_exit<|sim_then_exit<|sim_then_exit<|sim_block_hit<|sim_block_normal<|zk<|zr<|zm<|yb h fun _ w h=>zm<|zn<|zk<|⟨rfl,h⟩
 exact sim_exit<|sim_then_exit<|sim_then_exit<|sim_block_hit<|zk<|zs<|zr<|zm<|zm<|zn<|zk<|sim_ret<|body_ret1 rfl rfl h
def n99c1 (t16 t36 t39 t45 t50:Value) (next2:KV) (R:RT) (w:World):Prop :=
 pickK t45 (.bool true) t50 fun t51 =>
 X0 93 t16 t39 R w fun t52 w =>
 opU Pg (Instr.storeAt 4 t52 t51) (panK R) w fun w =>
 B0 .add 3 true t36 (.int .i64 1) R w fun t53 w =>
 next2 t53 w
def n99c2 (t7 t16 t34 t36:Value) (next2:KV) (R:RT) (w:World):Prop :=
 X0 30 t34 t36 R w fun t38 w =>
 L0 3 t38 R w fun t39 w =>
 X0 93 t16 t39 R w fun t44 w =>
 L0 4 t44 R w fun t45 w =>
 joinK (fun (t50:Value) (w:World) =>
 n99c1 t16 t36 t39 t45 t50 next2 R w) fun K3 =>
 guardP t45 false (
 X0 93 t16 t7 R w fun t49 w =>
 L0 4 t49 R w fun t50 w =>
 K3 t50 w) (
 K3 undef w)
def n99c3 (t7 t16 t34 t35 t36:Value) (next1:KV) (next2:KV) (R:RT) (w:World):Prop :=
 B0 .lss 3 false t36 t35 R w fun t37 w =>
 condP t37 (
 n99c2 t7 t16 t34 t36 next2 R w) (
 B0 .sub 3 true t7 (.int .i64 1) R w fun t31 w =>
 next1 t31 w)
def n99c4 (t1 t7 t16:Value) (next1:KV) (R:RT) (w:World):Prop :=
 L0 28 t1 R w fun t32 w =>
 C0 56 #[t32,t7] R w fun t34 w =>
 opV Pg (Builtin.len_ #[30] 3 #[t34]) (panK R) w fun t35 w =>
 loop1 (fun t36 w next2 =>
 n99c3 t7 t16 t34 t35 t36 next1 next2 R w) (.int .i64 0) w
def n99c5 (t1 t16 t21:Value) (R:RT) (w:World):Prop :=
 opV Pg (Instr.extract t21 0) (panK R) w fun t22 w =>
 opV Pg (Instr.extract t21 1) (panK R) w fun t23 w =>
 X0 93 t16 t22 R w fun t26 w =>
 opU Pg (Instr.storeAt 4 t26 (.bool true)) (panK R) w fun w =>
 loop1 (fun t7 w next1 =>
 B0 .geq 3 true t7 (.int .i64 0) R w fun t29 w =>
 condP t29 (
 n99c4 t1 t7 t16 next1 R w) (
 R (.returned (.tuple #[t16,(.int .i64 0)])) w)) t22 w
def n99c6 (t1:Value) (R:RT) (w:World):Prop :=
 F0 28 t1 1 R w fun t13 w =>
 L0 26 t13 R w fun t14 w =>
 opV Pg (Builtin.len_ #[26] 3 #[t14]) (panK R) w fun t15 w =>
 opV Pg (Instr.makeSlice 93 t15 t15) (panK R) w fun t16 w =>
 L0 28 t1 R w fun t18 w =>
 F0 28 t1 2 R w fun t19 w =>
 L0 9 t19 R w fun t20 w =>
 C0 31 #[t18,t20] R w fun t21 w =>
 n99c5 t1 t16 t21 R w
def n99 (t0:Value) (R:RT) (w:World):Prop :=
 opV Pg (Instr.box 28 t0) (panK R) w fun t1 w =>
 L0 28 t1 R w fun t10 w =>
 C0 29 #[t10] R w fun t11 w =>
 opV Pg (Op.unary .not t11) (panK R) w fun t12 w =>
 condP t12 (
 R (.returned (.tuple #[(Value.slice none 0 0),(.int .i64 2)])) w) (
 n99c6 t1 R w)
theorem n99s {t0:Value} {R:RT} {w:World} (h:n99 t0 R w):Calls Pg 55 #[t0] w R:=by
 refine yD Tryz.func55 ?_
 refine zs<|zr<|yv h fun _ w h=>zm<|zm<|zn<|zk<|zs<|zs<|zr<|yv h fun _ w h=>yc h c29 fun _ w h=>yv h fun _ w h=>zn<|zk ?_
 refine yC h (fun h=>zs<|zr<|zm<|zm<|zn<|zk<|sim_ret<|sim_then_ret<|body_ret2 rfl rfl rfl h) fun h=>sim_skip<|zk<|zs<|zr<|yv h fun _ w h=>yv h fun _ w h=>yx h fun _ w h=>yv h fun _ w h=>zm<|zn<|zk<|zs<|zr ?_
 refine yv h fun _ w h=>yv h fun _ w h=>yv h fun _ w h=>yc h c31 fun _ w h=>zm<|yv h fun _ w h=>yv h fun _ w h=>zm<|zm<|zn<|zk<|zs<|zr<|zm<|zm ?_
 refine yv h fun _ w h=>yu h fun w h=>zn<|zk<|zs<|zs<|zr<|zm<|zm<|zn<|zk<|sim_block<|yl1 [7,9,28,29,30,31,32,33,34,35,36,37,38,39,40,41,42,43,44,45,46,47,48,49,50,51,52,53] 7 h fun σ w next h=>zs<|zs ?_
 refine zr<|zm<|yb h fun _ w h=>zn<|zk<|yC h (fun h=>?_) fun h=>?_
 · refine sim_skip<|zk<|zs<|sim_block<|zs<|zr<|yv h fun _ w h=>zm<|yc h c56 fun _ w h=>yx h fun _ w h=>zm<|zn<|zk<|sim_block<|yl1 [9,36,37,38,39,40,41,42,43,44,45,46,47,48,49,50,51,52,53] 36 h fun σ w next h=>?_
   refine zs<|zr<|yb h fun _ w h=>zn<|zk<|zs<|yC h (fun h=>?_) fun h=>?_
   · refine sim_skip<|zk<|zs<|sim_block<|zs<|zr<|yv h fun _ w h=>yv h fun _ w h=>zm<|zn<|zk<|sim_regionG<|yG 7<|zm<|zm ?_
     refine zm<|zm<|yv h fun _ w h=>yv h fun _ w h=>zm<|zn<|yg1 4 6 false [47,48,49,50] 50 h (fun _ T hT h=>?_) fun σ w h=>?_
     · refine zm<|zm<|yv h fun _ w h=>yv h fun _ w h=>zn ?_
       exact zt hT h
     exact yG 3<|yp h fun _ h=>yv h fun _ w h=>yu h fun w h=>zn<|sim_end<|sim_block_normal<|zk<|zr<|yb h fun _ w h=>zm<|zn<|zk<|⟨rfl,h⟩
   exact sim_exit<|sim_then_exit<|sim_then_exit<|sim_block_hit<|sim_block_normal<|zk<|zr<|zm<|yb h fun _ w h=>zm<|zn<|zk<|⟨rfl,h⟩
 exact sim_exit<|sim_then_exit<|sim_then_exit<|sim_block_hit<|zk<|zs<|zr<|zm<|zm<|zm<|zn<|zk<|sim_ret<|body_ret2 rfl rfl rfl h
def n100c1 (t5 t19:Value) (Kr1:World→Prop) (Qr1:List PanicEntry→World→Prop) (R:RT) (w:World):Prop :=
 opV Pg (Instr.extract t19 0) Qr1 w fun t20 w =>
 opV Pg (Instr.extract t19 1) Qr1 w fun t21 w =>
 opV Pg (Instr.loadAt 30 t5) Qr1 w fun t22 w =>
 opV Pg (Instr.buildSlice 30 1 #[(0,t20)]) Qr1 w fun t24 w =>
 opV Pg (Builtin.append_ #[30,30] 30 #[t22,t24]) Qr1 w fun t25 w =>
 opU Pg (Instr.storeAt 30 t5 t25) Qr1 w fun w =>
 Kr1 w
def n100c2 (t5:Value) (ds:List Deferred) (R:RT) (w:World):Prop :=
 opV Pg (Instr.loadAt 30 t5) (outQ Pg ds [(none,(Value.slice none 0 0))] R) w fun t26 w =>
 callK Pg 83 #[t26] (outQ Pg ds [(none,(Value.slice none 0 0))] R) w fun t27 w =>
 opV Pg (Instr.loadAt 30 t5) (outQ Pg ds [(none,(Value.slice none 0 0))] R) w fun t28 w =>
 outX Pg ds [(none,t28)] R w
def n100c3 (t2 t5 t14:Value) (ds:List Deferred) (R:RT) (w:World):Prop :=
 rangeN Pg t14 ds (fun l1 t15 w Kr1 Xr1 Qr1 =>
 busyK l1 w fun w =>
 opV Pg (Instr.loadAt 28 t2) Qr1 w fun t17 w =>
 callK Pg 31 #[t17,t15] Qr1 w fun t19 w =>
 n100c1 t5 t19 Kr1 Qr1 R w) (fun ch ds w=>outQ Pg ds [(none,(Value.slice none 0 0))] R ch w) w (fun ds w =>
 n100c2 t5 ds R w) []
def n100 (t0 t1:Value) (R:RT) (w:World):Prop :=
 (fun (ds:List Deferred) =>
 opV Pg (Instr.box 28 t0) (outQ Pg ds [(none,undef)] R) w fun t2 w =>
 opV Pg (Instr.alloc 30 true (.tuple #[])) (outQ Pg ds [(none,(Value.slice none 0 0))] R) w fun t5 w =>
 opV Pg (Instr.fieldAt 28 t2 1) (outQ Pg ds [(none,(Value.slice none 0 0))] R) w fun t9 w =>
 opV Pg (Instr.loadAt 26 t9) (outQ Pg ds [(none,(Value.slice none 0 0))] R) w fun t10 w =>
 opV Pg (Instr.indexAt 26 t10 t1) (outQ Pg ds [(none,(Value.slice none 0 0))] R) w fun t12 w =>
 opV Pg (Instr.loadAt 24 t12) (outQ Pg ds [(none,(Value.slice none 0 0))] R) w fun t13 w =>
 callK Pg 32 #[t13] (outQ Pg ds [(none,(Value.slice none 0 0))] R) w fun t14 w =>
 n100c3 t2 t5 t14 ds R w) []
theorem n100s {t0 t1:Value} {R:RT} {w:World} (h:n100 t0 t1 R w):Calls Pg 56 #[t0,t1] w R:=by
 refine yE Tryz.func56 ?_
 unfold n100 at h
 dsimp only at h
 refine zs<|zr<|yv h fun _ w h=>zm<|zn<|zk<|zs<|zr<|yv h fun _ w h=>zn<|zk<|zs<|zs<|zr<|yv h fun _ w h=>?_
 refine yv h fun _ w h=>zm<|yv h fun _ w h=>yv h fun _ w h=>yc h c32 fun _ w h=>zn<|zk<|sim_block<|sim_range [] h rfl (fun l1 t15 w Kr1 Xr1 Qr1 h=>?_) (fun ds w h=>?_) (fun c ds w h=>?_) (fun ch ds w h=>outQ_of rfl h)
 · refine zr<|zm<|zn<|zk ?_
   obtain ⟨hr,h⟩:=h
   refine ⟨rfl,hr,fun w hb=>?_⟩
   have h:=h w hb
   refine sim_block<|zs<|zr<|yv h fun _ w h=>zm<|yc h c31 fun _ w h=>zm<|yv h fun _ w h=>yv h fun _ w h=>zm<|zm<|zn<|zk<|zr<|yv h fun _ w h=>?_
   exact zm<|yS h fun _ w h=>yx h fun _ w h=>yu h fun w h=>zn<|sim_block_normal<|⟨rfl,h⟩
 · refine sim_block_normal<|zk<|zs<|zr<|yv h fun _ w h=>yc h c83 fun _ w h=>zn<|zk<|zs<|zr<|yv h fun _ w h=>zm<|zn<|zk<|sim_ret ?_
   exact bodyM_ret rfl h
 exact h.elim
open Go.RowKit (intOf Below)
def addS (o:List ByteArray) (s:ByteArray):List ByteArray:=if o.any (fun y=>decide (y=s)) then o else o++[s]
theorem dedup_snoc:∀ (l seen:List ByteArray) (s:ByteArray),dedupA seen (l++[s])=dedupA seen l++(if (seen++l).any (fun y=>decide (s=y)) then [] else [s])
 | [],seen,s=>by
  simp only [List.nil_append,dedupA,List.append_nil]
 | a::l,seen,s=>by
  simp only [List.cons_append,dedupA]
  rw [dedup_snoc l (seen++[a]) s]
  have:(seen++[a]++l)=seen++a::l:=by simp
  rw [this]
  split<;>simp
theorem mem_dedup:∀ (l seen:List ByteArray) (s:ByteArray),s∈dedupA seen l↔s∈l∧s ∉ seen
 | [],seen,s=>by simp [dedupA]
 | a::l,seen,s=>by
  simp only [dedupA]
  by_cases h:(seen.any fun y=>decide (a=y))=true
  · rw [if_pos h,mem_dedup l]
    have ha:a∈seen:=by obtain ⟨y,h1,h2⟩:=List.any_eq_true.1 h;simp at h2;subst h2;exact h1
    simp only [List.mem_append,List.mem_singleton,List.mem_cons,not_or]
    constructor
    · rintro ⟨h1,h2,h3⟩;exact ⟨.inr h1,h2⟩
    · rintro ⟨h1 | h1,h2⟩
      · subst h1;exact absurd ha h2
      · exact ⟨h1,h2,⟨fun (e:s=a)=>h2 (e ▸ ha),by simp⟩⟩
  · rw [if_neg h]
    have ha:a ∉ seen:=fun h2=>h (List.any_eq_true.2 ⟨a,h2,by simp⟩)
    simp only [List.mem_cons,mem_dedup l,List.mem_append,List.mem_singleton,not_or]
    by_cases e:s=a
    · subst e;simp [ha]
    · simp [e]
theorem dedup_fold (l:List ByteArray):dedupA [] l=l.foldl addS []:=by
 refine snoc_induct (motive:=fun l=>dedupA [] l=l.foldl addS []) rfl (fun l a ih=>?_) l
 rw [dedup_snoc,List.foldl_append,← ih,List.nil_append]
 show _=addS (dedupA [] l) a
 unfold addS
 have:((dedupA [] l).any fun y=>decide (y=a))=(l.any fun y=>decide (a=y)):=by
  rw [Bool.eq_iff_iff,List.any_eq_true,List.any_eq_true]
  constructor
  · rintro ⟨y,h1,h2⟩;simp at h2;subst h2;exact ⟨y,((mem_dedup l [] y).1 h1).1,by simp⟩
  · rintro ⟨y,h1,h2⟩;simp at h2;subst h2;exact ⟨a,(mem_dedup l [] a).2 ⟨h1,by simp⟩,by simp⟩
 rw [this]
 split<;>simp
theorem addS_len (o:List ByteArray) (s:ByteArray):o.length≤(addS o s).length∧(addS o s).length≤o.length+1:=by unfold addS;split<;>simp
theorem foldl_addS_len:∀ (l o:List ByteArray),(l.foldl addS o).length≤o.length+l.length
 | [],o=>by simp
 | s::l,o=>by
  have h1:=foldl_addS_len l (addS o s)
  have h2:=(addS_len o s).2
  simp only [List.foldl_cons,List.length_cons];omega
abbrev OwnS (w:World) (base:Nat) (v:Value) (l:List ByteArray):Prop:=OwnE w base 9 1 strEnc v l
theorem append_strL {w:World} {QP:List PanicEntry→World→Prop} {k:Value→World→Prop} {base:Nat} {v:Value} {l:List ByteArray} (s:ByteArray) {p:Nat} (hown:OwnS w base v l) (hp:w.heap[p]?=some (.cells #[.string s] 9 (0,0))) (hbase:base≤w.heap.size) (hl:l.length≤1048576)
 (hk:∀ v' w',OwnS w' base v' (l++[s])→w.grownBy w' v.ownBlock→(∀ b,v'.ownBlock=some b→v.ownBlock=some b∨b=w.heap.size)→k v' w') :
 opV Pg (Builtin.append_ #[82,82] 82 #[v,.slice (some ⟨p,0,none⟩) 1 1]) QP w k:=by
 have hby:=by9
 refine op_appendL (l':=[s]) Tryz.underlying82 ty9 rfl (by decide) (fun _=>rfl) (fun x _ u hu=>by simp at hu;subst hu;rfl) hown (fun j x hx=>?_) hbase (Nat.zero_lt_one) ?_ (by simp;omega) ?_
 · cases j with
   | zero =>
    simp at hx;subst hx
    intro j v hv
    rw [(cells_of_heap hp).1]
    simpa using hv
   | succ j=>simp at hx
 · simp only [List.length_cons,List.length_nil]
   exact Nat.le_trans (Nat.mul_le_mul (Nat.add_le_add_right hl 1) hby) (by decide)
 · intro g cap w' h1 h2 h3 h4
   refine hk _ w' h1 h2 (fun b hb=>?_)
   simp only [Value.ownBlock,Option.some.injEq] at hb
   subst hb
   exact h3
def Apart (v u:Value):Prop:=∀ b,v.ownBlock=some b→u.ownBlock≠some b
theorem OwnS.lt {w:World} {base:Nat} {v:Value} {l:List ByteArray} (h:OwnS w base v l):∀ b,v.ownBlock=some b→b < w.heap.size:=fun b hb=>(World.ownsRow.lt h b hb).2
theorem Apart.after {v u v':Value} {n:Nat} (h:Apart v u) (hu:∀ b,u.ownBlock=some b→b < n) (hv:∀ b,v'.ownBlock=some b→v.ownBlock=some b∨b=n):Apart v' u:=fun b hb e=>by
 rcases hv b hb with h1 | h1
 · exact h b h1 e
 · have:=hu b e;omega
def refsL (m:MsgD):List ByteArray:=dedupA [] (allRefs m.fields)
section
variable {W:World} {R:RT}
theorem rre_in2 {w:World} (e:Ext W w) (sv t6 t4:Value) (out L:List ByteArray) (hO:OwnS w W.heap.size sv out) (hL:OwnS w W.heap.size t6 L) (hA:Apart sv t6) (hlen:out.length+L.length≤1048576) (next1:Value→Value→World→Prop)
 (i:Nat) (hi:i < 9223372036854775807) (h4:t4 = .int .i64 (i:Int)) (hn:∀ sv' w',Ext W w'→OwnS w' W.heap.size sv' (L.foldl addS out)→next1 sv' (.int .i64 ((i+1:Nat):Int)) w') :
 loop2 (fun t3 t8 w next7=>n24c5 t3 t4 t6 t8 next1 next7 R w) sv (.int .i64 0) w:=by
 refine loop2_intro (fun a b w'=>∃ (k:Nat) (sv':Value),a=sv'∧b = .int .i64 k∧k≤L.length∧Ext W w'∧OwnS w' W.heap.size sv' ((L.take k).foldl addS out)∧OwnS w' W.heap.size t6 L∧Apart sv' t6) (fun _ b _=>L.length - (intOf b).toNat) ⟨0,sv,rfl,rfl,by omega,e,hO,hL,hA⟩ ?_
 rintro _ _ w1 ⟨k,sv',rfl,rfl,hk,e1,hO1,hL1,hA1⟩
 have hsl:=hL1.slice (E:=EStr) (fun _=>rfl) (fun _ _=>rfl)
 obtain ⟨A,c,h6,hlc,hcm,hlm,hel⟩:=SliceOf.open hsl
 unfold n24c5
 rcases drop_cases hk with ⟨x,hx,hd,hlt,hdec⟩ | ⟨hk,hd,hdec⟩
 · have hstep:(L.take (k+1)).foldl addS out=addS ((L.take k).foldl addS out) x:=by rw [take_snoc hx,List.foldl_append];rfl
   have hol:((L.take k).foldl addS out).length≤1048576:=by
    have:=foldl_addS_len (L.take k) out
    have h2:(L.take k).length≤L.length:=by rw [List.length_take];omega
    omega
   generalize ((L.take k).foldl addS out)=o1 at hO1 hstep hol
   obtain ⟨b6,o6,cs6,hA6,_,hE6,hcs6⟩:=hel k x hx
   subst h6 hA6
   subst hcs6
   simp (disch:=try exact DI) only [↓PR,QR,simprocAttr,hdec]
   refine loop2_intro (fun a b w'=>∃ (j:Nat),a = .bool ((o1.take j).any fun y=>decide (y=x))∧b = .int .i64 j∧j≤o1.length∧Ext w1 w') (fun _ b _=>o1.length - (intOf b).toNat) ⟨0,by simp,rfl,by omega,Ext.refl _⟩ ?_
   rintro _ _ w2 ⟨j,rfl,rfl,hj,e2⟩
   have hso:=hO1.slice (E:=EStr) (fun _=>rfl) (fun _ _=>rfl)
   obtain ⟨A3,c3,h3,hlc3,hcm3,hlm3,hel3⟩:=SliceOf.open hso
   unfold n24c4
   rcases drop_cases hj with ⟨y,hy,hdj,hltj,hdecj⟩ | ⟨hj,hdj,hdecj⟩
   · obtain ⟨b3,o3,cs3,hA3,_,hE3,hcs3⟩:=hel3 j y hy
     subst h3 hA3
     subst hcs3
     have hany:((o1.take (j+1)).any fun y=>decide (y=x))=(((o1.take j).any fun y=>decide (y=x))||decide (y=x)):=by rw [take_snoc hy,List.any_append];simp
     simp (disch:=try exact DI) only [↓PR,QR,simprocAttr,hdecj]
     refine drawK_intro ?_
     unfold n24c1
     generalize hsn:((o1.take j).any fun y=>decide (y=x))=sn at hany
     cases sn with
     | true =>
      simp (disch:=try exact DI) only [↓PR,QR,simprocAttr]
      refine ⟨⟨j+1,?_,rfl,by omega,ee⟩,meas_lt (kd := .i64) hltj⟩
      rw [hany];rfl
     | false =>
      simp (disch:=try exact DI) only [↓PR,QR,simprocAttr,hE3.c1 e2,hE6.c1 e2]
      refine ⟨⟨j+1,?_,rfl,by omega,ee⟩,meas_lt (kd := .i64) hltj⟩
      rw [hany];rfl
   · subst hj
     rw [List.take_length]
     have hadd:addS o1 x=if (o1.any fun y=>decide (y=x))=true then o1 else o1++[x]:=rfl
     rw [hadd] at hstep
     subst h3
     simp (disch:=try exact DI) only [↓PR,QR,simprocAttr,hdecj]
     unfold n24c3
     generalize (o1.any fun y=>decide (y=x))=sn at hstep
     cases sn with
     | true =>
      rw [if_pos rfl] at hstep
      simp (disch:=try exact DI) only [↓PR,QR,simprocAttr]
      exact ⟨⟨k+1,_,rfl,rfl,by omega,e1.trans e2,by rw [hstep];exact hO1.ext e2,hL1.ext e2,hA1⟩,meas_lt (kd := .i64) hlt⟩
     | false =>
      rw [if_neg (by simp)] at hstep
      simp (disch:=try exact DI) only [↓PR,QR,simprocAttr,n24c2,hE6.c1 e2]
      have ea:Ext w1 (w2.alloc (Obj.cells #[.string x] 9)):=e2.alloc _
      have hsz:(w2.alloc (Obj.cells #[.string x] 9)).heap.size=w2.heap.size+1:=by simp only [World.size_alloc]
      have s1:=e1.size
      have s2:=e2.size
      refine append_strL x (hO1.ext ea) (heap_new w2 _ _) (by omega) hol ?_
      intro v' w' hO' hg hv'
      have ew:Ext W w':=(e1.trans ea).grown hg (fun b hb=>(World.ownsRow.lt hO1 b hb).1)
      simp (disch:=try exact DI) only [↓PR,QR,simprocAttr]
      refine ⟨⟨k+1,v',rfl,rfl,by omega,ew,by rw [hstep];exact hO',(hL1.ext ea).grown hg (fun b hb e=>hA1 b e hb),hA1.after (fun b hb=>?_) hv'⟩,meas_lt (kd := .i64) hlt⟩
      have:=hL1.lt b hb
      omega
 · subst hk
   rw [List.take_length] at hO1
   subst h6
   rw [h4]
   simp (disch:=try exact DI) only [↓PR,QR,simprocAttr,hdec]
   exact hn _ w1 e1 hO1
theorem rre_c8 {w:World} (e:Ext W w) (x:FieldD) (tv cv:Value) (p5:Nat) (o5:w.heap[p5]?=some (.cells (fieldCells x tv cv).toArray 48 (0,0))) (hC:CasesOf W cv x.cases) (sv t6 t4:Value) (out:List ByteArray) (hO:OwnS w W.heap.size sv out) (hlen:out.length+(refsF x).length≤1048576)
 (h6:(x.kind≠9∧OwnS w W.heap.size t6 (refsF x)∧Apart sv t6)∨(x.kind=9∧t6 = .slice none 0 0)) (next1:Value→Value→World→Prop) (i:Nat) (hi:i < 9223372036854775807) (h4:t4 = .int .i64 (i:Int))
 (hn:∀ sv' w',Ext W w'→OwnS w' W.heap.size sv' ((refsF x).foldl addS out)→next1 sv' (.int .i64 ((i+1:Nat):Int)) w') :
 loop2 (fun t6 t7 w next5=>n24c8 sv t4 (.pointer (some ⟨p5,0,none⟩)) t6 t7 next1 next5 R w) t6 (.int .i64 0) w:=by
 rcases h6 with ⟨hk,hL,hA⟩ | ⟨hk,rfl⟩
 · refine loop2_intro (fun a b w'=>a=t6∧b = .int .i64 0∧w'=w) (fun _ _ _=>0) ⟨rfl,rfl,rfl⟩ ?_
   rintro _ _ _ ⟨rfl,rfl,rfl⟩
   unfold n24c8
   have k9:(x.kind == 9)=false:=by simpa using hk
   simp (disch:=try exact DI) only [↓PR,QR,simprocAttr,(cells_of_heap o5).1,k9,n24c7]
   exact rre_in2 e sv _ t4 out (refsF x) hO hL hA hlen next1 i hi h4 hn
 · have hr:refsF x=x.cases.map (·.of):=by unfold refsF;rw [if_neg (by omega),if_pos hk]
   have k9:(x.kind == 9)=true:=by simpa using hk
   obtain ⟨A,c,rfl,hlc,hcm,hlm,hel⟩:=SliceOf.open hC
   have l5:p5 < w.heap.size:=(Array.getElem?_eq_some_iff.1 o5).1
   rw [hr] at hlen hn
   simp only [List.length_map] at hlen
   refine loop2_intro (fun a b w'=>∃ (k:Nat) (u:Value),a=u∧b = .int .i64 k∧k≤x.cases.length∧Ext W w'∧w'.heap[p5]?=some (.cells (fieldCells x tv (.slice A x.cases.length c)).toArray 48 (0,0))∧OwnS w' w.heap.size u ((x.cases.take k).map (·.of))∧OwnS w' W.heap.size sv out∧w.heap.size≤w'.heap.size) (fun _ b _=>x.cases.length - (intOf b).toNat) ⟨0,_,rfl,rfl,by omega,e,o5,OwnE.nil _ _ _ _ _,hO,Nat.le_refl _⟩ ?_
   rintro u _ w1 ⟨k,_,rfl,rfl,hk1,e1,y5,hU,hO1,hs1⟩
   have hAp:Apart sv u:=fun b hb e=>by
    have h1:=hO.lt b hb
    have h2:=(World.ownsRow.lt hU b e).1
    omega
   unfold n24c8
   rcases drop_cases hk1 with ⟨y,hy,hd,hlt,hdec⟩ | ⟨hk1,hd,hdec⟩
   · obtain ⟨b,o,cs,rfl,hl,hA,rfl⟩:=hel k y hy
     simp (disch:=try exact DI) only [↓PR,QR,simprocAttr,(cells_of_heap y5).1,k9,hdec,n24c7]
     unfold n24c6
     simp (disch:=try exact DI) only [↓PR,QR,simprocAttr,(cells_of_heap y5).1,hA.c3 e1]
     have ea:Ext w1 (w1.alloc (Obj.cells #[.string y.of] 9)):=ee
     have hsz:(w1.alloc (Obj.cells #[.string y.of] 9)).heap.size=w1.heap.size+1:=by simp only [World.size_alloc]
     have sW:=e.size
     refine append_strL y.of (hU.ext ea) (heap_new w1 _ _) (by omega) (by rw [List.length_map,List.length_take];omega) ?_
     intro v' w' hO' hg hv'
     have ew:Ext W w':=(e1.trans ea).grown hg (fun b hb=>by have:=(World.ownsRow.lt hU b hb).1;omega)
     have hsw:=hg.size
     simp (disch:=try exact DI) only [↓PR,QR,simprocAttr]
     refine ⟨⟨k+1,v',rfl,rfl,by omega,ew,?_,?_,(hO1.ext ea).grown hg (fun b hb e=>hAp b hb e),by omega⟩,meas_lt (kd := .i64) hlt⟩
     · rw [hg.block p5 (by omega) (fun e=>by have:=(World.ownsRow.lt hU p5 e.symm).1;omega)]
       exact ea.obj y5
     · rw [take_snoc hy,List.map_append];exact hO'
   · subst hk1
     rw [List.take_length] at hU
     simp (disch:=try exact DI) only [↓PR,QR,simprocAttr,(cells_of_heap y5).1,k9,hdec,n24c7]
     exact rre_in2 e1 sv _ t4 out (x.cases.map (·.of)) hO1 (OwnE.base hU e.size) hAp (by simpa using hlen) next1 i hi h4 hn
theorem rRefers_ret (w0:World) (v:Value) (m:MsgD) (hm:MsgVal w0 v m) (hb:(allRefs m.fields).length≤1048576) :
 Ret Pg 54 #[v] w0 fun r w'=>OwnS w' w0.heap.size r (refsL m)∧Ext w0 w':=by
 obtain ⟨fv,rfl,hF⟩:=hm
 obtain ⟨A,c,rfl,hlc,hcm,hlm,hel⟩:=SliceOf.open hF
 refine n24s (R:=retR _) ?_;unfold n24
 simp (disch:=try exact DI) only [↓PR,QR,simprocAttr]
 have hBW:=ElemAt.new (w:=w0) (msgCells m (.slice A m.fields.length c)) (24)
 have eW:Ext w0 (w0.alloc (Obj.cells (List.toArray (msgCells m (.slice A m.fields.length c))) (24))):=(Ext.refl _).alloc _
 generalize (w0.alloc (Obj.cells (List.toArray (msgCells m (.slice A m.fields.length c))) (24)))=W at hBW eW ⊢
 have hW:w0.heap.size≤W.heap.size:=eW.size
 refine loop2_intro (fun a b w'=>∃ (k:Nat) (sv:Value),a=sv∧b = .int .i64 k∧k≤m.fields.length∧Ext W w'∧OwnS w' W.heap.size sv (dedupA [] (allRefs (m.fields.take k)))) (fun _ b _=>m.fields.length - (intOf b).toNat) ⟨0,_,rfl,rfl,by omega,Ext.refl _,OwnE.nil _ _ _ _ _⟩ ?_
 rintro sv _ w1 ⟨k,_,rfl,rfl,hk,e,hO⟩
 have e':=eW.trans e
 have s1:=e.size
 unfold n24c13
 rcases drop_cases hk with ⟨x,hx,hd,hlt,hdec⟩ | ⟨hk,hd,hdec⟩
 · obtain ⟨b,o,cs,rfl,hl,hA,hE⟩:=hel k x hx
   obtain ⟨tv,cv,rfl,hT,hC,ht1,hc1⟩:=hE.op
   have hpre:allRefs (m.fields.take (k+1))=allRefs (m.fields.take k)++refsF x:=by unfold allRefs;rw [take_snoc hx,List.flatMap_append];simp
   have hle:(allRefs (m.fields.take k)).length+(refsF x).length≤1048576:=by
    have h1:(allRefs (m.fields.take (k+1))).length≤(allRefs m.fields).length:=by
     conv=>rhs;rw [← List.take_append_drop (k+1) m.fields]
     unfold allRefs
     rw [List.flatMap_append,List.length_append];omega
    rw [hpre,List.length_append] at h1;omega
   have hout:(dedupA [] (allRefs (m.fields.take k))).length≤(allRefs (m.fields.take k)).length:=by
    rw [dedup_fold];have:=foldl_addS_len (allRefs (m.fields.take k)) [];simpa using this
   have hle':(dedupA [] (allRefs (m.fields.take k))).length+(refsF x).length≤1048576:=by omega
   have hnext:dedupA [] (allRefs (m.fields.take (k+1)))=(refsF x).foldl addS (dedupA [] (allRefs (m.fields.take k))):=by rw [hpre,dedup_fold,dedup_fold,List.foldl_append]
   simp (disch:=try exact DI) only [↓PR,QR,simprocAttr,hdec,hBW.c2]
   unfold n24c12
   simp (disch:=try exact DI) only [↓PR,QR,simprocAttr,hBW.c2,hA.c15 e']
   have ea:Ext w1 (w1.alloc (Obj.cells (fieldCells x tv cv).toArray 48)):=ee
   have o5:=heap_new w1 (fieldCells x tv cv).toArray 48
   have hO2:=hO.ext ea
   have ew:=e.trans ea
   have hbn:∀ sv' w',Ext W w'→OwnS w' W.heap.size sv' ((refsF x).foldl addS (dedupA [] (allRefs (m.fields.take k))))→(∃ (k':Nat) (sv:Value),sv'=sv∧(Value.int .i64 ((k+1:Nat):Int)) = .int .i64 k'∧k'≤m.fields.length∧Ext W w'∧OwnS w' W.heap.size sv (dedupA [] (allRefs (m.fields.take k'))))∧m.fields.length - (intOf (Value.int .i64 ((k+1:Nat):Int))).toNat < m.fields.length - (intOf (Value.int .i64 (k:Int))).toNat :=
    fun sv' w' ew h=>⟨⟨k+1,sv',rfl,rfl,by omega,ew,by rw [hnext];exact h⟩,meas_lt (kd := .i64) hlt⟩
   have hCW:=CasesOf.ext hC eW
   have lo:∀ b,sv.ownBlock=some b→b < w1.heap.size:=fun b hb=>hO.lt b hb
   generalize hw2:(w1.alloc (Obj.cells (fieldCells x tv cv).toArray 48))=w2 at ea o5 hO2 ew
   have hs2:w2.heap.size=w1.heap.size+1:=by rw [← hw2];simp only [World.size_alloc]
   by_cases hr:x.kind=7∨x.kind=8∨x.kind=12
   · have hrf:refsF x=[x.of]:=by unfold refsF;rw [if_pos hr]
     have tail:joinK (fun (t6:Value) (w:World)=>loop2 (fun t6 t7 w next5=>n24c8 sv (.int .i64 (k:Int)) (.pointer (some ⟨w1.heap.size,0,none⟩)) t6 t7 (fun a0' a1' w'=>(∃ (k':Nat) (sv:Value),a0'=sv∧a1' = .int .i64 k'∧k'≤m.fields.length∧Ext W w'∧OwnS w' W.heap.size sv (dedupA [] (allRefs (m.fields.take k'))))∧m.fields.length - (intOf a1').toNat < m.fields.length - (intOf (Value.int .i64 (k:Int))).toNat) next5 (retR fun r w'=>OwnS w' w0.heap.size r (refsL m)∧Ext w0 w') w) t6 (.int .i64 0) w) fun K4=>n24c9 (.pointer (some ⟨w1.heap.size,0,none⟩)) K4 (retR fun r w'=>OwnS w' w0.heap.size r (refsL m)∧Ext w0 w') w2:=by
      rw [joinK_eq]
      unfold n24c9
      simp (disch:=try exact DI) only [↓PR,QR,simprocAttr,(cells_of_heap o5).1]
      have eb:Ext w2 (w2.alloc (Obj.cells #[.string x.of] 9)):=ee
      have hsb:(w2.alloc (Obj.cells #[.string x.of] 9)).heap.size=w2.heap.size+1:=by simp only [World.size_alloc]
      refine append_strL x.of (OwnE.nil _ W.heap.size _ _ _) (heap_new w2 _ _) (by omega) (by decide) ?_
      intro v' w' hO' hg hv'
      have eg:Ext w1 w':=(ea.trans eb).grown hg (fun b hb=>by cases hb)
      refine rre_c8 (e.trans eg) x tv cv w1.heap.size ?_ hCW sv v' _ _ (hO.ext eg) hle' (.inl ⟨by omega,by rw [hrf];exact hO',fun b hb e=>?_⟩) _ k (by omega) rfl hbn
      · exact (Ext.grown (Ext.refl _) hg (fun b hb=>by cases hb)).obj (eb.obj o5)
      · rcases hv' b e with h1 | h1
        · cases h1
        · have:=lo b hb;omega
     rw [joinK_eq] at tail
     rcases hr with h7 | h8 | h12
     · have k7:(x.kind == 7)=true:=by simpa using h7
       simp (disch:=try exact DI) only [↓PR,QR,simprocAttr,k7,n24c11,n24c10]
       exact tail
     · have k7:(x.kind == 7)=false:=by simp;omega
       have k8:(x.kind == 8)=true:=by simpa using h8
       simp (disch:=try exact DI) only [↓PR,QR,simprocAttr,k7,k8,n24c11,n24c10,(cells_of_heap o5).1]
       exact tail
     · have k7:(x.kind == 7)=false:=by simp;omega
       have k8:(x.kind == 8)=false:=by simp;omega
       have k12:(x.kind == 12)=true:=by simpa using h12
       simp (disch:=try exact DI) only [↓PR,QR,simprocAttr,k7,k8,k12,n24c11,n24c10,(cells_of_heap o5).1]
       exact tail
   · have k7:(x.kind == 7)=false:=by simp;omega
     have k8:(x.kind == 8)=false:=by simp;omega
     have k12:(x.kind == 12)=false:=by simp;omega
     simp (disch:=try exact DI) only [↓PR,QR,simprocAttr,k7,k8,k12,n24c11,n24c10,(cells_of_heap o5).1]
     refine rre_c8 ew x tv cv w1.heap.size o5 hCW sv _ _ _ hO2 hle' ?_ _ k (by omega) rfl hbn
     by_cases h9:x.kind=9
     · exact .inr ⟨h9,rfl⟩
     · have hrf:refsF x=[]:=by unfold refsF;rw [if_neg hr,if_neg h9]
       exact .inl ⟨h9,by rw [hrf];exact OwnE.nil _ _ _ _ _,fun b _ e=>by cases e⟩
 · subst hk
   rw [List.take_length] at hO
   simp (disch:=try exact DI) only [↓PR,QR,simprocAttr,hdec,hBW.c2]
   exact ⟨OwnE.base hO hW,ee⟩
end
theorem append_intG {w:World} {QP:List PanicEntry→World→Prop} {k:Value→World→Prop} {base b:Nat} {v:Value} {l:List Int} (n:Int) (h:RowI w base v l) (hc:w.cell? ⟨b,0,none⟩=some (.int .i64 n)) (hb:base≤w.heap.size) (hl:l.length≤1048576) (hk:∀ v' w',RowI w' base v' (l++[n])→w.grownBy w' v.ownBlock→k v' w') :
 opV Pg (Builtin.append_ #[30,30] 30 #[v,.slice (some ⟨b,0,none⟩) 1 1]) QP w k:=by
 refine op_appendE (l':=[n]) Tryz.underlying30 ty3 rfl (by decide) (fun _=>rfl) (fun x hx u hu=>?_) h (fun j x hx=>?_) hb ?_ (by simp;omega) hk
 · simp at hu;subst hu;rfl
 · cases j with
   | zero=>simp at hx;subst hx;intro i u hu;cases i with
    | zero=>injection hu with hu;subst hu;simpa using hc
    | succ i=>cases hu
   | succ j=>cases hx
 · exact Nat.le_trans (Nat.mul_le_mul (show l.length+[n].length≤1048577 by simp;omega) by3) (by decide)
theorem lasts_own {B base:Nat} {v:Value} {l:List Int}:Lasts B (fun w=>RowI w base v l):=⟨fun _ _ h e=>h.ext e,fun w q r r' _ h hq=>by
 refine ⟨h.1,?_⟩
 rcases h.2 with h2 | ⟨g,cap,cur,h1,h2,h3,h4⟩
 · exact .inl h2
 · refine .inr ⟨g,cap,cur,h1,h2,(World.putObj_heap_other (by rintro rfl;rw [h3] at hq;cases hq)).trans h3,h4⟩⟩
theorem own_put {w:World} {base q:Nat} {v:Value} {l:List Int} {o:Obj} (h:RowI w base v l) (hq:w.heap[q]?=some o) (hn:∀ cs T fr,o ≠ .cells cs T fr) (o':Obj):RowI (w.putObj q o') base v l:=by
 refine ⟨h.1,?_⟩
 rcases h.2 with h2 | ⟨g,cap,cur,h1,h2,h3,h4⟩
 · exact .inl h2
 · refine .inr ⟨g,cap,cur,h1,h2,(World.putObj_heap_other (by rintro rfl;rw [h3] at hq;injection hq with hq;exact hn _ _ _ hq.symm)).trans h3,h4⟩
theorem lasts_save {B p:Nat} {W:World} (hB:W.heap.size≤B):Lasts B (Save p (p+1) W):=⟨fun _ _ h e=>h.ext e,fun w q r r' hq h hr=>⟨h.os,h.tape,h.output,by rw [World.putObj_size];exact h.size,fun k hk hb=>(World.putObj_heap_other (by omega)).trans (h.block k hk hb)⟩⟩
theorem dedup_nodup:∀ (l seen:List ByteArray),(dedupA seen l).Nodup
 | [],_=>List.nodup_nil
 | x::l,seen=>by
  have ih:=dedup_nodup l (seen++[x])
  unfold dedupA
  split
  · exact ih
  · refine List.nodup_cons.2 ⟨fun h=>?_,ih⟩
    exact ((mem_dedup _ _ _).1 h).2 (by simp)
theorem dedup_len:∀ (l seen:List ByteArray),(dedupA seen l).length≤l.length
 | [],_=>Nat.le_refl _
 | x::l,seen=>by
  have ih:=dedup_len l (seen++[x])
  unfold dedupA
  split
  · simp only [List.length_cons];omega
  · simp only [List.length_cons];omega
theorem refsI_nodup {l:List MsgD} (h:Fine l) {k:Nat} {m:MsgD} (hk:l[k]?=some m):(refsI l k).Nodup:=by
 unfold refsI
 rw [hk]
 refine List.pairwise_map.2 (List.Pairwise.imp_of_mem (R:=(· ≠ ·)) ?_ (dedup_nodup _ []))
 intro s t hs ht hne he
 obtain ⟨i,m1,_,h2,h3,h4,_⟩:=fine_idx h hk hs
 obtain ⟨j,m2,_,h6,h7,h8,_⟩:=fine_idx h hk ht
 have hij:i=j:=by omega
 subst hij
 rw [h2] at h6
 injection h6 with h6
 subst h6
 exact hne (h3.symm.trans h7)
theorem refs_sorted {l:List MsgD} (h:Fine l) {k:Nat} {m:MsgD} (hk:l[k]?=some m):(refsI l k).mergeSort (fun x y=>decide (x≤y))=toP l k:=by
 refine rise_ext (sort_rise (refsI_nodup h hk)) (sel_rise _ _) fun x=>?_
 rw [mem_merge,toP,mem_sel]
 constructor
 · intro hx
   obtain ⟨a,b⟩:=refsI_lt h hx
   refine ⟨x.toNat,by omega,mem_refsI.1 (by rw [Int.toNat_of_nonneg a];exact hx),by omega⟩
 · rintro ⟨i,_,hi,rfl⟩
   exact mem_refsI.2 hi
theorem refers_ret (w0:World) (v:Value) (d:DefD) (k:Nat) (m:MsgD) (hd:DefVal w0 v d) (hk:d.msgs[k]?=some m) (hf:Fine d.msgs) (hb:(allRefs m.fields).length≤1048576):Ret Pg 56 #[v,.int .i64 (k:Int)] w0 fun r w'=>RowI w' w0.heap.size r (toP d.msgs k)∧Ext w0 w':=by
 obtain ⟨mv,rfl,hM⟩:=hd
 have hm1:=SliceOf.oneCell hM
 have hM0:=hM
 obtain ⟨b,o,c,rfl,_,hcm,_,hkl,hel⟩:=open1 hM hk
 obtain ⟨cs,_,hA,fv,rfl,hF⟩:=hel k m hk
 have hsort:=refs_sorted hf hk
 have hrI:refsI d.msgs k=(refsM m).map fun s=>idx (fun x=>decide (x.name=s)) d.msgs:=by unfold refsI;rw [hk]
 have hany:∀ s∈refsM m,(d.msgs.any fun x=>decide (x.name=s))=true:=fun s hs=>by
  obtain ⟨i,m',_,h2,h3,_⟩:=fine_idx hf hk hs
  exact List.any_eq_true.2 ⟨m',List.mem_of_getElem? h2,by simpa using h3⟩
 refine n100s (R:=retR _) ?_;unfold n100
 have eW:Ext w0 ((w0.alloc (.cells (defCells d (.slice (some ⟨b,o,none⟩) d.msgs.length c)).toArray 28)).alloc (.cells #[.slice none 0 0] 30)):=ee
 have o5:=heap_new (w0.alloc (.cells (defCells d (.slice (some ⟨b,o,none⟩) d.msgs.length c)).toArray 28)) #[.slice none 0 0] 30
 have o2:=((Ext.refl (w0.alloc (.cells (defCells d (.slice (some ⟨b,o,none⟩) d.msgs.length c)).toArray 28))).alloc (.cells #[.slice none 0 0] 30)).obj (heap_new w0 (defCells d (.slice (some ⟨b,o,none⟩) d.msgs.length c)).toArray 28)
 rw [World.size_alloc] at o5
 simp (disch:=try exact DI) only [↓PR,QR,simprocAttr,hA.c2 eW]
 simp only [World.size_alloc]
 change callK _ _ _ _ ((w0.alloc (.cells (defCells d (.slice (some ⟨b,o,none⟩) d.msgs.length c)).toArray 28)).alloc (.cells #[.slice none 0 0] 30)) _
 generalize ((w0.alloc (.cells (defCells d (.slice (some ⟨b,o,none⟩) d.msgs.length c)).toArray 28)).alloc (.cells #[.slice none 0 0] 30))=W at eW o2 o5 ⊢
 generalize hp5:w0.heap.size+1=p5 at o5 ⊢
 refine callK_ret (Refers_ret W _ m ⟨fv,rfl,FieldsOf.ext hF eW⟩ hb) ?_
 rintro _ w1 ⟨pb,sv,rfl,hSt,hpb,e1⟩
 have E1:=eW.trans e1
 have s1:=E1.size
 have x2:=e1.obj o2
 have x5:=e1.obj o5
 have l5:=(Array.getElem?_eq_some_iff.1 x5).1
 have lW5:=(Array.getElem?_eq_some_iff.1 o5).1
 unfold n100c3
 refine ⟨_,_,(refsM m).length,strX (refsM m),fun w=>StrsAt w pb sv (allRefs m.fields),fun j w'=>Save p5 (p5+1) w1 w'∧∃ rv,w'.heap[p5]?=some (.cells #[rv] 30 (0,0))∧RowI w' w1.heap.size rv ((refsI d.msgs k).take j),fun _ _=>False,fun _ _=>False,rfl,c69,Refers_seq pb sv _,⟨Save.refl _ _ _,_,x5,OwnE.nil _ _ _ _ _⟩,fun j w' h=>h.1.strs hSt (by omega),fun j=>(lasts_save (Nat.le_refl _)).and (.ex fun rv=>(Lasts.has _ (by simp)).and lasts_own),fun _=>Lasts.const _ _,?_,?_,?_,?_⟩
 · intro rec j w4 hj hI4 hrec hready
   refine ⟨hready,fun w5 hbz=>?_⟩
   have hrec5:=hrec.busied hbz
   obtain ⟨sv5,rv,q5,hR5⟩:=Lasts.busied (I:=fun w'=>Save p5 (p5+1) w1 w'∧∃ rv,w'.heap[p5]?=some (.cells #[rv] 30 (0,0))∧RowI w' w1.heap.size rv ((refsI d.msgs k).take j)) ((lasts_save (Nat.le_refl _)).and (.ex fun rv=>(Lasts.has _ (by simp)).and lasts_own)) hbz (Nat.le_succ _) hI4
   clear hI4 hrec hready hbz
   obtain ⟨s,hs⟩:=getElem?_lt hj
   rw [show strX (refsM m) j = .string s by unfold strX;rw [hs]]
   have hsm:=List.mem_of_getElem? hs
   have q2:=sv5.obj x2 (by omega)
   have E5:Ext w0 w5:=sv5.to_ext E1 (by omega)
   simp (disch:=try exact DI) only [↓PR,QR,simprocAttr,(cells_of_heap q2).1]
   refine zcr (Find_ret _ _ d s ⟨_,rfl,MsgsOf.ext hM0 E5⟩) fun w6 e6=>?_
   rw [hany s hsm,idx0_any (hany s hsm)]
   have hr6:=hR5.ext e6
   have q6:=e6.obj q5
   have hrv:=SliceOf.oneCell (RowI.ints hr6)
   have hix:(refsI d.msgs k)[j]?=some (idx (fun x=>decide (x.name=s)) d.msgs):=by rw [hrI,List.getElem?_map,hs];rfl
   have hlen:((refsI d.msgs k).take j).length≤(refsI d.msgs k).length:=by rw [List.length_take];omega
   have hrl:(refsI d.msgs k).length≤1048576:=by
    rw [hrI,List.length_map]
    exact Nat.le_trans (dedup_len _ _) hb
   generalize idx (fun x=>decide (x.name=s)) d.msgs=n at hix
   unfold n100c1
   simp (disch:=try exact DI) only [↓PR,QR,simprocAttr,(cells_of_heap q6).1]
   have eY:Ext w6 (w6.alloc (.cells #[.int .i64 n] 3)):=ee
   have oY:=heap_new w6 #[.int .i64 n] 3
   have qY:=eY.obj q6
   have hrY:=hrec5.ext (e6.trans eY)
   have hRY:=hr6.ext eY
   have svY:=(sv5.ext e6).ext eY
   generalize (w6.alloc (.cells #[.int .i64 n] 3))=Y at eY oY qY hrY hRY svY ⊢
   have sY:=svY.size
   refine append_intG n hRY (by rw [(cells_of_heap oY).1];rfl) sY (by omega) ?_
   intro v' w7 hO' hg
   have hne:rv.ownBlock≠some p5:=fun h=>by
    obtain ⟨cur,hcur⟩:=own_type hRY h
    rw [qY] at hcur
    injection hcur with hcur
    injection hcur with _ hT _
    exact absurd hT (by decide)
   have l5Y:=(Array.getElem?_eq_some_iff.1 qY).1
   have q7:=(hg.block p5 l5Y (fun h=>hne h.symm)).trans qY
   have hv':=SliceOf.oneCell hO'.ints
   have sv7:Save p5 (p5+1) w1 w7:=⟨hg.os.trans svY.os,hg.tape.trans svY.tape,hg.output.trans svY.output,Nat.le_trans sY hg.size,fun q hq hb=>(hg.block q (by omega) (fun e=>by have:=(hRY.lt q e.symm).1;omega)).trans (svY.block q hq hb)⟩
   simp (disch:=try exact DI) only [↓PR,QR,simprocAttr,(cells_of_heap q7).1,(cells_of_heap q7).2]
   refine ⟨((goes_grown hRY hg).rec hrY).setCell _ _,sv7.setCell (Nat.le_refl _) (Nat.lt_succ_self _) _,v',by simpa using heap_set (o:=0) q7 v',?_⟩
   rw [take_snoc hix]
   refine (OwnR.only (lo:=w1.heap.size) (hi:=w7.heap.size) ⟨hO',fun b hb=>(hO'.lt b hb).2⟩ (Only.setCell w7 p5 0 v') (.inr (.inl l5))).1
 · rintro w4 ⟨sv4,rv,q5,hR⟩ hmk
   have hrl:(refsI d.msgs k).length≤1048576:=by
    rw [hrI,List.length_map]
    exact Nat.le_trans (dedup_len _ _) hb
   have hlr:(refsI d.msgs k).length=(refsM m).length:=by rw [hrI,List.length_map]
   rw [List.take_of_length_le (by omega)] at hR
   have hrv:=SliceOf.oneCell hR.ints
   unfold n100c2
   simp (disch:=try exact DI) only [↓PR,QR,simprocAttr,(cells_of_heap q5).1]
   have e4:=sv4.to_ext E1 (by omega)
   refine callK_ret (Sort_ret hR hrl) ?_
   rintro _ w5 ⟨rfl,hR5,g5⟩
   rw [hsort] at hR5
   have q55:=g5.low l5 q5
   have hrv5:=SliceOf.oneCell hR5.ints
   simp (disch:=try exact DI) only [↓PR,QR,simprocAttr,(cells_of_heap q55).1]
   refine outX_mark (g5.mark hmk) ?_
   have hR6:=own_put hR5 (g5.mark hmk) (fun _ _ _ h=>by cases h) (.deferred none)
   have e5:=g5.2.1 w0 e4 s1
   simp (disch:=try exact DI) only [↓PR,QR,simprocAttr,outX_nil,retV,resOne]
   exact ⟨hR6.base s1,e5.putObj s1 _⟩
 · rintro c w4 h
   exact h.elim
 · rintro ch w4 h
   exact h.elim
theorem op_makeBools {QP:List PanicEntry→World→Prop} {w:World} {k:Value→World→Prop} (n:Nat) (hn:n≤1048576):opV Pg (Instr.makeSlice 93 (.int .i64 (n:Int)) (.int .i64 (n:Int))) QP w k =
 k (.slice (some ⟨w.heap.size,0,none⟩) n n) (w.alloc (.cells ((List.replicate n false).map fun x=>Value.bool x).toArray 4)):=by
 obtain ⟨⟨i,hi,hs,hby,hz⟩,_⟩:=ty4
 have h1:=by4
 rw [opV_ok (run_make_row (P:=Pg) 93 4 i _ Tryz.underlying93 hi hz hs rfl .i64 .i64 n (by rw [hby];exact Nat.le_trans (Nat.mul_le_mul h1 hn) (by decide)) (by omega) w)]
 congr 3
 rw [List.map_replicate,← toList_madeCells_one]
def BRow (w:World) (b:Nat) (L:List Bool):Prop:=w.heap[b]?=some (.cells (L.map fun x=>Value.bool x).toArray 4 (0,0))
theorem BRow.ext {w w':World} {b:Nat} {L:List Bool} (h:BRow w b L) (e:Ext w w'):BRow w' b L:=e.obj h
theorem BRow.get {w:World} {b:Nat} {L:List Bool} (h:BRow w b L) {i:Nat} {x:Bool} (hi:L[i]?=some x):w.cell? ⟨b,i,none⟩=some (.bool x):=by rw [(cells_of_heap h).1];simp [hi]
theorem BRow.set {w:World} {b:Nat} {L:List Bool} (h:BRow w b L) (i:Nat) (x:Bool):BRow (w.setCell ⟨b,i,none⟩ (.bool x)) b (L.set i x):=by
 have:=heap_set (o:=i) h (.bool x)
 unfold BRow
 rw [this,List.setIfInBounds_toArray,List.map_set]
theorem BRow.bools {w:World} {b:Nat} {L:List Bool} (h:BRow w b L) (hl:L.length≤1048576):SliceOf w 1 EBool (.slice (some ⟨b,0,none⟩) L.length L.length) L:=by
 refine ⟨_,_,rfl,Nat.le_refl _,by omega,fun _=>⟨b,0,rfl,fun k x hx=>⟨[.bool x],rfl,?_,rfl⟩⟩⟩
 intro j v hv
 cases j with
 | zero=>injection hv with hv;subst hv;simpa using h.get hx
 | succ j=>cases hv
def tab (n:Nat) (p:Nat→Bool):List Bool:=(List.range n).map p
theorem tab_len (n:Nat) (p:Nat→Bool):(tab n p).length=n:=by simp [tab]
theorem tab_get {n i:Nat} {p:Nat→Bool} (h:i < n):(tab n p)[i]?=some (p i):=by simp [tab,h]
theorem tab_congr {n:Nat} {p q:Nat→Bool} (h:∀ i,i < n→p i=q i):tab n p=tab n q:=List.map_congr_left fun i hi=>h i (List.mem_range.1 hi)
theorem tab_set {n i:Nat} {p:Nat→Bool} {x:Bool} (h:i < n):(tab n p).set i x=tab n (fun j=>if j=i then x else p j):=by
 apply List.ext_getElem?
 intro j
 by_cases hj:j < n
 · rw [tab_get hj]
   by_cases hji:j=i
   · subst hji;rw [if_pos rfl,List.getElem?_set_self (by rw [tab_len];exact hj)]
   · rw [if_neg hji,List.getElem?_set_ne (Ne.symm hji),tab_get hj]
 · rw [List.getElem?_eq_none (by rw [List.length_set,tab_len];omega),List.getElem?_eq_none (by rw [tab_len];omega)]
def startI (d:DefD):Nat:=(idx (fun m=>decide (m.name=d.start)) d.msgs).toNat
theorem start_spec {d:DefD} (hc:(checkP d).2.2=0):startI d < d.msgs.length∧(d.msgs.any fun m=>decide (m.name=d.start))=true∧idx0 (fun m=>decide (m.name=d.start)) d.msgs=startI d:=by
 have h:=(check_fine hc).2.2.2
 obtain ⟨m,hm,hn⟩:=isD.1 h
 have ha:(d.msgs.any fun m=>decide (m.name=d.start))=true:=List.any_eq_true.2 ⟨m,hm,by simpa using hn⟩
 have hb:=idx_bounds (fun m:MsgD=>decide (m.name=d.start)) d.msgs
 have h0:=ha
 rw [← idx_neg] at h0
 have h0:0≤idx (fun m:MsgD=>decide (m.name=d.start)) d.msgs:=by simpa using h0
 unfold startI
 exact ⟨by omega,ha,by rw [idx0_any ha];omega⟩
def reachX (l:List MsgD) (s t k i:Nat):Bool:=reachN l s t i||(reachN l s t (l.length - 1 - t)&&((toP l (l.length - 1 - t)).take k).contains (i:Int))
theorem reachX_zero (l:List MsgD) (s t i:Nat):reachX l s t 0 i=reachN l s t i:=by simp [reachX]
theorem reachX_all {l:List MsgD} (h:Fine l) (s t i:Nat):reachX l s t (toP l (l.length - 1 - t)).length i=reachN l s (t+1) i:=by
 unfold reachX
 rw [List.take_length,reachN]
 congr 2
 rw [Bool.eq_iff_iff,List.contains_iff_mem,toP,mem_sel]
 constructor
 · rintro ⟨j,_,h2,h3⟩
   rw [show i=j by omega];exact h2
 · exact fun hb=>⟨i,(to_lt h hb).1,hb,rfl⟩
theorem to_mem {l:List MsgD} {k:Nat} {x:Int} (h:x∈toP l k):∃ i:Nat,x=i∧i < k:=by
 obtain ⟨i,hi,_,rfl⟩:=mem_sel.1 h
 exact ⟨i,rfl,hi⟩
theorem reachX_at {l:List MsgD} (s t k:Nat):reachX l s t k (l.length - 1 - t)=reachN l s t (l.length - 1 - t):=by
 unfold reachX
 have:((toP l (l.length - 1 - t)).take k).contains ((l.length - 1 - t:Nat):Int)=false:=by
  rw [Bool.eq_false_iff]
  intro h
  rw [List.contains_iff_mem] at h
  obtain ⟨i,he,hi⟩:=to_mem (List.mem_of_mem_take h)
  omega
 rw [this,Bool.and_false,Bool.or_false]
theorem reachX_snoc {l:List MsgD} {s t k:Nat} {j:Nat} (hj:(toP l (l.length - 1 - t))[k]?=some (j:Int)) (i:Nat):reachX l s t (k+1) i=if i=j then reachX l s t k j||reachN l s t (l.length - 1 - t) else reachX l s t k i:=by
 unfold reachX
 rw [take_snoc hj,List.contains_eq_any_beq,List.any_append,List.contains_eq_any_beq,List.contains_eq_any_beq]
 by_cases hij:i=j
 · subst hij
   rw [if_pos rfl]
   simp only [List.any_cons,List.any_nil,Bool.or_false,beq_self_eq_true,Bool.or_true,Bool.and_true]
   cases reachN l s t i<;>cases reachN l s t (l.length - 1 - t)<;>simp
 · rw [if_neg hij]
   have:((i:Int) == (j:Int))=false:=by simp;omega
   simp only [List.any_cons,List.any_nil,Bool.or_false,this]
theorem reached_ret (w0:World) (v:Value) (d:DefD) (hd:DefVal w0 v d) (ht:calm d):Ret Pg 55 #[v] w0 fun r w'=>(if (checkP d).2.2=0 then ∃ b,r = .tuple #[.slice (some ⟨b,0,none⟩) d.msgs.length d.msgs.length,.int .i64 0]∧w0.heap.size≤b∧BRow w' b (tab d.msgs.length (reachB d.msgs (startI d))) else r = .tuple #[.slice none 0 0,.int .i64 2])∧Ext w0 w':=by
 obtain ⟨mv,rfl,hM⟩:=hd
 have hm1:=SliceOf.oneCell hM
 have hM0:=hM
 obtain ⟨A,c,rfl,hlc,hcm,hlm,hel⟩:=SliceOf.open hM
 refine n99s (R:=retR _) ?_;unfold n99
 rw [op_boxA]
 have o1:=heap_new w0 (defCells d (.slice A d.msgs.length c)).toArray 28
 have eW:Ext w0 (w0.alloc (.cells (defCells d (.slice A d.msgs.length c)).toArray 28)):=ee
 generalize (w0.alloc (.cells (defCells d (.slice A d.msgs.length c)).toArray 28))=W at o1 eW ⊢
 generalize hp1:w0.heap.size=p1 at o1 ⊢
 simp (disch:=try exact DI) only [↓PR,QR,simprocAttr,(cells_of_heap o1).1]
 refine zcr (Valid_ret' _ d ⟨_,rfl,hM0.ext eW⟩ ht) fun w1 e1=>?_
 have E1:=eW.trans e1
 by_cases hc:(checkP d).2.2=0
 case neg =>
  have hfb:flawedB d=true:=by unfold flawedB;simp [hc]
  rw [hfb]
  simp only [hc,if_false]
  simp (disch:=try exact DI) only [↓PR,QR,simprocAttr]
  exact ⟨trivial,E1⟩
 have hfb:flawedB d=false:=by unfold flawedB;simp [hc]
 rw [hfb]
 simp only [hc,if_true]
 obtain ⟨hs,hany,hidx⟩:=start_spec hc
 have hf:=(check_fine hc).2.2.1
 have hl60:=(check_fine hc).2.1.2
 generalize startI d=s at hs hidx ⊢
 simp (disch:=try exact DI) only [↓PR,QR,simprocAttr,↓n99c6,(cells_of_heap (e1.obj o1)).1]
 rw [op_makeBools d.msgs.length (by omega)]
 have eV:Ext w1 (w1.alloc (.cells ((List.replicate d.msgs.length false).map fun x=>Value.bool x).toArray 4)):=ee
 have oR:BRow (w1.alloc (.cells ((List.replicate d.msgs.length false).map fun x=>Value.bool x).toArray 4)) w1.heap.size (tab d.msgs.length fun _=>false):=by
  have:=heap_new w1 ((List.replicate d.msgs.length false).map fun x=>Value.bool x).toArray 4
  rw [show tab d.msgs.length (fun _=>false)=List.replicate d.msgs.length false by unfold tab;rw [List.map_const'];simp]
  exact this
 have sV:=eV.size
 generalize (w1.alloc (.cells ((List.replicate d.msgs.length false).map fun x=>Value.bool x).toArray 4))=V at eV oR sV ⊢
 generalize hr:w1.heap.size=r at oR ⊢
 have f1:=e1.trans eV
 simp (disch:=try exact DI) only [↓PR,QR,simprocAttr,(cells_of_heap (f1.obj o1)).1]
 refine zcr (Find_ret _ _ d d.start ⟨_,rfl,hM0.ext (eW.trans f1)⟩) fun w2 e2=>?_
 rw [hidx,hany]
 have oR2:=oR.ext e2
 have g2:Ext w1 w2:=eV.trans e2
 have hfz:∀ o,w2.frozen? ⟨r,o,none⟩=false:=(cells_of_heap oR2).2
 have hcs:w2.cell? ⟨r,s,none⟩=some (.bool false):=oR2.get (tab_get hs)
 unfold n99c5
 simp (disch:=try exact DI) only [↓PR,QR,simprocAttr,hcs,hfz,Nat.mul_one,Nat.zero_add]
 have oR3:=oR2.set s true
 rw [tab_set hs] at oR3
 have g3:Ext w1 (w2.setCell ⟨r,s,none⟩ (.bool true)):=g2.setCell (by show w1.heap.size≤r;omega) _
 generalize (w2.setCell ⟨r,s,none⟩ (.bool true))=w3 at oR3 g3 ⊢
 have h0:tab d.msgs.length (fun j=>if j=s then true else false)=tab d.msgs.length (reachN d.msgs s (d.msgs.length - 1 - s)):=tab_congr fun i _=>by
  rw [reachN_skip hf _ (Nat.le_refl _)]
  by_cases h:i=s<;>simp [h]
 rw [h0] at oR3
 refine loop1_intro (fun a w=>∃ t:Nat,a = .int .i64 ((d.msgs.length:Int) - 1 - t)∧t≤d.msgs.length∧Ext w1 w∧BRow w r (tab d.msgs.length (reachN d.msgs s t))) (fun a _=>(intOf a+1).toNat) ⟨d.msgs.length - 1 - s,by rw [show (d.msgs.length:Int) - 1 - ((d.msgs.length - 1 - s:Nat):Int)=(s:Int) by omega],by omega,g3,oR3⟩ ?_
 rintro _ w4 ⟨t,rfl,htl,g4,oR4⟩
 by_cases hlt:t < d.msgs.length
 · have hge:decide (((d.msgs.length:Int) - 1 - t)≥0)=true:=by simp;omega
   obtain ⟨at_,hat⟩:∃ k:Nat,k=d.msgs.length - 1 - t:=⟨_,rfl⟩
   have hatI:((d.msgs.length:Int) - 1 - t)=(at_:Int):=by omega
   rw [hatI] at hge ⊢
   have hal:at_ < d.msgs.length:=by omega
   obtain ⟨m,hm⟩:=getElem?_lt hal
   simp (disch:=try exact DI) only [↓PR,QR,simprocAttr,hge,↓n99c4,(cells_of_heap ((e1.trans g4).obj o1)).1]
   refine callK_ret (refers_ret _ _ d at_ m ⟨_,rfl,hM0.ext (E1.trans g4)⟩ hm hf (ht m (List.mem_of_getElem? hm)).1) ?_
   rintro rv w5 ⟨hT,e5⟩
   have g5:=g4.trans e5
   have oR5:=oR4.ext e5
   have hTs:=hT.ints
   have s4:=(Array.getElem?_eq_some_iff.1 oR4).1
   have htp:(toP d.msgs at_).length≤d.msgs.length:=Nat.le_trans (sel_len _ _) (by omega)
   obtain ⟨Ar,cr,rfl,hlr,hcr,hlmr,_⟩:=SliceOf.open hTs
   simp (disch:=try exact DI) only [↓PR,QR,simprocAttr]
   refine loop1_intro (fun a w=>∃ k:Nat,a = .int .i64 k∧k≤(toP d.msgs at_).length∧Ext w1 w∧BRow w r (tab d.msgs.length (reachX d.msgs s t k))∧RowI w w4.heap.size (.slice Ar (toP d.msgs at_).length cr) (toP d.msgs at_)) (fun a _=>(toP d.msgs at_).length - (intOf a).toNat) ⟨0,rfl,by omega,g5,by rw [tab_congr fun i _=>reachX_zero d.msgs s t i];exact oR5,hT⟩ ?_
   rintro _ w6 ⟨k,rfl,hk,g6,oR6,hT6⟩
   unfold n99c3
   rcases drop_cases hk with ⟨x,hx,_,hltk,hdec⟩ | ⟨hke,_,hdec⟩
   · obtain ⟨j,rfl,hj⟩:=to_mem (List.mem_of_getElem? hx)
     obtain ⟨_,_,hv,_,_,_,hel6⟩:=SliceOf.open hT6.ints
     injection hv with hv _ hv'
     subst hv hv'
     obtain ⟨b6,o6,cs6,rfl,_,hA6,rfl⟩:=hel6 k _ hx
     have er:=Ext.refl w6
     have a6:w6.cell? ⟨b6,o6+k,none⟩=some (.int .i64 (j:Int)):=by have:=hA6 0 _ rfl;simpa using this
     have hjn:j < d.msgs.length:=by omega
     have c1:w6.cell? ⟨r,j,none⟩=some (.bool (reachX d.msgs s t k j)):=oR6.get (tab_get hjn)
     have c2:w6.cell? ⟨r,at_,none⟩=some (.bool (reachN d.msgs s t at_)):=by
      rw [oR6.get (tab_get hal),hat,reachX_at]
     have hfz6:∀ o,w6.frozen? ⟨r,o,none⟩=false:=(cells_of_heap oR6).2
     have hsnoc:(tab d.msgs.length (reachX d.msgs s t k)).set j (reachX d.msgs s t k j||reachN d.msgs s t at_)=tab d.msgs.length (reachX d.msgs s t (k+1)):=by
      rw [tab_set hjn]
      refine tab_congr fun i _=>?_
      rw [reachX_snoc (by rw [← hat];exact hx),← hat]
     have hnext:∀ x,x=(reachX d.msgs s t k j||reachN d.msgs s t at_)→(∃ k':Nat,Value.int .i64 ((k:Int)+1) = .int .i64 k'∧k'≤(toP d.msgs at_).length∧Ext w1 (w6.setCell ⟨r,j,none⟩ (.bool x))∧BRow (w6.setCell ⟨r,j,none⟩ (.bool x)) r (tab d.msgs.length (reachX d.msgs s t k'))∧RowI (w6.setCell ⟨r,j,none⟩ (.bool x)) w4.heap.size (.slice (some ⟨b6,o6,none⟩) (toP d.msgs at_).length cr) (toP d.msgs at_))∧(toP d.msgs at_).length - (intOf (.int .i64 ((k:Int)+1))).toNat < (toP d.msgs at_).length - (intOf (.int .i64 (k:Int))).toNat:=by
      rintro x rfl
      refine ⟨⟨k+1,rfl,by omega,g6.setCell (by show w1.heap.size≤r;omega) _,by have:=oR6.set j (reachX d.msgs s t k j||reachN d.msgs s t at_);rw [hsnoc] at this;exact this,?_⟩,meas_lt (kd := .i64) hltk⟩
      exact (OwnR.only (lo:=w4.heap.size) (hi:=w6.heap.size) ⟨hT6,fun b hb=>(hT6.lt b hb).2⟩ (Only.setCell w6 r j _) (.inr (.inl s4))).1
     have hwr:IntKind.i64.wrap ((k:Int)+1)=(k:Int)+1:=wrap_ok (by omega) (by omega)
     simp (disch:=try exact DI) only [↓PR,QR,simprocAttr,hdec,↓n99c2,a6,c1,c2,Nat.mul_one,Nat.zero_add]
     cases hb:reachX d.msgs s t k j with
     | true =>
      simp (disch:=try exact DI) only [↓PR,QR,simprocAttr,↓n99c1,c1,hfz6,Nat.mul_one,Nat.zero_add]
      exact hnext true (by rw [hb];rfl)
     | false =>
      simp (disch:=try exact DI) only [↓PR,QR,simprocAttr,↓n99c1,c1,c2,hfz6,Nat.mul_one,Nat.zero_add]
      exact hnext _ (by rw [hb];rfl)
   · subst hke
     have hwr:IntKind.i64.wrap ((at_:Int) - 1)=(d.msgs.length:Int) - 1 - ((t+1:Nat):Int):=by rw [wrap_ok (by omega) (by omega)];omega
     simp (disch:=try exact DI) only [↓PR,QR,simprocAttr,hdec,hwr]
     refine ⟨⟨t+1,rfl,by omega,g6,?_⟩,?_⟩
     · rw [hat] at oR6
       rw [tab_congr fun i _=>reachX_all hf s t i] at oR6
       exact oR6
     · simp only [intOf]
       omega
 · obtain rfl:t=d.msgs.length:=by omega
   have hge:decide (((d.msgs.length:Int) - 1 - (d.msgs.length:Int))≥0)=false:=by simp;omega
   simp (disch:=try exact DI) only [↓PR,QR,simprocAttr,hge]
   exact ⟨⟨r,rfl,by have:=E1.size;omega,oR4⟩,E1.trans g4⟩
def OwnO (w:World) (base:Nat) (T:TypeId) (v:Value) (xs:List Value):Prop:=∃ g off cap cur,v = .slice (some ⟨g,off,none⟩) xs.length cap∧base≤g∧w.heap[g]?=some (.cells cur T (0,0))∧xs.length≤cap∧off+cap≤cur.size∧cap≤maxLen∧(cur.toList.drop off).take xs.length=xs
theorem OwnO.ext {w w':World} {base:Nat} {T:TypeId} {v:Value} {xs:List Value} (h:OwnO w base T v xs) (e:Ext w w'):OwnO w' base T v xs:=by
 obtain ⟨g,off,cap,cur,h1,h2,h3,h4⟩:=h
 exact ⟨g,off,cap,cur,h1,h2,e.obj h3,h4⟩
theorem OwnO.only {w w':World} {base b:Nat} {T T':TypeId} {v:Value} {xs:List Value} (h:OwnO w base T v xs) (ho:Only b w w') (hb:TypeAt w b T') (hne:T'≠T):OwnO w' base T v xs:=by
 obtain ⟨g,off,cap,cur,h1,h2,h3,h4⟩:=h
 refine ⟨g,off,cap,cur,h1,h2,(ho g ?_).trans h3,h4⟩
 rintro rfl
 obtain ⟨c,fr,hc⟩:=hb
 rw [h3] at hc
 injection hc with hc
 injection hc with _ hc _
 exact hne hc.symm
theorem OwnO.get {w:World} {base:Nat} {T:TypeId} {v:Value} {xs:List Value} (h:OwnO w base T v xs):∃ g off cap,v = .slice (some ⟨g,off,none⟩) xs.length cap∧base≤g∧g < w.heap.size∧TypeAt w g T∧xs.length≤cap∧∀ (k:Nat) (x:Value),xs[k]?=some x→w.cell? ⟨g,off+k,none⟩=some x:=by
 obtain ⟨g,off,cap,cur,h1,h2,h3,h4,h5,_,h6⟩:=h
 refine ⟨g,off,cap,h1,h2,(Array.getElem?_eq_some_iff.1 h3).1,⟨cur,_,h3⟩,h4,fun k x hx=>?_⟩
 have hk:=(List.getElem?_eq_some_iff.1 hx).1
 rw [← h6,List.getElem?_take,if_pos hk,List.getElem?_drop] at hx
 rw [(cells_of_heap h3).1]
 simpa using hx
theorem OwnO.tail {w:World} {base g off n cap o':Nat} {T:TypeId} {x:Value} {xs:List Value} (h:OwnO w base T (.slice (some ⟨g,off,none⟩) n cap) (x::xs)) (ho:o'=off+1∨(cap=1∧o'=off)):OwnO w base T (.slice (some ⟨g,o',none⟩) xs.length (cap - 1)) xs:=by
 obtain ⟨g',off',cap',cur,h1,h2,h3,h4,h5,h7,h6⟩:=h
 injection h1 with h1 _ h1'
 injection h1 with h1
 injection h1 with h1 h1o
 subst h1 h1o h1'
 simp only [List.length_cons] at h4 h6
 rcases ho with ho | ⟨rfl,rfl⟩
 · subst ho
   refine ⟨g,_,cap - 1,cur,rfl,h2,h3,by omega,by omega,by omega,?_⟩
   have:=congrArg List.tail h6
   rw [List.tail_cons] at this
   rw [← this,← List.drop_one,List.drop_take,List.drop_drop]
   simp
 · have hx:xs=[]:=List.eq_nil_of_length_eq_zero (by omega)
   subst hx
   exact ⟨g,_,0,cur,rfl,h2,h3,by simp,by omega,by omega,by simp⟩
section
variable {QP:List PanicEntry→World→Prop} {w:World} {k:Value→World→Prop}
theorem op_sliceTail {t e:TypeId} {agg:Bool} {m:Nat} {z:Value} (hu:Pg.underlying t=some (.slice e)) (ht:TyInfo Pg e agg 1 m z) (b o len cap:Nat) (hl:0 < len) (hc:len≤cap) (h:∀ o',(o'=o+1∨(cap=1∧o'=o))→k (.slice (some ⟨b,o',none⟩) (len - 1) (cap - 1)) w) :
 opV Pg (Instr.sliceAt t (.slice (some ⟨b,o,none⟩) len cap) (some (.int .i64 1)) none none) QP w k:=by
 have h1:(1:Int)≤(len:Int):=by omega
 have h2:(len:Int)≤(cap:Int):=by omega
 by_cases hc1:cap=1
 · rw [opV_ok (v := .slice (some ⟨b,o,none⟩) (len - 1) (cap - 1)) (w':=w)]
   · exact h o (.inr ⟨hc1,rfl⟩)
   · simp [Instr.sliceAt,run_underlying hu,Instr.slice,Instr.sliceBounds,run_sliceBound,h1,h2,hc1,Sw.run_sizeOf ht,Addr.add_lit]
 · rw [opV_ok (v := .slice (some ⟨b,o+1,none⟩) (len - 1) (cap - 1)) (w':=w)]
   · exact h (o+1) (.inl rfl)
   · simp [Instr.sliceAt,run_underlying hu,Instr.slice,Instr.sliceBounds,run_sliceBound,h1,h2,hc1,Sw.run_sizeOf ht,Addr.add_lit]
theorem op_sliceFull {t e:TypeId} {agg:Bool} {n m:Nat} {z:Value} (hu:Pg.underlying t=some (.slice e)) (ht:TyInfo Pg e agg n m z) (b o len cap:Nat) (hl:0 < len) (hc:len≤cap) :
 opV Pg (Instr.sliceAt t (.slice (some ⟨b,o,none⟩) len cap) none (some (.int .i64 (len:Int))) (some (.int .i64 (len:Int)))) QP w k=k (.slice (some ⟨b,o,none⟩) len len) w:=by
 refine opV_ok ?_
 have h2:(len:Int)≤(cap:Int):=by omega
 have h3:(0:Int)≤(len:Int):=by omega
 simp [Instr.sliceAt,run_underlying hu,Instr.slice,Instr.sliceBounds,run_sliceBound,h2,h3,Sw.run_sizeOf ht,Addr.add_lit]
theorem op_appendF {t T m:Nat} {z:Value} {agg:Bool} (ht:Pg.underlying t=some (.slice T)) (hT:TyInfo Pg T agg 1 m z) (hzs:z.cells.size=1) {g o n cap b:Nat} {olds:List Value} {u:Value} (hn:olds.length=n) (hcells:∀ (j:Nat) (x:Value),olds[j]?=some x→w.cell? ⟨g,o+j,none⟩=some x) (hc:w.cell? ⟨b,0,none⟩=some u) (hl:n≤1048576) (hm:m≤4096) (hcap:cap≤n)
 (hk:∀ v' w',w'.ownsRow w.heap.size T 1 v' (n+1) (olds++[u])→v' ≠ .slice none 0 0→Ext w w'→k v' w') :
 opV Pg (Builtin.append_ #[t,t] t #[.slice (some ⟨g,o,none⟩) n cap,.slice (some ⟨b,0,none⟩) 1 1]) QP w k:=by
 obtain ⟨⟨i,hi,hs,hby,hzz⟩,_⟩:=hT
 have hr:=run_append_grow (P:=Pg) w t t T i z ht hi hzz ⟨g,o,none⟩ n cap olds (by rw [hn,hs,Nat.mul_one]) (fun j x hx=>by rw [Addr.add_lit];exact hcells j x hx) ⟨b,0,none⟩ 1 1 [u] (by rw [hs];rfl) (fun j x hx=>by
  cases j with
  | zero=>injection hx with hx;subst hx;rw [Addr.add_lit];exact hc
  | succ j=>cases hx) (by omega) (by omega) (growslice_fits (by omega) (by rw [hby];exact Nat.le_trans (Nat.mul_le_mul (show n+1≤1048577 by omega) hm) (by decide)))
 rw [opV_ok hr]
 have hge:=grownCap_ge w (n+1) cap T
 have hcm:=grownCap_le_maxLen w (n+1) cap T (by simp only [maxLen];omega)
 refine hk _ _ ⟨by simp [hn],.inr ⟨w.heap.size,_,_,rfl,Nat.le_refl _,by rw [show w.heap.size=w.drew.heap.size by simp only [World.size_drew]];exact heap_alloc_new w.drew _,hge,hcm,?_,?_⟩⟩ (by simp) ⟨rfl,rfl,rfl,by simp,fun q hq=>(World.grownBy_alloc w.drew _ none).block q (by simpa using hq) (by simp)⟩
 · simp only [Array.size_append,List.size_toArray,size_zeroCells,hzs,hn,List.length_singleton]
   omega
 · simp only [Array.toList_append,List.append_assoc]
   rw [← List.append_assoc]
   rw [List.take_append_of_le_length (by simp [hn]),List.take_of_length_le (by simp [hn])]
theorem op_appendO {t T m:Nat} {z:Value} {agg:Bool} (ht:Pg.underlying t=some (.slice T)) (hT:TyInfo Pg T agg 1 m z) (hzs:z.cells.size=1) {base b:Nat} {v u:Value} {xs:List Value} (h:OwnO w base T v xs) (hu:u.oneCell'=true) (hc:w.cell? ⟨b,0,none⟩=some u) (hl:xs.length≤1048576) (hm:m≤4096) (hbase:base≤w.heap.size)
 (hk:∀ v' w',OwnO w' base T v' (xs++[u])→w.grownBy w' v.ownBlock→k v' w') :
 opV Pg (Builtin.append_ #[t,t] t #[v,.slice (some ⟨b,0,none⟩) 1 1]) QP w k:=by
 obtain ⟨g,off,cap,cur,rfl,h2,h3,h4,h5,h7,h6⟩:=h
 by_cases hroom:xs.length+1≤cap
 · obtain ⟨⟨i,hi,hs,hby,hzz⟩,_⟩:=hT
   have hf:=run_firstCells_some (P:=Pg) (w:=w) i.size 1 ⟨b,0,none⟩ 1 1 [u] (by rw [hs];rfl) (fun j x hx=>by
    cases j with
    | zero=>injection hx with hx;subst hx;rw [Addr.add_lit];exact hc
    | succ j=>cases hx)
   have hst:=run_storeCells_at Pg g (off+xs.length*i.size) T [u] 0 cur w h3 (by simp [hs];omega) (by simpa using hu)
   simp only [Nat.add_zero,hs,Nat.mul_one,List.length_singleton] at hst hf
   have hr:(Builtin.append_ #[t,t] t #[.slice (some ⟨g,off,none⟩) xs.length cap,.slice (some ⟨b,0,none⟩) 1 1]).run Pg w = .ok (.slice (some ⟨g,off,none⟩) (xs.length+1) cap) (w.setRow g (cur.toList.take (off+xs.length)++[u]++cur.toList.drop (off+xs.length+1)).toArray):=by
    simp [Builtin.append_,run_underlying ht,sizeOf,typeInfo,hi,Builtin.lenOf,hroom,hs,hf,Addr.add_lit,hst]
   rw [opV_ok hr]
   refine hk _ _ ⟨g,off,cap,_,by simp,h2,setRow_heap w g cur _ T _ h3,by simpa using hroom,?_,h7,?_⟩ ⟨rfl,rfl,rfl,by simp [World.setRow],fun q hq hne=>setRow_other w g q _ (fun e=>hne (by rw [e];rfl))⟩
   · simp only [List.size_toArray,List.length_append,List.length_take,List.length_drop,Array.length_toList,List.length_singleton]
     omega
   · have h8:(cur.toList.drop off).length=cur.size - off:=by simp
     have h9:(cur.toList.take (off+xs.length)++[u]++cur.toList.drop (off+xs.length+1)).drop off=xs++[u]++cur.toList.drop (off+xs.length+1):=by
      rw [List.append_assoc,List.drop_append_of_le_length (by simp;omega),List.append_assoc]
      congr 1
      rw [List.drop_take]
      rw [show off+xs.length - off=xs.length by omega]
      exact h6
     simp only [List.toList_toArray]
     rw [h9,List.take_append_of_le_length (by simp),List.take_of_length_le (by simp)]
 · refine op_appendF ht hT hzs (olds:=xs) (o:=off) rfl (fun j x hx=>?_) hc hl hm (by omega) ?_
   · have hj:=(List.getElem?_eq_some_iff.1 hx).1
     rw [← h6,List.getElem?_take,if_pos hj,List.getElem?_drop] at hx
     rw [(cells_of_heap h3).1]
     simpa using hx
   · intro v' w' ho hne e
     rcases ho.2 with ⟨h0,_⟩ | ⟨g',cap',cur',rfl,hb',hg',hc',hm',hs',ht'⟩
     · exact absurd h0 hne
     · refine hk _ _ ⟨g',0,cap',cur',by simp,by omega,hg',by simpa using hc',by omega,hm',by rw [List.drop_zero];simpa using ht'⟩ ⟨e.os,e.tape,e.output,e.size,fun q hq _=>e.block q hq⟩
end
def n7c1 (t4 t8 t9:Value) (Kr2:World→Prop) (Qr2:List PanicEntry→World→Prop) (Xr2:Nat→World→Prop) (R:RT) (w:World):Prop :=
 opV Pg (Instr.loadAt 3 t9) Qr2 w fun t33 w =>
 opV Pg (binS .add 3 true t33 (.int .i64 1)) Qr2 w fun t34 w =>
 opU Pg (Instr.storeAt 3 t9 t34) Qr2 w fun w =>
 opV Pg (Instr.loadAt 3 t8) Qr2 w fun t35 w =>
 opV Pg (binS .eql 3 true t35 (.int .i64 0)) Qr2 w fun t36 w =>
 joinK (fun (t40:Value) (w:World) =>
 pickK t36 t40 (.bool false) fun t41 =>
 condP t41 (
 Xr2 1 w) (
 Kr2 w)) fun K4 =>
 guardP t36 true (
 opV Pg (Instr.loadAt 3 t9) Qr2 w fun t38 w =>
 opV Pg (Instr.loadAt 3 t4) Qr2 w fun t39 w =>
 opV Pg (binS .geq 3 false t38 t39) Qr2 w fun t40 w =>
 K4 t40 w) (
 K4 undef w)
def n7c2 (t4 t5 t6 t8 t9 t20:Value) (Kr2:World→Prop) (Qr2:List PanicEntry→World→Prop) (Xr2:Nat→World→Prop) (R:RT) (w:World):Prop :=
 opV Pg (Instr.loadAt 3 t9) Qr2 w fun t21 w =>
 opV Pg (Instr.loadAt 30 t5) Qr2 w fun t22 w =>
 opV Pg (Builtin.len_ #[30] 3 #[t22]) Qr2 w fun t23 w =>
 opV Pg (binS .geq 3 false t21 t23) Qr2 w fun t24 w =>
 joinK (fun (t31:Value) (w:World) =>
 pickK t24 (.bool true) t31 fun t32 =>
 condP t32 (
 opU Pg (Instr.storeAt 4 t6 (.bool false)) Qr2 w fun w =>
 Xr2 0 w) (
 n7c1 t4 t8 t9 Kr2 Qr2 Xr2 R w)) fun K3 =>
 guardP t24 false (
 opV Pg (Instr.loadAt 30 t5) Qr2 w fun t27 w =>
 opV Pg (Instr.loadAt 3 t9) Qr2 w fun t28 w =>
 opV Pg (Instr.indexAt 30 t27 t28) Qr2 w fun t29 w =>
 opV Pg (Instr.loadAt 3 t29) Qr2 w fun t30 w =>
 opV Pg (binS .neq 3 false t20 t30) Qr2 w fun t31 w =>
 K3 t31 w) (
 K3 undef w)
def n7c3 (t6 t8:Value) (next1:List Deferred→Value→World→Prop) (ds:List Deferred) (R:RT) (w:World):Prop :=
 opV Pg (Instr.loadAt 3 t8) (outQ Pg ds [(some 4,t6)] R) w fun t63 w =>
 opV Pg (Instr.alloc 3 true (.tuple #[])) (outQ Pg ds [(some 4,t6)] R) w fun t8 w =>
 opU Pg (Instr.storeAt 3 t8 t63) (outQ Pg ds [(some 4,t6)] R) w fun w =>
 opV Pg (Instr.loadAt 3 t8) (outQ Pg ds [(some 4,t6)] R) w fun t17 w =>
 opV Pg (binS .add 3 true t17 (.int .i64 1)) (outQ Pg ds [(some 4,t6)] R) w fun t18 w =>
 opU Pg (Instr.storeAt 3 t8 t18) (outQ Pg ds [(some 4,t6)] R) w fun w =>
 next1 ds t8 w
def n7c4 (t6 t8 t52 t61:Value) (next1:List Deferred→Value→World→Prop) (ds:List Deferred) (R:RT) (w:World):Prop :=
 pickK t52 (.bool true) t61 fun t62 =>
 condP t62 (
 opU Pg (Instr.storeAt 4 t6 (.bool false)) (outQ Pg ds [(some 4,t6)] R) w fun w =>
 outX Pg ds [(some 4,t6)] R w) (
 n7c3 t6 t8 next1 ds R w)
def n7c5 (t5 t6 t8 t9 t52 t56:Value) (next1:List Deferred→Value→World→Prop) (ds:List Deferred) (R:RT) (w:World):Prop :=
 joinK (fun (t60:Value) (w:World) =>
 joinK (fun (t61:Value) (w:World) =>
 n7c4 t6 t8 t52 t61 next1 ds R w) fun K8 =>
 guardP t52 false (
 pickK t56 t60 (.bool false) fun t61 =>
 K8 t61 w) (
 K8 undef w)) fun K7 =>
 guardP t56 true (
 opV Pg (Instr.loadAt 3 t9) (outQ Pg ds [(some 4,t6)] R) w fun t57 w =>
 opV Pg (Instr.loadAt 30 t5) (outQ Pg ds [(some 4,t6)] R) w fun t58 w =>
 opV Pg (Builtin.len_ #[30] 3 #[t58]) (outQ Pg ds [(some 4,t6)] R) w fun t59 w =>
 opV Pg (binS .neq 3 false t57 t59) (outQ Pg ds [(some 4,t6)] R) w fun t60 w =>
 K7 t60 w) (
 K7 undef w)
def n7c6 (t5 t6 t8 t9 t43 t51:Value) (next1:List Deferred→Value→World→Prop) (ds:List Deferred) (R:RT) (w:World):Prop :=
 pickK t43 t51 (.bool false) fun t52 =>
 joinK (fun (t56:Value) (w:World) =>
 n7c5 t5 t6 t8 t9 t52 t56 next1 ds R w) fun K6 =>
 guardP t52 false (
 opV Pg (Instr.loadAt 3 t8) (outQ Pg ds [(some 4,t6)] R) w fun t54 w =>
 opV Pg (binS .eql 3 true t54 (.int .i64 1)) (outQ Pg ds [(some 4,t6)] R) w fun t55 w =>
 K6 t55 w) (
 K6 undef w)
def n7c7 (t4 t5 t6 t9:Value) (K5:KV) (ds:List Deferred) (R:RT) (w:World):Prop :=
 opV Pg (Instr.loadAt 3 t9) (outQ Pg ds [(some 4,t6)] R) w fun t45 w =>
 opV Pg (Instr.loadAt 30 t5) (outQ Pg ds [(some 4,t6)] R) w fun t46 w =>
 opV Pg (Builtin.len_ #[30] 3 #[t46]) (outQ Pg ds [(some 4,t6)] R) w fun t47 w =>
 opV Pg (Instr.loadAt 3 t4) (outQ Pg ds [(some 4,t6)] R) w fun t48 w =>
 opV Pg (Builtin.max_ #[3,3] 3 #[(.int .i64 1),t48]) (outQ Pg ds [(some 4,t6)] R) w fun t49 w =>
 opV Pg (Builtin.min_ #[3,3] 3 #[t47,t49]) (outQ Pg ds [(some 4,t6)] R) w fun t50 w =>
 opV Pg (binS .neq 3 false t45 t50) (outQ Pg ds [(some 4,t6)] R) w fun t51 w =>
 K5 t51 w
def n7c8 (t4 t5 t6 t8 t9:Value) (next1:List Deferred→Value→World→Prop) (ds:List Deferred) (R:RT) (w:World):Prop :=
 opV Pg (Instr.loadAt 3 t8) (outQ Pg ds [(some 4,t6)] R) w fun t42 w =>
 opV Pg (binS .eql 3 true t42 (.int .i64 0)) (outQ Pg ds [(some 4,t6)] R) w fun t43 w =>
 joinK (fun (t51:Value) (w:World) =>
 n7c6 t5 t6 t8 t9 t43 t51 next1 ds R w) fun K5 =>
 guardP t43 true (
 n7c7 t4 t5 t6 t9 K5 ds R w) (
 K5 undef w)
def n7c9 (t6 t8:Value) (next1:List Deferred→Value→World→Prop) (ds:List Deferred) (R:RT) (w:World):Prop :=
 opV Pg (Instr.loadAt 3 t8) (outQ Pg ds [(some 4,t6)] R) w fun t63 w =>
 opV Pg (Instr.alloc 3 true (.tuple #[])) (outQ Pg ds [(some 4,t6)] R) w fun t8 w =>
 opU Pg (Instr.storeAt 3 t8 t63) (outQ Pg ds [(some 4,t6)] R) w fun w =>
 opV Pg (Instr.loadAt 3 t8) (outQ Pg ds [(some 4,t6)] R) w fun t17 w =>
 opV Pg (binS .add 3 true t17 (.int .i64 1)) (outQ Pg ds [(some 4,t6)] R) w fun t18 w =>
 opU Pg (Instr.storeAt 3 t8 t18) (outQ Pg ds [(some 4,t6)] R) w fun w =>
 next1 ds t8 w
def n7c10 (t6 t8 t52 t61:Value) (next1:List Deferred→Value→World→Prop) (ds:List Deferred) (R:RT) (w:World):Prop :=
 pickK t52 (.bool true) t61 fun t62 =>
 condP t62 (
 opU Pg (Instr.storeAt 4 t6 (.bool false)) (outQ Pg ds [(some 4,t6)] R) w fun w =>
 outX Pg ds [(some 4,t6)] R w) (
 n7c9 t6 t8 next1 ds R w)
def n7c11 (t5 t6 t8 t9 t52 t56:Value) (next1:List Deferred→Value→World→Prop) (ds:List Deferred) (R:RT) (w:World):Prop :=
 joinK (fun (t60:Value) (w:World) =>
 joinK (fun (t61:Value) (w:World) =>
 n7c10 t6 t8 t52 t61 next1 ds R w) fun K12 =>
 guardP t52 false (
 pickK t56 t60 (.bool false) fun t61 =>
 K12 t61 w) (
 K12 undef w)) fun K11 =>
 guardP t56 true (
 opV Pg (Instr.loadAt 3 t9) (outQ Pg ds [(some 4,t6)] R) w fun t57 w =>
 opV Pg (Instr.loadAt 30 t5) (outQ Pg ds [(some 4,t6)] R) w fun t58 w =>
 opV Pg (Builtin.len_ #[30] 3 #[t58]) (outQ Pg ds [(some 4,t6)] R) w fun t59 w =>
 opV Pg (binS .neq 3 false t57 t59) (outQ Pg ds [(some 4,t6)] R) w fun t60 w =>
 K11 t60 w) (
 K11 undef w)
def n7c12 (t5 t6 t8 t9 t43 t51:Value) (next1:List Deferred→Value→World→Prop) (ds:List Deferred) (R:RT) (w:World):Prop :=
 pickK t43 t51 (.bool false) fun t52 =>
 joinK (fun (t56:Value) (w:World) =>
 n7c11 t5 t6 t8 t9 t52 t56 next1 ds R w) fun K10 =>
 guardP t52 false (
 opV Pg (Instr.loadAt 3 t8) (outQ Pg ds [(some 4,t6)] R) w fun t54 w =>
 opV Pg (binS .eql 3 true t54 (.int .i64 1)) (outQ Pg ds [(some 4,t6)] R) w fun t55 w =>
 K10 t55 w) (
 K10 undef w)
def n7c13 (t4 t5 t6 t9:Value) (K9:KV) (ds:List Deferred) (R:RT) (w:World):Prop :=
 opV Pg (Instr.loadAt 3 t9) (outQ Pg ds [(some 4,t6)] R) w fun t45 w =>
 opV Pg (Instr.loadAt 30 t5) (outQ Pg ds [(some 4,t6)] R) w fun t46 w =>
 opV Pg (Builtin.len_ #[30] 3 #[t46]) (outQ Pg ds [(some 4,t6)] R) w fun t47 w =>
 opV Pg (Instr.loadAt 3 t4) (outQ Pg ds [(some 4,t6)] R) w fun t48 w =>
 opV Pg (Builtin.max_ #[3,3] 3 #[(.int .i64 1),t48]) (outQ Pg ds [(some 4,t6)] R) w fun t49 w =>
 opV Pg (Builtin.min_ #[3,3] 3 #[t47,t49]) (outQ Pg ds [(some 4,t6)] R) w fun t50 w =>
 opV Pg (binS .neq 3 false t45 t50) (outQ Pg ds [(some 4,t6)] R) w fun t51 w =>
 K9 t51 w
def n7c14 (t4 t5 t6 t8 t9:Value) (next1:List Deferred→Value→World→Prop) (ds:List Deferred) (R:RT) (w:World):Prop :=
 opV Pg (Instr.loadAt 3 t8) (outQ Pg ds [(some 4,t6)] R) w fun t42 w =>
 opV Pg (binS .eql 3 true t42 (.int .i64 0)) (outQ Pg ds [(some 4,t6)] R) w fun t43 w =>
 joinK (fun (t51:Value) (w:World) =>
 n7c12 t5 t6 t8 t9 t43 t51 next1 ds R w) fun K9 =>
 guardP t43 true (
 n7c13 t4 t5 t6 t9 K9 ds R w) (
 K9 undef w)
def n7c15 (t4 t5 t6 t8 t12:Value) (next1:List Deferred→Value→World→Prop) (ds:List Deferred) (R:RT) (w:World):Prop :=
 opV Pg (Instr.alloc 3 true (.tuple #[])) (outQ Pg ds [(some 4,t6)] R) w fun t9 w =>
 opU Pg (Instr.storeAt 3 t9 (.int .i64 0)) (outQ Pg ds [(some 4,t6)] R) w fun w =>
 rangeN Pg t12 ds (fun l2 t20 w Kr2 Xr2 Qr2 =>
 busyK l2 w fun w =>
 n7c2 t4 t5 t6 t8 t9 t20 Kr2 Qr2 Xr2 R w) (fun ch ds w=>outQ Pg ds [(some 4,t6)] R ch w) w (fun ds w =>
 n7c8 t4 t5 t6 t8 t9 next1 ds R w) [fun ds w =>
 outX Pg ds [(some 4,t6)] R w,fun ds w =>
 n7c14 t4 t5 t6 t8 t9 next1 ds R w]
def n7c16 (t4 t5 t6 t8 t12:Value) (next1:List Deferred→Value→World→Prop) (ds:List Deferred) (R:RT) (w:World):Prop :=
 opV Pg (Instr.loadAt 3 t8) (outQ Pg ds [(some 4,t6)] R) w fun t15 w =>
 opV Pg (binS .lss 3 true t15 (.int .i64 2)) (outQ Pg ds [(some 4,t6)] R) w fun t16 w =>
 condP t16 (
 n7c15 t4 t5 t6 t8 t12 next1 ds R w) (
 opU Pg (Instr.storeAt 4 t6 (.bool true)) (outQ Pg ds [(some 4,t6)] R) w fun w =>
 outX Pg ds [(some 4,t6)] R w)
def n7c17 (t4 t5 t6 t12:Value) (ds:List Deferred) (R:RT) (w:World):Prop :=
 opV Pg (Instr.alloc 3 true (.tuple #[])) (outQ Pg ds [(some 4,t6)] R) w fun t8 w =>
 opU Pg (Instr.storeAt 3 t8 (.int .i64 0)) (outQ Pg ds [(some 4,t6)] R) w fun w =>
 loopM1 (fun ds t8 w next1 =>
 n7c16 t4 t5 t6 t8 t12 next1 ds R w) ds t8 w
def n7c18 (t4 t5 t6 t12:Value) (ds:List Deferred) (R:RT) (w:World):Prop :=
 opV Pg (binS .eql 40 true t12 .nilFunc) (outQ Pg ds [(some 4,t6)] R) w fun t14 w =>
 condP t14 (
 opU Pg (Instr.storeAt 4 t6 (.bool false)) (outQ Pg ds [(some 4,t6)] R) w fun w =>
 outX Pg ds [(some 4,t6)] R w) (
 n7c17 t4 t5 t6 t12 ds R w)
def n7 (t0 t1 t2:Value) (R:RT) (w:World):Prop :=
 (fun (ds:List Deferred) =>
 opV Pg (Instr.box 24 t0) (outQ Pg ds [(some 4,undef)] R) w fun t3 w =>
 opV Pg (Instr.box 3 t1) (outQ Pg ds [(some 4,undef)] R) w fun t4 w =>
 opV Pg (Instr.box 30 t2) (outQ Pg ds [(some 4,undef)] R) w fun t5 w =>
 opV Pg (Instr.alloc 4 true (.tuple #[])) (outQ Pg ds [(some 4,undef)] R) w fun t6 w =>
 opV Pg (Instr.loadAt 24 t3) (outQ Pg ds [(some 4,t6)] R) w fun t11 w =>
 callK Pg 19 #[t11] (outQ Pg ds [(some 4,t6)] R) w fun t12 w =>
 n7c18 t4 t5 t6 t12 ds R w) []
set_option maxHeartbeats 40000000 in
theorem n7s {t0 t1 t2:Value} {R:RT} {w:World} (h:n7 t0 t1 t2 R w):Calls Pg 18 #[t0,t1,t2] w R:=by
 refine yE Tryz.func18 ?_
 unfold n7 at h
 dsimp only at h
 refine zs<|zr<|yv h fun _ w h=>yv h fun _ w h=>yv h fun _ w h=>yv h fun _ w h=>zn<|zk<|zs<|zr<|yv h fun _ w h=>yc h c19 fun _ w h=>zm<|zn<|zk ?_
 refine zs<|zs<|zr<|zm<|yb h fun _ w h=>zn<|zk<|yC h (fun h=>zs<|zr<|yu h fun w h=>zn<|zk<|sim_ret<|sim_then_ret<|bodyM_ret rfl h) fun h=>sim_skip<|zk<|zs<|zs<|zr<|yv h fun _ w h=>?_
 refine yu h fun w h=>zn<|zk<|sim_block<|yL1 [8,9,15,16,17,18,19,42,43,44,45,46,47,48,49,50,51,52,53,54,55,56,57,58,59,60,61,62,63] 8 h fun σ ds w next h=>zs<|zs<|zr<|yv h fun _ w h=>yb h fun _ w h=>zn<|zk<|yC h (fun h=>?_) fun h=>?_
 · refine sim_skip<|zk<|zs<|sim_block<|zs<|zr<|yv h fun _ w h=>yu h fun w h=>zn<|zk<|zs<|zs<|zr<|zm<|zn ?_
   refine zk<|sim_block<|sim_range [.ret,.exit 2] h rfl (fun l2 t20 w Kr2 Xr2 Qr2 h=>?_) (fun ds w h=>?_) (fun c ds w h=>?_) (fun ch ds w h=>outQ_of rfl h)
   · refine zr<|zm<|zn<|zk ?_
     obtain ⟨hr,h⟩:=h
     refine ⟨rfl,hr,fun w hb=>?_⟩
     have h:=h w hb
     refine sim_block<|zs<|zs<|sim_regionG<|yG 5<|yv h fun _ w h=>yv h fun _ w h=>yx h fun _ w h=>yb h fun _ w h=>zm<|zn<|yg1 6 4 false [26,27,28,29,30,31] 31 h (fun _ T hT h=>?_) fun σ w h=>?_
     · refine zm<|yv h fun _ w h=>yv h fun _ w h=>yv h fun _ w h=>yv h fun _ w h=>yb h fun _ w h=>zn ?_
       exact zt hT h
     refine yG 1<|yp h fun _ h=>zn<|sim_end<|zk<|yC h (fun h=>zs<|zr<|yu h fun w h=>zn<|zk<|sim_ret<|sim_then_ret<|sim_block_ret<|⟨rfl,0,rfl,h⟩) fun h=>sim_skip<|zk<|zs<|zr<|yv h fun _ w h=>yb h fun _ w h=>yu h fun w h=>zn ?_
     refine zk<|zs<|sim_regionG<|yG 3<|yv h fun _ w h=>yb h fun _ w h=>zm<|zn<|yg1 3 2 true [38,39,40] 40 h (fun _ T hT h=>?_) fun σ w h=>?_
     · refine yv h fun _ w h=>yv h fun _ w h=>yb h fun _ w h=>zn ?_
       exact zt hT h
     exact yG 1<|yp h fun _ h=>zn<|sim_end<|zk<|yC h (fun h=>sim_exit<|sim_block_miss rfl<|⟨rfl,1,rfl,h⟩) fun h=>sim_skip<|sim_block_normal<|⟨rfl,h⟩
   · refine sim_block_normal<|zk<|zs<|sim_regionG<|yG 3<|yv h fun _ w h=>yb h fun _ w h=>zm<|zn<|yg1 7 2 true [45,46,47,48,49,50,51] 51 h (fun _ T hT h=>?_) fun σ w h=>?_
     · refine yv h fun _ w h=>yv h fun _ w h=>yx h fun _ w h=>yv h fun _ w h=>yx h fun _ w h=>yx h fun _ w h=>yb h fun _ w h=>zn ?_
       exact zt hT h
     refine yG 2<|yp h fun _ h=>zm<|zn<|yg1 3 11 false [54,55,56] 56 h (fun _ T hT h=>?_) fun σ w h=>?_
     · refine yv h fun _ w h=>yb h fun _ w h=>zm<|zn ?_
       exact zt hT h
     refine yg1 4 14 true [57,58,59,60] 60 h (fun _ T hT h=>?_) fun σ w h=>?_
     · refine yv h fun _ w h=>yv h fun _ w h=>yx h fun _ w h=>yb h fun _ w h=>zn ?_
       exact zt hT h
     refine yg1 1 11 false [61] 61 h (fun _ T hT h=>?_) fun σ w h=>?_
     · refine yp h fun _ h=>zn ?_
       exact zt hT h
     refine yG 1<|yp h fun _ h=>zn<|sim_end<|zk<|yC h (fun h=>zs<|zr<|yu h fun w h=>zn<|zk<|sim_ret<|sim_block_ret<|sim_then_ret<|sim_then_ret<|sim_block_ret<|sim_then_ret<|bodyM_ret rfl h) fun h=>sim_skip<|sim_block_normal<|zk<|zs<|zs<|zr<|yv h fun _ w h=>zn ?_
     exact zk<|zr<|yv h fun _ w h=>yu h fun w h=>zn<|zk<|zr<|yv h fun _ w h=>yb h fun _ w h=>yu h fun w h=>zn<|zk<|h
   rcases c with _ | c
   · refine ⟨_,rfl,.inl ⟨rfl,?_⟩⟩
     exact sim_block_ret<|sim_then_ret<|sim_block_ret<|sim_then_ret<|sim_then_ret<|sim_block_ret<|sim_then_ret<|bodyM_ret rfl h
   rcases c with _ | c
   · refine ⟨_,rfl,.inr ⟨_,rfl,?_⟩⟩
     refine sim_block_hit<|zk<|zs<|sim_regionG<|yG 3<|yv h fun _ w h=>yb h fun _ w h=>zm<|zn<|yg1 7 2 true [45,46,47,48,49,50,51] 51 h (fun _ T hT h=>?_) fun σ w h=>?_
     · refine yv h fun _ w h=>yv h fun _ w h=>yx h fun _ w h=>yv h fun _ w h=>yx h fun _ w h=>yx h fun _ w h=>yb h fun _ w h=>zn ?_
       exact zt hT h
     refine yG 2<|yp h fun _ h=>zm<|zn<|yg1 3 11 false [54,55,56] 56 h (fun _ T hT h=>?_) fun σ w h=>?_
     · refine yv h fun _ w h=>yb h fun _ w h=>zm<|zn ?_
       exact zt hT h
     refine yg1 4 14 true [57,58,59,60] 60 h (fun _ T hT h=>?_) fun σ w h=>?_
     · refine yv h fun _ w h=>yv h fun _ w h=>yx h fun _ w h=>yb h fun _ w h=>zn ?_
       exact zt hT h
     refine yg1 1 11 false [61] 61 h (fun _ T hT h=>?_) fun σ w h=>?_
     · refine yp h fun _ h=>zn ?_
       exact zt hT h
     refine yG 1<|yp h fun _ h=>zn<|sim_end<|zk<|yC h (fun h=>zs<|zr<|yu h fun w h=>zn<|zk<|sim_ret<|sim_block_ret<|sim_then_ret<|sim_then_ret<|sim_block_ret<|sim_then_ret<|bodyM_ret rfl h) fun h=>sim_skip<|sim_block_normal<|zk<|zs<|zs<|zr<|yv h fun _ w h=>zn ?_
     exact zk<|zr<|yv h fun _ w h=>yu h fun w h=>zn<|zk<|zr<|yv h fun _ w h=>yb h fun _ w h=>yu h fun w h=>zn<|zk<|h
   exact h.elim
 exact sim_exit<|sim_then_exit<|sim_then_exit<|sim_block_hit<|zk<|zs<|zr<|yu h fun w h=>zn<|zk<|sim_ret<|bodyM_ret rfl h
def n88 (t0:Value) (R:RT) (w:World):Prop :=
 opV Pg (Instr.box 24 t0) (panK R) w fun t1 w =>
 F0 24 t1 1 R w fun t4 w =>
 L0 22 t4 R w fun t5 w =>
 opV Pg (Instr.makeFunc (.func 48) #[] #[t1]) (panK R) w fun t6 w =>
 C0 41 #[t5,t6] R w fun t7 w =>
 C0 50 #[t7] R w fun t9 w =>
 R (.returned t9) w
theorem n88s {t0:Value} {R:RT} {w:World} (h:n88 t0 R w):Calls Pg 19 #[t0] w R:=by
 refine yD Tryz.func19 ?_
 refine zs<|zr<|yv h fun _ w h=>zm<|zn<|zk<|zs<|zr<|yv h fun _ w h=>yv h fun _ w h=>yF h fun _ w h=>yc h c41 fun _ w h=>zm<|zn<|zk ?_
 exact zs<|zr<|zm<|yc h c50 fun _ w h=>zm<|zn<|zk<|sim_ret<|body_ret1 rfl rfl h
def n91 (t0:Value) (R:RT) (w:World):Prop :=
 opV Pg (Instr.box 28 t0) (panK R) w fun t1 w =>
 L0 28 t1 R w fun t4 w =>
 C0 51 #[t4,(.bool true)] R w fun t5 w =>
 opV Pg (Instr.extract t5 0) (panK R) w fun t6 w =>
 opV Pg (Instr.extract t5 1) (panK R) w fun t7 w =>
 R (.returned (.tuple #[t6,t7])) w
theorem n91s {t0:Value} {R:RT} {w:World} (h:n91 t0 R w):Calls Pg 20 #[t0] w R:=by
 refine yD Tryz.func20 ?_
 refine zs<|zr<|yv h fun _ w h=>zm<|zm<|zn<|zk<|zs<|zr<|yv h fun _ w h=>yc h c51 fun _ w h=>yv h fun _ w h=>yv h fun _ w h=>zm<|zm ?_
 exact zn<|zk<|sim_ret<|body_ret2 rfl rfl rfl h
def n92 (t0:Value) (R:RT) (w:World):Prop :=
 opV Pg (Instr.box 28 t0) (panK R) w fun t1 w =>
 L0 28 t1 R w fun t4 w =>
 C0 51 #[t4,(.bool false)] R w fun t5 w =>
 opV Pg (Instr.extract t5 0) (panK R) w fun t6 w =>
 opV Pg (Instr.extract t5 1) (panK R) w fun t7 w =>
 R (.returned (.tuple #[t6,t7])) w
theorem n92s {t0:Value} {R:RT} {w:World} (h:n92 t0 R w):Calls Pg 21 #[t0] w R:=by
 refine yD Tryz.func21 ?_
 refine zs<|zr<|yv h fun _ w h=>zm<|zm<|zn<|zk<|zs<|zr<|yv h fun _ w h=>yc h c51 fun _ w h=>yv h fun _ w h=>yv h fun _ w h=>zm<|zm ?_
 exact zn<|zk<|sim_ret<|body_ret2 rfl rfl rfl h
def n26c1 (t7:Value) (R:RT) (w:World):Prop :=
 opV Pg (Instr.extract t7 0) (panK R) w fun t8 w =>
 opV Pg (Instr.extract t7 1) (panK R) w fun t9 w =>
 opV Pg (Instr.alloc 90 true (.tuple #[])) (panK R) w fun t3 w =>
 opU Pg (Instr.storeAt 90 t3 t8) (panK R) w fun w =>
 opV Pg (Op.unary .not t9) (panK R) w fun t11 w =>
 R (.returned t11) w
def n26 (t0:Value) (R:RT) (w:World):Prop :=
 opV Pg (Instr.box 28 t0) (panK R) w fun t1 w =>
 L0 28 t1 R w fun t6 w =>
 C0 52 #[t6] R w fun t7 w =>
 n26c1 t7 R w
theorem n26s {t0:Value} {R:RT} {w:World} (h:n26 t0 R w):Calls Pg 22 #[t0] w R:=by
 refine yD Tryz.func22 ?_
 refine zs<|zr<|yv h fun _ w h=>zm<|zn<|zk<|zs<|zr<|yv h fun _ w h=>yc h c52 fun _ w h=>zm<|yv h fun _ w h=>yv h fun _ w h=>yv h fun _ w h=>yu h fun w h=>?_
 exact zm<|zn<|zk<|zs<|zr<|zm<|yv h fun _ w h=>zm<|zn<|zk<|sim_ret<|body_ret1 rfl rfl h
theorem where_bool_ret (w0:World) (v:Value) (l:List Bool) (g:FuncId) (caps:Array Value) (p:Nat→Bool) (hs:SliceOf w0 1 EBool v l) (hl:l.length≤1048576) (hg:Callable Pg g)
 (hc:∀ (w:World) (i:Nat) (x:Bool),l[i]?=some x→Ext w0 w→Ret Pg g (#[.int .i64 (i:Int),.bool x]++caps) w fun r w'=>r = .bool (p i)∧Ext w w') :
 Ret Pg 87 #[v,.func (.func g) #[] caps] w0 fun r w'=>RowI w' w0.heap.size r (selP l.length p)∧Ext w0 w':=by
 obtain ⟨A,c,rfl,hlc,hcm,hlm,hel⟩:=SliceOf.open hs
 refine n107s (R:=retR _) ?_;unfold n107
 simp (disch:=try exact DI) only [↓PR,QR,simprocAttr]
 refine loop2_intro (fun a0 a1 w=>∃ (k:Nat) (sv:Value),a0=sv∧a1 = .int .i64 (k:Int)∧k≤l.length∧Ext w0 w∧RowI w w0.heap.size sv (selP k p)) (fun a0 a1 _=>l.length - (intOf a1).toNat) ⟨0,.slice none 0 0,rfl,rfl,Nat.zero_le _,ee,OwnE.nil _ _ _ _ _⟩ ?_
 rintro _ _ w ⟨k,sv,rfl,rfl,hk,e,hI⟩
 have se:=e.size
 rcases drop_cases hk with ⟨x,hx,hd,hlt,hdec⟩ | ⟨hk,hd,hdec⟩
 · obtain ⟨b,o,cs,rfl,hl',hA,rfl⟩:=hel k x hx
   have hA':=hA.ext e
   simp (disch:=try exact DI) only [↓PR,QR,simprocAttr,hdec,↓n107c2,hA'.c1 (Ext.refl _)]
   rw [callV_func hg]
   simp only [Array.empty_append]
   refine zcr (hc w k x hx e) fun w2 e2=>?_
   have e02:=e.trans e2
   have hR:=hI.ext e2
   have hss:=sel_succ k p
   have hsl:=sel_len k p
   cases hp:p k with
   | false =>
    rw [hp] at hss
    simp only [Bool.false_eq_true,if_false,List.append_nil] at hss
    simp (disch:=try exact DI) only [↓PR,QR,simprocAttr,↓n107c1]
    exact ⟨⟨k+1,_,rfl,rfl,by omega,ee,by rw [hss];exact hR⟩,meas_lt (kd := .i64) hlt⟩
   | true =>
    rw [hp] at hss
    simp only [if_true] at hss
    simp (disch:=try exact DI) only [↓PR,QR,simprocAttr,↓n107c1]
    generalize hY:World.alloc w2 _=Y
    have eY:Ext w2 Y:=by rw [← hY];exact ee
    have oY:Y.heap[w2.heap.size]?=some (.cells #[.int .i64 (k:Int)] 3 (0,0)):=by rw [← hY];exact heap_new _ _ _
    clear hY
    refine append_int (k:Int) (hR.ext eY) (by rw [(cells_of_heap oY).1];rfl) (e02.trans eY).size (by omega) ?_
    intro v' w' hO' hg'
    have e':=hg'.2.1 w0 (e02.trans eY) (Nat.le_refl _)
    simp (disch:=try exact DI) only [↓PR,QR,simprocAttr]
    exact ⟨⟨k+1,v',rfl,rfl,by omega,ee,by rw [hss];exact hO'⟩,meas_lt (kd := .i64) hlt⟩
 · subst hk
   simp (disch:=try exact DI) only [↓PR,QR,simprocAttr,hdec]
   exact ⟨hI,e⟩
def errD (d:DefD):Int:=if (checkP d).2.2=0 then 0 else 2
def chosenP (d:DefD) (want:Bool):List Int:=if (checkP d).2.2=0 then selP d.msgs.length (fun i=>reachB d.msgs (startI d) i == want) else []
theorem chosen_ret (w0:World) (v:Value) (d:DefD) (want:Bool) (hd:DefVal w0 v d) (ht:calm d):Ret Pg 51 #[v,.bool want] w0 fun r w'=>(∃ u,r = .tuple #[u,.int .i64 (errD d)]∧RowI w' w0.heap.size u (chosenP d want))∧Ext w0 w':=by
 obtain ⟨mv,rfl,hM⟩:=hd
 have hm1:=SliceOf.oneCell hM
 have hM0:=hM
 refine n96s (R:=retR _) ?_;unfold n96
 simp (disch:=try exact DI) only [↓PR,QR,simprocAttr]
 generalize hV:World.alloc (World.alloc w0 _) _=V
 have eV:Ext w0 V:=by rw [← hV];exact ee
 have o3:V.heap[w0.heap.size+1]?=some (.cells #[.bool want] 4 (0,0)):=by rw [← hV];simp (disch:=try exact DI) only [↓PR,QR,simprocAttr]
 clear hV
 refine callK_ret (reached_ret _ _ d ⟨_,rfl,hM0.ext eV⟩ ht) ?_
 rintro r w1 ⟨hr,e1⟩
 have E1:=eV.trans e1
 have s1:=E1.size
 have htest:∀ (l:List Bool) (w:World) (i:Nat) (x:Bool),l[i]?=some x→Ext w1 w→Ret Pg 88 #[.int .i64 (i:Int),.bool x,.pointer (some ⟨w0.heap.size+1,0,none⟩)] w fun r w'=>r = .bool ((l.map fun x=>x == want)[i]?.getD false)∧Ext w w':=by
  intro l w i x hx e
  refine n97s (R:=retR _) ?_;unfold n97
  simp (disch:=try exact DI) only [↓PR,QR,simprocAttr,(cells_of_heap ((e1.trans e).obj o3)).1]
  refine ⟨?_,Ext.refl _⟩
  rw [List.getElem?_map,hx]
  rfl
 by_cases hc:(checkP d).2.2=0
 · simp only [hc,if_true] at hr
   obtain ⟨b,rfl,hb,hR⟩:=hr
   have hl60:=(check_fine hc).2.1.2
   have hbs:=hR.bools (by rw [tab_len];omega)
   rw [tab_len] at hbs
   simp (disch:=try exact DI) only [↓PR,QR,simprocAttr,↓n96c1]
   refine callK_ret (where_bool_ret _ _ _ _ _ (fun i=>((tab d.msgs.length (reachB d.msgs (startI d))).map fun x=>x == want)[i]?.getD false) hbs (by rw [tab_len];omega) c88 (fun w i x hx e=>htest _ w i x hx e)) ?_
   rintro u w2 ⟨hU,e2⟩
   rw [tab_len] at hU
   refine ⟨_,rfl,⟨u,by rw [show errD d=0 from if_pos hc],?_⟩,E1.trans e2⟩
   rw [show chosenP d want=_ from if_pos hc]
   have hcg:selP d.msgs.length (fun i=>((tab d.msgs.length (reachB d.msgs (startI d))).map fun x=>x == want)[i]?.getD false)=selP d.msgs.length (fun i=>reachB d.msgs (startI d) i == want):=sel_congr fun i hi=>by rw [List.getElem?_map,tab_get hi];rfl
   rw [hcg] at hU
   exact hU.base s1
 · simp only [hc,if_false] at hr
   subst hr
   simp (disch:=try exact DI) only [↓PR,QR,simprocAttr,↓n96c1]
   refine callK_ret (where_bool_ret _ _ [] _ _ (fun i=>(([]:List Bool).map fun x=>x == want)[i]?.getD false) (SliceOf.nil _ _ _) (by simp) c88 (fun w i x hx e=>htest _ w i x hx e)) ?_
   rintro u w2 ⟨hU,e2⟩
   refine ⟨_,rfl,⟨u,by rw [show errD d=2 from if_neg hc],?_⟩,E1.trans e2⟩
   rw [show chosenP d want=[] from if_neg hc]
   exact hU.base s1
theorem Reach_ret (w0:World) (v:Value) (d:DefD) (hd:DefVal w0 v d) (ht:calm d):Ret Pg 20 #[v] w0 fun r w'=>(∃ u,r = .tuple #[u,.int .i64 (errD d)]∧RowI w' w0.heap.size u (chosenP d true))∧Ext w0 w':=by
 obtain ⟨mv,rfl,hM⟩:=hd
 have hm1:=SliceOf.oneCell hM
 refine n91s (R:=retR _) ?_;unfold n91
 rw [op_boxA]
 have hBW:=ElemAt.new (w:=w0) (defCells d mv) (28)
 have eW:Ext w0 (w0.alloc (Obj.cells (List.toArray (defCells d mv)) (28))):=(Ext.refl _).alloc _
 generalize (w0.alloc (Obj.cells (List.toArray (defCells d mv)) (28)))=W at hBW eW ⊢
 simp (disch:=try exact DI) only [↓PR,QR,simprocAttr,hBW.c3 (Ext.refl W)]
 refine callK_ret (chosen_ret _ _ d true ⟨_,rfl,hM.ext eW⟩ ht) ?_
 rintro _ w1 ⟨⟨u,rfl,hU⟩,e1⟩
 simp (disch:=try exact DI) only [↓PR,QR,simprocAttr]
 exact ⟨⟨u,rfl,hU.base eW.size⟩,eW.trans e1⟩
theorem Unused_ret (w0:World) (v:Value) (d:DefD) (hd:DefVal w0 v d) (ht:calm d):Ret Pg 21 #[v] w0 fun r w'=>(∃ u,r = .tuple #[u,.int .i64 (errD d)]∧RowI w' w0.heap.size u (chosenP d false))∧Ext w0 w':=by
 obtain ⟨mv,rfl,hM⟩:=hd
 have hm1:=SliceOf.oneCell hM
 refine n92s (R:=retR _) ?_;unfold n92
 rw [op_boxA]
 have hBW:=ElemAt.new (w:=w0) (defCells d mv) (28)
 have eW:Ext w0 (w0.alloc (Obj.cells (List.toArray (defCells d mv)) (28))):=(Ext.refl _).alloc _
 generalize (w0.alloc (Obj.cells (List.toArray (defCells d mv)) (28)))=W at hBW eW ⊢
 simp (disch:=try exact DI) only [↓PR,QR,simprocAttr,hBW.c3 (Ext.refl W)]
 refine callK_ret (chosen_ret _ _ d false ⟨_,rfl,hM.ext eW⟩ ht) ?_
 rintro _ w1 ⟨⟨u,rfl,hU⟩,e1⟩
 simp (disch:=try exact DI) only [↓PR,QR,simprocAttr]
 exact ⟨⟨u,rfl,hU.base eW.size⟩,eW.trans e1⟩
section
variable {l:List MsgD} {s to:Nat}
def Bfs (l:List MsgD) (s to:Nat) (Q:List (List Int)) (sn:Nat→Bool):Prop :=
 ∃ (j:Nat) (A B:List (List Int)),Q=A++preP to l s j::B∧(j:Int)≤dN to l s∧(∀ q∈Q,∃ (q':List Int) (x:Nat),q=q'++[(x:Int)]∧x < l.length∧dN to l s - j≤dN to l x)∧(∀ x,sn x=true→dN to l s - j≤dN to l x)∧∀ q∈A,∃ (q':List Int) (x:Nat),q=q'++[(x:Int)]∧dN to l s - j+1≤dN to l x
theorem pre_last (j:Nat):∃ q',preP to l s j=q'++[(pk to l s j:Int)]:=by
 cases j with
 | zero=>exact ⟨[],rfl⟩
 | succ j=>exact ⟨_,pre_succ j⟩
theorem snoc_inj {a b:List Int} {x y:Nat} (h:a++[(x:Int)]=b++[(y:Int)]):a=b∧x=y:=by
 obtain ⟨h1,h2⟩:=List.append_inj' h rfl
 injection h2 with h2
 exact ⟨h1,by omega⟩
theorem bfs_start (h:Fine l) (hs:s < l.length):Bfs l s to [[(s:Int)]] fun _=>false :=
 ⟨0,[],[],rfl,(by have:=dN_pos (to:=to) h s;omega),(fun q hq=>by simp only [List.mem_singleton] at hq;exact ⟨[],s,hq,hs,by omega⟩),(fun _ h=>by cases h),(fun q hq=>by cases hq)⟩
theorem bfs_ne {Q:List (List Int)} {sn:Nat→Bool} (h:Bfs l s to Q sn):Q≠[]:=by
 obtain ⟨j,A,B,rfl,_⟩:=h
 simp
theorem bfs_last {q:List Int} {Q:List (List Int)} {sn:Nat→Bool} (h:Bfs l s to (q::Q) sn):∃ (q':List Int) (x:Nat),q=q'++[(x:Int)]∧x < l.length:=by
 obtain ⟨j,A,B,_,_,h3,_⟩:=h
 obtain ⟨q',x,h1,h2,_⟩:=h3 q (List.mem_cons_self ..)
 exact ⟨q',x,h1,h2⟩
theorem bfs_done (hf:Fine l) (hd:dN to l s < 1000) {q':List Int} {Q:List (List Int)} {sn:Nat→Bool} (h:Bfs l s to ((q'++[(to:Int)])::Q) sn):q'++[(to:Int)]=pathP to l s:=by
 obtain ⟨j,A,B,h1,h2,h3,h4,h5⟩:=h
 cases A with
 | nil =>
  simp only [List.nil_append,List.cons.injEq] at h1
  obtain ⟨q2,hq2⟩:=pre_last (to:=to) (l:=l) (s:=s) j
  rw [hq2] at h1
  have:=(snoc_inj h1.1).2
  have hp:=pk_dist hf hd j h2
  rw [← this,dN_to] at hp
  rw [h1.1,← hq2]
  unfold pathP
  rw [show (dN to l s).toNat=j by omega]
 | cons a A =>
  simp only [List.cons_append,List.cons.injEq] at h1
  obtain ⟨q2,x,e,hx⟩:=h5 a (List.mem_cons_self ..)
  rw [← h1.1] at e
  have:=(snoc_inj e).2
  subst this
  rw [dN_to] at hx
  omega
def kidsP (q:List Int) (ys:List Int) (sn:Nat→Bool):List (List Int):=(ys.filter fun y=>!sn y.toNat).map fun y=>q++[y]
theorem kids_snoc (q ys:List Int) (sn:Nat→Bool) (y:Int):kidsP q (ys++[y]) sn=kidsP q ys sn++(if sn y.toNat then [] else [q++[y]]):=by
 unfold kidsP
 rw [List.filter_append,List.map_append]
 congr 1
 cases h:sn y.toNat<;>simp [h]
theorem dN_near (h:Fine l) {x y:Nat} (hx:x≠to) (ht:toB l x y=true):dN to l x - 1≤dN to l y:=by
 rcases dN_le (to:=to) h ht with h1 | h1
 · omega
 · exact absurd h1 hx
theorem bfs_step (hf:Fine l) (hd:dN to l s < 1000) {q':List Int} {x:Nat} {Q:List (List Int)} {sn:Nat→Bool} (h:Bfs l s to ((q'++[(x:Int)])::Q) sn) (hx:x≠to):Bfs l s to (Q++kidsP (q'++[(x:Int)]) (toP l x) sn) fun i=>sn i||toB l x i:=by
 obtain ⟨j,A,B,h1,h2,h3,h4,h5⟩:=h
 have hkid:∀ c:Int,(∀ y,toB l x y=true→c≤dN to l y)→∀ q∈kidsP (q'++[(x:Int)]) (toP l x) sn,∃ (q2:List Int) (y:Nat),q=q2++[(y:Int)]∧y < l.length∧c≤dN to l y:=by
  intro c hc q hq
  unfold kidsP at hq
  simp only [List.mem_map,List.mem_filter] at hq
  obtain ⟨y,⟨hy,_⟩,rfl⟩:=hq
  obtain ⟨i,hi,hti,rfl⟩:=mem_sel.1 hy
  have:=to_lt hf hti
  exact ⟨_,i,rfl,by omega,hc i hti⟩
 cases A with
 | cons a A =>
  simp only [List.cons_append,List.cons.injEq] at h1
  obtain ⟨ha,hQ⟩:=h1
  obtain ⟨q2,x2,e,hx2⟩:=h5 a (List.mem_cons_self ..)
  rw [← ha] at e
  have:=(snoc_inj e).2
  subst this
  have hnear:∀ y,toB l x y=true→dN to l s - j≤dN to l y:=fun y hy=>by have:=dN_near hf hx hy;omega
  refine ⟨j,A,B++kidsP (q'++[(x:Int)]) (toP l x) sn,by rw [hQ];simp,h2,fun q hq=>?_,fun y hy=>?_,fun q hq=>h5 q (List.mem_cons_of_mem _ hq)⟩
  · rcases List.mem_append.1 hq with hq | hq
    · exact h3 q (List.mem_cons_of_mem _ hq)
    · exact hkid _ hnear q hq
  · simp only [Bool.or_eq_true] at hy
    rcases hy with hy | hy
    · exact h4 y hy
    · exact hnear y hy
 | nil =>
  simp only [List.nil_append,List.cons.injEq] at h1
  obtain ⟨hp,hQ⟩:=h1
  subst hQ
  obtain ⟨q2,hq2⟩:=pre_last (to:=to) (l:=l) (s:=s) j
  rw [hq2] at hp
  have hxk:=(snoc_inj hp).2
  have hp':q'++[(x:Int)]=preP to l s j:=by rw [hp,← hq2]
  have hdx:=pk_dist hf hd j h2
  rw [← hxk] at hdx
  have hjd:(j:Int) < dN to l s:=by
   have h0:dN to l x≠0:=fun h=>hx ((dN_zero hf).1 h)
   have:=dN_pos (to:=to) hf x
   omega
  have hnk:=next_spec (to:=to) hf hx (by omega)
  have hpk:pk to l s (j+1)=nextK to l x:=by rw [pk,← hxk]
  have hnl:=(to_lt hf hnk.1).1
  have hsplit:∃ ys zs,toP l x=ys++((nextK to l x:Nat):Int)::zs∧∀ y∈ys,∃ i:Nat,y=i∧i < nextK to l x∧toB l x i=true:=by
   have hm:((nextK to l x:Nat):Int)∈toP l x:=mem_sel.2 ⟨_,hnl,hnk.1,rfl⟩
   obtain ⟨ys,zs,he⟩:=List.append_of_mem hm
   refine ⟨ys,zs,he,fun y hy=>?_⟩
   have hr:=sel_rise x (toB l x)
   rw [show selP x (toB l x)=toP l x from rfl,he,List.pairwise_append] at hr
   have:=hr.2.2 y hy _ (List.mem_cons_self ..)
   obtain ⟨i,_,hti,hyi⟩:=mem_sel.1 (show y∈toP l x by rw [he];exact List.mem_append_left _ hy)
   exact ⟨i,hyi,by omega,hti⟩
  obtain ⟨ys,zs,hyz,hys⟩:=hsplit
  have hsn:sn (nextK to l x)=false:=by
   cases hb:sn (nextK to l x) with
   | false=>rfl
   | true=>have:=h4 _ hb;have:=hnk.2.1;omega
  have hkids:kidsP (q'++[(x:Int)]) (toP l x) sn=kidsP (q'++[(x:Int)]) ys sn++preP to l s (j+1)::kidsP (q'++[(x:Int)]) zs sn:=by
   rw [hyz,pre_succ,hpk,← hp']
   unfold kidsP
   rw [List.filter_append,List.map_append,List.filter_cons]
   simp [hsn]
  have hnear:∀ y,toB l x y=true→dN to l s - ((j+1:Nat):Int)≤dN to l y:=fun y hy=>by have:=dN_near hf hx hy;omega
  refine ⟨j+1,Q++kidsP (q'++[(x:Int)]) ys sn,kidsP (q'++[(x:Int)]) zs sn,by rw [hkids];simp,by omega,fun q hq=>?_,fun y hy=>?_,fun q hq=>?_⟩
  · rcases List.mem_append.1 hq with hq | hq
    · obtain ⟨q3,y,a,b,c⟩:=h3 q (List.mem_cons_of_mem _ hq)
      exact ⟨q3,y,a,b,by omega⟩
    · exact hkid _ hnear q hq
  · simp only [Bool.or_eq_true] at hy
    rcases hy with hy | hy
    · have:=h4 y hy;omega
    · exact hnear y hy
  · rcases List.mem_append.1 hq with hq | hq
    · obtain ⟨q3,y,a,b,c⟩:=h3 q (List.mem_cons_of_mem _ hq)
      exact ⟨q3,y,a,by omega⟩
    · unfold kidsP at hq
      simp only [List.mem_map,List.mem_filter] at hq
      obtain ⟨y,⟨hy,_⟩,rfl⟩:=hq
      obtain ⟨i,rfl,hi,hti⟩:=hys y hy
      have h6:=dN_near hf hx hti
      have h7:=hnk.2.2 i hi hti
      exact ⟨_,i,rfl,by omega⟩
end
def n90c1 (t10 t52 t58 t77:Value) (K5:KV) (R:RT) (w:World):Prop :=
 X0 93 t52 t77 R w fun t85 w =>
 opU Pg (Instr.storeAt 4 t85 (.bool true)) (panK R) w fun w =>
 opV Pg (Builtin.len_ #[30] 3 #[t58]) (panK R) w fun t89 w =>
 opV Pg (Builtin.len_ #[30] 3 #[t58]) (panK R) w fun t91 w =>
 opV Pg (Instr.sliceAt 30 t58 none (some t89) (some t91)) (panK R) w fun t92 w =>
 opV Pg (Instr.buildSlice 30 1 #[(0,t77)]) (panK R) w fun t94 w =>
 opV Pg (Builtin.append_ #[30,30] 30 #[t92,t94]) (panK R) w fun t95 w =>
 opV Pg (Instr.buildSlice 78 1 #[(0,t95)]) (panK R) w fun t96 w =>
 opV Pg (Builtin.append_ #[78,78] 78 #[t10,t96]) (panK R) w fun t97 w =>
 K5 t97 w
def n90c2 (t10 t52 t58 t72 t74:Value) (next4:KW) (R:RT) (w:World):Prop :=
 X0 30 t72 t74 R w fun t76 w =>
 L0 3 t76 R w fun t77 w =>
 X0 93 t52 t77 R w fun t80 w =>
 L0 4 t80 R w fun t81 w =>
 opV Pg (Op.unary .not t81) (panK R) w fun t82 w =>
 joinK (fun (t10:Value) (w:World) =>
 B0 .add 3 true t74 (.int .i64 1) R w fun t98 w =>
 next4 t10 t98 w) fun K5 =>
 condP t82 (
 n90c1 t10 t52 t58 t77 K5 R w) (
 K5 t10 w)
def n90c3 (t10 t52 t58 t69 t72:Value) (next3:KV) (R:RT) (w:World):Prop :=
 opV Pg (Builtin.len_ #[30] 3 #[t72]) (panK R) w fun t73 w =>
 loop2 (fun t10 t74 w next4 =>
 B0 .lss 3 false t74 t73 R w fun t75 w =>
 condP t75 (
 n90c2 t10 t52 t58 t72 t74 next4 R w) (
 next3 t10 w)) t69 (.int .i64 0) w
def n90c4 (t2 t10 t52 t58 t64:Value) (next3:KV) (R:RT) (w:World):Prop :=
 opV Pg (Instr.sliceAt 78 t10 (some (.int .i64 1)) none none) (panK R) w fun t69 w =>
 L0 28 t2 R w fun t70 w =>
 C0 56 #[t70,t64] R w fun t72 w =>
 n90c3 t10 t52 t58 t69 t72 next3 R w
def n90c5 (t1 t2 t10 t52:Value) (K2:KV) (next3:KV) (R:RT) (w:World):Prop :=
 opV Pg (Instr.indexAt 78 t10 (.int .i64 0)) (panK R) w fun t57 w =>
 L0 30 t57 R w fun t58 w =>
 opV Pg (Builtin.len_ #[30] 3 #[t58]) (panK R) w fun t61 w =>
 B0 .sub 3 true t61 (.int .i64 1) R w fun t62 w =>
 X0 30 t58 t62 R w fun t63 w =>
 L0 3 t63 R w fun t64 w =>
 B0 .eql 3 false t64 t1 R w fun t67 w =>
 condP t67 (
 K2 t10 w) (
 n90c4 t2 t10 t52 t58 t64 next3 R w)
def n90c6 (t1 t2 t10 t52:Value) (K2:KV) (next3:KV) (R:RT) (w:World):Prop :=
 opV Pg (Builtin.len_ #[78] 3 #[t10]) (panK R) w fun t54 w =>
 B0 .gtr 3 true t54 (.int .i64 0) R w fun t55 w =>
 condP t55 (
 n90c5 t1 t2 t10 t52 K2 next3 R w) (
 K2 t10 w)
def n90c7 (t1 t2 t19 t44:Value) (R:RT) (w:World):Prop :=
 opV Pg (Instr.extract t44 0) (panK R) w fun t45 w =>
 opV Pg (Instr.extract t44 1) (panK R) w fun t46 w =>
 opV Pg (Instr.buildSlice 30 1 #[(0,t45)]) (panK R) w fun t48 w =>
 opV Pg (Instr.buildSlice 78 1 #[(0,t48)]) (panK R) w fun t49 w =>
 opV Pg (Builtin.len_ #[93] 3 #[t19]) (panK R) w fun t51 w =>
 opV Pg (Instr.makeSlice 93 t51 t51) (panK R) w fun t52 w =>
 joinK (fun (t10:Value) (w:World) =>
 opV Pg (Instr.indexAt 78 t10 (.int .i64 0)) (panK R) w fun t100 w =>
 L0 30 t100 R w fun t101 w =>
 R (.returned (.tuple #[t101,(.int .i64 0)])) w) fun K2 =>
 loop1 (fun t10 w next3 =>
 n90c6 t1 t2 t10 t52 K2 next3 R w) t49 w
def n90c8 (t1 t2 t19:Value) (R:RT) (w:World):Prop :=
 L0 28 t2 R w fun t41 w =>
 F0 28 t2 2 R w fun t42 w =>
 L0 9 t42 R w fun t43 w =>
 C0 31 #[t41,t43] R w fun t44 w =>
 n90c7 t1 t2 t19 t44 R w
def n90c9 (t1 t2 t19:Value) (R:RT) (w:World):Prop :=
 X0 93 t19 t1 R w fun t37 w =>
 L0 4 t37 R w fun t38 w =>
 opV Pg (Op.unary .not t38) (panK R) w fun t39 w =>
 condP t39 (
 R (.returned (.tuple #[(Value.slice none 0 0),(.int .i64 9)])) w) (
 n90c8 t1 t2 t19 R w)
def n90c10 (t1 t2 t19:Value) (R:RT) (w:World):Prop :=
 B0 .lss 3 true t1 (.int .i64 0) R w fun t27 w =>
 joinK (fun (t32:Value) (w:World) =>
 pickK t27 (.bool true) t32 fun t33 =>
 condP t33 (
 R (.returned (.tuple #[(Value.slice none 0 0),(.int .i64 3)])) w) (
 n90c9 t1 t2 t19 R w)) fun K1 =>
 guardP t27 false (
 opV Pg (Builtin.len_ #[93] 3 #[t19]) (panK R) w fun t31 w =>
 B0 .geq 3 false t1 t31 R w fun t32 w =>
 K1 t32 w) (
 K1 undef w)
def n90c11 (t1 t2 t18:Value) (R:RT) (w:World):Prop :=
 opV Pg (Instr.extract t18 0) (panK R) w fun t19 w =>
 opV Pg (Instr.extract t18 1) (panK R) w fun t20 w =>
 B0 .neq 31 true t20 (.int .i64 0) R w fun t23 w =>
 condP t23 (
 R (.returned (.tuple #[(Value.slice none 0 0),t20])) w) (
 n90c10 t1 t2 t19 R w)
def n90 (t0 t1:Value) (R:RT) (w:World):Prop :=
 opV Pg (Instr.box 28 t0) (panK R) w fun t2 w =>
 L0 28 t2 R w fun t17 w =>
 C0 55 #[t17] R w fun t18 w =>
 n90c11 t1 t2 t18 R w
set_option maxHeartbeats 40000000 in
theorem n90s {t0 t1:Value} {R:RT} {w:World} (h:n90 t0 t1 R w):Calls Pg 24 #[t0,t1] w R:=by
 refine yD Tryz.func24 ?_
 refine zs<|zr<|yv h fun _ w h=>zm<|zm<|zn<|zk<|sim_scope<|zs<|zr<|yv h fun _ w h=>yc h c55 fun _ w h=>zm<|yv h fun _ w h=>yv h fun _ w h=>?_
 refine zm<|zm<|zn<|zk<|zs<|sim_block<|zs<|zr<|zm<|yb h fun _ w h=>zm<|zn<|zk<|yC h (fun h=>zs<|zr<|zm<|zm<|zm<|zn<|zk<|sim_ret<|sim_block_ret<|sim_then_ret<|body_ret2 rfl rfl rfl h) fun h=>?_
 refine zs<|sim_regionG<|yG 3<|zm<|yb h fun _ w h=>zm<|zn<|yg1 4 2 false [29,30,31,32] 32 h (fun _ T hT h=>?_) fun σ w h=>?_
 · refine zm<|zm<|yx h fun _ w h=>yb h fun _ w h=>zn ?_
   exact zt hT h
 refine yG 2<|yp h fun _ h=>zm<|zn<|sim_end<|zk<|yC h (fun h=>zs<|zr<|zm<|zm<|zn<|zk<|sim_ret<|sim_block_ret<|sim_then_ret<|body_ret2 rfl rfl rfl h) fun h=>zs<|zr<|zm<|zm<|yv h fun _ w h=>yv h fun _ w h=>yv h fun _ w h=>?_
 refine zm<|zn<|zk<|yC h (fun h=>zs<|zr<|zm<|zm<|zn<|zk<|sim_ret<|sim_block_ret<|sim_then_ret<|body_ret2 rfl rfl rfl h) fun h=>sim_skip<|sim_block_normal<|zk<|zs<|zr<|yv h fun _ w h=>yv h fun _ w h=>yv h fun _ w h=>yc h c31 fun _ w h=>zm ?_
 refine yv h fun _ w h=>yv h fun _ w h=>zm<|zm<|zn<|zk<|zs<|zr<|zm<|yS h fun _ w h=>yS h fun _ w h=>zm<|zn<|zk<|zs ?_
 refine zr<|zm<|yx h fun _ w h=>yv h fun _ w h=>zm<|zn<|zk<|zs<|sim_label<|zk<|zs<|yJ1 [10,12,13,15,53,54,55,56,57,58,59,60,61,62,63,64,65,66,67,68,69,70,71,72,73,74,75,76,77,78,79,80,81,82,83,84,85,86,87,88,89,90,91,92,93,94,95,96,97,98] 10 h (fun _ _ hkK2 h=>?_) fun σ w h=>?_
 · refine sim_block<|yl1 [10,12,13,15,53,54,55,56,57,58,59,60,61,62,63,64,65,66,67,68,69,70,71,72,73,74,75,76,77,78,79,80,81,82,83,84,85,86,87,88,89,90,91,92,93,94,95,96,97,98] 10 h fun σ w next h=>zs<|zs<|zr<|zm<|yx h fun _ w h=>yb h fun _ w h=>zn<|zk<|yC h (fun h=>?_) fun h=>?_
   · refine sim_skip<|zk<|sim_block<|zs<|zr<|zm<|yv h fun _ w h=>yv h fun _ w h=>zm<|zn<|zk<|zs<|zr<|zm<|zm ?_
     refine yx h fun _ w h=>yb h fun _ w h=>yv h fun _ w h=>yv h fun _ w h=>zm<|zn<|zk<|zs<|zs<|zr<|zm<|zm<|yb h fun _ w h=>zn<|zk ?_
     refine yC h (fun h=>?_) fun h=>?_
     · refine sim_exit<|sim_then_exit<|sim_block_miss rfl<|sim_then_exit<|sim_block_hit<|zk ?_
       exact zt hkK2 h
     refine sim_skip<|zk<|zs<|zr<|zm<|yv h fun _ w h=>zm<|zn<|zk<|zs<|zr<|yv h fun _ w h=>zm<|yc h c56 fun _ w h=>yx h fun _ w h=>?_
     refine zm<|zn<|zk<|sim_block<|yl2 [10,15,74,75,76,77,78,79,80,81,82,83,84,85,86,87,88,89,90,91,92,93,94,95,96,97,98] 10 74 h fun σ w next h=>zs<|zr<|yb h fun _ w h=>zn<|zk<|zs<|yC h (fun h=>?_) fun h=>?_
     · refine sim_skip<|zk<|zs<|sim_block<|zs<|zr<|yv h fun _ w h=>yv h fun _ w h=>zm<|zn<|zk<|zs<|zr<|zm<|zm ?_
       refine yv h fun _ w h=>yv h fun _ w h=>yv h fun _ w h=>zn<|zk<|yJ1 [10,83,84,85,86,87,88,89,90,91,92,93,94,95,96,97] 10 h (fun _ _ hkK5 h=>?_) fun σ w h=>?_
       · refine yC h (fun h=>?_) fun h=>?_
         · refine zs<|zr<|zm<|zm<|yv h fun _ w h=>yu h fun w h=>zn<|zk<|zr<|zm<|zm<|zm<|yx h fun _ w h=>zm<|yx h fun _ w h=>?_
           refine yv h fun _ w h=>zm<|yS h fun _ w h=>yx h fun _ w h=>yS h fun _ w h=>yx h fun _ w h=>zm<|zn<|zk ?_
           exact zt hkK5 h
         refine sim_skip<|zk ?_
         exact zt hkK5 h
       exact sim_block_normal<|zk<|zr<|yb h fun _ w h=>zm<|zn<|zk<|⟨rfl,h⟩
     exact sim_exit<|sim_then_exit<|sim_then_exit<|sim_block_hit<|sim_block_normal<|zk<|⟨rfl,h⟩
   refine sim_exit<|sim_then_exit<|sim_then_exit<|sim_block_hit<|zk ?_
   exact zt hkK2 h
 exact zk<|zs<|zr<|zm<|yv h fun _ w h=>yv h fun _ w h=>zm<|zm<|zn<|zk<|sim_ret<|body_ret2 rfl rfl rfl h
def n37c1 (t7 t9 t19 t47 t55:Value) (C4:World→Prop) (next2:KV) (R:RT) (w:World):Prop :=
 qV Pg C4 (Instr.indexAt 30 t19 t55) fun t56 =>
 qV Pg C4 (Instr.loadAt 3 t56) fun t57 =>
 qV Pg C4 (binS .add 3 true (.int .i64 1) t57) fun t58 =>
 qV Pg C4 (Builtin.min_ #[3,3] 3 #[t47,t58]) fun t59 =>
 qV Pg C4 (Instr.indexAt 30 t19 t7) fun t60 =>
 opU Pg (Instr.storeAt 3 t60 t59) (panK R) w fun w =>
 turnK w fun C5 w =>
 B0 .add 3 true t9 (.int .i64 1) R w fun t41 w =>
 next2 t41 w
def n37c2 (t2 t7 t9 t19 t35:Value) (C3:World→Prop) (next2:KV) (R:RT) (w:World):Prop :=
 qV Pg C3 (Instr.indexAt 30 t19 t7) fun t46 =>
 qV Pg C3 (Instr.loadAt 3 t46) fun t47 =>
 qV Pg C3 (Instr.loadAt 28 t2) fun t49 =>
 qV Pg C3 (Instr.indexAt 82 t35 t9) fun t52 =>
 qV Pg C3 (Instr.loadAt 9 t52) fun t53 =>
 C0 53 #[t49,t53,t7] R w fun t55 w =>
 narrowK C3 w fun C4 w =>
 n37c1 t7 t9 t19 t47 t55 C4 next2 R w
def n37c3 (t1 t7 t19:Value) (next1:KV) (R:RT) (w:World):Prop :=
 B0 .eql 3 false t7 t1 R w fun t63 w =>
 joinK (fun (w:World) =>
 B0 .add 3 true t7 (.int .i64 1) R w fun t26 w =>
 next1 t26 w) fun K6 =>
 condP t63 (
 X0 30 t19 t7 R w fun t66 w =>
 opU Pg (Instr.storeAt 3 t66 (.int .i64 0)) (panK R) w fun w =>
 K6 w) (
 K6 w)
def n37c4 (t1 t2 t7 t9 t19 t35:Value) (next1:KV) (next2:KV) (R:RT) (w:World):Prop :=
 opV Pg (Builtin.len_ #[82] 3 #[t35]) (panK R) w fun t38 w =>
 B0 .lss 3 false t9 t38 R w fun t39 w =>
 condP t39 (
 drawK w fun C3 w =>
 n37c2 t2 t7 t9 t19 t35 C3 next2 R w) (
 n37c3 t1 t7 t19 next1 R w)
def n37c5 (t13 t14 t104 t114 t122:Value) (next8:KW) (R:RT) (w:World):Prop :=
 pickK t114 t122 (.bool false) fun t123 =>
 joinK (fun (t13:Value) (w:World) =>
 B0 .add 3 true t14 (.int .i64 1) R w fun t97 w =>
 next8 t13 t97 w) fun K14 =>
 condP t123 (
 K14 t104 w) (
 K14 t13 w)
def n37c6 (t13 t14 t104 t114 t118 t121:Value) (next8:KW) (R:RT) (w:World):Prop :=
 joinK (fun (t122:Value) (w:World) =>
 n37c5 t13 t14 t104 t114 t122 next8 R w) fun K13 =>
 guardP t114 true (
 pickK t118 (.bool true) t121 fun t122 =>
 K13 t122 w) (
 K13 undef w)
def n37c7 (t13 t14 t104 t114 t118:Value) (C10:World→Prop) (next8:KW) (R:RT) (w:World):Prop :=
 joinK (fun (t121:Value) (w:World) =>
 n37c6 t13 t14 t104 t114 t118 t121 next8 R w) fun K12 =>
 guardP t118 false (
 qV Pg C10 (binS .lss 3 false t104 t13) fun t121 =>
 K12 t121 w) (
 K12 undef w)
def n37c8 (t10 t13 t14 t19 t104:Value) (C10:World→Prop) (next8:KW) (R:RT) (w:World):Prop :=
 qV Pg C10 (Instr.indexAt 30 t19 t104) fun t107 =>
 qV Pg C10 (Instr.loadAt 3 t107) fun t108 =>
 qV Pg C10 (Instr.indexAt 30 t19 t10) fun t111 =>
 qV Pg C10 (Instr.loadAt 3 t111) fun t112 =>
 qV Pg C10 (binS .sub 3 true t112 (.int .i64 1)) fun t113 =>
 qV Pg C10 (binS .eql 3 false t108 t113) fun t114 =>
 joinK (fun (t118:Value) (w:World) =>
 n37c7 t13 t14 t104 t114 t118 C10 next8 R w) fun K11 =>
 guardP t114 true (
 qV Pg C10 (binS .lss 3 true t13 (.int .i64 0)) fun t117 =>
 K11 t117 w) (
 K11 undef w)
def n37c9 (t2 t10 t13 t14 t19 t91:Value) (C9:World→Prop) (next8:KW) (R:RT) (w:World):Prop :=
 qV Pg C9 (Instr.loadAt 28 t2) fun t98 =>
 qV Pg C9 (Instr.indexAt 82 t91 t14) fun t101 =>
 qV Pg C9 (Instr.loadAt 9 t101) fun t102 =>
 C0 53 #[t98,t102,t10] R w fun t104 w =>
 C9 w∧(
 drawK w fun C10 w =>
 n37c8 t10 t13 t14 t19 t104 C10 next8 R w)
def n37c10 (t2 t10 t11 t13 t14 t19 t91:Value) (next7:KW) (next8:KW) (R:RT) (w:World):Prop :=
 opV Pg (Builtin.len_ #[82] 3 #[t91]) (panK R) w fun t94 w =>
 B0 .lss 3 false t14 t94 R w fun t95 w =>
 condP t95 (
 drawK w fun C9 w =>
 n37c9 t2 t10 t13 t14 t19 t91 C9 next8 R w) (
 opV Pg (Instr.buildSlice 30 1 #[(0,t13)]) (panK R) w fun t128 w =>
 opV Pg (Builtin.append_ #[30,30] 30 #[t11,t128]) (panK R) w fun t129 w =>
 next7 t13 t129 w)
def n37c11 (t2 t10 t11 t19:Value) (next7:KW) (R:RT) (w:World):Prop :=
 F0 28 t2 1 R w fun t86 w =>
 L0 26 t86 R w fun t87 w =>
 X0 26 t87 t10 R w fun t89 w =>
 L0 24 t89 R w fun t90 w =>
 C0 54 #[t90] R w fun t91 w =>
 loop2 (fun t13 t14 w next8 =>
 n37c10 t2 t10 t11 t13 t14 t19 t91 next7 next8 R w) (.int .i64 (-1)) (.int .i64 0) w
def n37c12 (t2 t10 t11 t19:Value) (next7:KW) (R:RT) (w:World):Prop :=
 X0 30 t19 t10 R w fun t83 w =>
 L0 3 t83 R w fun t84 w =>
 B0 .gtr 3 true t84 (.int .i64 0) R w fun t85 w =>
 condP t85 (
 n37c11 t2 t10 t11 t19 next7 R w) (
 R (.returned (.tuple #[t11,(.bool true)])) w)
def n37c13 (t2 t19 t73:Value) (R:RT) (w:World):Prop :=
 X0 30 t19 t73 R w fun t76 w =>
 L0 3 t76 R w fun t77 w =>
 B0 .geq 3 true t77 (.int .i64 1000) R w fun t78 w =>
 condP t78 (
 R (.returned (.tuple #[(Value.slice none 0 0),(.bool false)])) w) (
 opV Pg (Instr.buildSlice 30 1 #[(0,t73)]) (panK R) w fun t80 w =>
 loop2 (fun t10 t11 w next7 =>
 n37c12 t2 t10 t11 t19 next7 R w) t73 t80 w)
def n37c14 (t2 t19:Value) (R:RT) (w:World):Prop :=
 L0 28 t2 R w fun t67 w =>
 F0 28 t2 2 R w fun t68 w =>
 L0 9 t68 R w fun t69 w =>
 F0 28 t2 1 R w fun t70 w =>
 L0 26 t70 R w fun t71 w =>
 opV Pg (Builtin.len_ #[26] 3 #[t71]) (panK R) w fun t72 w =>
 C0 53 #[t67,t69,t72] R w fun t73 w =>
 n37c13 t2 t19 t73 R w
def n37c15 (t1 t2 t7 t19:Value) (next1:KV) (R:RT) (w:World):Prop :=
 X0 30 t19 t7 R w fun t29 w =>
 opU Pg (Instr.storeAt 3 t29 (.int .i64 1000)) (panK R) w fun w =>
 F0 28 t2 1 R w fun t30 w =>
 L0 26 t30 R w fun t31 w =>
 X0 26 t31 t7 R w fun t33 w =>
 L0 24 t33 R w fun t34 w =>
 C0 54 #[t34] R w fun t35 w =>
 loop1 (fun t9 w next2 =>
 n37c4 t1 t2 t7 t9 t19 t35 next1 next2 R w) (.int .i64 0) w
def n37c16 (t1 t2 t7 t19:Value) (next1:KV) (R:RT) (w:World):Prop :=
 F0 28 t2 1 R w fun t21 w =>
 L0 26 t21 R w fun t22 w =>
 opV Pg (Builtin.len_ #[26] 3 #[t22]) (panK R) w fun t23 w =>
 B0 .lss 3 false t7 t23 R w fun t24 w =>
 condP t24 (
 n37c15 t1 t2 t7 t19 next1 R w) (
 n37c14 t2 t19 R w)
def n37 (t0 t1:Value) (R:RT) (w:World):Prop :=
 opV Pg (Instr.box 28 t0) (panK R) w fun t2 w =>
 F0 28 t2 1 R w fun t16 w =>
 L0 26 t16 R w fun t17 w =>
 opV Pg (Builtin.len_ #[26] 3 #[t17]) (panK R) w fun t18 w =>
 opV Pg (Instr.makeSlice 30 t18 t18) (panK R) w fun t19 w =>
 loop1 (fun t7 w next1 =>
 n37c16 t1 t2 t7 t19 next1 R w) (.int .i64 0) w
set_option maxHeartbeats 40000000 in
theorem n37s {t0 t1:Value} {R:RT} {w:World} (h:n37 t0 t1 R w):Calls Pg 25 #[t0,t1] w R:=by
 refine yD Tryz.func25 ?_
 refine zs<|zr<|yv h fun _ w h=>zm<|zm<|zn<|zk<|zs<|zr<|yv h fun _ w h=>yv h fun _ w h=>yx h fun _ w h=>yv h fun _ w h=>zm<|zn ?_
 refine zk<|zs<|zs<|zr<|zm<|zn<|zk<|sim_block<|yl1 [7,8,9,20,21,22,23,24,25,26,27,28,29,30,31,32,33,34,35,36,37,38,39,40,41,42,43,44,45,46,47,48,49,50,51,52,53,54,55,56,57,58,59,60,61,62,63,64,65,66] 7 h fun σ w next h=>zs<|zs<|zr<|zm<|yv h fun _ w h=>yv h fun _ w h=>?_
 refine yx h fun _ w h=>yb h fun _ w h=>zn<|zk<|yC h (fun h=>?_) fun h=>?_
 · refine sim_skip<|zk<|zs<|sim_block<|zs<|zr<|zm<|zm<|yv h fun _ w h=>yu h fun w h=>zn<|zk<|zs<|zr<|yv h fun _ w h=>?_
   refine yv h fun _ w h=>zm<|yv h fun _ w h=>yv h fun _ w h=>yc h c54 fun _ w h=>zm<|zn<|zk<|zs<|zs<|zr<|zm<|zn<|zk<|sim_block ?_
   refine yl1 [9,36,37,38,39,40,41,42,43,44,45,46,47,48,49,50,51,52,53,54,55,56,57,58,59,60] 9 h fun σ w next h=>zs<|zs<|zr<|zm<|zm<|yx h fun _ w h=>yb h fun _ w h=>zn<|zk<|yC h (fun h=>?_) fun h=>?_
   · refine sim_skip<|zk<|zs<|sim_block<|yh [42,43,44,45,46,47,48,49,50,51,52,53,54,55,56,57,58,59,60] h fun C hC h=>yw 0 hC ?_
     refine yw 1 hC ?_
     refine yw 2 hC ?_
     refine yw 3 hC ?_
     refine ye 4 hC h fun _ h=>?_
     refine ye 5 hC h fun _ h=>?_
     refine yw 6 hC ?_
     refine ye 7 hC h fun _ h=>?_
     refine yw 8 hC ?_
     refine yw 9 hC ?_
     refine ye 10 hC h fun _ h=>?_
     refine ye 11 hC h fun _ h=>?_
     refine yw 12 hC ?_
     refine yr 13 ?_
     refine yc h c53 fun _ w h=>zn ?_
     obtain ⟨C4,hs,hC,h⟩:=h
     refine ⟨C4,hs,hC,?_⟩
     refine ye 14 hC h fun _ h=>?_
     refine ye 15 hC h fun _ h=>?_
     refine ye 16 hC h fun _ h=>?_
     refine ye 17 hC h fun _ h=>?_
     refine ye 18 hC h fun _ h=>?_
     refine yq 19 1 ?_
     refine yu h fun w h=>zn ?_
     obtain ⟨C5,hC,h⟩:=h
     refine ⟨C5,hC,?_⟩
     exact yz<|sim_block_normal<|zk<|zr<|zm<|yb h fun _ w h=>zm<|zn<|zk<|⟨rfl,h⟩
   refine sim_exit<|sim_then_exit<|sim_then_exit<|sim_block_hit<|zk<|zs<|zr<|zm<|zm<|yb h fun _ w h=>zn<|zk<|yJ0 [64,65,66] h (fun _ _ hkK6 h=>?_) fun σ w h=>?_
   · refine yC h (fun h=>?_) fun h=>?_
     · refine zr<|zm<|zm<|yv h fun _ w h=>yu h fun w h=>zn<|zk ?_
       exact zt hkK6 h
     refine sim_skip<|zk ?_
     exact zt hkK6 h
   exact sim_block_normal<|zk<|zr<|zm<|yb h fun _ w h=>zm<|zn<|zk<|⟨rfl,h⟩
 refine sim_exit<|sim_then_exit<|sim_then_exit<|sim_block_hit<|zk<|zs<|zr<|yv h fun _ w h=>yv h fun _ w h=>yv h fun _ w h=>yv h fun _ w h=>yv h fun _ w h=>yx h fun _ w h=>yc h c53 fun _ w h=>zm ?_
 refine zn<|zk<|zs<|zs<|zr<|zm<|zm<|yv h fun _ w h=>yv h fun _ w h=>yb h fun _ w h=>zn<|zk<|yC h (fun h=>zs<|zr<|zm<|zm<|zn<|zk<|sim_ret<|sim_then_ret<|body_ret2 rfl rfl rfl h) fun h=>sim_skip ?_
 refine zk<|zs<|zr<|zm<|yS h fun _ w h=>zm<|zn<|zk<|zs<|sim_block<|yl2 [10,11,12,13,14,15,81,82,83,84,85,86,87,88,89,90,91,92,93,94,95,96,97,98,99,100,101,102,103,104,105,106,107,108,109,110,111,112,113,114,115,116,117,118,119,120,121,122,123,124,125,126,127,128,129] 10 11 h fun σ w next h=>zs<|zs<|zr<|zm ?_
 refine zm<|yv h fun _ w h=>yv h fun _ w h=>yb h fun _ w h=>zn<|zk<|yC h (fun h=>?_) fun h=>?_
 · refine sim_skip<|zk<|sim_block<|zs<|zr<|yv h fun _ w h=>yv h fun _ w h=>zm<|yv h fun _ w h=>yv h fun _ w h=>yc h c54 fun _ w h=>zm<|zn<|zk<|zs ?_
   refine zr<|zm<|zn<|zk<|zs<|zs<|zr<|zm<|zn<|zk<|sim_block<|yl2 [13,14,15,92,93,94,95,96,97,98,99,100,101,102,103,104,105,106,107,108,109,110,111,112,113,114,115,116,117,118,119,120,121,122,123,124] 13 14 h fun σ w next h=>zs<|zs<|zr ?_
   refine zm<|zm<|yx h fun _ w h=>yb h fun _ w h=>zn<|zk<|yC h (fun h=>?_) fun h=>?_
   · refine sim_skip<|zk<|zs<|sim_block<|zs<|yh [15,98,99,100,101,102,103,104] h fun C hC h=>ye 0 hC h fun _ h=>?_
     refine yw 1 hC ?_
     refine yw 2 hC ?_
     refine ye 3 hC h fun _ h=>?_
     refine ye 4 hC h fun _ h=>?_
     refine yw 5 hC ?_
     refine yo 6 ?_
     refine yc h c53 fun _ w h=>zn ?_
     obtain ⟨hC,h⟩:=h
     refine ⟨hC,?_⟩
     refine yw 7 hC ?_
     refine yz<|zk<|zs<|yh [105,106,107,108,109,110,111,112,113,114,115,116,117,118,119,120,121,122,123] h fun C hC h=>yw 0 hC ?_
     refine yw 1 hC ?_
     refine ye 2 hC h fun _ h=>?_
     refine ye 3 hC h fun _ h=>?_
     refine yw 4 hC ?_
     refine yw 5 hC ?_
     refine ye 6 hC h fun _ h=>?_
     refine ye 7 hC h fun _ h=>?_
     refine ye 8 hC h fun _ h=>?_
     refine ye 9 hC h fun _ h=>?_
     refine yw 10 hC ?_
     refine yj1 5 [13,12,11,10,9,8,7,6,5,4,3,2,1,0] [116,117,118] 118 h (fun _ hT hb h=>?_) (fun _ hT hb h=>?_) fun σ w hC h=>?_
     · refine yw 11 hC ?_
       refine ye 12 hC h fun _ h=>?_
       refine yw 13 hC ?_
       exact yt hT hC h
     · refine yi 11 hC ?_
       refine yi 12 hC ?_
       refine yi 13 hC ?_
       exact yt hT hC h
     refine yj1 2 [16,15,14,13,12,11,10,9,8,7,6,5,4,3,2,1,0] [119,120,121] 121 h (fun _ hT hb h=>?_) (fun _ hT hb h=>?_) fun σ w hC h=>?_
     · refine yw 14 hC ?_
       refine yw 15 hC ?_
       refine ye 16 hC h fun _ h=>?_
       exact yt hT hC h
     · refine yi 14 hC ?_
       refine yi 15 hC ?_
       refine yi 16 hC ?_
       exact yt hT hC h
     refine yj1 1 [17,16,15,14,13,12,11,10,9,8,7,6,5,4,3,2,1,0] [122] 122 h (fun _ hT hb h=>?_) (fun _ hT hb h=>?_) fun σ w hC h=>?_
     · refine yP 17 hC h fun _ h=>?_
       exact yt hT hC h
     · refine yi 17 hC ?_
       exact yt hT hC h
     refine yP 18 hC h fun _ h=>?_
     refine yz<|zk<|yJ1 [13,124] 13 h (fun _ _ hkK14 h=>?_) fun σ w h=>?_
     · refine yC h (fun h=>?_) fun h=>?_
       · refine zr<|zm<|zm<|zn<|zk ?_
         exact zt hkK14 h
       refine sim_skip<|zk ?_
       exact zt hkK14 h
     exact sim_block_normal<|zk<|zr<|zm<|yb h fun _ w h=>zm<|zn<|zk<|⟨rfl,h⟩
   refine sim_exit<|sim_then_exit<|sim_then_exit<|sim_block_hit<|zk<|zs<|zr<|zm<|zm<|zn<|zk<|zr<|zm<|zm<|yS h fun _ w h=>?_
   exact yx h fun _ w h=>zm<|zn<|sim_block_normal<|zk<|⟨rfl,h⟩
 exact sim_exit<|sim_then_exit<|sim_then_exit<|sim_block_hit<|zk<|zs<|zr<|zm<|zm<|zm<|zn<|zk<|sim_ret<|body_ret2 rfl rfl rfl h
abbrev TS:TypeId:=30
def cntF (n:Nat) (f:Nat→Bool):Nat:=((List.range n).filter fun i=>!f i).length
theorem cnt_succ (n:Nat) (f:Nat→Bool):cntF (n+1) f=cntF n f+(if f n then 0 else 1):=by
 unfold cntF
 rw [List.range_succ,List.filter_append,List.length_append]
 cases h:f n<;>simp [h]
theorem cnt_congr {n:Nat} {f g:Nat→Bool} (h:∀ i,i < n→f i=g i):cntF n f=cntF n g:=by
 unfold cntF
 rw [List.filter_congr fun i hi=>by rw [h i (List.mem_range.1 hi)]]
theorem cnt_le (n:Nat) (f:Nat→Bool):cntF n f≤n:=by
 unfold cntF
 exact Nat.le_trans (List.length_filter_le _ _) (by simp)
theorem cnt_set {j:Nat} {f:Nat→Bool} (hf:f j=false):∀ n,j < n→cntF n (fun i=>f i||i == j)+1=cntF n f
 | 0,h=>by omega
 | n+1,h=>by
  rw [cnt_succ,cnt_succ]
  by_cases hj:j=n
  · subst hj
    have:cntF j (fun i=>f i||i == j)=cntF j f:=cnt_congr fun i hi=>by
     have:(i == j)=false:=by simp;omega
     rw [this,Bool.or_false]
    simp [this,hf]
  · have ih:=cnt_set hf n (by omega)
    have:(n == j)=false:=by simp;omega
    simp only [this,Bool.or_false]
    omega
section
variable {w w':World} {base r:Nat} {v a:Value} {l:List Int} {xs:List Value} {L:List Bool} {bp:Nat}
theorem BRow.type (h:BRow w r L):TypeAt w r 4:=⟨_,_,h⟩
theorem RowI.setB (h:RowI w base v l) (hB:BRow w r L) (i:Nat) (u:Value):RowI (w.setCell ⟨r,i,none⟩ u) base v l :=
 (OwnR.only (lo:=base) (hi:=w.heap.size) ⟨h,fun b hb=>(h.lt b hb).2⟩ (Only.setCell w r i u) (.inr (.inr ⟨_,hB.type,by decide⟩))).1
theorem OwnO.type (h:OwnO w bp TS a xs) {g:Nat} (hg:a.ownBlock=some g):∃ cur,w.heap[g]?=some (.cells cur TS (0,0)):=by
 obtain ⟨g',off,cap,cur,rfl,_,h3,_⟩:=h
 injection hg with hg
 subst hg
 exact ⟨cur,h3⟩
theorem RowI.grownO (h:RowI w base v l) (hO:OwnO w bp TS a xs) (hg:w.grownBy w' a.ownBlock):RowI w' base v l:=OwnE.grown h hg fun b hb e=>by
 obtain ⟨c1,h1⟩:=own_type h hb
 obtain ⟨c2,h2⟩:=hO.type e
 rw [h1] at h2
 injection h2 with h2
 injection h2 with _ h2 _
 exact absurd h2 (by decide)
theorem BRow.grownO (h:BRow w r L) (hO:OwnO w bp TS a xs) (hg:w.grownBy w' a.ownBlock):BRow w' r L:=(hg.block r (Array.getElem?_eq_some_iff.1 h).1 fun e=>by
 obtain ⟨c2,h2⟩:=hO.type e.symm
 rw [h] at h2
 injection h2 with h2
 injection h2 with _ h2 _
 exact absurd h2 (by decide)).trans h
theorem rowI_of (h:w.ownsRow base 3 1 v (l.length) (l.map fun n=>Value.int .i64 n)):RowI w base v l:=by
 unfold RowI OwnE
 rw [flat_encI]
 exact h
structure QAt (w:World) (B:Nat) (a:Value) (Q:List (List Int)):Prop where
 row:∃ xs,OwnO w B TS a xs∧xs.length=Q.length∧∀ (k:Nat) (x:Value) (q:List Int),xs[k]?=some x→Q[k]?=some q→RowI w B x q
theorem QAt.ext {B:Nat} {Q:List (List Int)} (h:QAt w B a Q) (e:Ext w w'):QAt w' B a Q:=by
 obtain ⟨xs,h1,h2,h3⟩:=h.row
 exact ⟨xs,h1.ext e,h2,fun k x q a b=>(h3 k x q a b).ext e⟩
theorem QAt.setB {B:Nat} {Q:List (List Int)} (h:QAt w B a Q) (hB:BRow w r L) (i:Nat) (u:Value):QAt (w.setCell ⟨r,i,none⟩ u) B a Q:=by
 obtain ⟨xs,h1,h2,h3⟩:=h.row
 exact ⟨xs,h1.only (Only.setCell w r i u) hB.type (by decide),h2,fun k x q a b=>(h3 k x q a b).setB hB i u⟩
theorem QAt.one {B:Nat} {Q:List (List Int)} (h:QAt w B a Q):a.oneCell'=true:=by
 obtain ⟨xs,⟨g,off,cap,cur,rfl,_⟩,_⟩:=h.row
 rfl
end
section
variable {w0:World} {d:DefD} {mv:Value} {p2 r B x t:Nat} {R:RT}
def seenK (f:Nat→Bool) (ys:List Int) (i:Nat):Bool:=f i||ys.contains (i:Int)
theorem seen_nil (f:Nat→Bool):seenK f []=f:=by funext i;simp [seenK]
theorem seen_snoc (f:Nat→Bool) (ys:List Int) (j:Nat):seenK f (ys++[(j:Int)])=fun i=>seenK f ys i||i == j:=by
 funext i
 unfold seenK
 rw [List.contains_eq_any_beq,List.any_append,List.contains_eq_any_beq,Bool.or_assoc]
 congr 2
 simp only [List.any_cons,List.any_nil,Bool.or_false]
 rw [Bool.eq_iff_iff]
 simp
 omega
theorem path_inner {tz:Value} {w:World} {l:List MsgD} {q:List Int} {Q:List (List Int)} {f:Nat→Bool} {a rv x0:Value} {next3:Value→World→Prop} {bs:Nat} (hf:Fine l) (hx:x < l.length) (hl:l.length≤60) (hq:0 < q.length) (hql:q.length≤1000) (hT:RowI w bs rv (toP l x)) (hQ:QAt w B a Q) (hx0:RowI w B x0 q) (hR:BRow w r (tab l.length f)) (hBr:B≤r) (hB:B≤w.heap.size) (hsum:Q.length+cntF l.length f≤100)
 (hn:∀ a' w',QAt w' B a' (Q++kidsP q (toP l x) f)→BRow w' r (tab l.length (seenK f (toP l x)))→(Q++kidsP q (toP l x) f).length+cntF l.length (seenK f (toP l x))=Q.length+cntF l.length f→(∀ W,Ext W w→W.heap.size≤B→Ext W w')→B≤w'.heap.size→next3 a' w') :
 n90c3 tz (.slice (some ⟨r,0,none⟩) l.length l.length) x0 a rv next3 R w:=by
 have htl:(toP l x).length≤x:=sel_len _ _
 obtain ⟨Ar,cr,rfl,hlr,hcr,hlmr,_⟩:=SliceOf.open hT.ints
 obtain ⟨gq,capq,curq,rfl,_,hgq,hcq,_,_,_⟩:=hx0.2.resolve_left (fun h=>by have h2:q.length=0:=h.2;omega)
 unfold n90c3
 simp (disch:=try exact DI) only [↓PR,QR,simprocAttr]
 refine loop2_intro (fun a1 i w'=>∃ k:Nat,i = .int .i64 k∧k≤(toP l x).length∧QAt w' B a1 (Q++kidsP q ((toP l x).take k) f)∧BRow w' r (tab l.length (seenK f ((toP l x).take k)))∧(Q++kidsP q ((toP l x).take k) f).length+cntF l.length (seenK f ((toP l x).take k))=Q.length+cntF l.length f∧RowI w' bs (.slice Ar (toP l x).length cr) (toP l x)∧RowI w' B (.slice (some ⟨gq,0,none⟩) q.length capq) q∧(∀ W,Ext W w→W.heap.size≤B→Ext W w')∧B≤w'.heap.size) (fun _ i _=>(toP l x).length - (intOf i).toNat) ⟨0,rfl,by omega,by simpa [kidsP] using hQ,by rw [List.take_zero,seen_nil];exact hR,by rw [List.take_zero,seen_nil];simp [kidsP],hT,hx0,fun W e _=>e,hB⟩ ?_
 rintro a1 _ w1 ⟨k,rfl,hk,hQ1,hR1,hs1,hT1,hx1,hE1,hB1⟩
 rcases drop_cases hk with ⟨y,hy,_,hlt,hdec⟩ | ⟨hke,_,hdec⟩
 · obtain ⟨j,rfl,hj⟩:=to_mem (List.mem_of_getElem? hy)
   obtain ⟨_,_,hv,_,_,_,hel⟩:=SliceOf.open hT1.ints
   injection hv with hv _ hv'
   subst hv hv'
   obtain ⟨b6,o6,cs6,rfl,_,hA6,rfl⟩:=hel k _ hy
   have a6:w1.cell? ⟨b6,o6+k,none⟩=some (.int .i64 (j:Int)):=by have:=hA6 0 _ rfl;simpa using this
   have hjn:j < l.length:=by omega
   have c1:w1.cell? ⟨r,j,none⟩=some (.bool (seenK f ((toP l x).take k) j)):=hR1.get (tab_get hjn)
   have hfz:∀ o,w1.frozen? ⟨r,o,none⟩=false:=(cells_of_heap hR1).2
   have hfj:seenK f ((toP l x).take k) j=f j:=by
    unfold seenK
    have:((toP l x).take k).contains (j:Int)=false:=by
     rw [Bool.eq_false_iff]
     intro h
     rw [List.contains_iff_mem] at h
     obtain ⟨i,hi⟩:=List.getElem?_of_mem h
     rw [List.getElem?_take] at hi
     split at hi
     · rename_i hik
       have hr:(toP l x).Pairwise (· < ·):=sel_rise x (toB l x)
       have h1:=(List.getElem?_eq_some_iff.1 hi)
       have h2:=(List.getElem?_eq_some_iff.1 hy)
       have:=List.pairwise_iff_getElem.1 hr i k h1.1 h2.1 hik
       rw [h1.2,h2.2] at this
       exact absurd this (Int.lt_irrefl _)
     · cases hi
    rw [this,Bool.or_false]
   have hkid:=kids_snoc q ((toP l x).take k) f (j:Int)
   rw [Int.toNat_natCast,← take_snoc hy] at hkid
   have hsn:=seen_snoc f ((toP l x).take k) j
   rw [← take_snoc hy] at hsn
   have hwr:IntKind.i64.wrap ((k:Int)+1)=(k:Int)+1:=wrap_ok (by omega) (by omega)
   cases hb:f j with
   | true =>
    rw [hfj,hb] at c1
    rw [hb] at hkid
    simp only [if_true,List.append_nil] at hkid
    have hsn2:seenK f ((toP l x).take (k+1))=seenK f ((toP l x).take k):=by
     rw [hsn]
     funext i
     by_cases hij:i=j
     · subst hij;rw [hfj,hb];rfl
     · have:(i == j)=false:=by simpa using hij
       rw [this,Bool.or_false]
    simp (disch:=try exact DI) only [↓PR,QR,simprocAttr,hdec,↓n90c2,a6,c1,Nat.mul_one,Nat.zero_add]
    exact ⟨⟨k+1,rfl,by omega,by rw [hkid];exact hQ1,by rw [hsn2];exact hR1,by rw [hkid,hsn2];exact hs1,hT1,hx1,hE1,hB1⟩,meas_lt (kd := .i64) hlt⟩
   | false =>
    rw [hfj,hb] at c1
    rw [hb] at hkid
    simp only [Bool.false_eq_true,if_false] at hkid
    simp (disch:=try exact DI) only [↓PR,QR,simprocAttr,hdec,↓n90c2,↓n90c1,a6,c1,hfz,Nat.mul_one,Nat.zero_add]
    have hR2:=hR1.set j true
    rw [tab_set hjn] at hR2
    have hfk:(fun i=>if i=j then true else seenK f ((toP l x).take k) i)=seenK f ((toP l x).take (k+1)):=by
     rw [hsn]
     funext i
     by_cases hij:i=j
     · subst hij;simp
     · have:(i == j)=false:=by simpa using hij
       rw [if_neg hij,this,Bool.or_false]
    rw [hfk] at hR2
    have hcnt:=cnt_set (f:=seenK f ((toP l x).take k)) (hfj.trans hb) l.length hjn
    rw [← hsn] at hcnt
    have hlk:(Q++kidsP q ((toP l x).take (k+1)) f).length=(Q++kidsP q ((toP l x).take k) f).length+1:=by rw [hkid];simp;omega
    have hQ2:=hQ1.setB hR1 j (.bool true)
    have hT2:=hT1.setB hR1 j (.bool true)
    have hx2:=hx1.setB hR1 j (.bool true)
    have hE2:∀ W,Ext W w→W.heap.size≤B→Ext W (w1.setCell ⟨r,j,none⟩ (.bool true)):=fun W e hW=>(hE1 W e hW).setCell (by show W.heap.size≤r;omega) _
    have hB2:B≤(w1.setCell ⟨r,j,none⟩ (.bool true)).heap.size:=by rw [World.size_setCell];exact hB1
    generalize (w1.setCell ⟨r,j,none⟩ (.bool true))=w2 at hR2 hQ2 hT2 hx2 hE2 hB2 ⊢
    rw [op_sliceFull Tryz.underlying30 ty3 gq 0 q.length capq hq hcq]
    simp (disch:=try exact DI) only [↓PR,QR,simprocAttr]
    have eY:Ext w2 (w2.alloc (.cells #[.int .i64 (j:Int)] 3)):=ee
    have oY:=heap_new w2 #[.int .i64 (j:Int)] 3
    have hQ3:=hQ2.ext eY
    have hT3:=hT2.ext eY
    have hx3:=hx2.ext eY
    have hR3:=hR2.ext eY
    have sY:=eY.size
    generalize (w2.alloc (.cells #[.int .i64 (j:Int)] 3))=Y at eY oY hQ3 hT3 hx3 hR3 sY ⊢
    obtain ⟨_,_,_,hh⟩:=own_holds hx3
    refine op_appendF (olds:=q.map fun n=>Value.int .i64 n) Tryz.underlying30 ty3 rfl (by simp) (fun i u hu=>?_) (by rw [(cells_of_heap oY).1];rfl) (by omega) (Nat.le_trans by3 (by decide)) (Nat.le_refl _) ?_
    · rw [List.getElem?_map] at hu
      obtain ⟨n,hn',rfl⟩:=Option.map_eq_some_iff.1 hu
      have hi:=(List.getElem?_eq_some_iff.1 hn')
      have:=(hh i (by simpa using hi.1)).1
      rw [getElem!_pos _ i (by simpa using hi.1)] at this
      simp only [List.getElem_toArray] at this
      rw [this,hi.2]
    · intro nv w4 ho hne e4
      have hN:RowI w4 Y.heap.size nv (q++[(j:Int)]):=rowI_of (by simpa using ho)
      have hN1:=SliceOf.oneCell hN.ints
      have hQ4:=hQ3.ext e4
      have hT4:=hT3.ext e4
      have hx4:=hx3.ext e4
      have hR4:=hR3.ext e4
      have s4:=e4.size
      simp (disch:=try exact DI) only [↓PR,QR,simprocAttr]
      have eZ:Ext w4 (w4.alloc (.cells #[nv] TS)):=ee
      have oZ:(w4.alloc (.cells #[nv] TS)).heap[w4.heap.size]?=some (.cells #[nv] TS (0,0)):=heap_new w4 #[nv] TS
      have hQ5:=hQ4.ext eZ
      have hT5:=hT4.ext eZ
      have hx5:=hx4.ext eZ
      have hR5:=hR4.ext eZ
      have hN5:=hN.ext eZ
      have s5:=eZ.size
      have f5:=eY.trans (e4.trans eZ)
      generalize (w4.alloc (.cells #[nv] TS))=Z at eZ oZ hQ5 hT5 hx5 hR5 hN5 s5 f5 ⊢
      obtain ⟨xs,hO,hxl,hxr⟩:=hQ5.row
      have hkl:(Q++kidsP q ((toP l x).take k) f).length≤100:=by omega
      refine op_appendO Tryz.underlying78 ty30 rfl hO hN1 (by rw [(cells_of_heap oZ).1];rfl) (by omega) (Nat.le_trans by30 (by decide)) (by omega) ?_
      intro v' w6 hO6 hg
      have hge:∀ b,a1.ownBlock=some b→B≤b:=fun b hb=>by
       obtain ⟨g,off,cap,cur,rfl,hgB,_⟩:=hO
       have hb:g=b:=Option.some.inj hb
       omega
      have s6:=hg.size
      simp (disch:=try exact DI) only [↓PR,QR,simprocAttr]
      refine ⟨⟨k+1,rfl,by omega,⟨xs++[nv],hO6,by rw [hlk,List.length_append,hxl];rfl,fun i u q2 hu hq2=>?_⟩,hR5.grownO hO hg,by rw [hlk];omega,RowI.grownO hT5 hO hg,RowI.grownO hx5 hO hg,fun W e hW=>((hE2 W e hW).trans f5).grown hg fun b hb=>by have:=hge b hb;omega,by omega⟩,meas_lt (kd := .i64) hlt⟩
      rw [hkid,← List.append_assoc] at hq2
      by_cases hi:i < xs.length
      · rw [List.getElem?_append_left hi] at hu
        rw [List.getElem?_append_left (by omega)] at hq2
        exact RowI.grownO (hxr i u q2 hu hq2) hO hg
      · have hi2:i=xs.length:=by
         have:=(List.getElem?_eq_some_iff.1 hu).1
         simp at this
         omega
        subst hi2
        rw [List.getElem?_append_right (Nat.le_refl _),Nat.sub_self] at hu
        rw [List.getElem?_append_right (by omega),hxl,Nat.sub_self] at hq2
        injection hu with hu
        injection hq2 with hq2
        subst hu hq2
        exact RowI.grownO (OwnE.base hN5 (by omega)) hO hg
 · subst hke
   rw [List.take_length] at hQ1 hR1 hs1
   simp (disch:=try exact DI) only [↓PR,QR,simprocAttr,hdec]
   exact hn _ _ hQ1 hR1 hs1 hE1 hB1
end
def errP (d:DefD) (i:Int):Int:=if (checkP d).2.2=0 then (if 0≤i∧i < d.msgs.length then (if reachB d.msgs (startI d) i.toNat then 0 else 9) else 3) else 2
def pathE (d:DefD) (i:Int):List Int:=if errP d i=0 then pathP i.toNat d.msgs (startI d) else []
def lenV:Value→Nat
 | .slice _ n _=>n
 | _=>0
def offsO (w:World) (r:Nat):Nat:=match w.heap[r]? with
 | some (.cells cs _ _)=>(cs.toList.filter fun v=>match v with
  | .bool b=>!b
  | _=>false).length
 | _=>0
theorem offs_row {w:World} {r n:Nat} {f:Nat→Bool} (h:BRow w r (tab n f)):offsO w r=cntF n f:=by
 unfold offsO
 rw [h]
 simp only
 unfold tab cntF
 rw [List.filter_map,List.length_map,List.filter_map,List.length_map]
 rfl
theorem to_kids_seen {l:List MsgD} (hf:Fine l) (f:Nat→Bool) (x:Nat):seenK f (toP l x)=fun i=>f i||toB l x i:=by
 funext i
 unfold seenK
 congr 1
 rw [Bool.eq_iff_iff,List.contains_iff_mem,toP,mem_sel]
 constructor
 · rintro ⟨j,_,h2,h3⟩
   rw [show i=j by omega];exact h2
 · exact fun hb=>⟨i,(to_lt hf hb).1,hb,rfl⟩
theorem QAt.head {w:World} {B:Nat} {a:Value} {q:List Int} {Q:List (List Int)} (h:QAt w B a (q::Q)):∃ g off cap x,a = .slice (some ⟨g,off,none⟩) (Q.length+1) cap∧Q.length+1≤cap∧w.cell? ⟨g,off,none⟩=some x∧RowI w B x q∧∀ o',(o'=off+1∨(cap=1∧o'=off))→QAt w B (.slice (some ⟨g,o',none⟩) Q.length (cap - 1)) Q:=by
 obtain ⟨xs,hO,hl,hr⟩:=h.row
 have hO0:=hO
 obtain ⟨g,off,cap,rfl,_,_,_,hc,hcell⟩:=hO.get
 cases xs with
 | nil=>simp at hl
 | cons x xs =>
  simp only [List.length_cons,Nat.add_right_cancel_iff] at hl hc
  refine ⟨g,off,cap,x,by simp [hl],by omega,by simpa using hcell 0 x rfl,hr 0 x q rfl rfl,fun o' ho=>⟨xs,?_,hl,fun k y q2 hy hq2=>hr (k+1) y q2 (by simpa using hy) (by simpa using hq2)⟩⟩
  have:=hO0.tail ho
  rw [hl] at this
  exact this
def ShortQ (s:Nat) (Q:List (List Int)):Prop:=∀ q∈Q,∀ (q':List Int) (x:Nat),q=q'++[(x:Int)]→q.length+x≤s+1
theorem short_step {l:List MsgD} (hf:Fine l) {s x:Nat} {q':List Int} {Q:List (List Int)} (f:Nat→Bool) (h:ShortQ s ((q'++[(x:Int)])::Q)):ShortQ s (Q++kidsP (q'++[(x:Int)]) (toP l x) f):=by
 intro q hq q2 y he
 rcases List.mem_append.1 hq with hq | hq
 · exact h q (List.mem_cons_of_mem _ hq) q2 y he
 · unfold kidsP at hq
   simp only [List.mem_map,List.mem_filter] at hq
   obtain ⟨z,⟨hz,_⟩,rfl⟩:=hq
   obtain ⟨i,rfl,hi⟩:=to_mem hz
   have:=h _ (List.mem_cons_self ..) q' x rfl
   have hy:=(snoc_inj he).2
   simp only [List.length_append,List.length_singleton] at this ⊢
   omega
section
variable {w0 W:World} {d:DefD} {mv:Value} {p2 r B s:Nat}
theorem path_loop {i:Nat} (hM:MsgsOf w0 mv d.msgs) (e0:Ext w0 W) (ht:calm d) (hf:Fine d.msgs) (hl:d.msgs.length≤60) (hs:s < d.msgs.length) (hi:i < d.msgs.length) (hd:dN i d.msgs s < 1000) (o2:W.heap[p2]?=some (.cells (defCells d mv).toArray 28 (0,0))) (hWB:W.heap.size≤B) (hBr:B≤r) {w:World} {a:Value} (hE:∀ X,Ext X W→X.heap.size≤B→Ext X w) (hB:B≤w.heap.size) (hQ:QAt w B a [[(s:Int)]]) (hR:BRow w r (tab d.msgs.length fun _=>false)) {R:RT} {K2:Value→World→Prop}
 (hK:∀ a' w',(∃ g off cap n x,a' = .slice (some ⟨g,off,none⟩) (n+1) cap∧n+1≤cap∧w'.cell? ⟨g,off,none⟩=some x∧RowI w' B x (pathP i d.msgs s))→Ext W w'→K2 a' w') :
 loop1 (fun t10 w next3=>n90c6 (.int .i64 (i:Int)) (.pointer (some ⟨p2,0,none⟩)) t10 (.slice (some ⟨r,0,none⟩) d.msgs.length d.msgs.length) K2 next3 R w) a w:=by
 refine loop1_intro (fun a w'=>∃ (Q:List (List Int)) (f:Nat→Bool),QAt w' B a Q∧BRow w' r (tab d.msgs.length f)∧Bfs d.msgs s i Q f∧ShortQ s Q∧Q.length+cntF d.msgs.length f≤d.msgs.length+1∧(∀ X,Ext X W→X.heap.size≤B→Ext X w')∧B≤w'.heap.size) (fun a w=>offsO w r+lenV a) ⟨[[(s:Int)]],fun _=>false,hQ,hR,bfs_start hf hs,?_,?_,hE,hB⟩ ?_
 · intro q hq q' x he
   simp only [List.mem_singleton] at hq
   subst hq
   have:=(snoc_inj (a:=[]) he).2
   simp
   omega
 · have:=cnt_le d.msgs.length (fun _=>false)
   simp
   omega
 rintro a1 w1 ⟨Q,f,hQ1,hR1,hbf,hsh,hsum,hE1,hB1⟩
 cases Q with
 | nil=>exact absurd rfl (bfs_ne hbf)
 | cons q Q =>
  obtain ⟨q',x,rfl,hx⟩:=bfs_last hbf
  obtain ⟨g,off,cap,x0,rfl,hcap,hc0,hx0,htail⟩:=hQ1.head
  have hlen:=hsh _ (List.mem_cons_self ..) q' x rfl
  have EW:Ext W w1:=hE1 W (Ext.refl _) hWB
  have hge:decide (((Q.length+1:Nat):Int) > 0)=true:=by simp only [decide_eq_true_eq];omega
  obtain ⟨gq,capq,curq,rfl,_,hgq,hcq,_,_,_⟩:=hx0.2.resolve_left (fun h=>by have h2:(q'++[(x:Int)]).length=0:=h.2;simp at h2)
  obtain ⟨_,_,_,hh⟩:=own_holds hx0
  have hlast:w1.cell? ⟨gq,q'.length,none⟩=some (.int .i64 (x:Int)):=by
   have:=(hh q'.length (by simp)).1
   rw [getElem!_pos _ q'.length (by simp)] at this
   simpa using this
  have hql:(q'++[(x:Int)]).length=q'.length+1:=by simp
  have hsub:IntKind.i64.wrap (((q'++[(x:Int)]).length:Int) - 1)=(q'.length:Int):=by rw [wrap_ok (by omega) (by omega)];omega
  have hqn:q'.length < (q'++[(x:Int)]).length:=by omega
  have hidx0:∀ (K:Value→World→Prop),opV Pg (Instr.indexAt 78 (.slice (some ⟨g,off,none⟩) (Q.length+1) cap) (.int .i64 0)) (panK R) w1 K=K (.pointer (some ⟨g,off+0*1,none⟩)) w1:=fun K=>op_indexN Tryz.underlying78 ty30 g off (Q.length+1) cap .i64 0 (by omega)
  unfold n90c6
  simp (disch:=try exact DI) only [↓PR,QR,simprocAttr,hge,↓n90c5]
  rw [hidx0]
  by_cases hxi:x=i
  · subst hxi
    have hxx:((x:Int) == (x:Int))=true:=by simp
    simp (disch:=try exact DI) only [↓PR,QR,simprocAttr,hc0,hsub,hlast,hxx,Nat.mul_one,Nat.zero_add]
    exact hK _ _ ⟨g,off,cap,Q.length,_,rfl,hcap,hc0,bfs_done hf hd hbf ▸ hx0⟩ EW
  have hxd:((x:Int) == (i:Int))=false:=by simp;omega
  obtain ⟨m,hm⟩:=getElem?_lt hx
  obtain ⟨A,c,rfl,hlc,hcm,hlm,hel⟩:=SliceOf.open hM
  simp (disch:=try exact DI) only [↓PR,QR,simprocAttr,hc0,hsub,hlast,hxd,Nat.mul_one,Nat.zero_add]
  unfold n90c4
  refine op_sliceTail Tryz.underlying78 ty30 g off (Q.length+1) cap (by omega) hcap fun o' ho=>?_
  simp (disch:=try exact DI) only [↓PR,QR,simprocAttr,(cells_of_heap (EW.obj o2)).1]
  refine callK_ret (refers_ret _ _ d x m ⟨_,rfl,hM.ext (e0.trans EW)⟩ hm hf (ht m (List.mem_of_getElem? hm)).1) ?_
  rintro rv w2 ⟨hT,e2⟩
  have s2:=e2.size
  simp only [List.length_cons] at hsum
  refine path_inner (q:=q'++[(x:Int)]) (Q:=Q) (f:=f) hf hx hl (by simp) (by omega) hT ((htail o' ho).ext e2) (hx0.ext e2) (hR1.ext e2) hBr (by omega) (by omega) ?_
  intro a3 w3 hQ3 hR3 hs3 hE3 hB3
  have E3:∀ X,Ext X W→X.heap.size≤B→Ext X w3:=fun X h1 h2=>hE3 X ((hE1 X h1 h2).trans e2) h2
  rw [to_kids_seen hf] at hR3 hs3
  refine ⟨⟨Q++kidsP (q'++[(x:Int)]) (toP d.msgs x) f,_,hQ3,hR3,bfs_step hf hd hbf hxi,short_step hf f hsh,by omega,E3,hB3⟩,?_⟩
  rw [offs_row hR3,offs_row hR1]
  obtain ⟨xs,⟨_,_,_,_,rfl,_⟩,hxl,_⟩:=hQ3.row
  simp only [lenV]
  omega
end
theorem Path_ret (w0:World) (v:Value) (d:DefD) (i:Int) (hd:DefVal w0 v d) (ht:calm d):Ret Pg 24 #[v,.int .i64 i] w0 fun r w'=>(∃ u,r = .tuple #[u,.int .i64 (errP d i)]∧RowI w' w0.heap.size u (pathE d i))∧Ext w0 w':=by
 obtain ⟨mv,rfl,hM⟩:=hd
 have hm1:=SliceOf.oneCell hM
 refine n90s (R:=retR _) ?_;unfold n90
 rw [op_boxA]
 have o1:=heap_new w0 (defCells d mv).toArray 28
 have eW:Ext w0 (w0.alloc (.cells (defCells d mv).toArray 28)):=ee
 generalize (w0.alloc (.cells (defCells d mv).toArray 28))=W at o1 eW ⊢
 generalize hp1:w0.heap.size=p1 at o1 ⊢
 simp (disch:=try exact DI) only [↓PR,QR,simprocAttr,(cells_of_heap o1).1]
 refine callK_ret (reached_ret _ _ d ⟨_,rfl,hM.ext eW⟩ ht) ?_
 rintro r w1 ⟨hr,e1⟩
 have E1:=eW.trans e1
 have s1:=E1.size
 by_cases hc:(checkP d).2.2=0
 case neg =>
  simp only [hc,if_false] at hr
  subst hr
  have he:errP d i=2:=if_neg hc
  rw [he,show pathE d i=[] by unfold pathE;rw [he];rfl]
  unfold n90c11
  simp (disch:=try exact DI) only [↓PR,QR,simprocAttr]
  exact ⟨⟨_,rfl,OwnE.nil _ _ _ _ _⟩,E1⟩
 simp only [hc,if_true] at hr
 obtain ⟨b,rfl,hb,hR⟩:=hr
 obtain ⟨hs,hany,hidx⟩:=start_spec hc
 have hf:=(check_fine hc).2.2.1
 have hl60:=(check_fine hc).2.1.2
 have he1:errP d i=(if 0≤i∧i < d.msgs.length then (if reachB d.msgs (startI d) i.toNat then 0 else 9) else 3):=if_pos hc
 unfold n90c11
 by_cases hin:0≤i∧i < d.msgs.length
 case neg =>
  have he:errP d i=3:=by rw [he1,if_neg hin]
  rw [he,show pathE d i=[] by unfold pathE;rw [he];rfl]
  cases h0:decide (i < 0) with
  | true =>
   simp (disch:=try exact DI) only [↓PR,QR,simprocAttr,↓n90c10,h0]
   exact ⟨⟨_,rfl,OwnE.nil _ _ _ _ _⟩,E1⟩
  | false =>
   have h2:decide (i≥(d.msgs.length:Int))=true:=by simp at h0 ⊢;omega
   simp (disch:=try exact DI) only [↓PR,QR,simprocAttr,↓n90c10,h0,h2]
   exact ⟨⟨_,rfl,OwnE.nil _ _ _ _ _⟩,E1⟩
 rw [if_pos hin] at he1
 obtain ⟨n,rfl⟩:∃ n:Nat,i=(n:Int):=⟨i.toNat,by omega⟩
 rw [Int.toNat_natCast] at he1
 have hn:n < d.msgs.length:=by omega
 have h0:decide ((n:Int) < 0)=false:=by simp
 have h2:decide ((n:Int)≥(d.msgs.length:Int))=false:=by simp;omega
 have c1:w1.cell? ⟨b,n,none⟩=some (.bool (reachB d.msgs (startI d) n)):=hR.get (tab_get hn)
 simp (disch:=try exact DI) only [↓PR,QR,simprocAttr,↓n90c10,h0,h2]
 unfold n90c9
 cases hrb:reachB d.msgs (startI d) n with
 | false =>
  rw [hrb] at he1 c1
  have he:errP d n=9:=by rw [he1];rfl
  rw [he,show pathE d n=[] by unfold pathE;rw [he];rfl]
  simp (disch:=try exact DI) only [↓PR,QR,simprocAttr,c1,Nat.mul_one,Nat.zero_add]
  exact ⟨⟨_,rfl,OwnE.nil _ _ _ _ _⟩,E1⟩
 | true =>
  rw [hrb] at he1 c1
  have he:errP d n=0:=by rw [he1];rfl
  rw [he,show pathE d n=pathP n d.msgs (startI d) by unfold pathE;rw [he];rfl]
  have hdn:=(reach_dist hf hs hn (by omega)).1 hrb
  simp (disch:=try exact DI) only [↓PR,QR,simprocAttr,c1,↓n90c8,(cells_of_heap (e1.obj o1)).1,Nat.mul_one,Nat.zero_add]
  refine zcr (Find_ret _ _ d d.start ⟨_,rfl,hM.ext E1⟩) fun w2 e2=>?_
  rw [hidx,hany]
  have E2:=E1.trans e2
  generalize startI d=s at *
  have s2:=E2.size
  have o2:w2.heap[p1]?=some (.cells (defCells d mv).toArray 28 (0,0)):=(e1.trans e2).obj o1
  unfold n90c7
  simp (disch:=try exact DI) only [↓PR,QR,simprocAttr]
  rw [op_makeBools d.msgs.length (by omega)]
  generalize hV:World.alloc (World.alloc w2 _) _=V
  have eV:Ext w2 V:=by rw [← hV];exact ee
  have sV:V.heap.size=w2.heap.size+2:=by rw [← hV];simp only [World.size_alloc]
  have oA:V.heap[w2.heap.size]?=some (.cells #[.int .i64 (s:Int)] 3 (0,0)):=by rw [← hV];exact (Ext.alloc (Ext.refl _) _).obj (heap_new w2 _ _)
  have oB:V.heap[w2.heap.size+1]?=some (.cells #[.slice (some ⟨w2.heap.size,0,none⟩) 1 1] TS (0,0)):=by rw [← hV,show w2.heap.size+1=(w2.alloc (.cells #[.int .i64 (s:Int)] 3)).heap.size by simp only [World.size_alloc]];exact heap_new (w2.alloc _) _ _
  clear hV
  have eY:Ext V (V.alloc (.cells ((List.replicate d.msgs.length false).map fun x=>Value.bool x).toArray 4)):=ee
  have oR:BRow (V.alloc (.cells ((List.replicate d.msgs.length false).map fun x=>Value.bool x).toArray 4)) V.heap.size (tab d.msgs.length fun _=>false):=by
   have:=heap_new V ((List.replicate d.msgs.length false).map fun x=>Value.bool x).toArray 4
   rw [show tab d.msgs.length (fun _=>false)=List.replicate d.msgs.length false by unfold tab;rw [List.map_const'];simp]
   exact this
  generalize (V.alloc (.cells ((List.replicate d.msgs.length false).map fun x=>Value.bool x).toArray 4))=Y at eY oR ⊢
  have oA:=eY.obj oA
  have oB:=eY.obj oB
  have eX:=eV.trans eY
  have hRow:RowI Y w2.heap.size (.slice (some ⟨w2.heap.size,0,none⟩) 1 1) [(s:Int)]:=rowI_of ⟨rfl,.inr ⟨_,1,_,rfl,Nat.le_refl _,oA,Nat.le_refl _,by decide,rfl,rfl⟩⟩
  have hQ:QAt Y w2.heap.size (.slice (some ⟨w2.heap.size+1,0,none⟩) 1 1) [[(s:Int)]]:=⟨[.slice (some ⟨w2.heap.size,0,none⟩) 1 1],⟨_,0,1,_,rfl,by omega,oB,Nat.le_refl _,Nat.le_refl _,by decide,rfl⟩,rfl,fun k x q hx hq=>by
   cases k with
   | zero=>injection hx with hx;injection hq with hq;subst hx hq;exact hRow
   | succ k=>cases hx⟩
  rw [sV] at oR ⊢
  simp only [World.size_alloc]
  rw [joinK_eq]
  refine path_loop (mv:=mv) hM E2 ht hf hl60 hs hn hdn o2 (Nat.le_refl _) (by omega) (fun X e _=>e.trans eX) eX.size hQ oR ?_
  rintro _ w4 ⟨g,off,cap,m,x,rfl,hcap,hx,hXR⟩ e4
  have hidx0:∀ (QP:List PanicEntry→World→Prop) (K:Value→World→Prop),opV Pg (Instr.indexAt 78 (.slice (some ⟨g,off,none⟩) (m+1) cap) (.int .i64 0)) QP w4 K=K (.pointer (some ⟨g,off,none⟩)) w4:=fun QP K=>by simpa using op_indexN (w:=w4) (QP:=QP) (k:=K) Tryz.underlying78 ty30 g off (m+1) cap .i64 0 (by omega)
  rw [hidx0]
  have hx1:=SliceOf.oneCell hXR.ints
  simp (disch:=try exact DI) only [↓PR,QR,simprocAttr,hx]
  exact ⟨⟨_,rfl,OwnE.base hXR (by omega)⟩,E2.trans e4⟩
end Go.Proofs.YtfjjgjjlebllmaaGreat
