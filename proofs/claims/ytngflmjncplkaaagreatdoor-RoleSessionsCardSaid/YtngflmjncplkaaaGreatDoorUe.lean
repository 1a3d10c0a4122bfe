/-
  phrasebooklaw28.RoleSessions returns true for every session and every text, and leaves its arguments as they were; no condition is asked but that the tables of the library lie as the program lays them (the card ties them).
-/
import Derived.Test.YtngflmjncplkaaaGreatDoorUe5
set_option linter.all false
set_option maxHeartbeats 4000000
set_option maxRecDepth 100000
namespace Go.Proofs.YtngflmjncplkaaaGreatDoor
open Sw
def n14c1 (t1 t4 t7:Value) (C8:World→Prop) (next7:KV) (R:RT) (w:World):Prop :=
 qV Pg C8 (Instr.fieldAt 57 t1 1) fun t72 =>
 qV Pg C8 (Instr.loadAt 54 t72) fun t73 =>
 qV Pg C8 (Instr.indexAt 54 t73 t7) fun t75 =>
 qV Pg C8 (Instr.fieldAt 26 t75 0) fun t76 =>
 qV Pg C8 (Instr.loadAt 9 t76) fun t77 =>
 qV Pg C8 (Instr.fieldAt 57 t1 1) fun t78 =>
 qV Pg C8 (Instr.loadAt 54 t78) fun t79 =>
 qV Pg C8 (Instr.indexAt 54 t79 t4) fun t81 =>
 qV Pg C8 (Instr.fieldAt 26 t81 0) fun t82 =>
 qV Pg C8 (Instr.loadAt 9 t82) fun t83 =>
 qV Pg C8 (binS .eql 9 false t77 t83) fun t84 =>
 condP t84 (
 R (.returned (.tuple #[t4,(.int .i64 290)])) w) (
 opV Pg (binS .add 3 true t7 (.int .i64 1)) (panK R) w fun t71 w =>
 next7 t71 w)
def n14c2 (t1 t4 t7:Value) (next6:KV) (next7:KV) (R:RT) (w:World):Prop :=
 opV Pg (binS .lss 3 false t7 t4) (panK R) w fun t69 w =>
 condP t69 (
 drawK w fun C8 w =>
 n14c1 t1 t4 t7 C8 next7 R w) (
 opV Pg (binS .add 3 true t4 (.int .i64 1)) (panK R) w fun t53 w =>
 next6 t53 w)
def n14c3 (t1 t4 t60:Value) (next6:KV) (R:RT) (w:World):Prop :=
 opV Pg (Instr.extract t60 0) (panK R) w fun t61 w =>
 opV Pg (Instr.extract t60 1) (panK R) w fun t62 w =>
 opV Pg (binS .neq 3 true t62 (.int .i64 0)) (panK R) w fun t64 w =>
 condP t64 (
 R (.returned (.tuple #[t4,t62])) w) (
 loop1 (fun t7 w next7 =>
 n14c2 t1 t4 t7 next6 next7 R w) (.int .i64 0) w)
def n14c4 (t1 t10 t11 t12:Value) (C12:World→Prop) (next11:KW) (R:RT) (w:World):Prop :=
 joinK (fun (t133:Value) (w:World) =>
 pickK t11 (.bool true) t133 fun t134 =>
 opV Pg (binS .add 3 true t12 (.int .i64 1)) (panK R) w fun t122 w =>
 next11 t134 t122 w) fun K13 =>
 guardP t11 false (
 qV Pg C12 (Instr.fieldAt 57 t1 1) fun t125 =>
 qV Pg C12 (Instr.loadAt 54 t125) fun t126 =>
 qV Pg C12 (Instr.indexAt 54 t126 t12) fun t128 =>
 qV Pg C12 (Instr.fieldAt 26 t128 0) fun t129 =>
 qV Pg C12 (Instr.loadAt 9 t129) fun t130 =>
 qV Pg C12 (Instr.fieldAt 71 t10 4) fun t131 =>
 qV Pg C12 (Instr.loadAt 9 t131) fun t132 =>
 qV Pg C12 (binS .eql 9 false t130 t132) fun t133 =>
 K13 t133 w) (
 K13 undef w)
def n14c5 (t8 t9 t11:Value) (next10:KV) (R:RT) (w:World):Prop :=
 opV Pg (Op.unary .not t11) (panK R) w fun t136 w =>
 condP t136 (
 R (.returned (.tuple #[t8,(.int .i64 294)])) w) (
 opV Pg (binS .add 3 true t9 (.int .i64 1)) (panK R) w fun t103 w =>
 next10 t103 w)
def n14c6 (t1 t8 t9 t10 t11 t12:Value) (next10:KV) (next11:KW) (R:RT) (w:World):Prop :=
 opV Pg (Instr.fieldAt 57 t1 1) (panK R) w fun t117 w =>
 opV Pg (Instr.loadAt 54 t117) (panK R) w fun t118 w =>
 opV Pg (Builtin.len_ #[54] 3 #[t118]) (panK R) w fun t119 w =>
 opV Pg (binS .lss 3 false t12 t119) (panK R) w fun t120 w =>
 condP t120 (
 drawK w fun C12 w =>
 n14c4 t1 t10 t11 t12 C12 next11 R w) (
 n14c5 t8 t9 t11 next10 R w)
def n14c7 (t1 t8 t9:Value) (next10:KV) (R:RT) (w:World):Prop :=
 opV Pg (Instr.fieldAt 57 t1 1) (panK R) w fun t104 w =>
 opV Pg (Instr.loadAt 54 t104) (panK R) w fun t105 w =>
 opV Pg (Instr.indexAt 54 t105 t8) (panK R) w fun t107 w =>
 opV Pg (Instr.fieldAt 26 t107 3) (panK R) w fun t108 w =>
 opV Pg (Instr.loadAt 24 t108) (panK R) w fun t109 w =>
 opV Pg (Instr.indexAt 24 t109 t9) (panK R) w fun t111 w =>
 opV Pg (Instr.loadAt 71 t111) (panK R) w fun t112 w =>
 opV Pg (Instr.alloc 71 true (.tuple #[])) (panK R) w fun t10 w =>
 opU Pg (Instr.storeAt 71 t10 t112) (panK R) w fun w =>
 opV Pg (Instr.fieldAt 71 t10 2) (panK R) w fun t113 w =>
 opV Pg (Instr.loadAt 69 t113) (panK R) w fun t114 w =>
 opV Pg (binS .gtr 69 true t114 (.int .i64 2)) (panK R) w fun t115 w =>
 loop2 (fun t11 t12 w next11 =>
 n14c6 t1 t8 t9 t10 t11 t12 next10 next11 R w) t115 (.int .i64 0) w
def n14c8 (t1 t8 t9:Value) (next10:KV) (next9:KV) (R:RT) (w:World):Prop :=
 opV Pg (Instr.fieldAt 57 t1 1) (panK R) w fun t94 w =>
 opV Pg (Instr.loadAt 54 t94) (panK R) w fun t95 w =>
 opV Pg (Instr.indexAt 54 t95 t8) (panK R) w fun t97 w =>
 opV Pg (Instr.fieldAt 26 t97 3) (panK R) w fun t98 w =>
 opV Pg (Instr.loadAt 24 t98) (panK R) w fun t99 w =>
 opV Pg (Builtin.len_ #[24] 3 #[t99]) (panK R) w fun t100 w =>
 opV Pg (binS .lss 3 false t9 t100) (panK R) w fun t101 w =>
 condP t101 (
 n14c7 t1 t8 t9 next10 R w) (
 opV Pg (binS .add 3 true t8 (.int .i64 1)) (panK R) w fun t92 w =>
 next9 t92 w)
def n14c9 (t1 t8:Value) (next9:KV) (R:RT) (w:World):Prop :=
 opV Pg (Instr.fieldAt 57 t1 1) (panK R) w fun t87 w =>
 opV Pg (Instr.loadAt 54 t87) (panK R) w fun t88 w =>
 opV Pg (Builtin.len_ #[54] 3 #[t88]) (panK R) w fun t89 w =>
 opV Pg (binS .lss 3 false t8 t89) (panK R) w fun t90 w =>
 condP t90 (
 loop1 (fun t9 w next10 =>
 n14c8 t1 t8 t9 next10 next9 R w) (.int .i64 0) w) (
 R (.returned (.tuple #[(.int .i64 0),(.int .i64 0)])) w)
def n14c10 (t1 t4:Value) (next6:KV) (R:RT) (w:World):Prop :=
 opV Pg (Instr.fieldAt 57 t1 1) (panK R) w fun t55 w =>
 opV Pg (Instr.loadAt 54 t55) (panK R) w fun t56 w =>
 opV Pg (Instr.indexAt 54 t56 t4) (panK R) w fun t58 w =>
 opV Pg (Instr.loadAt 26 t58) (panK R) w fun t59 w =>
 callK Pg 13 #[t59] (panK R) w fun t60 w =>
 n14c3 t1 t4 t60 next6 R w
def n14c11 (t1 t4:Value) (next6:KV) (R:RT) (w:World):Prop :=
 opV Pg (Instr.fieldAt 57 t1 1) (panK R) w fun t48 w =>
 opV Pg (Instr.loadAt 54 t48) (panK R) w fun t49 w =>
 opV Pg (Builtin.len_ #[54] 3 #[t49]) (panK R) w fun t50 w =>
 opV Pg (binS .lss 3 false t4 t50) (panK R) w fun t51 w =>
 condP t51 (
 n14c10 t1 t4 next6 R w) (
 loop1 (fun t8 w next9 =>
 n14c9 t1 t8 next9 R w) (.int .i64 0) w)
def n14c12 (t1 t41 t45:Value) (R:RT) (w:World):Prop :=
 pickK t41 (.bool true) t45 fun t46 =>
 condP t46 (
 R (.returned (.tuple #[(.int .i64 0),(.int .i64 2)])) w) (
 loop1 (fun t4 w next6 =>
 n14c11 t1 t4 next6 R w) (.int .i64 0) w)
def n14c13 (t1 t36 t40:Value) (R:RT) (w:World):Prop :=
 pickK t36 (.bool true) t40 fun t41 =>
 joinK (fun (t45:Value) (w:World) =>
 n14c12 t1 t41 t45 R w) fun K5 =>
 guardP t41 false (
 opV Pg (Instr.fieldAt 57 t1 3) (panK R) w fun t43 w =>
 opV Pg (Instr.loadAt 3 t43) (panK R) w fun t44 w =>
 opV Pg (binS .gtr 3 true t44 (.int .i64 4)) (panK R) w fun t45 w =>
 K5 t45 w) (
 K5 undef w)
def n14c14 (t1 t31 t35:Value) (R:RT) (w:World):Prop :=
 pickK t31 (.bool true) t35 fun t36 =>
 joinK (fun (t40:Value) (w:World) =>
 n14c13 t1 t36 t40 R w) fun K4 =>
 guardP t36 false (
 opV Pg (Instr.fieldAt 57 t1 3) (panK R) w fun t38 w =>
 opV Pg (Instr.loadAt 3 t38) (panK R) w fun t39 w =>
 opV Pg (binS .lss 3 true t39 (.int .i64 1)) (panK R) w fun t40 w =>
 K4 t40 w) (
 K4 undef w)
def n14c15 (t1 t26 t30:Value) (R:RT) (w:World):Prop :=
 pickK t26 (.bool true) t30 fun t31 =>
 joinK (fun (t35:Value) (w:World) =>
 n14c14 t1 t31 t35 R w) fun K3 =>
 guardP t31 false (
 opV Pg (Instr.fieldAt 57 t1 2) (panK R) w fun t33 w =>
 opV Pg (Instr.loadAt 55 t33) (panK R) w fun t34 w =>
 opV Pg (binS .gtr 55 true t34 (.int .i64 3)) (panK R) w fun t35 w =>
 K3 t35 w) (
 K3 undef w)
def n14c16 (t1 t20 t25:Value) (R:RT) (w:World):Prop :=
 pickK t20 (.bool true) t25 fun t26 =>
 joinK (fun (t30:Value) (w:World) =>
 n14c15 t1 t26 t30 R w) fun K2 =>
 guardP t26 false (
 opV Pg (Instr.fieldAt 57 t1 2) (panK R) w fun t28 w =>
 opV Pg (Instr.loadAt 55 t28) (panK R) w fun t29 w =>
 opV Pg (binS .lss 55 true t29 (.int .i64 1)) (panK R) w fun t30 w =>
 K2 t30 w) (
 K2 undef w)
def n14c17 (t1:Value) (R:RT) (w:World):Prop :=
 opV Pg (Instr.fieldAt 57 t1 1) (panK R) w fun t17 w =>
 opV Pg (Instr.loadAt 54 t17) (panK R) w fun t18 w =>
 opV Pg (Builtin.len_ #[54] 3 #[t18]) (panK R) w fun t19 w =>
 opV Pg (binS .lss 3 true t19 (.int .i64 2)) (panK R) w fun t20 w =>
 joinK (fun (t25:Value) (w:World) =>
 n14c16 t1 t20 t25 R w) fun K1 =>
 guardP t20 false (
 opV Pg (Instr.fieldAt 57 t1 1) (panK R) w fun t22 w =>
 opV Pg (Instr.loadAt 54 t22) (panK R) w fun t23 w =>
 opV Pg (Builtin.len_ #[54] 3 #[t23]) (panK R) w fun t24 w =>
 opV Pg (binS .gtr 3 true t24 (.int .i64 4)) (panK R) w fun t25 w =>
 K1 t25 w) (
 K1 undef w)
def n14 (t0:Value) (R:RT) (w:World):Prop :=
 opV Pg (Instr.box 57 t0) (panK R) w fun t1 w =>
 opV Pg (Instr.fieldAt 57 t1 0) (panK R) w fun t13 w =>
 opV Pg (Instr.loadAt 9 t13) (panK R) w fun t14 w =>
 callK Pg 18 #[t14] (panK R) w fun t15 w =>
 opV Pg (Op.unary .not t15) (panK R) w fun t16 w =>
 condP t16 (
 R (.returned (.tuple #[(.int .i64 0),(.int .i64 290)])) w) (
 n14c17 t1 R w)
set_option maxHeartbeats 40000000 in
theorem n14s {t0:Value} {R:RT} {w:World} (h:n14 t0 R w):Calls Pg 27 #[t0] w R:=by
 refine yD Tryz.func27 ?_
 refine zs<|zr<|yv h fun _ w h=>zm<|zm<|zn<|zk<|zs<|zs<|zr<|yv h fun _ w h=>yv h fun _ w h=>yc h c18 fun _ w h=>yv h fun _ w h=>zn ?_
 refine zk<|yC h (fun h=>zs<|zr<|zm<|zm<|zn<|zk<|sim_ret<|sim_then_ret<|body_ret2 rfl rfl rfl h) fun h=>sim_skip<|zk<|zs<|zs<|sim_regionG<|yG 5<|yv h fun _ w h=>yv h fun _ w h=>yx h fun _ w h=>yb h fun _ w h=>zm<|zn ?_
 refine yg1 4 4 false [22,23,24,25] 25 h (fun _ T hT h=>?_) fun σ w h=>?_
 · refine yv h fun _ w h=>yv h fun _ w h=>yx h fun _ w h=>yb h fun _ w h=>zn ?_
   exact zt hT h
 refine yG 2<|yp h fun _ h=>zm<|zn<|yg1 3 10 false [28,29,30] 30 h (fun _ T hT h=>?_) fun σ w h=>?_
 · refine yv h fun _ w h=>yv h fun _ w h=>yb h fun _ w h=>zn ?_
   exact zt hT h
 refine yG 2<|yp h fun _ h=>zm<|zn<|yg1 3 15 false [33,34,35] 35 h (fun _ T hT h=>?_) fun σ w h=>?_
 · refine yv h fun _ w h=>yv h fun _ w h=>yb h fun _ w h=>zn ?_
   exact zt hT h
 refine yG 2<|yp h fun _ h=>zm<|zn<|yg1 3 20 false [38,39,40] 40 h (fun _ T hT h=>?_) fun σ w h=>?_
 · refine yv h fun _ w h=>yv h fun _ w h=>yb h fun _ w h=>zn ?_
   exact zt hT h
 refine yG 2<|yp h fun _ h=>zm<|zn<|yg1 3 25 false [43,44,45] 45 h (fun _ T hT h=>?_) fun σ w h=>?_
 · refine yv h fun _ w h=>yv h fun _ w h=>yb h fun _ w h=>zn ?_
   exact zt hT h
 refine yG 1<|yp h fun _ h=>zn<|sim_end<|zk<|yC h (fun h=>zs<|zr<|zm<|zm<|zn<|zk<|sim_ret<|sim_then_ret<|body_ret2 rfl rfl rfl h) fun h=>sim_skip<|zk<|zs<|zs<|zr<|zm<|zn<|zk ?_
 refine sim_block<|yl1 [2,3,4,5,6,7,47,48,49,50,51,52,53,54,55,56,57,58,59,60,61,62,63,64,65,66,67,68,69,70,71,72,73,74,75,76,77,78,79,80,81,82,83,84,85] 4 h fun σ w next h=>zs<|zs<|zr<|zm<|yv h fun _ w h=>yv h fun _ w h=>yx h fun _ w h=>yb h fun _ w h=>zn<|zk<|yC h (fun h=>?_) fun h=>?_
 · refine sim_skip<|zk<|zs<|sim_block<|zs<|zs<|zr<|yv h fun _ w h=>yv h fun _ w h=>zm<|yv h fun _ w h=>yv h fun _ w h=>yc h c13 fun _ w h=>zm<|yv h fun _ w h=>?_
   refine yv h fun _ w h=>zm<|zm<|zn<|zk<|zs<|zr<|zm<|yb h fun _ w h=>zn<|zk<|yC h (fun h=>?_) fun h=>?_
   · refine zs<|zr<|zm<|zm<|zm<|zm<|zn<|zk<|sim_ret<|sim_then_ret<|sim_block_ret<|sim_then_ret<|sim_then_ret<|sim_block_ret<|sim_then_ret ?_
     exact body_ret2 rfl rfl rfl h
   refine sim_skip<|zk<|zs<|zr<|zm<|zn<|zk<|sim_block<|yl1 [2,3,7,67,68,69,70,71,72,73,74,75,76,77,78,79,80,81,82,83,84,85] 7 h fun σ w next h=>zs<|zs<|zr<|zm<|zm<|yb h fun _ w h=>?_
   refine zn<|zk<|yC h (fun h=>?_) fun h=>?_
   · refine sim_skip<|zk<|zs<|sim_block<|zs<|yh [72,73,74,75,76,77,78,79,80,81,82,83,84] h fun C hC h=>ye 0 hC h fun _ h=>?_
     refine ye 1 hC h fun _ h=>?_
     refine yw 2 hC ?_
     refine ye 3 hC h fun _ h=>?_
     refine ye 4 hC h fun _ h=>?_
     refine ye 5 hC h fun _ h=>?_
     refine ye 6 hC h fun _ h=>?_
     refine ye 7 hC h fun _ h=>?_
     refine yw 8 hC ?_
     refine ye 9 hC h fun _ h=>?_
     refine ye 10 hC h fun _ h=>?_
     refine ye 11 hC h fun _ h=>?_
     refine ye 12 hC h fun _ h=>?_
     refine yz<|zk<|yC h (fun h=>?_) fun h=>?_
     · refine zs<|zr<|zm<|zm<|zm<|zn<|zk<|sim_ret<|sim_block_ret<|sim_then_ret<|sim_then_ret<|sim_block_ret<|sim_block_ret<|sim_then_ret<|sim_then_ret ?_
       exact sim_block_ret<|sim_then_ret<|body_ret2 rfl rfl rfl h
     exact sim_skip<|sim_block_normal<|zk<|zr<|zm<|yb h fun _ w h=>zm<|zn<|zk<|⟨rfl,h⟩
   exact sim_exit<|sim_then_exit<|sim_then_exit<|sim_block_hit<|sim_block_normal<|zk<|zr<|zm<|yb h fun _ w h=>zm<|zn<|zk<|⟨rfl,h⟩
 refine sim_exit<|sim_then_exit<|sim_then_exit<|sim_block_hit<|zk<|zs<|zs<|zr<|zm<|zn<|zk<|sim_block<|yl1 [2,3,8,9,10,11,12,86,87,88,89,90,91,92,93,94,95,96,97,98,99,100,101,102,103,104,105,106,107,108,109,110,111,112,113,114,115,116,117,118,119,120,121,122,123,124,125,126,127,128,129,130,131,132,133,134,135,136,137] 8 h fun σ w next h=>zs<|zs ?_
 refine zr<|zm<|yv h fun _ w h=>yv h fun _ w h=>yx h fun _ w h=>yb h fun _ w h=>zn<|zk<|yC h (fun h=>?_) fun h=>?_
 · refine sim_skip<|zk<|zs<|sim_block<|zs<|zr<|zm<|zn<|zk<|sim_block<|yl1 [2,3,9,10,11,12,93,94,95,96,97,98,99,100,101,102,103,104,105,106,107,108,109,110,111,112,113,114,115,116,117,118,119,120,121,122,123,124,125,126,127,128,129,130,131,132,133,134,135,136,137] 9 h fun σ w next h=>zs<|zs<|zr<|zm ?_
   refine yv h fun _ w h=>yv h fun _ w h=>zm<|yv h fun _ w h=>yv h fun _ w h=>yv h fun _ w h=>yx h fun _ w h=>yb h fun _ w h=>zn<|zk<|yC h (fun h=>?_) fun h=>?_
   · refine sim_skip<|zk<|zs<|sim_block<|zs<|zr<|yv h fun _ w h=>yv h fun _ w h=>zm<|yv h fun _ w h=>yv h fun _ w h=>yv h fun _ w h=>zm<|yv h fun _ w h=>yv h fun _ w h=>?_
     refine yv h fun _ w h=>yu h fun w h=>zn<|zk<|zs<|zr<|yv h fun _ w h=>yv h fun _ w h=>yb h fun _ w h=>zm<|zn<|zk<|zs<|zs<|zr ?_
     refine zm<|zn<|zk<|sim_block<|yl2 [11,12,116,117,118,119,120,121,122,123,124,125,126,127,128,129,130,131,132,133,134] 11 12 h fun σ w next h=>zs<|zs<|zr<|zm<|yv h fun _ w h=>yv h fun _ w h=>yx h fun _ w h=>yb h fun _ w h=>zn<|zk ?_
     refine yC h (fun h=>?_) fun h=>?_
     · refine sim_skip<|zk<|zs<|sim_block<|yh [11,123,124,125,126,127,128,129,130,131,132,133,134] h fun C hC h=>yw 0 hC ?_
       refine yw 1 hC ?_
       refine yj1 2 [10,9,8,7,6,5,4,3,2,1,0] [125,126,127,128,129,130,131,132,133] 133 h (fun _ hT hb h=>?_) (fun _ hT hb h=>?_) fun σ w hC h=>?_
       · refine ye 2 hC h fun _ h=>?_
         refine ye 3 hC h fun _ h=>?_
         refine yw 4 hC ?_
         refine ye 5 hC h fun _ h=>?_
         refine ye 6 hC h fun _ h=>?_
         refine ye 7 hC h fun _ h=>?_
         refine ye 8 hC h fun _ h=>?_
         refine ye 9 hC h fun _ h=>?_
         refine ye 10 hC h fun _ h=>?_
         exact yt hT hC h
       · refine yi 2 hC ?_
         refine yi 3 hC ?_
         refine yi 4 hC ?_
         refine yi 5 hC ?_
         refine yi 6 hC ?_
         refine yi 7 hC ?_
         refine yi 8 hC ?_
         refine yi 9 hC ?_
         refine yi 10 hC ?_
         exact yt hT hC h
       refine yP 11 hC h fun _ h=>?_
       refine yw 12 hC ?_
       exact yz<|sim_block_normal<|zk<|zr<|zm<|yb h fun _ w h=>zm<|zn<|zk<|⟨rfl,h⟩
     refine sim_exit<|sim_then_exit<|sim_then_exit<|sim_block_hit<|zk<|zs<|zr<|zm<|yv h fun _ w h=>zn<|zk<|yC h (fun h=>?_) fun h=>?_
     · refine zs<|zr<|zm<|zm<|zm<|zn<|zk<|sim_ret<|sim_block_ret<|sim_then_ret<|sim_then_ret<|sim_block_ret<|sim_block_ret<|sim_then_ret<|sim_then_ret ?_
       exact sim_block_ret<|sim_then_ret<|body_ret2 rfl rfl rfl h
     exact sim_skip<|sim_block_normal<|zk<|zr<|zm<|yb h fun _ w h=>zm<|zn<|zk<|⟨rfl,h⟩
   exact sim_exit<|sim_then_exit<|sim_then_exit<|sim_block_hit<|sim_block_normal<|zk<|zr<|zm<|yb h fun _ w h=>zm<|zn<|zk<|⟨rfl,h⟩
 exact sim_exit<|sim_then_exit<|sim_then_exit<|sim_block_hit<|zk<|zs<|zr<|zm<|zm<|zn<|zk<|sim_ret<|body_ret2 rfl rfl rfl h
def n45c1 (t6 t38 t44:Value) (next3:KW) (R:RT) (w:World):Prop :=
 opV Pg (Instr.extract t44 0) (panK R) w fun t45 w =>
 opV Pg (Instr.extract t44 1) (panK R) w fun t46 w =>
 opV Pg (Instr.buildSlice 73 1 #[(0,t45)]) (panK R) w fun t49 w =>
 opV Pg (Builtin.append_ #[73,73] 73 #[t6,t49]) (panK R) w fun t50 w =>
 opV Pg (binS .add 3 true t38 (.int .i64 1)) (panK R) w fun t51 w =>
 next3 t50 t51 w
def n45c2 (t6 t36 t38:Value) (next3:KW) (R:RT) (w:World):Prop :=
 opV Pg (Instr.indexAt 54 t36 t38) (panK R) w fun t40 w =>
 opV Pg (Instr.loadAt 26 t40) (panK R) w fun t41 w =>
 opV Pg (Instr.alloc 26 true (.tuple #[])) (panK R) w fun t8 w =>
 opU Pg (Instr.storeAt 26 t8 t41) (panK R) w fun w =>
 opV Pg (Instr.loadAt 26 t8) (panK R) w fun t43 w =>
 callK Pg 14 #[t43] (panK R) w fun t44 w =>
 n45c1 t6 t38 t44 next3 R w
def n45c3 (t6 t36 t37 t38:Value) (next3:KW) (R:RT) (w:World):Prop :=
 opV Pg (binS .lss 3 false t38 t37) (panK R) w fun t39 w =>
 condP t39 (
 n45c2 t6 t36 t38 next3 R w) (
 callK Pg 48 #[t6,(.string { data := #[10] })] (panK R) w fun t53 w =>
 R (.returned (.tuple #[t53,(.int .i64 0)])) w)
def n45c4 (t1 t34:Value) (R:RT) (w:World):Prop :=
 opV Pg (Instr.fieldAt 57 t1 1) (panK R) w fun t35 w =>
 opV Pg (Instr.loadAt 54 t35) (panK R) w fun t36 w =>
 opV Pg (Builtin.len_ #[54] 3 #[t36]) (panK R) w fun t37 w =>
 loop2 (fun t6 t38 w next3 =>
 n45c3 t6 t36 t37 t38 next3 R w) t34 (.int .i64 0) w
def n45c5 (t1 t19 t22 t23 t25 t31:Value) (C2:World→Prop) (R:RT) (w:World):Prop :=
 qV Pg C2 (Instr.indexAt 73 t23 t25) fun t26 =>
 qV Pg C2 (Instr.loadAt 9 t26) fun t27 =>
 qV Pg C2 (Instr.makeInterface 9 t27) fun t28 =>
 opV Pg (Instr.buildSlice 86 4 #[(0,t19),(1,t22),(2,t28),(3,t31)]) (panK R) w fun t32 w =>
 C2 w∧(
 callK Pg 46 #[t32] (panK R) w fun t33 w =>
 C2 w∧(
 opV Pg (Instr.buildSlice 73 1 #[(0,t33)]) (panK R) w fun t34 w =>
 C2 w∧(
 n45c4 t1 t34 R w)))
def n45c6 (t1:Value) (C1:World→Prop) (R:RT) (w:World):Prop :=
 qV Pg C1 (Instr.makeInterface 9 (.string { data := #[115,101,115,115,105,111,110] })) fun t19 =>
 qV Pg C1 (Instr.fieldAt 57 t1 0) fun t20 =>
 qV Pg C1 (Instr.loadAt 9 t20) fun t21 =>
 qV Pg C1 (Instr.makeInterface 9 t21) fun t22 =>
 qV Pg C1 (Instr.fieldAt 57 t1 2) fun t24 =>
 qV Pg C1 (Instr.loadAt 55 t24) fun t25 =>
 qV Pg C1 (Instr.fieldAt 57 t1 3) fun t29 =>
 qV Pg C1 (Instr.loadAt 3 t29) fun t30 =>
 qV Pg C1 (Instr.makeInterface 3 t30) fun t31 =>
 callK Pg 63 #[] (panK R) w fun t23 w =>
 narrowK C1 w fun C2 w =>
 n45c5 t1 t19 t22 t23 t25 t31 C2 R w
def n45c7 (t1 t13:Value) (R:RT) (w:World):Prop :=
 opV Pg (Instr.extract t13 0) (panK R) w fun t14 w =>
 opV Pg (Instr.extract t13 1) (panK R) w fun t15 w =>
 opV Pg (binS .neq 29 true t15 (.int .i64 0)) (panK R) w fun t17 w =>
 condP t17 (
 R (.returned (.tuple #[(.string { data := #[] }),t15])) w) (
 drawK w fun C1 w =>
 n45c6 t1 C1 R w)
def n45 (t0:Value) (R:RT) (w:World):Prop :=
 opV Pg (Instr.box 57 t0) (panK R) w fun t1 w =>
 opV Pg (Instr.loadAt 57 t1) (panK R) w fun t12 w =>
 callK Pg 26 #[t12] (panK R) w fun t13 w =>
 n45c7 t1 t13 R w
theorem n45s {t0:Value} {R:RT} {w:World} (h:n45 t0 R w):Calls Pg 28 #[t0] w R:=by
 refine yD Tryz.func28 ?_
 refine zs<|zr<|yv h fun _ w h=>zm<|zm<|zn<|zk<|zs<|zs<|zr<|yv h fun _ w h=>yc h c26 fun _ w h=>zm<|yv h fun _ w h=>yv h fun _ w h=>?_
 refine zm<|zm<|zn<|zk<|zs<|zr<|zm<|yb h fun _ w h=>zn<|zk<|yC h (fun h=>zs<|zr<|zm<|zm<|zm<|zn<|zk<|sim_ret<|sim_then_ret<|body_ret2 rfl rfl rfl h) fun h=>sim_skip<|zk<|zs ?_
 refine yh [6,19,20,21,22,23,24,25,26,27,28,29,30,31,32,33,34] h fun C hC h=>ye 0 hC h fun _ h=>?_
 refine ye 1 hC h fun _ h=>?_
 refine ye 2 hC h fun _ h=>?_
 refine ye 3 hC h fun _ h=>?_
 refine ye 5 hC h fun _ h=>?_
 refine ye 6 hC h fun _ h=>?_
 refine ye 10 hC h fun _ h=>?_
 refine ye 11 hC h fun _ h=>?_
 refine ye 12 hC h fun _ h=>?_
 refine yr 4 ?_
 refine yc h c63 fun _ w h=>zn ?_
 obtain ⟨C2,hs,hC,h⟩:=h
 refine ⟨C2,hs,hC,?_⟩
 refine ye 7 hC h fun _ h=>?_
 refine ye 8 hC h fun _ h=>?_
 refine ye 9 hC h fun _ h=>?_
 refine yo 13 ?_
 refine yS h fun _ w h=>zn ?_
 obtain ⟨hC,h⟩:=h
 refine ⟨hC,?_⟩
 refine yo 14 ?_
 refine yc h c46 fun _ w h=>zn ?_
 obtain ⟨hC,h⟩:=h
 refine ⟨hC,?_⟩
 refine yo 15 ?_
 refine yS h fun _ w h=>zn ?_
 obtain ⟨hC,h⟩:=h
 refine ⟨hC,?_⟩
 refine yw 16 hC ?_
 refine yz<|zk<|zs<|zs<|zr<|yv h fun _ w h=>yv h fun _ w h=>yx h fun _ w h=>zm<|zn<|zk<|sim_block<|yl2 [6,8,9,10,38,39,40,41,42,43,44,45,46,47,48,49,50,51] 6 38 h fun σ w next h=>zs<|zr ?_
 refine yb h fun _ w h=>zn<|zk<|zs<|yC h (fun h=>?_) fun h=>?_
 · refine sim_skip<|zk<|zs<|sim_block<|zs<|zr<|yv h fun _ w h=>yv h fun _ w h=>yv h fun _ w h=>yu h fun w h=>zn<|zk<|zs<|zr<|yv h fun _ w h=>?_
   refine yc h c14 fun _ w h=>zm<|yv h fun _ w h=>yv h fun _ w h=>zm<|zm<|zn<|zk<|zr<|zm<|zm<|yS h fun _ w h=>yx h fun _ w h=>zm<|zn ?_
   exact sim_block_normal<|zk<|zr<|yb h fun _ w h=>zm<|zn<|zk<|⟨rfl,h⟩
 exact sim_exit<|sim_then_exit<|sim_then_exit<|sim_block_hit<|zk<|zs<|zr<|zm<|yc h c48 fun _ w h=>zm<|zm<|zn<|zk<|sim_ret<|body_ret2 rfl rfl rfl h
open Go.RowKit (intOf Below)
theorem line_small {l:List AnyD} (h:∀ x∈l,(wordA x).size≤100) (hl:l.length≤20):(lineA l).size≤2020:=by
 unfold lineA
 refine Nat.le_trans (joinW_size (B:=100) fun x hx=>?_) ?_
 · obtain ⟨y,hy,rfl⟩:=List.mem_map.1 hx
   exact h y hy
 · rw [List.length_map]
   have:(⟨#[32]⟩:ByteArray).size=1:=rfl
   rw [this]
   omega
theorem dec100 {n:Int} (h:Num10 n):(decB n).size≤100:=by
 have:=(szb_dec h).le
 omega
theorem name100 {x:ByteArray} (h:nameB x=true):x.size≤100:=(szb_name h).le
theorem text_small {r:RolD} (h:(checkR r).2=0):(textP r).size≤300000:=by
 have hr:=check_rd h
 obtain ⟨_,⟨l1,_⟩,⟨⟨_,l2⟩,_⟩,l3,_⟩:=check_parts h
 have hw:∀ x∈linesR r,x.size≤2020:=by
  intro x hx
  unfold linesR at hx
  simp only [List.mem_append,List.mem_singleton,List.mem_map] at hx
  rcases hx with ((rfl | ⟨c,hc,rfl⟩) | ⟨c,hc,rfl⟩) | ⟨c,hc,rfl⟩
  · refine line_small (fun y hy=>?_) (by simp)
    simp only [List.mem_cons,List.not_mem_nil,or_false] at hy
    rcases hy with rfl | rfl
    · show (⟨#[114,111,108,101]⟩:ByteArray).size≤100;decide
    · exact name100 hr.nm
  · refine line_small (fun y hy=>?_) (by simp [cntL])
    unfold cntL at hy
    simp only [List.mem_cons,List.not_mem_nil,or_false] at hy
    rcases hy with rfl | rfl | rfl
    · show (⟨#[99,111,117,110,116,101,114]⟩:ByteArray).size≤100;decide
    · exact name100 (hr.cs c hc).1
    · exact dec100 (hr.cs c hc).2
  · refine line_small (fun y hy=>?_) (sta_len c)
    obtain ⟨s1,s2,s3⟩:=hr.ss c hc
    unfold staL at hy
    simp only [List.mem_append,List.mem_cons,List.not_mem_nil,or_false] at hy
    rcases hy with ((rfl | rfl) | hy) | hy
    · show (⟨#[115,116,97,116,101]⟩:ByteArray).size≤100;decide
    · exact name100 s1
    · split at hy
      · simp only [List.mem_cons,List.not_mem_nil,or_false] at hy
        rcases hy with rfl | rfl
        · show (⟨#[119,97,105,116]⟩:ByteArray).size≤100;decide
        · exact dec100 (by unfold Num10;omega)
      · cases hy
    · split at hy
      · simp only [List.mem_cons,List.not_mem_nil,or_false] at hy
        subst hy
        show (⟨#[102,105,110,97,108]⟩:ByteArray).size≤100;decide
      · cases hy
  · refine line_small (fun y hy=>?_) (stp_len c)
    obtain ⟨s1,s2,s3,s4,s5⟩:=hr.ts c hc
    unfold stpL stpL1 stpC at hy
    simp only [List.mem_append,List.mem_cons,List.not_mem_nil,or_false] at hy
    rcases hy with ((rfl | rfl | rfl | rfl) | hy) | hy
    · show (⟨#[115,116,101,112]⟩:ByteArray).size≤100;decide
    · exact name100 s1
    · exact name100 s2
    · exact kwB_size _
    · split at hy
      · rename_i hs
        rw [if_pos hs] at s4
        simp only [List.mem_cons,List.not_mem_nil,or_false] at hy
        rcases hy with rfl | rfl
        · exact name100 s4.1
        · exact name100 s4.2
      · cases hy
    · split at hy
      · rename_i hs
        rw [if_neg (show ¬ c.counter=ByteArray.empty from hs)] at s5
        simp only [List.mem_cons,List.not_mem_nil,or_false] at hy
        rcases hy with rfl | rfl | rfl | rfl | rfl
        · show (⟨#[119,104,101,110]⟩:ByteArray).size≤100;decide
        · exact name100 s5.1
        · exact dec100 s5.2.1
        · exact dec100 s5.2.2.1
        · exact dec100 s5.2.2.2
      · cases hy
 rw [textP_eq]
 refine Nat.le_trans (joinW_size hw) ?_
 have:(⟨#[10]⟩:ByteArray).size=1:=rfl
 have hln:(linesR r).length≤109:=by unfold linesR;simp only [List.length_append,List.length_map,List.length_cons,List.length_nil];omega
 rw [this]
 exact Nat.le_trans (Nat.mul_le_mul_right _ hln) (by decide)
theorem classB_size (k:Int):(classB k).size≤100:=by
 unfold classB
 split
 · decide
 · split
   · decide
   · split<;>decide
abbrev clsCells:List Value:=[.string ⟨#[]⟩,.string ⟨#[111,114,100,101,114,101,100]⟩,.string ⟨#[109,105,120,101,100]⟩,.string ⟨#[108,111,115,115,121]⟩]
theorem classes_ret (w0:World):Ret Pg 63 #[] w0 fun r w'=>r = .slice (some ⟨w0.heap.size,0,none⟩) 4 4∧w'.heap[w0.heap.size]?=some (.cells clsCells.toArray 9 (0,0))∧w'.heap.size=w0.heap.size+1∧Ext w0 w':=by
 refine n48s (R:=retR _) ?_;unfold n48
 simp (disch:=try exact DI) only [↓PR,QR,simprocAttr]
 exact ⟨by trivial,by trivial,by trivial,(Ext.refl w0).alloc _⟩
theorem cls_cell {w:World} {b:Nat} (h:w.heap[b]?=some (.cells clsCells.toArray 9 (0,0))) {n:Nat} (h1:1≤n) (h2:n≤3):w.cell? ⟨b,0+n*1,none⟩=some (.string (classB n)):=by
 rw [(cells_of_heap h).1]
 have:n=1∨n=2∨n=3:=by omega
 rcases this with h | h | h<;>subst h<;>rfl
theorem OkFit {r:RolD} (h:RolOk r):RolFit r:=⟨fun x hx=>(h.2.2.2.1 x hx).1,h.2.2.2.2⟩
theorem PrintSession_ret (w0:World) (v:Value) (s:SesD) (hs:SesVal w0 v s) (hF:∀ r∈s.roles,RolOk r) (hl:s.roles.length≤1000000000) (hT:TabOK w0):Ret Pg 28 #[v] w0 fun u w'=>u = .tuple #[.string (printS s),.int .i64 (checkS s).2]∧Ext w0 w':=by
 obtain ⟨rv,rfl,hR⟩:=hs
 have o1:=SliceOf.oneCell hR
 refine n45s (R:=retR _) ?_;unfold n45
 rw [op_boxA]
 have hp:=heap_new w0 (sesCells s rv).toArray TSes
 have eW:Ext w0 (w0.alloc (.cells (sesCells s rv).toArray TSes)):=ee
 generalize (w0.alloc (.cells (sesCells s rv).toArray TSes))=W at hp eW ⊢
 generalize w0.heap.size=p at hp ⊢
 simp (disch:=try exact DI) only [↓PR,QR,simprocAttr,(cells_of_heap hp).1]
 refine zcr (CheckSession_ret W _ s ⟨rv,rfl,hR.ext eW⟩ (fun r hr=>OkFit (hF r hr)) hl) fun w1 e1=>?_
 have E1:=eW.trans e1
 have hp1:=e1.obj hp
 unfold printS
 by_cases hc:(checkS s).2=0
 case neg =>
  have d1:((checkS s).2 != 0)=true:=by simp [hc]
  rw [if_neg hc]
  simp (disch:=try exact DI) only [↓PR,QR,simprocAttr,↓n45c7,d1]
  exact ⟨by trivial,E1⟩
 have ho:=check_ses hc
 have ln:=ho.n2
 rw [if_pos hc,hc]
 simp (disch:=try exact DI) only [↓PR,QR,simprocAttr,↓n45c7]
 refine drawK_intro ?_
 have eD:Ext w1 (Sw.drew w1):=(Ext.refl w1).drew
 generalize Sw.drew w1=D at eD ⊢
 have ED:=E1.trans eD
 have hpD:=eD.obj hp1
 unfold n45c6
 simp (disch:=try exact DI) only [↓PR,QR,simprocAttr,(cells_of_heap hpD).1]
 refine callK_ret (classes_ret D) ?_
 rintro _ w2 ⟨rfl,o2,_,e2⟩
 have E2:=ED.trans e2
 refine narrowK_EC e2 ?_
 obtain ⟨kn,hkn⟩:∃ kn:Nat,s.cls=kn:=⟨s.cls.toNat,by have:=ho.c1;omega⟩
 have hidx:∀ K:Value→Prop,qV Pg (EC w2) (Instr.indexAt 73 (.slice (some ⟨D.heap.size,0,none⟩) 4 4) (.int .i64 (kn:Int))) K=K (.pointer (some ⟨D.heap.size,0+kn*1,none⟩)):=fun K=>qV_of fun QP w k=>op_indexN Tryz.underlying73 ty9 D.heap.size 0 4 4 .i64 kn (by have:=ho.c2;omega)
 have hcl:=cls_cell o2 (n:=kn) (by have:=ho.c1;omega) (by have:=ho.c2;omega)
 unfold n45c5
 rw [hkn,hidx]
 generalize 0+kn*1=o at hcl
 simp (disch:=try exact DI) only [↓PR,QR,simprocAttr,hcl]
 generalize hY:World.alloc w2 _=Y
 have eY:Ext w2 Y:=by rw [← hY];exact (Ext.refl w2).alloc _
 have oY:Y.heap[w2.heap.size]?=some (.cells ((sesH s).map anyV).toArray 20 (0,0)):=by rw [← hY];unfold sesH;rw [hkn];exact heap_new _ _ _
 clear hY
 refine ⟨eY,?_⟩
 have OA:OwnA Y w2.heap.size (.slice (some ⟨w2.heap.size,0,none⟩) 4 4) (sesH s):=own_anyH oY (Nat.le_refl _) (by simp [sesH])
 have okH:∀ y∈sesH s,OkA y:=by
  intro y hy
  unfold sesH at hy
  simp only [List.mem_cons,List.not_mem_nil,or_false] at hy
  rcases hy with rfl | rfl | rfl | rfl
  · show kSession.size≤100000;decide
  · have:=name100 ho.nm;show s.name.size≤100000;omega
  · have:=classB_size s.cls;show (classB s.cls).size≤100000;omega
  · have h1:=ho.p1;have h2:=ho.p2;show _∧_;exact ⟨by omega,by omega⟩
 have zH:(lineA (sesH s)).size≤2020:=by
  refine line_small (fun y hy=>?_) (by simp [sesH])
  unfold sesH at hy
  simp only [List.mem_cons,List.not_mem_nil,or_false] at hy
  rcases hy with rfl | rfl | rfl | rfl
  · show kSession.size≤100;decide
  · exact name100 ho.nm
  · exact classB_size _
  · exact dec100 (by have h1:=ho.p1;have h2:=ho.p2;unfold Num10;omega)
 refine zcr (line_ret Y _ _ (own_anys OA) (hT.ext (E2.trans eY)) okH (by simp [sesH]) (by simp [sesH])) fun w3 e3=>?_
 refine ⟨eY.trans e3,?_⟩
 have E3:=E2.trans (eY.trans e3)
 simp (disch:=try exact DI) only [↓PR,QR,simprocAttr]
 generalize hZ:World.alloc w3 _=Z
 have eZ:Ext w3 Z:=by rw [← hZ];exact (Ext.refl w3).alloc _
 generalize hhd:lineA (sesH s)=hd at *
 have OZ:OwnS Z w3.heap.size (.slice (some ⟨w3.heap.size,0,none⟩) 1 1) [hd]:=by rw [← hZ];exact OwnE.new w3 9 1 strEnc [hd] (fun _=>rfl) (by simp)
 clear hZ
 refine ⟨eY.trans (e3.trans eZ),?_⟩
 have EZ:=E3.trans eZ
 have hp3:=(e2.trans (eY.trans e3)).obj hpD
 have hR3:=hR.ext E3
 have tb3:=hT.ext E3
 have sZ:w3.heap.size≤Z.heap.size:=eZ.size
 generalize hbs:w3.heap.size=base at *
 obtain ⟨A,c,rfl,_,_,_,hel⟩:=SliceOf.open hR3
 unfold n45c4
 simp (disch:=try exact DI) only [↓PR,QR,simprocAttr,(cells_of_heap (eZ.obj hp3)).1]
 refine loop2_intro (fun a b w=>∃ k:Nat,b = .int .i64 k∧k≤s.roles.length∧Ext w3 w∧OwnS w base a ([hd]++(s.roles.take k).map printR)∧base≤w.heap.size) (fun _ b _=>s.roles.length - (intOf b).toNat) ⟨0,rfl,by omega,eZ,by simpa using OZ,sZ⟩ ?_
 rintro a _ w ⟨k,rfl,hk,e,hO,hb⟩
 unfold n45c3
 have Ew:=E3.trans e
 by_cases hlt:k < s.roles.length
 · obtain ⟨x,hx⟩:=getElem?_lt hlt
   obtain ⟨b,o,cs,rfl,_,hA,sv,cv,tv,rfl,i1,i2,i3⟩:=hel k x hx
   have dk:(k:Int) < (s.roles.length:Int):=by omega
   have d1:decide ((k:Int) < (s.roles.length:Int))=true:=decide_eq_true dk
   have hw:IntKind.i64.wrap ((k:Int)+1)=((k+1:Nat):Int):=by rw [wrap_ok (by omega) (by omega)];omega
   have f1:=SliceOf.oneCell i1
   have f2:=SliceOf.oneCell i2
   have f3:=SliceOf.oneCell i3
   simp (disch:=try exact DI) only [↓PR,QR,simprocAttr,d1,↓n45c2,hA.c4 e]
   generalize hV:World.alloc w _=V
   have eV:Ext w V:=by rw [← hV];exact (Ext.refl w).alloc _
   clear hV
   have EV:=e.trans eV
   refine zcr (Print_ret V _ x ⟨sv,cv,tv,rfl,i1.ext EV,i2.ext EV,i3.ext EV⟩ (hF x (List.mem_of_getElem? hx)) (tb3.ext EV)) fun w4 e4=>?_
   have e04:=eV.trans e4
   simp (disch:=try exact DI) only [↓PR,QR,simprocAttr,↓n45c1]
   generalize hX:World.alloc w4 _=X
   have eX:Ext w4 X:=by rw [← hX];exact (Ext.refl w4).alloc _
   have oX:X.cell? ⟨w4.heap.size,0,none⟩=some (.string (printR x)):=by rw [← hX,(cells_of_heap (heap_new _ _ _)).1];rfl
   clear hX
   have e0X:=e04.trans eX
   have s0X:=e0X.size
   refine append_str (printR x) (hO.ext e0X) oX (by omega) (by simp;omega) ?_
   intro v' w' hO' hg
   have hlo:∀ b,a.ownBlock=some b→base≤b:=fun b hb=>(World.ownsRow.lt hO b hb).1
   have e':Ext w3 w':=(e.trans e0X).grown hg fun b hb=>by rw [hbs];exact hlo b hb
   have sg:=hg.size
   simp (disch:=try exact DI) only [↓PR,QR,simprocAttr,hw]
   exact ⟨⟨k+1,rfl,by omega,e',by rw [take_snoc hx,List.map_append,← List.append_assoc];exact hO',by omega⟩,meas_lt (kd := .i64) hlt⟩
 · obtain rfl:k=s.roles.length:=by omega
   have d1:decide ((s.roles.length:Int) < (s.roles.length:Int))=false:=decide_eq_false (by omega)
   rw [List.take_length] at hO
   simp (disch:=try exact DI) only [↓PR,QR,simprocAttr,d1]
   refine callK_ret (Join_ret hO ⟨#[10]⟩ (by simp) (by simp;omega) (Nat.le_trans (joinW_size (B:=300000) fun y hy=>?_) ?_)) ?_
   · simp only [List.mem_append,List.mem_singleton,List.mem_map] at hy
     rcases hy with rfl | ⟨x,hx,rfl⟩
     · omega
     · rw [printR_eq (ho.rs x hx)];exact text_small (ho.rs x hx)
   · have h1:(⟨#[10]⟩:ByteArray).size=1:=rfl
     have h2:([hd]++s.roles.map printR).length≤5:=by simp;omega
     rw [h1]
     exact Nat.le_trans (Nat.mul_le_mul_right _ h2) (by decide)
   rintro _ w4 ⟨rfl,e4⟩
   simp (disch:=try exact DI) only [↓PR,QR,simprocAttr]
   exact ⟨by trivial,Ew.trans e4⟩
structure RowR where
 r:RolD
 sv:Value
 cv:Value
 tv:Value
abbrev encR (q:RowR):List Value:=rolCells q.r q.sv q.cv q.tv
structure RowK (w:World) (a:Nat) (N:Option Nat) (q:RowR):Prop where
 s:OwnE w a 50 3 staCells q.sv q.r.states
 c:OwnE w a 52 2 cntCells q.cv q.r.counters
 t:OwnE w a 71 9 stpCells q.tv q.r.steps
 ne:∀ b,q.sv.ownBlock=some b∨q.cv.ownBlock=some b∨q.tv.ownBlock=some b→N≠some b
theorem RowK.lt {w:World} {a:Nat} {N:Option Nat} {q:RowR} (h:RowK w a N q):∀ b,q.sv.ownBlock=some b∨q.cv.ownBlock=some b∨q.tv.ownBlock=some b→a≤b∧b < w.heap.size:=by
 rintro b (hb | hb | hb)
 · exact World.ownsRow.lt h.s b hb
 · exact World.ownsRow.lt h.c b hb
 · exact World.ownsRow.lt h.t b hb
theorem RowK.keep {w w':World} {a:Nat} {N N':Option Nat} {q:RowR} (h:RowK w a N q) (hk:∀ b,a≤b→b < w.heap.size→N≠some b→w'.heap[b]?=w.heap[b]?∧N'≠some b):RowK w' a N' q :=
 ⟨OwnE.keep h.s fun b hb=>(hk b (h.lt b (.inl hb)).1 (h.lt b (.inl hb)).2 (h.ne b (.inl hb))).1,
  OwnE.keep h.c fun b hb=>(hk b (h.lt b (.inr (.inl hb))).1 (h.lt b (.inr (.inl hb))).2 (h.ne b (.inr (.inl hb)))).1,
  OwnE.keep h.t fun b hb=>(hk b (h.lt b (.inr (.inr hb))).1 (h.lt b (.inr (.inr hb))).2 (h.ne b (.inr (.inr hb)))).1,
  fun b hb=>(hk b (h.lt b hb).1 (h.lt b hb).2 (h.ne b hb)).2⟩
def RolsK (w:World) (a:Nat) (vv:Value) (l:List RolD):Prop:=∃ rows:List RowR,rows.map RowR.r=l∧OwnE w a TRol 4 encR vv rows∧∀ q∈rows,RowK w a vv.ownBlock q
theorem RolsK.nil (w:World) (a:Nat):RolsK w a (.slice none 0 0) []:=⟨[],rfl,OwnE.nil _ _ _ _ _,fun q hq=>by cases hq⟩
theorem RolsK.lt {w:World} {a:Nat} {vv:Value} {l:List RolD} (h:RolsK w a vv l):∀ b,vv.ownBlock=some b→a≤b∧b < w.heap.size:=by
 obtain ⟨rows,_,h,_⟩:=h
 exact World.ownsRow.lt h
theorem RolsK.keep {w w':World} {a:Nat} {vv:Value} {l:List RolD} (h:RolsK w a vv l) (hk:∀ b,a≤b→b < w.heap.size→w'.heap[b]?=w.heap[b]?):RolsK w' a vv l:=by
 obtain ⟨rows,h1,h2,h3⟩:=h
 exact ⟨rows,h1,OwnE.keep h2 fun b hb=>hk b (World.ownsRow.lt h2 b hb).1 (World.ownsRow.lt h2 b hb).2,fun q hq=>(h3 q hq).keep fun b hb hb2 hn=>⟨hk b hb hb2,hn⟩⟩
theorem RolsK.ext {w w':World} {a:Nat} {vv:Value} {l:List RolD} (h:RolsK w a vv l) (e:Ext w w'):RolsK w' a vv l:=h.keep fun b _ hb=>e.block b hb
theorem RolsK.base {w:World} {a a':Nat} {vv:Value} {l:List RolD} (h:RolsK w a vv l) (ha:a'≤a):RolsK w a' vv l:=by
 obtain ⟨rows,h1,h2,h3⟩:=h
 exact ⟨rows,h1,h2.base ha,fun q hq=>⟨(h3 q hq).s.base ha,(h3 q hq).c.base ha,(h3 q hq).t.base ha,(h3 q hq).ne⟩⟩
theorem slice_map {α β:Type} {w:World} {n:Nat} {E:World→List Value→β→Prop} {v:Value} {f:α→β} {l:List α} (h:SliceOf w n (fun w cs x=>E w cs (f x)) v l):SliceOf w n E v (l.map f):=by
 obtain ⟨A,c,h1,h2,h3,h4⟩:=h
 refine ⟨A,c,by rw [List.length_map];exact h1,by rw [List.length_map];exact h2,h3,fun hne=>?_⟩
 obtain ⟨b,o,h5,h6⟩:=h4 (by rintro rfl;exact hne rfl)
 refine ⟨b,o,h5,fun k x hx=>?_⟩
 rw [List.getElem?_map] at hx
 cases hl:l[k]? with
 | none=>rw [hl] at hx;cases hx
 | some y =>
  rw [hl] at hx
  injection hx with hx
  subst hx
  exact h6 k y hl
theorem RolsK.of {w:World} {a:Nat} {vv:Value} {l:List RolD} (h:RolsK w a vv l):RolsOf w vv l:=by
 obtain ⟨rows,rfl,h2,h3⟩:=h
 exact slice_map (E:=ERol) (f:=RowR.r) (h2.slice (E:=fun w cs x=>ERol w cs x.r) (fun _=>rfl) fun q hq=>show ERol w (encR q) q.r from ⟨q.sv,q.cv,q.tv,rfl,OwnE.slice (E:=ESta) (h3 q hq).s (fun _=>rfl) (fun _ _=>rfl),OwnE.slice (E:=ECnt) (h3 q hq).c (fun _=>rfl) (fun _ _=>rfl),OwnE.slice (E:=EStp) (h3 q hq).t (fun _=>rfl) (fun _ _=>rfl)⟩)
theorem append_role {w:World} {QP:List PanicEntry→World→Prop} {k:Value→World→Prop} {a b:Nat} {vv:Value} {l:List RolD} {r:RolD} {sv cv tv:Value} (h:RolsK w a vv l) (hr:RowK w a vv.ownBlock ⟨r,sv,cv,tv⟩) (hc:ElemAt w b 0 (rolCells r sv cv tv)) (hbase:a≤w.heap.size) (hl:l.length≤1000000)
 (hk:∀ g cap w',RolsK w' a (.slice (some ⟨g,0,none⟩) (l.length+1) cap) (l++[r])→w.grownBy w' vv.ownBlock→(vv.ownBlock=some g∨g=w.heap.size)→g < w'.heap.size→k (.slice (some ⟨g,0,none⟩) (l.length+1) cap) w') :
 opV Pg (Builtin.append_ #[54,54] 54 #[vv,.slice (some ⟨b,0,none⟩) 1 1]) QP w k:=by
 obtain ⟨rows,rfl,h2,h3⟩:=h
 have hby:=by26
 rw [List.length_map] at hl hk
 refine op_appendL (enc:=encR) (l':=[(⟨r,sv,cv,tv⟩:RowR)]) Tryz.underlying54 ty26 rfl (by decide) (fun _=>rfl) (fun x hx u hu=>?_) h2 (o:=0) (fun j x hx=>?_) hbase (by simp) ?_ (by simp;omega) ?_
 · simp only [List.mem_singleton] at hx
   subst hx
   have f1:=own_one hr.s (fun _=>rfl)
   have f2:=own_one hr.c (fun _=>rfl)
   have f3:=own_one hr.t (fun _=>rfl)
   simp only [List.mem_cons,List.not_mem_nil,or_false] at hu
   rcases hu with rfl | rfl | rfl | rfl
   · rfl
   · exact f1
   · exact f2
   · exact f3
 · cases j with
   | zero =>
    simp only [List.getElem?_cons_zero,Option.some.injEq] at hx
    subst hx
    simpa using hc
   | succ j=>simp at hx
 · simp only [List.length_cons,List.length_nil]
   have:rows.length+1≤2000000:=by omega
   exact Nat.le_trans (Nat.mul_le_mul this hby) (by decide)
 · intro g cap w' hO hg hgg hgl
   refine hk g cap w' ⟨rows++[⟨r,sv,cv,tv⟩],by simp,hO,fun q hq=>?_⟩ hg hgg hgl
   have mv:∀ {q},RowK w a vv.ownBlock q→RowK w' a (some g) q:=fun h=>h.keep fun b hb hb2 hn=>by
    refine ⟨hg.block b hb2 (fun e=>hn e.symm),fun e=>?_⟩
    injection e with e
    subst e
    rcases hgg with e | e
    · exact hn e
    · omega
   rcases List.mem_append.1 hq with hq | hq
   · exact mv (h3 q hq)
   · rw [List.mem_singleton.1 hq]
     exact mv hr
theorem Index_string_ret (w0:World) (v:Value) (l:List ByteArray) (x:ByteArray) (hs:SliceOf w0 1 EStr v l) :
 Ret Pg 68 #[v,.string x] w0 fun r w'=>r = .int .i64 (idx (fun y=>decide (x=y)) l)∧Ext w0 w':=by
 obtain ⟨A,c,rfl,hlc,hcm,hlm,hel⟩:=SliceOf.open hs
 refine n82s (R:=retR _) ?_;unfold n82
 simp (disch:=try exact DI) only [↓PR,QR,simprocAttr]
 refine loop1_intro (fun i w=>∃ k:Nat,i = .int .i64 k∧k≤l.length∧Ext w0 w∧∀ (j:Nat) y,j < k→l[j]?=some y→decide (x=y)=false) (fun i _=>l.length - (intOf i).toNat) ⟨0,rfl,by omega,Ext.refl _,fun j y h=>by omega⟩ ?_
 rintro i w ⟨k,rfl,hk,e,hb⟩
 by_cases hlt:k < l.length
 · obtain ⟨y,hy⟩:=getElem?_lt hlt
   obtain ⟨b,o,cs,rfl,hl,hA,rfl⟩:=hel k y hy
   have dk:(k:Int) < (l.length:Int):=by omega
   have hd:decide ((k:Int) < (l.length:Int))=true:=decide_eq_true dk
   have hw:IntKind.i64.wrap ((k:Int)+1)=((k+1:Nat):Int):=by rw [wrap_ok (by omega) (by omega)];omega
   have hc1:=hA.c1 e
   cases hp:decide (x=y) with
   | true =>
    simp (disch:=try exact DI) only [↓PR,QR,simprocAttr,hd,↓n82c1,hc1,hp]
    exact ⟨by rw [idx_here hy hp hb],e⟩
   | false =>
    simp (disch:=try exact DI) only [↓PR,QR,simprocAttr,hd,↓n82c1,hc1,hp,hw]
    exact ⟨⟨k+1,rfl,by omega,e,before_succ hb hy hp⟩,meas_lt (kd := .i64) hlt⟩
 · have hd:decide ((k:Int) < (l.length:Int))=false:=by simp;omega
   simp (disch:=try exact DI) only [↓PR,QR,simprocAttr,hd]
   exact ⟨by rw [idx_none fun j y hy=>hb j y (by have:=(List.getElem?_eq_some_iff.1 hy).1;omega) hy],e⟩
def SesObj (w:World) (c base:Nat) (s:SesD):Prop:=∃ rv,w.heap[c]?=some (.cells (sesCells s rv).toArray TSes (0,0))∧RolsK w base rv s.roles
theorem SesObj.keep {w w':World} {c base:Nat} {s:SesD} (h:SesObj w c base s) (hc:w'.heap[c]?=w.heap[c]?) (hk:∀ b,base≤b→b < w.heap.size→w'.heap[b]?=w.heap[b]?):SesObj w' c base s:=by
 obtain ⟨rv,ho,h1⟩:=h
 exact ⟨rv,hc.trans ho,h1.keep hk⟩
theorem class_idx (x:ByteArray):idx (fun y=>decide (x=y)) [classB 1,classB 2,classB 3]+1=classI x:=by
 unfold classI idx
 by_cases h1:x=classB 1
 · simp [List.findIdx?_cons,h1]
 by_cases h2:x=classB 2
 · rw [if_neg h1,if_pos h2]
   simp [List.findIdx?_cons,h1,h2,show ¬ classB 2=classB 1 from by decide]
 by_cases h3:x=classB 3
 · rw [if_neg h1,if_neg h2,if_pos h3]
   simp [List.findIdx?_cons,h3,show ¬ classB 3=classB 1 from by decide,show ¬ classB 3=classB 2 from by decide]
 · rw [if_neg h1,if_neg h2,if_neg h3]
   simp [List.findIdx?_cons,h1,h2,h3]
theorem sesP_eq (k:ByteArray) (ws:List ByteArray) (L:List (List ByteArray)):sesP ((k::ws)::L)=if k=kSession then (match headP ws with
 | none=>(none,1)
 | some h=>match goS L.length [] L 1 with
  | (none,n)=>(none,n)
  | (some rs,n)=>(some ⟨h.name,rs,h.cls,h.capacity⟩,n)) else (none,1):=rfl
theorem sesP_bad {us:List ByteArray} {L:List (List ByteArray)} (h:headP us=none):sesP ((kSession::us)::L)=(none,1):=by
 rw [sesP_eq,if_pos rfl,h]
theorem sesP_no {lines:List ByteArray} (h:∀ x l,lines[0]?=some x→spW x≠kSession::l):sesP (lines.map spW)=(none,1):=by
 cases lines with
 | nil=>rfl
 | cons x l =>
  rw [List.map_cons]
  cases hx:spW x with
  | nil=>rfl
  | cons k us=>rw [sesP_eq,if_neg fun e=>h x us rfl (by rw [hx,e])]
theorem goS_step {f:Nat} {acc:List RolD} {L:List (List ByteArray)} {n k:Nat} {r:RolD} (hL:L≠[]) (h:roleP L=(some r,k)):goS (f+1) acc L n=goS f (acc++[r]) (L.drop k) (n+k):=by
 rw [show goS (f+1) acc L n=if L=[] then (some acc,n) else match roleP L with
  | (none,k)=>(none,n+k)
  | (some r,k)=>goS f (acc++[r]) (L.drop k) (n+k) from rfl,if_neg hL,h]
theorem goS_fail {f:Nat} {acc:List RolD} {L:List (List ByteArray)} {n k:Nat} (hL:L≠[]) (h:roleP L=(none,k)):goS (f+1) acc L n=(none,n+k):=by
 rw [show goS (f+1) acc L n=if L=[] then (some acc,n) else match roleP L with
  | (none,k)=>(none,n+k)
  | (some r,k)=>goS f (acc++[r]) (L.drop k) (n+k) from rfl,if_neg hL,h]
theorem goS_nil {f:Nat} {acc:List RolD} {n:Nat}:goS f acc [] n=(some acc,n):=by
 cases f with
 | zero=>rfl
 | succ f=>rfl
section
variable {w w' w1:World} {p c at_ at1 B B':Nat} {lines us us':List ByteArray} {lv:Value} {cs:Array Value} {QP:List PanicEntry→World→Prop} {k:Value→World→Prop}
theorem word_call (h:Rd w p lines at_ us lv B) (hk:∀ x l w',us=x::l→Rd w' p lines at_ l lv B→Save p (p+1) w w'→k (.string x) w') (hn:∀ w',us=[]→Save p (p+1) w w'→QP (wrongE at_) w'):callK Pg 69 #[.pointer (some ⟨p,0,none⟩)] QP w k:=by
 refine callK_wr (word_wr h) (fun v l w1 ho hr hs=>?_) fun w1 ho hs=>hn _ (pop_none ho) hs
 obtain ⟨x,rfl,hx⟩:=pop_some ho
 exact hk _ _ _ hx hr hs
theorem must_call (h:Rd w p lines at_ us lv B) (b:Bool) (hk:∀ w',b=true→Rd w' p lines at_ us lv B→Save p (p+1) w w'→k (.tuple #[]) w') (hn:∀ w',b=false→Save p (p+1) w w'→QP (wrongE at_) w'):callK Pg 66 #[.pointer (some ⟨p,0,none⟩),.bool b] QP w k:=by
 refine callK_wr (must_wr h b) (fun v l w1 ho hr hs=>?_) fun w1 ho hs=>?_
 · cases b with
   | false=>cases ho
   | true =>
    rw [if_pos rfl] at ho
    injection ho with ho
    injection ho with e1 e2
    subst e1 e2
    exact hk _ rfl hr hs
 · cases b with
   | false=>exact hn _ rfl hs
   | true=>cases ho
theorem Save2.to_ext {a:World} (h:Save2 p c w w') (e:Ext a w) (hp:a.heap.size≤p) (hc:a.heap.size≤c):Ext a w':=⟨h.os.trans e.os,h.tape.trans e.tape,h.output.trans e.output,Nat.le_trans e.size h.size,fun k hk=>(h.block k (Nat.lt_of_lt_of_le hk e.size) (by omega) (by omega)).trans (e.block k hk)⟩
structure SH (w1:World) (p c:Nat) (lines:List ByteArray) (lv:Value) (w:World) (at_:Nat) (us:List ByteArray) (B:Nat) (cs:Array Value):Prop where
 rd:Rd w p lines at_ us lv B
 Bw:B < w.heap.size
 Bc:c≠B
 sv:Save2 p c w1 w
 ob:w.heap[c]?=some (.cells cs TSes (0,0))
theorem SH.move (h:SH w1 p c lines lv w at_ us B cs) (hcp:c≠p) (hs:Save p (p+1) w w') (hr:Rd w' p lines at1 us' lv B') (h1:c≠B') (h2:B' < w'.heap.size):SH w1 p c lines lv w' at1 us' B' cs :=
 ⟨hr,h2,h1,h.sv.trans (Save2.of hs),hs.obj h.ob (by omega)⟩
theorem SH.next (h:SH w1 p c lines lv w at_ us B cs) (hcp:c≠p) (hs:Save p (p+1) w w') (hr:Rd w' p lines at_ us' lv B):SH w1 p c lines lv w' at_ us' B cs:=h.move hcp hs hr h.Bc (Nat.lt_of_lt_of_le h.Bw hs.size)
theorem SH.ext (h:SH w1 p c lines lv w at_ us B cs) (hcp:c≠p) (e:Ext w w'):SH w1 p c lines lv w' at_ us B cs:=h.next hcp (Save.of_ext e) (h.rd.ext e)
theorem SH.set (h:SH w1 p c lines lv w at_ us B cs) (hcp:c≠p) (hl:∀ A n c',lv = .slice (some A) n c'→A.block < w1.heap.size∧A.block≠c) (i:Nat) (v:Value):SH w1 p c lines lv (w.setCell ⟨c,i,none⟩ v) at_ us B (cs.setIfInBounds i v) :=
 ⟨h.rd.other v hcp h.Bc fun A n c' e=>(hl A n c' e).2,by rw [World.size_setCell];exact h.Bw,h.Bc,h.sv.setCell i v,heap_set h.ob v⟩
end
section
variable {WB w w' w1 W:World} {p c at_ B:Nat} {lines us:List ByteArray} {lv:Value} {cs:Array Value}
theorem SH.grown (h:SH w1 p c lines lv w at_ us B cs) {N:Option Nat} (hg:w.grownBy w' N) (hN:∀ b,N=some b→w1.heap.size≤b∧b≠B) (hp:p < w1.heap.size) (hc:c < w1.heap.size) (hl:∀ A n c',lv = .slice (some A) n c'→A.block < w1.heap.size∧A.block≠c):SH w1 p c lines lv w' at_ us B cs:=by
 have sz:=h.sv.size
 have sg:=hg.size
 have sm:∀ b,b < w1.heap.size→w'.heap[b]?=w.heap[b]?:=fun b hb=>hg.block b (by omega) fun e=>by have:=(hN b e.symm).1;omega
 refine ⟨h.rd.same (sm p hp) (hg.block B h.Bw fun e=>(hN B e.symm).2 rfl) fun A n c' e=>sm _ (hl A n c' e).1,Nat.lt_of_lt_of_le h.Bw sg,h.Bc,⟨hg.os.trans h.sv.os,hg.tape.trans h.sv.tape,hg.output.trans h.sv.output,by omega,fun k hk h1 h2=>(sm k hk).trans (h.sv.block k hk h1 h2)⟩,(sm c hc).trans h.ob⟩
theorem ses_loop {R:RT} {nm:ByteArray} {cls cap:Int} {us0:List ByteArray} {B0:Nat} (hE:EnvOK WB) (eB:Ext WB w1) (hb:WB.heap.size≤p) (hbc:WB.heap.size≤c) (hlz:∀ x∈lines,x.size≤100000) (hn:lines.length≤100000) (hcp:c≠p) (hp:p < w1.heap.size) (hc:c < w1.heap.size) (hl:∀ A n c',lv = .slice (some A) n c'→A.block < w1.heap.size∧A.block≠c)
 (h:SH w1 p c lines lv W 1 us0 B0 (sesCells ⟨nm,[],cls,cap⟩ (.slice none 0 0)).toArray) (hln:1≤lines.length)
 (hok:∀ w us B rs vv,SH w1 p c lines lv w lines.length us B (sesCells ⟨nm,rs,cls,cap⟩ vv).toArray→RolsK w w1.heap.size vv rs→goS ((lines.map spW).drop 1).length [] ((lines.map spW).drop 1) 1=(some rs,lines.length)→R (.returned (.tuple #[])) w)
 (hno:∀ w (n:Nat) rs vv,Save2 p c w1 w→w.heap[c]?=some (.cells (sesCells ⟨nm,rs,cls,cap⟩ vv).toArray TSes (0,0))→goS ((lines.map spW).drop 1).length [] ((lines.map spW).drop 1) 1=(none,n)→panK R (wrongE (n:Int)) w) :
 loop0 (fun w next4=>drawK w fun C5 w=>n42c3 (.pointer (some ⟨p,0,none⟩)) (.pointer (some ⟨c,0,none⟩)) C5 next4 R w) W:=by
 generalize hL:lines.map spW=L at hok hno
 have hLl:L.length=lines.length:=by rw [← hL,List.length_map]
 refine loop0_intro (fun w=>∃ at_ us B vv acc f,SH w1 p c lines lv w at_ us B (sesCells ⟨nm,acc,cls,cap⟩ vv).toArray∧RolsK w w1.heap.size vv acc∧acc.length+1≤at_∧at_≤lines.length∧lines.length≤at_+f∧goS (L.drop 1).length [] (L.drop 1) 1=goS f acc (L.drop at_) at_∧∀ b,vv.ownBlock=some b→b≠B) (fun w=>lines.length - atOf p w) ⟨1,us0,B0,_,[],(L.drop 1).length,h,RolsK.nil _ _,by simp,hln,by rw [List.length_drop];omega,rfl,fun b hb=>by cases hb⟩ ?_
 clear h
 rintro w ⟨at_,us,B,vv,acc,f,h,hK,ha,hal,hf,hG,hvB⟩
 have hm:=h.rd.at
 refine drawK_intro ?_
 have eD:Ext w (Sw.drew w):=(Ext.refl w).drew
 have h:=h.ext hcp eD
 have hK:=hK.ext eD
 generalize Sw.drew w=D at eD h hK ⊢
 obtain ⟨wv,hrd⟩:=h.rd
 have hrd0:=hrd
 obtain ⟨A,c',hlv,_⟩:=SliceOf.open hrd.ls
 have olv:=SliceOf.oneCell hrd.ls
 unfold n42c3
 by_cases hlt:at_ < lines.length
 case neg =>
  obtain rfl:at_=lines.length:=by omega
  have d1:decide ((lines.length:Int) < (lines.length:Int))=false:=decide_eq_false (by omega)
  subst hlv
  simp (disch:=try exact DI) only [↓PR,QR,simprocAttr,(cells_of_heap hrd.obj).1,d1]
  refine hok D us B acc vv h hK ?_
  rw [hG,← hLl,List.drop_length,goS_nil]
 have d1:decide ((at_:Int) < (lines.length:Int))=true:=decide_eq_true (by omega)
 have hcell:D.cell? ⟨c,1,none⟩=some vv:=by rw [(cells_of_heap h.ob).1];rfl
 have hlo:=hK.lt
 have szw:=h.sv.size
 have hqb:c≠rowB vv p:=by
  unfold rowB
  cases hv:vv.ownBlock with
  | none=>exact hcp
  | some b=>have:=(hlo b hv).1;show c≠b;omega
 have hqp:p≠rowB vv p∨p=rowB vv p:=by omega
 have hov:vv.oneCell'=true:=SliceOf.oneCell hK.of
 have hstep:∀ C:Prop,C→C:=fun _ h=>h
 subst hlv
 simp (disch:=try exact DI) only [↓PR,QR,simprocAttr,(cells_of_heap hrd.obj).1,d1]
 refine drawK_introB p (rowB vv p) (w1:=D) (fun _ _ _ _=>rfl) ?_
 have eE:Ext D (Sw.drew D):=(Ext.refl D).drew
 have hKE:KB D p (rowB vv p) (Sw.drew D):=fun _ _ _ _=>rfl
 have h:=h.ext hcp eE
 have hK:=hK.ext eE
 have szE:=eE.size
 generalize Sw.drew D=E at hKE h hK szE ⊢
 unfold n42c2
 simp (disch:=try exact DI) only [↓PR,QR,simprocAttr,hcell]
 have hror:=role_ror hE (h.sv.to_ext eB hb hbc) hb hlz hn hal h.rd h.Bw fun A n c' e=>Nat.lt_of_lt_of_le (hl A n c' e).1 h.sv.size
 rw [hL] at hror
 have hne:L.drop at_≠[]:=by
  intro e
  rw [List.drop_eq_nil_iff] at e
  omega
 obtain ⟨f,rfl⟩:∃ f',f=f'+1:=⟨f - 1,by omega⟩
 have hge:=roleP_ge (L.drop at_)
 refine callK_calls hror (fun v w2 hA=>?_) (fun ch w2 hA=>?_) (fun w2 hA=>?_)
 · obtain ⟨hs,hA⟩:=hA
   cases hrp:roleP (L.drop at_) with
   | mk o n =>
   rw [hrp] at hA hge
   cases o with
   | none=>cases hA
   | some r =>
   obtain ⟨v',he,⟨sv,cv,tv,hv,h1,h2,h3⟩,us',B',hr2,hB2,hB3⟩:=hA
   injection he with he
   subst he hv
   have hge:1≤n:=hge
   have hnl:=(roleP_read hrp).2.2.2.2.2
   rw [List.length_drop] at hnl
   have f1:=own_one h1 (fun _=>rfl)
   have f2:=own_one h2 (fun _=>rfl)
   have f3:=own_one h3 (fun _=>rfl)
   have sz2:=hs.size
   have szE1:=h.sv.size
   have hbE:=h.Bw
   have h:=h.move hcp hs hr2 (by omega) hB2
   have hK:=hK.keep (w':=w2) fun b hb1 hb2=>hs.block b hb2 (by omega)
   have hK2:KB D p (rowB vv p) w2:=fun b hb h1 h2=>(hs.block b (by omega) (by omega)).trans (hKE b hb h1 h2)
   refine ⟨hK2,?_⟩
   simp (disch:=try exact DI) only [↓PR,QR,simprocAttr]
   generalize hY:World.alloc w2 _=Y
   have eY:Ext w2 Y:=by rw [← hY];exact (Ext.refl w2).alloc _
   have oY:ElemAt Y w2.heap.size 0 (rolCells r sv cv tv):=by rw [← hY];exact ElemAt.new _ _
   clear hY
   have hKY:KB D p (rowB vv p) Y:=fun b hb h1 h2=>(eY.block b (by omega)).trans (hK2 b hb h1 h2)
   refine ⟨hKY,?_⟩
   have h:=h.ext hcp eY
   have hK:=hK.ext eY
   have szY:=eY.size
   have hrow:RowK Y w1.heap.size vv.ownBlock ⟨r,sv,cv,tv⟩:=⟨(h1.ext eY).base (by omega),(h2.ext eY).base (by omega),(h3.ext eY).base (by omega),fun b hb e=>by
    have hlt1:=(hlo b e).2
    have:E.heap.size≤b:=by
     rcases hb with hb | hb | hb
     · exact (World.ownsRow.lt h1 b hb).1
     · exact (World.ownsRow.lt h2 b hb).1
     · exact (World.ownsRow.lt h3 b hb).1
    omega⟩
   unfold n42c1
   refine append_role hK hrow oY (by omega) (by omega) ?_
   intro g cap' w4 hK4 hg hgg hgl
   have hK4':KB D p (rowB vv p) w4:=fun b hb h1 h2=>(hg.block b (by omega) (fun e=>by unfold rowB at h2;rw [← e] at h2;exact h2 rfl)).trans (hKY b hb h1 h2)
   refine ⟨hK4',?_⟩
   have h4:=h.grown hg (fun b hb=>⟨(hlo b hb).1,by have:=(hlo b hb).2;omega⟩) hp hc hl
   have hc4:w4.cell? ⟨c,1,none⟩=some vv:=by rw [(cells_of_heap h4.ob).1];rfl
   have hf4:w4.frozen? ⟨c,1,none⟩=false:=(cells_of_heap h4.ob).2 _
   simp (disch:=try exact DI) only [↓PR,QR,simprocAttr,hc4,hf4]
   refine turnK_intro ?_
   have h5:=h4.set hcp hl 1 (.slice (some ⟨g,0,none⟩) (acc.length+1) cap')
   refine ⟨⟨at_+n,us',B',_,acc++[r],f,h5,hK4.keep fun b hb1 _=>Only.setCell w4 c 1 _ b (by omega),by simp;omega,by omega,by omega,?_,fun b hb=>?_⟩,?_⟩
   · rw [hG,goS_step hne hrp,List.drop_drop]
   · have hb:g=b:=by injection hb
     have hB4:B' < w2.heap.size:=hB2
     rcases hgg with e | e
     · have:=(hlo _ e).2;omega
     · omega
   · rw [h5.rd.at,hm];omega
 · obtain ⟨hs,hA⟩:=hA
   cases hrp:roleP (L.drop at_) with
   | mk o n =>
   rw [hrp] at hA
   cases o with
   | some r=>obtain ⟨v',he,_⟩:=hA;cases he
   | none =>
   injection hA with hA
   subst hA
   exact hno w2 _ acc vv (h.sv.trans (Save2.of hs)) (hs.obj h.ob (by omega)) (by rw [hG,goS_fail hne hrp])
 · obtain ⟨hs,hA⟩:=hA
   cases hrp:roleP (L.drop at_) with
   | mk o n =>
   rw [hrp] at hA
   cases o with
   | some r=>obtain ⟨v',he,_⟩:=hA;cases he
   | none=>cases hA
end
theorem classI_range (x:ByteArray):0≤classI x∧classI x≤3:=by
 unfold classI
 split
 · omega
 · split
   · omega
   · split<;>omega
theorem cls_slice {w:World} {b:Nat} (h:w.heap[b]?=some (.cells clsCells.toArray 9 (0,0))):SliceOf w 1 EStr (.slice (some ⟨b,1,none⟩) 3 3) [classB 1,classB 2,classB 3]:=by
 refine ⟨_,3,rfl,by simp,by omega,fun _=>⟨b,1,rfl,fun k x hx=>⟨[.string x],rfl,fun j v hv=>?_,rfl⟩⟩⟩
 cases j with
 | succ j=>cases hv
 | zero =>
  injection hv with hv
  subst hv
  rw [(cells_of_heap h).1]
  have hk:=(List.getElem?_eq_some_iff.1 hx).1
  have:k=0∨k=1∨k=2:=by simp at hk;omega
  rcases this with rfl | rfl | rfl<;>(injection hx with hx;subst hx;rfl)
section
variable {WB w1:World} {p c B:Nat} {lines:List ByteArray} {lv:Value}
theorem SesS1_all (hE:EnvOK WB) (eB:Ext WB w1) (hb:WB.heap.size≤p) (hbc:WB.heap.size≤c) (hlz:∀ x∈lines,x.size≤90000) (hn:lines.length≤100000) (hcp:c≠p) (hp:p < w1.heap.size) (hc:c < w1.heap.size) (hl:∀ A n c',lv = .slice (some A) n c'→A.block < w1.heap.size∧A.block≠c) (hr:Rd w1 p lines 0 [] lv B) (hB:B < w1.heap.size) (hcB:c≠B)
 (ho:w1.heap[c]?=some (.cells (sesCells zeroSes (.slice none 0 0)).toArray TSes (0,0))) :
 Calls Pg 64 #[.pointer (some ⟨p,0,none⟩),.pointer (some ⟨c,0,none⟩)] w1 (AllR w1 p c lines lv (fun w2 at_=>∃ s,sesP (lines.map spW)=(some s,at_)∧SesObj w2 c w1.heap.size s) (fun w2 n=>sesP (lines.map spW)=(none,n)∧∃ s rv,w2.heap[c]?=some (.cells (sesCells s rv).toArray TSes (0,0)))):=by
 refine n42s ?_
 unfold n42
 have pan:∀ (w:World) (n:Nat) (s:SesD) (rv:Value),Save2 p c w1 w→w.heap[c]?=some (.cells (sesCells s rv).toArray TSes (0,0))→sesP (lines.map spW)=(none,n)→panK (AllR w1 p c lines lv (fun w2 at_=>∃ s,sesP (lines.map spW)=(some s,at_)∧SesObj w2 c w1.heap.size s) (fun w2 n=>sesP (lines.map spW)=(none,n)∧∃ s rv,w2.heap[c]?=some (.cells (sesCells s rv).toArray TSes (0,0)))) (wrongE (n:Int)) w :=
  fun w n s rv hs ho he=>⟨hs,.inr ⟨n,rfl,he,s,rv,ho⟩⟩
 have h0:SH w1 p c lines lv w1 0 [] B (sesCells zeroSes (.slice none 0 0)).toArray:=⟨hr,hB,hcB,Save2.of (Save.refl _ _ _),ho⟩
 have hlz':∀ x∈lines,x.size≤100000:=fun x hx=>Nat.le_trans (hlz x hx) (by omega)
 refine callK_ret (next_ret hE eB hb hlz' (Nat.zero_le _) hn hr kSession) ?_
 rintro _ w2 ⟨hs2,⟨x,us,B',hx,hsp,rfl,⟨hB1,hB2⟩,hr2⟩ | ⟨hno,rfl,hr2⟩⟩
 rotate_left
 · have h:=h0.next hcp hs2 hr2
   obtain ⟨wv,hrd⟩:=h.rd
   unfold n42c10
   have hw:IntKind.i64.wrap (((0:Nat):Int)+1)=((0+1:Nat):Int):=by rw [wrap_ok (by omega) (by omega)];omega
   simp (disch:=try exact DI) only [↓PR,QR,simprocAttr,↓n42c9,(cells_of_heap hrd.obj).1,(cells_of_heap hrd.obj).2,hw]
   have hrd2:Rd (w2.setCell ⟨p,1,none⟩ (.int .i64 ((1:Nat):Int))) p lines 1 [] lv B:=⟨wv,hrd.setAt 1⟩
   have hs3:Save p (p+1) w2 (w2.setCell ⟨p,1,none⟩ (.int .i64 ((1:Nat):Int))):=(Save.refl _ _ _).setCell (Nat.le_refl _) (Nat.lt_succ_self _) _
   refine must_call hrd2 false (fun w' he=>by cases he) fun w' _ hs4=>?_
   have hs:=hs3.trans hs4
   exact pan w' 1 _ _ (h.sv.trans (Save2.of hs)) (hs.obj h.ob (by omega)) (sesP_no hno)
 have hlt:=(List.getElem?_eq_some_iff.1 hx).1
 have hus:∀ y∈us,y.size≤100000:=fun y hy=>Nat.le_trans (spW_sub (x:=x) (by rw [hsp];exact List.mem_cons_of_mem _ hy)) (hlz' x (List.mem_of_getElem? hx))
 have hdr:lines.map spW=(kSession::us)::(lines.map spW).drop 1:=by
  have:=drop_words hx hsp
  rw [List.drop_zero] at this
  exact this
 have h:=h0.move hcp hs2 hr2 (by omega) hB2
 have bad:headP us=none→sesP (lines.map spW)=(none,1):=fun e=>by rw [hdr];exact sesP_bad e
 clear h0 hr2 hs2
 unfold n42c10
 simp (disch:=try exact DI) only [↓PR,QR,simprocAttr]
 refine name_call h.rd (fun nm l1 w3 hnm hr3 hs3=>?_) fun w' hnm hs3=>pan w' 1 _ _ (h.sv.trans (Save2.of hs3)) (hs3.obj h.ob (by omega)) (bad (by unfold headP;rw [hnm];rfl))
 have h:=h.next hcp hs3 hr3
 unfold n42c8
 simp (disch:=try exact DI) only [↓PR,QR,simprocAttr,(cells_of_heap h.ob).1,(cells_of_heap h.ob).2]
 have h:=h.set hcp hl 0 (.string nm)
 generalize w3.setCell ⟨c,0,none⟩ (.string nm)=w4 at h ⊢
 have h:SH w1 p c lines lv w4 1 l1 B' (sesCells ⟨nm,[],0,0⟩ (.slice none 0 0)).toArray:=h
 refine drawK_introB p c (w1:=w4) (fun _ _ _ _=>rfl) ?_
 have eD:Ext w4 (Sw.drew w4):=(Ext.refl w4).drew
 have hKD:KB w4 p c (Sw.drew w4):=fun _ _ _ _=>rfl
 have h:=h.ext hcp eD
 generalize Sw.drew w4=D at eD hKD h ⊢
 refine callK_ret (classes_ret D) ?_
 rintro _ w5 ⟨rfl,o5,s5,e5⟩
 have szD:=eD.size
 have szD1:=h.sv.size
 have h:=h.ext hcp e5
 have hK5:KB w4 p c w5:=fun b hb h1 h2=>(e5.block b (by omega)).trans (hKD b hb h1 h2)
 refine ⟨hK5,?_⟩
 have hsl:∀ K:Value→Prop,qV Pg (KB w4 p c) (Instr.sliceAt 73 (.slice (some ⟨D.heap.size,0,none⟩) 4 4) (some (.int .i64 1)) none none) K=K (.slice (some ⟨D.heap.size,1,none⟩) 3 3):=fun K=>qV_of fun QP w k=>op_dropV 1 D.heap.size 0 4 4 (by omega) (by omega)
 unfold n42c7
 rw [hsl]
 refine word_call h.rd (fun x2 l2 w6 hl1 hr6 hs6=>?_) fun w' hl1 hs6=>pan w' 1 _ _ (h.sv.trans (Save2.of hs6)) (hs6.obj h.ob (by omega)) (bad (by unfold headP;rw [hnm];simp only [Option.bind_some];rw [hl1];rfl))
 have h:=h.next hcp hs6 hr6
 have hK6:KB w4 p c w6:=fun b hb h1 h2=>(hs6.block b (by omega) (by omega)).trans (hK5 b hb h1 h2)
 refine ⟨hK6,?_⟩
 have o6:=hs6.obj o5 (by omega)
 refine zcr (Index_string_ret w6 _ _ x2 (cls_slice o6)) fun w7 e7=>?_
 have h:=h.ext hcp e7
 have hK7:KB w4 p c w7:=fun b hb h1 h2=>(e7.block b (by have:=hs6.size;omega)).trans (hK6 b hb h1 h2)
 refine ⟨hK7,?_⟩
 have hcr:=classI_range x2
 have hw:IntKind.i64.wrap (idx (fun y=>decide (x2=y)) [classB 1,classB 2,classB 3]+1)=classI x2:=by rw [class_idx,wrap_ok (by omega) (by omega)]
 unfold n42c6
 simp (disch:=try exact DI) only [↓PR,QR,simprocAttr,hw,(cells_of_heap h.ob).1,(cells_of_heap h.ob).2]
 refine turnK_intro ?_
 have h:=h.set hcp hl 2 (.int .i64 (classI x2))
 generalize w7.setCell ⟨c,2,none⟩ (.int .i64 (classI x2))=w8 at h ⊢
 have h:SH w1 p c lines lv w8 1 l2 B' (sesCells ⟨nm,[],classI x2,0⟩ (.slice none 0 0)).toArray:=h
 unfold n42c5
 simp (disch:=try exact DI) only [↓PR,QR,simprocAttr,(cells_of_heap h.ob).1]
 refine must_call h.rd _ (fun w9 hb9 hr9 hs9=>?_) fun w' hb9 hs9=>pan w' 1 _ _ (h.sv.trans (Save2.of hs9)) (hs9.obj h.ob (by omega)) (bad (by
  unfold headP
  rw [hnm]
  simp only [Option.bind_some]
  rw [hl1]
  show (if classI x2=0 then none else _)=none
  rw [if_pos (by simpa using hb9)]))
 have hc0:¬ classI x2=0:=by simpa using hb9
 have h:=h.next hcp hs9 hr9
 have hz2:∀ y∈l2,y.size≤100000:=fun y hy=>hus y (nameP_sub hnm y (by rw [hl1];exact List.mem_cons_of_mem _ hy))
 have hh:headP us=(numP l2).bind fun c=>endP (⟨nm,classI x2,c.1⟩:HeadD) c.2:=by
  unfold headP
  rw [hnm]
  simp only [Option.bind_some]
  rw [hl1]
  show (if classI x2=0 then none else _)=_
  rw [if_neg hc0]
 refine num_call hE (h.sv.to_ext eB hb hbc) hb hz2 h.rd (fun n l3 w10 hnn hr10 hs10=>?_) fun w' hnn hs10=>pan w' 1 _ _ (h.sv.trans (Save2.of hs10)) (hs10.obj h.ob (by omega)) (bad (by rw [hh,hnn];rfl))
 have h:=h.next hcp hs10 hr10
 unfold n42c4
 simp (disch:=try exact DI) only [↓PR,QR,simprocAttr,(cells_of_heap h.ob).1,(cells_of_heap h.ob).2]
 have h:=h.set hcp hl 3 (.int .i64 n)
 generalize w10.setCell ⟨c,3,none⟩ (.int .i64 n)=w11 at h ⊢
 have h:SH w1 p c lines lv w11 1 l3 B' (sesCells ⟨nm,[],classI x2,n⟩ (.slice none 0 0)).toArray:=h
 refine end_call h.rd (fun w12 hl3 hr12 hs12=>?_) fun w' hl3 hs12=>pan w' 1 _ _ (h.sv.trans (Save2.of hs12)) (hs12.obj h.ob (by omega)) (bad (by rw [hh,hnn];simp only [Option.bind_some];unfold endP;rw [if_neg hl3]))
 have h:=h.next hcp hs12 hr12
 have hhd:headP us=some ⟨nm,classI x2,n⟩:=by rw [hh,hnn,hl3];rfl
 have hsp2:∀ o m,goS ((lines.map spW).drop 1).length [] ((lines.map spW).drop 1) 1=(o,m)→sesP (lines.map spW)=(o.map fun rs=>⟨nm,rs,classI x2,n⟩,m):=by
  intro o m hg
  rw [hdr,sesP_eq,if_pos rfl,hhd]
  simp only
  rw [hg]
  cases o<;>rfl
 refine ses_loop hE eB hb hbc hlz' hn hcp hp hc hl h (by omega) (fun w us' B2 rs vv h' hK' hg=>?_) fun w m rs vv hs' ho' hg=>?_
 · exact ⟨h'.sv,.inl ⟨lines.length,us',B2,rfl,h'.rd,Nat.le_refl _,_,hsp2 _ _ hg,vv,h'.ob,hK'⟩⟩
 · exact pan w m _ vv hs' ho' (hsp2 _ _ hg)
end
def n21c1 (t1 t3 t4:Value) (next3:KW) (R:RT) (w:World):Prop :=
 opV Pg (binS .add 9 true t3 (.string { data := #[10] })) (panK R) w fun t28 w =>
 opV Pg (Instr.fieldAt 57 t1 1) (panK R) w fun t29 w =>
 opV Pg (Instr.loadAt 54 t29) (panK R) w fun t30 w =>
 opV Pg (Instr.indexAt 54 t30 t4) (panK R) w fun t32 w =>
 opV Pg (Instr.loadAt 26 t32) (panK R) w fun t33 w =>
 callK Pg 16 #[t33] (panK R) w fun t34 w =>
 opV Pg (binS .add 9 false t28 t34) (panK R) w fun t35 w =>
 opV Pg (binS .add 3 true t4 (.int .i64 1)) (panK R) w fun t26 w =>
 next3 t35 t26 w
def n21c2 (t1 t3 t4:Value) (next3:KW) (R:RT) (w:World):Prop :=
 opV Pg (Instr.fieldAt 57 t1 1) (panK R) w fun t21 w =>
 opV Pg (Instr.loadAt 54 t21) (panK R) w fun t22 w =>
 opV Pg (Builtin.len_ #[54] 3 #[t22]) (panK R) w fun t23 w =>
 opV Pg (binS .lss 3 false t4 t23) (panK R) w fun t24 w =>
 condP t24 (
 n21c1 t1 t3 t4 next3 R w) (
 R (.returned t3) w)
def n21c3 (t8 t9 t11 t17:Value) (C4:World→Prop) (K2:KV) (R:RT) (w:World):Prop :=
 qV Pg C4 (Instr.indexAt 73 t9 t11) fun t12 =>
 qV Pg C4 (Instr.loadAt 9 t12) fun t13 =>
 qV Pg C4 (binS .add 9 false t8 t13) fun t14 =>
 qV Pg C4 (binS .add 9 true t14 (.string { data := #[32] })) fun t15 =>
 callK Pg 49 #[t17] (panK R) w fun t18 w =>
 C4 w∧(
 qV Pg C4 (binS .add 9 false t15 t18) fun t19 =>
 K2 t19 w)
def n21c4 (t8 t9 t11 t18:Value) (C5:World→Prop) (K2:KV) (R:RT) (w:World):Prop :=
 qV Pg C5 (Instr.indexAt 73 t9 t11) fun t12 =>
 qV Pg C5 (Instr.loadAt 9 t12) fun t13 =>
 qV Pg C5 (binS .add 9 false t8 t13) fun t14 =>
 qV Pg C5 (binS .add 9 true t14 (.string { data := #[32] })) fun t15 =>
 qV Pg C5 (binS .add 9 false t15 t18) fun t19 =>
 K2 t19 w
def n21c5 (t8 t11 t18:Value) (C1:World→Prop) (K2:KV) (R:RT) (w:World):Prop :=
 opV Pg (Instr.buildSlice 73 4 #[(0,(.string { data := #[] })),(1,(.string { data := #[111,114,100,101,114,101,100] })),(2,(.string { data := #[109,105,120,101,100] })),(3,(.string { data := #[108,111,115,115,121] }))]) (panK R) w fun t9 w =>
 narrowK C1 w fun C5 w =>
 n21c4 t8 t9 t11 t18 C5 K2 R w
def n21c6 (t1:Value) (C1:World→Prop) (R:RT) (w:World):Prop :=
 qV Pg C1 (Instr.fieldAt 57 t1 0) fun t5 =>
 qV Pg C1 (Instr.loadAt 9 t5) fun t6 =>
 qV Pg C1 (binS .add 9 true (.string { data := #[115,101,115,115,105,111,110,32] }) t6) fun t7 =>
 qV Pg C1 (binS .add 9 true t7 (.string { data := #[32] })) fun t8 =>
 qV Pg C1 (Instr.fieldAt 57 t1 2) fun t10 =>
 qV Pg C1 (Instr.loadAt 55 t10) fun t11 =>
 qV Pg C1 (Instr.fieldAt 57 t1 3) fun t16 =>
 qV Pg C1 (Instr.loadAt 3 t16) fun t17 =>
 joinK (fun (t3:Value) (w:World) =>
 loop2 (fun t3 t4 w next3 =>
 n21c2 t1 t3 t4 next3 R w) t3 (.int .i64 0) w) fun K2 =>
 (
 opV Pg (Instr.buildSlice 73 4 #[(0,(.string { data := #[] })),(1,(.string { data := #[111,114,100,101,114,101,100] })),(2,(.string { data := #[109,105,120,101,100] })),(3,(.string { data := #[108,111,115,115,121] }))]) (panK R) w fun t9 w =>
 narrowK C1 w fun C4 w =>
 n21c3 t8 t9 t11 t17 C4 K2 R w)∧(
 callK Pg 49 #[t17] (panK R) w fun t18 w =>
 C1 w∧(
 n21c5 t8 t11 t18 C1 K2 R w))
def n21 (t0:Value) (R:RT) (w:World):Prop :=
 opV Pg (Instr.box 57 t0) (panK R) w fun t1 w =>
 drawK w fun C1 w =>
 n21c6 t1 C1 R w
theorem n21s {t0:Value} {R:RT} {w:World} (h:n21 t0 R w):Calls Pg 29 #[t0] w R:=by
 refine yD Tryz.func29 ?_
 refine zs<|zr<|yv h fun _ w h=>zm<|zn<|zk<|zs<|yh [3,5,6,7,8,9,10,11,12,13,14,15,16,17,18,19] h fun C hC h=>ye 0 hC h fun _ h=>?_
 refine ye 1 hC h fun _ h=>?_
 refine ye 2 hC h fun _ h=>?_
 refine ye 3 hC h fun _ h=>?_
 refine ye 5 hC h fun _ h=>?_
 refine ye 6 hC h fun _ h=>?_
 refine ye 11 hC h fun _ h=>?_
 refine ye 12 hC h fun _ h=>?_
 refine joinK_elim h (fun K2 hK h=>?_)
 refine sim_dmeet [3,9,12,13,14,15,18,19] (fun ρ w=>K2 (ρ 3) w) (fun T hT=>?_) (fun σ w h=>?_)
 · obtain ⟨h0,h1⟩:=h
   refine sim_dloud2 4 13 rfl rfl (by kernel_rfl) (fun _ _=>rfl) (fun _ _=>rfl) ?_ ?_
   · have h:=h0
     refine yS h fun _ w h=>zn ?_
     obtain ⟨C4,hs,hC,h⟩:=h
     refine ⟨C4,hs,hC,?_⟩
     refine ye 7 hC h fun _ h=>?_
     refine ye 8 hC h fun _ h=>?_
     refine ye 9 hC h fun _ h=>?_
     refine ye 10 hC h fun _ h=>?_
     refine yo 13 ?_
     refine yc h c49 fun _ w h=>zn ?_
     obtain ⟨hC,h⟩:=h
     refine ⟨hC,?_⟩
     refine ye 14 hC h fun _ h=>?_
     refine yw 15 hC ?_
     refine yz ?_
     exact zt hT h
   have h:=h1
   refine yc h c49 fun _ w h=>zn ?_
   obtain ⟨hC,h⟩:=h
   refine ⟨_,fun _ h=>h,hC,?_⟩
   refine yr 4 ?_
   refine yS h fun _ w h=>zn ?_
   obtain ⟨C5,hs,hC,h⟩:=h
   refine ⟨C5,hs,hC,?_⟩
   refine ye 7 hC h fun _ h=>?_
   refine ye 8 hC h fun _ h=>?_
   refine ye 9 hC h fun _ h=>?_
   refine ye 10 hC h fun _ h=>?_
   refine ye 14 hC h fun _ h=>?_
   refine yw 15 hC ?_
   refine yz ?_
   exact zt hT h
 subst hK
 refine zk<|zs<|zs<|zr<|zm<|zn<|zk<|sim_block<|yl2 [3,4,20,21,22,23,24,25,26,27,28,29,30,31,32,33,34,35] 3 4 h fun σ w next h=>zs<|zs<|zr<|zm<|yv h fun _ w h=>yv h fun _ w h=>?_
 refine yx h fun _ w h=>yb h fun _ w h=>zn<|zk<|yC h (fun h=>?_) fun h=>?_
 · refine sim_skip<|zk<|zs<|sim_block<|zr<|zm<|yb h fun _ w h=>yv h fun _ w h=>yv h fun _ w h=>zm<|yv h fun _ w h=>yv h fun _ w h=>yc h c16 fun _ w h=>yb h fun _ w h=>zm ?_
   exact zn<|sim_block_normal<|zk<|zr<|zm<|yb h fun _ w h=>zm<|zn<|zk<|⟨rfl,h⟩
 exact sim_exit<|sim_then_exit<|sim_then_exit<|sim_block_hit<|zk<|zs<|zr<|zm<|zm<|zn<|zk<|sim_ret<|body_ret1 rfl rfl h
def n41c1 (t2 t18:Value) (R:RT) (w:World):Prop :=
 opV Pg (Instr.build 57 #[]) (panK R) w fun t21 w =>
 opU Pg (Instr.storeAt 57 t2 t21) (panK R) w fun w =>
 qW Pg 57 t2 w fun r0 =>
 R (.returned (.tuple #[r0,(.int .i64 0),t18])) w
def n41c2 (t2:Value) (R:RT) (w:World):Prop :=
 opV Pg (Instr.loadAt 57 t2) (panK R) w fun t23 w =>
 opU Pg (Instr.storeAt 57 t2 t23) (panK R) w fun w =>
 qW Pg 57 t2 w fun r0 =>
 R (.returned (.tuple #[r0,(.int .i64 0),(.int .i64 0)])) w
def n41c3 (t2 t16:Value) (R:RT) (w:World):Prop :=
 opV Pg (Instr.extract t16 0) (panK R) w fun t17 w =>
 opV Pg (Instr.extract t16 1) (panK R) w fun t18 w =>
 opV Pg (binS .neq 29 true t18 (.int .i64 0)) (panK R) w fun t20 w =>
 condP t20 (
 n41c1 t2 t18 R w) (
 n41c2 t2 R w)
def n41c4 (t2 t9:Value) (R:RT) (w:World):Prop :=
 opV Pg (Instr.build 57 #[]) (panK R) w fun t12 w =>
 opU Pg (Instr.storeAt 57 t2 t12) (panK R) w fun w =>
 qW Pg 57 t2 w fun r0 =>
 R (.returned (.tuple #[r0,t9,(.int .i64 6)])) w
def n41c5 (t2 t9:Value) (R:RT) (w:World):Prop :=
 opV Pg (binS .gtr 3 true t9 (.int .i64 0)) (panK R) w fun t11 w =>
 condP t11 (
 n41c4 t2 t9 R w) (
 opV Pg (Instr.loadAt 57 t2) (panK R) w fun t15 w =>
 callK Pg 26 #[t15] (panK R) w fun t16 w =>
 n41c3 t2 t16 R w)
def n41 (t0:Value) (R:RT) (w:World):Prop :=
 opV Pg (Instr.alloc 57 true (.tuple #[])) (panK R) w fun t2 w =>
 opV Pg (Instr.makeFunc (.func 64) #[] #[t2]) (panK R) w fun t8 w =>
 callK Pg 50 #[t0,t8] (panK R) w fun t9 w =>
 n41c5 t2 t9 R w
theorem n41s {t0:Value} {R:RT} {w:World} (h:n41 t0 R w):Calls Pg 30 #[t0] w R:=by
 refine yD Tryz.func30 ?_
 refine zs<|zr<|yv h fun _ w h=>zm<|zm<|zn<|zk<|zs<|zr<|zm<|yF h fun _ w h=>yc h c50 fun _ w h=>zm<|zn<|zk ?_
 refine zs<|zs<|zr<|zm<|yb h fun _ w h=>zn<|zk<|yC h (fun h=>zs<|zr<|yB h fun _ w h=>zm<|yu h fun w h=>zm<|zm<|zn<|zk<|sim_ret<|sim_then_ret<|body_retCTT rfl rfl rfl rfl h) fun h=>sim_skip<|zk<|zs<|zs<|zr<|yv h fun _ w h=>?_
 refine yc h c26 fun _ w h=>zm<|yv h fun _ w h=>yv h fun _ w h=>zm<|zm<|zn<|zk<|zs<|zr<|zm<|yb h fun _ w h=>zn<|zk<|yC h (fun h=>zs<|zr<|yB h fun _ w h=>zm<|yu h fun w h=>zm<|zm<|zn<|zk<|sim_ret<|sim_then_ret<|body_retCTT rfl rfl rfl rfl h) fun h=>?_
 exact sim_skip<|zk<|zs<|zr<|yv h fun _ w h=>yu h fun w h=>zm<|zm<|zn<|zk<|sim_ret<|body_retCTT rfl rfl rfl rfl h
def n17c1 (t7 t8 t49 t50:Value) (C5:World→Prop) (next3:KV) (R:RT) (w:World):Prop :=
 qV Pg C5 (Instr.indexAt 73 t50 t8) fun t52 =>
 qV Pg C5 (Instr.loadAt 9 t52) fun t53 =>
 qV Pg C5 (binS .eql 9 false t49 t53) fun t54 =>
 joinK (fun (w:World) =>
 opV Pg (binS .add 3 true t8 (.int .i64 1)) (panK R) w fun t46 w =>
 next3 t46 w) fun K6 =>
 condP t54 (
 opV Pg (Instr.fieldAt 57 t7 2) (panK R) w fun t56 w =>
 opU Pg (Instr.storeAt 55 t56 t8) (panK R) w fun w =>
 K6 w) (
 K6 w)
def n17c2 (t7 t8 t21:Value) (C4:World→Prop) (next3:KV) (R:RT) (w:World):Prop :=
 qV Pg C4 (Instr.indexAt 73 t21 (.int .i64 2)) fun t48 =>
 qV Pg C4 (Instr.loadAt 9 t48) fun t49 =>
 opV Pg (Instr.buildSlice 73 4 #[(0,(.string { data := #[] })),(1,(.string { data := #[111,114,100,101,114,101,100] })),(2,(.string { data := #[109,105,120,101,100] })),(3,(.string { data := #[108,111,115,115,121] }))]) (panK R) w fun t50 w =>
 narrowK C4 w fun C5 w =>
 n17c1 t7 t8 t49 t50 C5 next3 R w
def n17c3 (t2 t11 t84:Value) (R:RT) (w:World):Prop :=
 opV Pg (Instr.build 57 #[]) (panK R) w fun t87 w =>
 opV Pg (binS .sub 3 false t11 t84) (panK R) w fun t90 w =>
 opU Pg (Instr.storeAt 57 t2 t87) (panK R) w fun w =>
 qW Pg 57 t2 w fun r0 =>
 R (.returned (.tuple #[r0,t90,(.int .i64 6)])) w
def n17c4 (t7 t11 t12 t84:Value) (next8:KV) (R:RT) (w:World):Prop :=
 opV Pg (Instr.fieldAt 57 t7 1) (panK R) w fun t91 w =>
 opV Pg (Instr.loadAt 54 t91) (panK R) w fun t92 w =>
 opV Pg (Instr.loadAt 26 t12) (panK R) w fun t93 w =>
 opV Pg (Instr.buildSlice 54 1 #[(0,t93)]) (panK R) w fun t94 w =>
 opV Pg (Builtin.append_ #[54,54] 54 #[t92,t94]) (panK R) w fun t95 w =>
 opV Pg (Instr.fieldAt 57 t7 1) (panK R) w fun t96 w =>
 opU Pg (Instr.storeAt 54 t96 t95) (panK R) w fun w =>
 opV Pg (binS .add 3 false t11 t84) (panK R) w fun t99 w =>
 next8 t99 w
def n17c5 (t2 t7 t11 t82:Value) (next8:KV) (R:RT) (w:World):Prop :=
 opV Pg (Instr.extract t82 0) (panK R) w fun t83 w =>
 opV Pg (Instr.extract t82 1) (panK R) w fun t84 w =>
 opV Pg (Instr.alloc 26 true (.tuple #[])) (panK R) w fun t12 w =>
 opU Pg (Instr.storeAt 26 t12 t83) (panK R) w fun w =>
 opV Pg (binS .lss 3 true t84 (.int .i64 0)) (panK R) w fun t86 w =>
 condP t86 (
 n17c3 t2 t11 t84 R w) (
 n17c4 t7 t11 t12 t84 next8 R w)
def n17c6 (t2 t104:Value) (R:RT) (w:World):Prop :=
 opV Pg (Instr.build 57 #[]) (panK R) w fun t107 w =>
 opU Pg (Instr.storeAt 57 t2 t107) (panK R) w fun w =>
 qW Pg 57 t2 w fun r0 =>
 R (.returned (.tuple #[r0,(.int .i64 0),t104])) w
def n17c7 (t2 t7:Value) (R:RT) (w:World):Prop :=
 opV Pg (Instr.loadAt 57 t7) (panK R) w fun t109 w =>
 opU Pg (Instr.storeAt 57 t2 t109) (panK R) w fun w =>
 qW Pg 57 t2 w fun r0 =>
 R (.returned (.tuple #[r0,(.int .i64 0),(.int .i64 0)])) w
def n17c8 (t2 t7 t102:Value) (R:RT) (w:World):Prop :=
 opV Pg (Instr.extract t102 0) (panK R) w fun t103 w =>
 opV Pg (Instr.extract t102 1) (panK R) w fun t104 w =>
 opV Pg (binS .neq 3 true t104 (.int .i64 0)) (panK R) w fun t106 w =>
 condP t106 (
 n17c6 t2 t104 R w) (
 n17c7 t2 t7 R w)
def n17c9 (t2 t7 t11 t17:Value) (next8:KV) (R:RT) (w:World):Prop :=
 opV Pg (Instr.sliceAt 73 t17 (some t11) none none) (panK R) w fun t81 w =>
 callK Pg 54 #[t81] (panK R) w fun t82 w =>
 n17c5 t2 t7 t11 t82 next8 R w
def n17c10 (t2 t7 t11 t17:Value) (next8:KV) (R:RT) (w:World):Prop :=
 opV Pg (Builtin.len_ #[73] 3 #[t17]) (panK R) w fun t76 w =>
 opV Pg (binS .lss 3 false t11 t76) (panK R) w fun t77 w =>
 condP t77 (
 n17c9 t2 t7 t11 t17 next8 R w) (
 opV Pg (Instr.loadAt 57 t7) (panK R) w fun t101 w =>
 callK Pg 27 #[t101] (panK R) w fun t102 w =>
 n17c8 t2 t7 t102 R w)
def n17c11 (t2:Value) (R:RT) (w:World):Prop :=
 opV Pg (Instr.build 57 #[]) (panK R) w fun t71 w =>
 opU Pg (Instr.storeAt 57 t2 t71) (panK R) w fun w =>
 qW Pg 57 t2 w fun r0 =>
 R (.returned (.tuple #[r0,(.int .i64 1),(.int .i64 6)])) w
def n17c12 (t2 t7 t17 t62:Value) (R:RT) (w:World):Prop :=
 opV Pg (Instr.fieldAt 57 t7 3) (panK R) w fun t73 w =>
 opU Pg (Instr.storeAt 3 t73 t62) (panK R) w fun w =>
 loop1 (fun t11 w next8 =>
 n17c10 t2 t7 t11 t17 next8 R w) (.int .i64 1) w
def n17c13 (t2 t7 t17 t61:Value) (R:RT) (w:World):Prop :=
 opV Pg (Instr.extract t61 0) (panK R) w fun t62 w =>
 opV Pg (Instr.extract t61 1) (panK R) w fun t63 w =>
 opV Pg (Instr.fieldAt 57 t7 2) (panK R) w fun t64 w =>
 opV Pg (Instr.loadAt 55 t64) (panK R) w fun t65 w =>
 opV Pg (binS .eql 55 true t65 (.int .i64 0)) (panK R) w fun t66 w =>
 joinK (fun (t69:Value) (w:World) =>
 pickK t66 (.bool true) t69 fun t70 =>
 condP t70 (
 n17c11 t2 R w) (
 n17c12 t2 t7 t17 t62 R w)) fun K7 =>
 guardP t66 false (
 opV Pg (Op.unary .not t63) (panK R) w fun t69 w =>
 K7 t69 w) (
 K7 undef w)
def n17c14 (t2 t7 t17 t21:Value) (R:RT) (w:World):Prop :=
 opV Pg (Instr.indexAt 73 t21 (.int .i64 3)) (panK R) w fun t59 w =>
 opV Pg (Instr.loadAt 9 t59) (panK R) w fun t60 w =>
 callK Pg 72 #[t60] (panK R) w fun t61 w =>
 n17c13 t2 t7 t17 t61 R w
def n17c15 (t2 t7 t8 t17 t21:Value) (next3:KV) (R:RT) (w:World):Prop :=
 opV Pg (binS .leq 3 true t8 (.int .i64 3)) (panK R) w fun t44 w =>
 condP t44 (
 drawK w fun C4 w =>
 n17c2 t7 t8 t21 C4 next3 R w) (
 n17c14 t2 t7 t17 t21 R w)
def n17c16 (t2:Value) (R:RT) (w:World):Prop :=
 opV Pg (Instr.build 57 #[]) (panK R) w fun t38 w =>
 opU Pg (Instr.storeAt 57 t2 t38) (panK R) w fun w =>
 qW Pg 57 t2 w fun r0 =>
 R (.returned (.tuple #[r0,(.int .i64 1),(.int .i64 6)])) w
def n17c17 (t2 t17 t21:Value) (R:RT) (w:World):Prop :=
 opV Pg (Instr.indexAt 73 t21 (.int .i64 1)) (panK R) w fun t40 w =>
 opV Pg (Instr.loadAt 9 t40) (panK R) w fun t41 w =>
 opV Pg (Instr.build 57 #[(0,t41)]) (panK R) w fun t42 w =>
 opV Pg (Instr.alloc 57 true (.tuple #[])) (panK R) w fun t7 w =>
 opU Pg (Instr.storeAt 57 t7 t42) (panK R) w fun w =>
 loop1 (fun t8 w next3 =>
 n17c15 t2 t7 t8 t17 t21 next3 R w) (.int .i64 1) w
def n17c18 (t2 t17 t21 t24 t29:Value) (R:RT) (w:World):Prop :=
 pickK t24 (.bool true) t29 fun t30 =>
 joinK (fun (t36:Value) (w:World) =>
 pickK t30 (.bool true) t36 fun t37 =>
 condP t37 (
 n17c16 t2 R w) (
 n17c17 t2 t17 t21 R w)) fun K2 =>
 guardP t30 false (
 opV Pg (Instr.indexAt 73 t21 (.int .i64 1)) (panK R) w fun t33 w =>
 opV Pg (Instr.loadAt 9 t33) (panK R) w fun t34 w =>
 callK Pg 18 #[t34] (panK R) w fun t35 w =>
 opV Pg (Op.unary .not t35) (panK R) w fun t36 w =>
 K2 t36 w) (
 K2 undef w)
def n17c19 (t2 t17 t21:Value) (R:RT) (w:World):Prop :=
 opV Pg (Builtin.len_ #[73] 3 #[t21]) (panK R) w fun t23 w =>
 opV Pg (binS .neq 3 true t23 (.int .i64 4)) (panK R) w fun t24 w =>
 joinK (fun (t29:Value) (w:World) =>
 n17c18 t2 t17 t21 t24 t29 R w) fun K1 =>
 guardP t24 false (
 opV Pg (Instr.indexAt 73 t21 (.int .i64 0)) (panK R) w fun t27 w =>
 opV Pg (Instr.loadAt 9 t27) (panK R) w fun t28 w =>
 opV Pg (binS .neq 9 true t28 (.string { data := #[115,101,115,115,105,111,110] })) (panK R) w fun t29 w =>
 K1 t29 w) (
 K1 undef w)
def n17c20 (t2 t17:Value) (R:RT) (w:World):Prop :=
 opV Pg (Instr.indexAt 73 t17 (.int .i64 0)) (panK R) w fun t19 w =>
 opV Pg (Instr.loadAt 9 t19) (panK R) w fun t20 w =>
 callK Pg 53 #[t20,(.int .u8 32)] (panK R) w fun t21 w =>
 n17c19 t2 t17 t21 R w
def n17 (t0:Value) (R:RT) (w:World):Prop :=
 opV Pg (Instr.alloc 57 true (.tuple #[])) (panK R) w fun t2 w =>
 callK Pg 53 #[t0,(.int .u8 10)] (panK R) w fun t17 w =>
 n17c20 t2 t17 R w
set_option maxHeartbeats 40000000 in
theorem n17s {t0:Value} {R:RT} {w:World} (h:n17 t0 R w):Calls Pg 31 #[t0] w R:=by
 refine yD Tryz.func31 ?_
 refine zs<|zr<|yv h fun _ w h=>zm<|zm<|zn<|zk<|zs<|zr<|zm<|yc h c53 fun _ w h=>zm<|zn<|zk<|zs ?_
 refine zr<|zm<|yv h fun _ w h=>yv h fun _ w h=>yc h c53 fun _ w h=>zm<|zn<|zk<|zs<|zs<|sim_regionG<|yG 4<|zm<|yx h fun _ w h=>yb h fun _ w h=>?_
 refine zm<|zn<|yg1 4 3 false [26,27,28,29] 29 h (fun _ T hT h=>?_) fun σ w h=>?_
 · refine zm<|yv h fun _ w h=>yv h fun _ w h=>yb h fun _ w h=>zn ?_
   exact zt hT h
 refine yG 2<|yp h fun _ h=>zm<|zn<|yg1 5 9 false [32,33,34,35,36] 36 h (fun _ T hT h=>?_) fun σ w h=>?_
 · refine zm<|yv h fun _ w h=>yv h fun _ w h=>yc h c18 fun _ w h=>yv h fun _ w h=>zn ?_
   exact zt hT h
 refine yG 1<|yp h fun _ h=>zn<|sim_end<|zk<|yC h (fun h=>zs<|zr<|yB h fun _ w h=>yu h fun w h=>zm<|zm<|zn<|zk<|sim_ret<|sim_then_ret<|body_retCTT rfl rfl rfl rfl h) fun h=>sim_skip<|zk<|zs<|zr<|zm<|yv h fun _ w h=>yv h fun _ w h=>yB h fun _ w h=>?_
 refine yv h fun _ w h=>yu h fun w h=>zn<|zk<|zs<|zs<|zr<|zm<|zn<|zk<|sim_block<|yl1 [8,43,44,45,46,47,48,49,50,51,52,53,54,55,56] 8 h fun σ w next h=>zs<|zs<|zr ?_
 refine zm<|yb h fun _ w h=>zn<|zk<|yC h (fun h=>?_) fun h=>?_
 · refine sim_skip<|zk<|zs<|sim_block<|zs<|yh [47,48,49,50,51,52,53,54] h fun C hC h=>yw 0 hC ?_
   refine ye 1 hC h fun _ h=>?_
   refine ye 2 hC h fun _ h=>?_
   refine yw 4 hC ?_
   refine yr 3 ?_
   refine yS h fun _ w h=>zn ?_
   obtain ⟨C5,hs,hC,h⟩:=h
   refine ⟨C5,hs,hC,?_⟩
   refine ye 5 hC h fun _ h=>?_
   refine ye 6 hC h fun _ h=>?_
   refine ye 7 hC h fun _ h=>?_
   refine yz<|zk<|yJ0 [55,56] h (fun _ _ hkK6 h=>?_) fun σ w h=>?_
   · refine yC h (fun h=>?_) fun h=>?_
     · refine zr<|zm<|yv h fun _ w h=>yu h fun w h=>zn<|zk ?_
       exact zt hkK6 h
     refine sim_skip<|zk ?_
     exact zt hkK6 h
   exact sim_block_normal<|zk<|zr<|zm<|yb h fun _ w h=>zm<|zn<|zk<|⟨rfl,h⟩
 refine sim_exit<|sim_then_exit<|sim_then_exit<|sim_block_hit<|zk<|zs<|zr<|zm<|yv h fun _ w h=>yv h fun _ w h=>yc h c72 fun _ w h=>zm<|yv h fun _ w h=>yv h fun _ w h=>zm ?_
 refine zm<|zn<|zk<|zs<|zs<|sim_regionG<|yG 4<|yv h fun _ w h=>yv h fun _ w h=>yb h fun _ w h=>zm<|zn<|yg1 2 3 false [68,69] 69 h (fun _ T hT h=>?_) fun σ w h=>?_
 · refine zm<|yv h fun _ w h=>zn ?_
   exact zt hT h
 refine yG 1<|yp h fun _ h=>zn<|sim_end<|zk<|yC h (fun h=>zs<|zr<|yB h fun _ w h=>yu h fun w h=>zm<|zm<|zn<|zk<|sim_ret<|sim_then_ret<|body_retCTT rfl rfl rfl rfl h) fun h=>sim_skip<|zk<|zs<|zr<|zm<|yv h fun _ w h=>yu h fun w h=>zn ?_
 refine zk<|zs<|zs<|zr<|zm<|zn<|zk<|sim_block<|yl1 [3,4,11,12,13,74,75,76,77,78,79,80,81,82,83,84,85,86,87,88,89,90,91,92,93,94,95,96,97,98,99] 11 h fun σ w next h=>zs<|zs<|zr<|zm<|zm<|yx h fun _ w h=>?_
 refine yb h fun _ w h=>zn<|zk<|yC h (fun h=>?_) fun h=>?_
 · refine sim_skip<|zk<|sim_block<|zs<|zr<|zm<|zm<|yv h fun _ w h=>yc h c54 fun _ w h=>zm<|yv h fun _ w h=>yv h fun _ w h=>yv h fun _ w h=>yu h fun w h=>zm ?_
   refine zn<|zk<|zs<|zs<|zr<|zm<|yb h fun _ w h=>zn<|zk<|yC h (fun h=>?_) fun h=>?_
   · refine zs<|zr<|yB h fun _ w h=>zm<|zm<|yb h fun _ w h=>yu h fun w h=>zm<|zm<|zn<|zk<|sim_ret<|sim_then_ret<|sim_block_ret<|sim_then_ret ?_
     exact sim_block_ret<|sim_then_ret<|body_retCTT rfl rfl rfl rfl h
   refine sim_skip<|zk<|zs<|zr<|yv h fun _ w h=>yv h fun _ w h=>yv h fun _ w h=>yS h fun _ w h=>yx h fun _ w h=>yv h fun _ w h=>yu h fun w h=>zn<|zk<|zr<|zm ?_
   exact zm<|yb h fun _ w h=>zm<|zn<|sim_block_normal<|zk<|⟨rfl,h⟩
 refine sim_exit<|sim_then_exit<|sim_then_exit<|sim_block_hit<|zk<|zs<|zs<|zr<|yv h fun _ w h=>yc h c27 fun _ w h=>zm<|yv h fun _ w h=>yv h fun _ w h=>zm<|zm ?_
 refine zn<|zk<|zs<|zr<|zm<|yb h fun _ w h=>zn<|zk<|yC h (fun h=>zs<|zr<|yB h fun _ w h=>zm<|yu h fun w h=>zm<|zm<|zn<|zk<|sim_ret<|sim_then_ret<|body_retCTT rfl rfl rfl rfl h) fun h=>sim_skip<|zk<|zs<|zr<|yv h fun _ w h=>?_
 exact yu h fun w h=>zm<|zm<|zn<|zk<|sim_ret<|body_retCTT rfl rfl rfl rfl h
def n19c1 (t5 t51:Value) (C5:World→Prop) (next4:KV) (R:RT) (w:World):Prop :=
 C5 w∧(
 qV Pg C5 (Op.unary .not t51) fun t52 =>
 condP t52 (
 R (.returned (.bool false)) w) (
 opV Pg (binS .add 3 true t5 (.int .i64 1)) (panK R) w fun t40 w =>
 next4 t40 w))
def n19c2 (t2 t3 t5:Value) (C5:World→Prop) (next4:KV) (R:RT) (w:World):Prop :=
 qV Pg C5 (Instr.fieldAt 57 t2 1) fun t41 =>
 qV Pg C5 (Instr.loadAt 54 t41) fun t42 =>
 qV Pg C5 (Instr.indexAt 54 t42 t5) fun t44 =>
 qV Pg C5 (Instr.loadAt 26 t44) fun t45 =>
 qV Pg C5 (Instr.fieldAt 57 t3 1) fun t46 =>
 qV Pg C5 (Instr.loadAt 54 t46) fun t47 =>
 qV Pg C5 (Instr.indexAt 54 t47 t5) fun t49 =>
 qV Pg C5 (Instr.loadAt 26 t49) fun t50 =>
 callK Pg 21 #[t45,t50] (panK R) w fun t51 w =>
 n19c1 t5 t51 C5 next4 R w
def n19c3 (t2 t3 t5:Value) (next4:KV) (R:RT) (w:World):Prop :=
 opV Pg (Instr.fieldAt 57 t2 1) (panK R) w fun t35 w =>
 opV Pg (Instr.loadAt 54 t35) (panK R) w fun t36 w =>
 opV Pg (Builtin.len_ #[54] 3 #[t36]) (panK R) w fun t37 w =>
 opV Pg (binS .lss 3 false t5 t37) (panK R) w fun t38 w =>
 condP t38 (
 drawK w fun C5 w =>
 n19c2 t2 t3 t5 C5 next4 R w) (
 R (.returned (.bool true)) w)
def n19c4 (t2 t3 t17 t23:Value) (R:RT) (w:World):Prop :=
 pickK t17 (.bool true) t23 fun t24 =>
 joinK (fun (t32:Value) (w:World) =>
 pickK t24 (.bool true) t32 fun t33 =>
 condP t33 (
 R (.returned (.bool false)) w) (
 loop1 (fun t5 w next4 =>
 n19c3 t2 t3 t5 next4 R w) (.int .i64 0) w)) fun K3 =>
 guardP t24 false (
 opV Pg (Instr.fieldAt 57 t2 1) (panK R) w fun t26 w =>
 opV Pg (Instr.loadAt 54 t26) (panK R) w fun t27 w =>
 opV Pg (Builtin.len_ #[54] 3 #[t27]) (panK R) w fun t28 w =>
 opV Pg (Instr.fieldAt 57 t3 1) (panK R) w fun t29 w =>
 opV Pg (Instr.loadAt 54 t29) (panK R) w fun t30 w =>
 opV Pg (Builtin.len_ #[54] 3 #[t30]) (panK R) w fun t31 w =>
 opV Pg (binS .neq 3 false t28 t31) (panK R) w fun t32 w =>
 K3 t32 w) (
 K3 undef w)
def n19c5 (t2 t3 t10 t16:Value) (R:RT) (w:World):Prop :=
 pickK t10 (.bool true) t16 fun t17 =>
 joinK (fun (t23:Value) (w:World) =>
 n19c4 t2 t3 t17 t23 R w) fun K2 =>
 guardP t17 false (
 opV Pg (Instr.fieldAt 57 t2 3) (panK R) w fun t19 w =>
 opV Pg (Instr.loadAt 3 t19) (panK R) w fun t20 w =>
 opV Pg (Instr.fieldAt 57 t3 3) (panK R) w fun t21 w =>
 opV Pg (Instr.loadAt 3 t21) (panK R) w fun t22 w =>
 opV Pg (binS .neq 3 false t20 t22) (panK R) w fun t23 w =>
 K2 t23 w) (
 K2 undef w)
def n19 (t0 t1:Value) (R:RT) (w:World):Prop :=
 opV Pg (Instr.box 57 t0) (panK R) w fun t2 w =>
 opV Pg (Instr.box 57 t1) (panK R) w fun t3 w =>
 opV Pg (Instr.fieldAt 57 t2 0) (panK R) w fun t6 w =>
 opV Pg (Instr.loadAt 9 t6) (panK R) w fun t7 w =>
 opV Pg (Instr.fieldAt 57 t3 0) (panK R) w fun t8 w =>
 opV Pg (Instr.loadAt 9 t8) (panK R) w fun t9 w =>
 opV Pg (binS .neq 9 false t7 t9) (panK R) w fun t10 w =>
 joinK (fun (t16:Value) (w:World) =>
 n19c5 t2 t3 t10 t16 R w) fun K1 =>
 guardP t10 false (
 opV Pg (Instr.fieldAt 57 t2 2) (panK R) w fun t12 w =>
 opV Pg (Instr.loadAt 55 t12) (panK R) w fun t13 w =>
 opV Pg (Instr.fieldAt 57 t3 2) (panK R) w fun t14 w =>
 opV Pg (Instr.loadAt 55 t14) (panK R) w fun t15 w =>
 opV Pg (binS .neq 55 false t13 t15) (panK R) w fun t16 w =>
 K1 t16 w) (
 K1 undef w)
theorem n19s {t0 t1:Value} {R:RT} {w:World} (h:n19 t0 t1 R w):Calls Pg 32 #[t0,t1] w R:=by
 refine yD Tryz.func32 ?_
 refine zs<|zr<|yv h fun _ w h=>yv h fun _ w h=>zm<|zn<|zk<|zs<|zs<|sim_regionG<|yG 6<|yv h fun _ w h=>yv h fun _ w h=>yv h fun _ w h=>yv h fun _ w h=>?_
 refine yb h fun _ w h=>zm<|zn<|yg1 5 5 false [12,13,14,15,16] 16 h (fun _ T hT h=>?_) fun σ w h=>?_
 · refine yv h fun _ w h=>yv h fun _ w h=>yv h fun _ w h=>yv h fun _ w h=>yb h fun _ w h=>zn ?_
   exact zt hT h
 refine yG 2<|yp h fun _ h=>zm<|zn<|yg1 5 12 false [19,20,21,22,23] 23 h (fun _ T hT h=>?_) fun σ w h=>?_
 · refine yv h fun _ w h=>yv h fun _ w h=>yv h fun _ w h=>yv h fun _ w h=>yb h fun _ w h=>zn ?_
   exact zt hT h
 refine yG 2<|yp h fun _ h=>zm<|zn<|yg1 7 19 false [26,27,28,29,30,31,32] 32 h (fun _ T hT h=>?_) fun σ w h=>?_
 · refine yv h fun _ w h=>yv h fun _ w h=>yx h fun _ w h=>yv h fun _ w h=>yv h fun _ w h=>yx h fun _ w h=>yb h fun _ w h=>zn ?_
   exact zt hT h
 refine yG 1<|yp h fun _ h=>zn<|sim_end<|zk<|yC h (fun h=>zs<|zr<|zm<|zn<|zk<|sim_ret<|sim_then_ret<|body_ret1 rfl rfl h) fun h=>sim_skip<|zk<|zs<|zs<|zr<|zm<|zn<|zk ?_
 refine sim_block<|yl1 [4,5,34,35,36,37,38,39,40,41,42,43,44,45,46,47,48,49,50,51,52] 5 h fun σ w next h=>zs<|zs<|zr<|zm<|yv h fun _ w h=>yv h fun _ w h=>yx h fun _ w h=>yb h fun _ w h=>zn<|zk<|yC h (fun h=>?_) fun h=>?_
 · refine sim_skip<|zk<|zs<|sim_block<|zs<|yh [41,42,43,44,45,46,47,48,49,50,51,52] h fun C hC h=>ye 0 hC h fun _ h=>?_
   refine ye 1 hC h fun _ h=>?_
   refine yw 2 hC ?_
   refine ye 3 hC h fun _ h=>?_
   refine ye 4 hC h fun _ h=>?_
   refine ye 5 hC h fun _ h=>?_
   refine ye 6 hC h fun _ h=>?_
   refine yw 7 hC ?_
   refine ye 8 hC h fun _ h=>?_
   refine ye 9 hC h fun _ h=>?_
   refine yo 10 ?_
   refine yc h c21 fun _ w h=>zn ?_
   obtain ⟨hC,h⟩:=h
   refine ⟨hC,?_⟩
   refine ye 11 hC h fun _ h=>?_
   exact yz<|zk<|yC h (fun h=>zs<|zr<|zm<|zn<|zk<|sim_ret<|sim_block_ret<|sim_then_ret<|sim_then_ret<|sim_block_ret<|sim_then_ret<|body_ret1 rfl rfl h) fun h=>sim_skip<|sim_block_normal<|zk<|zr<|zm<|yb h fun _ w h=>zm<|zn<|zk<|⟨rfl,h⟩
 exact sim_exit<|sim_then_exit<|sim_then_exit<|sim_block_hit<|zk<|zs<|zr<|zm<|zn<|zk<|sim_ret<|body_ret1 rfl rfl h
theorem sesP_len {L:List (List ByteArray)} {s:SesD} {n:Nat} (h:sesP L=(some s,n)):n=L.length∧s.roles.length≤L.length∧∀ r∈s.roles,Read r:=by
 match L,h with
 | [],h=>cases h
 | []::L,h=>cases h
 | (k::ws)::L,h =>
  rw [sesP_eq] at h
  split at h
  · cases hh:headP ws with
    | none=>rw [hh] at h;cases h
    | some hd =>
     rw [hh] at h
     simp only at h
     cases hg:goS L.length [] L 1 with
     | mk o m =>
     rw [hg] at h
     cases o with
     | none=>cases h
     | some rs =>
      obtain ⟨g1,g2,g3⟩:=goS_len (Nat.le_refl _) hg
      injection h with h1 h2
      injection h1 with h1
      subst h1 h2
      refine ⟨by rw [List.length_cons];omega,?_,g3 fun r hr=>by cases hr⟩
      simp only [List.length_nil,List.length_cons] at g2 ⊢
      omega
  · cases h
def SesOwn (w:World) (base:Nat) (v:Value) (s:SesD):Prop:=∃ rv,v = .agg (sesCells s rv).toArray∧RolsK w base rv s.roles
theorem SesOwn.zero (w:World) (base:Nat):SesOwn w base (.agg #[.string ByteArray.empty,.slice none 0 0,.int .i64 0,.int .i64 0]) zeroSes:=⟨_,rfl,RolsK.nil _ _⟩
theorem goS_few {N:Nat}:∀ {f:Nat} {acc rs:List RolD} {L:List (List ByteArray)} {n m:Nat},L.length≤N→goS f acc L n=(some rs,m)→(∀ r∈acc,r.counters.length≤N∧r.states.length≤N∧r.steps.length≤N)→∀ r∈rs,r.counters.length≤N∧r.states.length≤N∧r.steps.length≤N
 | 0,acc,rs,L,n,m,h,e,ha=>by
  injection e with e1 e2
  injection e1 with e1
  subst e1
  exact ha
 | f+1,acc,rs,L,n,m,h,e,ha=>by
  unfold goS at e
  by_cases hL:L=[]
  · rw [if_pos hL] at e
    injection e with e1 e2
    injection e1 with e1
    subst e1
    exact ha
  rw [if_neg hL] at e
  cases hr:roleP L with
  | mk o k =>
  rw [hr] at e
  cases o with
  | none=>cases e
  | some r =>
   obtain ⟨_,l1,l2,l3,_,_⟩:=roleP_read hr
   refine goS_few (by rw [List.length_drop];omega) e fun x hx=>?_
   rcases List.mem_append.1 hx with hx | hx
   · exact ha x hx
   · rw [List.mem_singleton.1 hx]
     exact ⟨by omega,by omega,by omega⟩
theorem sesP_few {L:List (List ByteArray)} {s:SesD} {n:Nat} (h:sesP L=(some s,n)):∀ r∈s.roles,r.counters.length≤L.length∧r.states.length≤L.length∧r.steps.length≤L.length:=by
 match L,h with
 | [],h=>cases h
 | []::L,h=>cases h
 | (k::ws)::L,h =>
  rw [sesP_eq] at h
  split at h
  · cases hh:headP ws with
    | none=>rw [hh] at h;cases h
    | some hd =>
     rw [hh] at h
     simp only at h
     cases hg:goS L.length [] L 1 with
     | mk o m =>
     rw [hg] at h
     cases o with
     | none=>cases h
     | some rs =>
      injection h with h1 h2
      injection h1 with h1
      subst h1
      exact goS_few (by simp) hg fun r hr=>by cases hr
  · cases h
theorem lines_roles {text:ByteArray} {r:RolD} (hz:text.size≤90000) {s:SesD} {n:Nat} (h:sesP (linesT text)=(some s,n)) (hr:r∈s.roles):RolOk r:=by
 obtain ⟨l1,l2,l3⟩:=sesP_few h r hr
 have hl:=(lines_small text).1
 rw [linesT_len] at l1 l2 l3
 exact ((sesP_len h).2.2 r hr).ok ⟨by omega,by omega,by omega⟩
theorem ParseSession_ret {w0:World} {text:ByteArray} (hE:EnvOK w0) (hz:text.size≤90000):Ret Pg 30 #[.string text] w0 fun u w'=>(∃ v,u = .tuple #[v,.int .i64 (parseS text).2.1,.int .i64 (parseS text).2.2]∧SesOwn w' w0.heap.size v (parseS text).1)∧Ext w0 w':=by
 obtain ⟨hln,hlz⟩:=lines_small text
 refine n41s (R:=retR _) ?_;unfold n41
 simp (disch:=try exact DI) only [↓PR,QR,simprocAttr]
 have e0:Ext w0 (World.alloc w0 (.cells (sesCells zeroSes (.slice none 0 0)).toArray TSes)):=(Ext.refl w0).alloc _
 have ho:=heap_new w0 (sesCells zeroSes (.slice none 0 0)).toArray TSes
 have s0:(World.alloc w0 (.cells (sesCells zeroSes (.slice none 0 0)).toArray TSes)).heap.size=w0.heap.size+1:=World.size_alloc ..
 generalize hV:World.alloc w0 (.cells (sesCells zeroSes (.slice none 0 0)).toArray TSes)=V at e0 ho s0
 have hV':World.alloc w0 (.cells #[.string ByteArray.empty,.slice none 0 0,.int .i64 0,.int .i64 0] TSes)=V:=hV
 rw [hV']
 clear hV hV'
 generalize hc:w0.heap.size=c at ho s0 ⊢
 refine callK_ret (read_ret (c:=c) (caps := #[.pointer (some ⟨c,0,none⟩)]) (Φ:=fun w2 at_=>∃ s,sesP (linesT text)=(some s,at_)∧SesObj w2 c (V.heap.size+1) s) (Ψ:=fun w2 n=>sesP (linesT text)=(none,n)∧∃ s rv,w2.heap[c]?=some (.cells (sesCells s rv).toArray TSes (0,0))) (hE.ext e0) hz c64 (by omega) fun w1 p lv B eV h1 h2 hr hB hcB hl=>Calls.mono (SesS1_all hE (e0.trans eV) (by omega) (by omega) (fun x hx=>Nat.le_trans (hlz x hx) (by omega)) (by omega) (by omega) h2 (by omega) hl hr hB hcB (eV.obj ho)) fun e w' he=>?_) ?_
 · obtain ⟨g1,g2⟩:=he
   refine ⟨g1,?_⟩
   rcases g2 with ⟨at_,ws,B2,q1,q2,q3,s,q4,rv,q5,q6⟩ | g2
   · exact .inl ⟨at_,ws,B2,q1,q2,q3,s,q4,rv,q5,q6.base (by omega)⟩
   · exact .inr g2
 rintro t10 w' ⟨w2,hs,hbl,hsz,⟨ho1,ho2,ho3⟩,hcase⟩
 have hcw:w0.heap.size≤c:=Nat.le_of_eq hc
 have e':Ext w0 w':=⟨ho1.trans e0.os,ho2.trans e0.tape,ho3.trans e0.output,by have:=hs.size;omega,fun b hb=>(hbl b (by omega) (by omega)).trans (e0.block b hb)⟩
 have hcs:w'.heap[c]?=w2.heap[c]?:=hs.block c (by omega) (by omega)
 have bad:∀ (n:Nat) (s:SesD) (rv:Value),0 < n→parseS text=(zeroSes,(n:Int),6)→w'.heap[c]?=some (.cells (sesCells s rv).toArray TSes (0,0))→n41c5 (.pointer (some ⟨c,0,none⟩)) (.int .i64 (n:Int)) (retR fun u w'=>(∃ v,u = .tuple #[v,.int .i64 (parseS text).2.1,.int .i64 (parseS text).2.2]∧SesOwn w' c v (parseS text).1)∧Ext w0 w') w':=by
  intro n s rv hn hpp hob
  have d1:decide ((n:Int) > 0)=true:=decide_eq_true (by omega)
  unfold n41c5
  simp (disch:=try exact DI) only [↓PR,QR,simprocAttr,d1,↓n41c4,(cells_of_heap hob).1,(cells_of_heap hob).2]
  refine ⟨⟨_,by rw [hpp],by rw [hpp];exact SesOwn.zero _ _⟩,?_⟩
  exact (((e'.setCell (p:=⟨c,0,none⟩) hcw _).setCell (p:=⟨c,1,none⟩) hcw _).setCell (p:=⟨c,2,none⟩) hcw _).setCell (p:=⟨c,3,none⟩) hcw _
 rcases hcase with ⟨at_,⟨s,hrp,hob⟩,hat,rfl⟩ | ⟨n,⟨hrp,s,rv,hob⟩,rfl⟩
 · rw [← linesT_len] at hat ⊢
   obtain ⟨hl1,hl2,hread⟩:=sesP_len hrp
   rw [if_neg (by omega)]
   have hpp:parseS text=if (checkS s).2=0 then (s,0,0) else (zeroSes,0,(checkS s).2):=by unfold parseS;rw [hrp]
   have hob:=(hob.keep hcs fun b hb hb2=>hs.block b hb2 (by omega))
   obtain ⟨rv,hob,h1⟩:=hob
   have f1:rv.oneCell'=true:=SliceOf.oneCell h1.of
   have hll:=linesT_len text
   unfold n41c5
   simp (disch:=try exact DI) only [↓PR,QR,simprocAttr,(cells_of_heap hob).1]
   refine zcr (CheckSession_ret w' _ s ⟨rv,rfl,h1.of⟩ (fun r hr=>OkFit (lines_roles hz hrp hr)) (by omega)) fun w3 e3=>?_
   have hob3:=e3.obj hob
   have E3:=e'.trans e3
   by_cases hc0:(checkS s).2=0
   · have d1:((checkS s).2 != 0)=false:=by simp [hc0]
     rw [if_pos hc0] at hpp
     simp (disch:=try exact DI) only [↓PR,QR,simprocAttr,↓n41c3,d1,↓n41c2,(cells_of_heap hob3).1,(cells_of_heap hob3).2]
     have hb5:∀ b,b≠c→((((w3.setCell ⟨c,0,none⟩ (.string s.name)).setCell ⟨c,1,none⟩ rv).setCell ⟨c,2,none⟩ (.int .i64 s.cls)).setCell ⟨c,3,none⟩ (.int .i64 s.capacity)).heap[b]?=w3.heap[b]?:=fun b hb=>by simp only [Only.setCell _ c _ _ b hb]
     refine ⟨⟨_,by rw [hpp],?_⟩,?_⟩
     · rw [hpp]
       exact ⟨rv,rfl,((h1.ext e3).keep fun b hb _=>hb5 b (by omega)).base (by omega)⟩
     · exact (((E3.setCell (p:=⟨c,0,none⟩) hcw _).setCell (p:=⟨c,1,none⟩) hcw _).setCell (p:=⟨c,2,none⟩) hcw _).setCell (p:=⟨c,3,none⟩) hcw _
   · have d1:((checkS s).2 != 0)=true:=by simp [hc0]
     rw [if_neg hc0] at hpp
     simp (disch:=try exact DI) only [↓PR,QR,simprocAttr,↓n41c3,d1,↓n41c1,(cells_of_heap hob3).1,(cells_of_heap hob3).2]
     refine ⟨⟨_,by rw [hpp],by rw [hpp];exact SesOwn.zero _ _⟩,?_⟩
     exact (((E3.setCell (p:=⟨c,0,none⟩) hcw _).setCell (p:=⟨c,1,none⟩) hcw _).setCell (p:=⟨c,2,none⟩) hcw _).setCell (p:=⟨c,3,none⟩) hcw _
 · have hn:0 < n:=sesP_pos hrp
   exact bad n _ _ hn (by unfold parseS;rw [hrp]) (hcs.trans hob)
theorem take_any {α:Type} {p:α→Bool} {l:List α} {k:Nat} (h:∀ (j:Nat) y,j < k→l[j]?=some y→p y=false):(l.take k).any p=false:=by
 rw [List.any_eq_false]
 intro y hy
 obtain ⟨j,hj⟩:=List.getElem?_of_mem hy
 have hjk:j < k:=by
  have:=(List.getElem?_eq_some_iff.1 hj).1
  rw [List.length_take] at this
  omega
 rw [List.getElem?_take_of_lt hjk] at hj
 rw [h j y hjk hj]
 simp
theorem any_at {α:Type} {p:α→Bool} {l:List α} {j k:Nat} {y:α} (hj:j < k) (hy:l[j]?=some y) (hp:p y=true):(l.take k).any p=true:=by
 rw [List.any_eq_true]
 exact ⟨y,List.mem_of_getElem? (i:=j) (by rw [List.getElem?_take_of_lt hj];exact hy),hp⟩
theorem all_of {α:Type} {p:α→Bool} {l:List α} (h:∀ (j:Nat) y,j < l.length→l[j]?=some y→p y=true):l.all p=true:=by
 rw [List.all_eq_true]
 intro y hy
 obtain ⟨j,hj⟩:=List.getElem?_of_mem hy
 exact h j y (List.getElem?_eq_some_iff.1 hj).1 hj
section
variable {w0 w:World} {p:Nat} {s:SesD} {A:Option Addr} {c:Nat}
theorem rses_steps (E0:Ext w0 w) (hp:w.heap[p]?=some (.cells (sesCells s (.slice A s.roles.length c)).toArray TSes (0,0))) (hR:RolsOf w (.slice A s.roles.length c) s.roles) (hl:s.roles.length≤1000000000) {k:Nat} {x:RolD} (hx:s.roles[k]?=some x) (hF:RolFit x) {next9:Value→World→Prop} {R:RT}
 (hno:x.steps.all (peerB s.roles)=false→∀ w',Ext w w'→R (.returned (.tuple #[.int .i64 (k:Int),.int .i64 294])) w')
 (hyes:x.steps.all (peerB s.roles)=true→∀ w',Ext w w'→next9 (.int .i64 ((k+1:Nat):Int)) w') :
 loop1 (fun t9 w next10=>n14c8 (.pointer (some ⟨p,0,none⟩)) (.int .i64 (k:Int)) t9 next10 next9 R w) (.int .i64 0) w:=by
 obtain ⟨A',c',hv,_,_,hlm,hel⟩:=SliceOf.open hR
 injection hv with h1 _ h2
 subst h1 h2
 have hkl:=(List.getElem?_eq_some_iff.1 hx).1
 obtain ⟨b,o,cs,rfl,_,hA,sv,cv,tv,rfl,i1,i2,i3⟩:=hel k x hx
 obtain ⟨A3,c3,rfl,_,_,hlm3,hel3⟩:=SliceOf.open i3
 have f1:=SliceOf.oneCell i1
 have f2:=SliceOf.oneCell i2
 have dk:(k:Int) < (s.roles.length:Int):=by omega
 have hwk:IntKind.i64.wrap ((k:Int)+1)=((k+1:Nat):Int):=by rw [wrap_ok (by omega) (by omega)];omega
 refine loop1_intro (fun a w'=>∃ j:Nat,a = .int .i64 j∧j≤x.steps.length∧Ext w w'∧∀ (i:Nat) y,i < j→x.steps[i]?=some y→peerB s.roles y=true) (fun a _=>x.steps.length - (intOf a).toNat) ⟨0,rfl,by omega,Ext.refl _,fun i y h=>by omega⟩ ?_
 rintro _ w1 ⟨j,rfl,hj,e,hI⟩
 have lj:=hF.2.2.2
 unfold n14c8
 by_cases hlt:j < x.steps.length
 case neg =>
  obtain rfl:j=x.steps.length:=by omega
  have dl:decide ((x.steps.length:Int) < (x.steps.length:Int))=false:=decide_eq_false (by omega)
  simp (disch:=try exact DI) only [↓PR,QR,simprocAttr,(cells_of_heap (e.obj hp)).1,hA.c4 e,dk,dl,hwk]
  exact hyes (all_of hI) w1 e
 obtain ⟨y,hy⟩:=getElem?_lt hlt
 obtain ⟨b3,o3,cs3,rfl,_,hA3,rfl⟩:=hel3 j y hy
 have dj:(j:Int) < (x.steps.length:Int):=by omega
 have dl:decide ((j:Int) < (x.steps.length:Int))=true:=decide_eq_true dj
 have hwj:IntKind.i64.wrap ((j:Int)+1)=((j+1:Nat):Int):=by rw [wrap_ok (by omega) (by omega)];omega
 simp (disch:=try exact DI) only [↓PR,QR,simprocAttr,(cells_of_heap (e.obj hp)).1,hA.c4 e,dk,dj,dl,↓n14c7,hA3.c9 e]
 generalize hY:World.alloc w1 _=Y
 have oY:Y.heap[w1.heap.size]?=some (.cells (stpCells y).toArray 71 (0,0)):=by rw [← hY];exact heap_new _ _ _
 have eY:Ext w1 Y:=by rw [← hY];exact (Ext.refl w1).alloc _
 clear hY
 generalize w1.heap.size=t at oY ⊢
 have EY:=e.trans eY
 refine loop2_intro (fun a b w'=>∃ n:Nat,b = .int .i64 n∧n≤s.roles.length∧Ext Y w'∧a = .bool (decide (2 < y.kind)||(s.roles.take n).any fun r=>decide (r.name=y.peer))) (fun _ b _=>s.roles.length - (intOf b).toNat) ⟨0,rfl,by omega,Ext.refl _,by simp⟩ ?_
 rintro _ _ w2 ⟨n,rfl,hn,e2,rfl⟩
 have E2:=EY.trans e2
 unfold n14c6
 by_cases hln:n < s.roles.length
 case neg =>
  obtain rfl:n=s.roles.length:=by omega
  have dn:decide ((s.roles.length:Int) < (s.roles.length:Int))=false:=decide_eq_false (by omega)
  have hpb:(decide (2 < y.kind)||(s.roles.take s.roles.length).any fun r=>decide (r.name=y.peer))=peerB s.roles y:=by rw [List.take_length];rfl
  rw [hpb]
  cases hb:peerB s.roles y with
  | true =>
   simp (disch:=try exact DI) only [↓PR,QR,simprocAttr,(cells_of_heap (E2.obj hp)).1,dn,↓n14c5,hwj]
   refine ⟨⟨j+1,rfl,by omega,E2,fun i z hi hz=>?_⟩,meas_lt (kd := .i64) hlt⟩
   by_cases hij:i=j
   · subst hij
     rw [hy] at hz
     injection hz with hz
     subst hz
     exact hb
   · exact hI i z (by omega) hz
  | false =>
   simp (disch:=try exact DI) only [↓PR,QR,simprocAttr,(cells_of_heap (E2.obj hp)).1,dn,↓n14c5]
   refine hno ?_ w2 E2
   cases ha:x.steps.all (peerB s.roles) with
   | false=>rfl
   | true =>
    rw [List.all_eq_true] at ha
    rw [ha y (List.mem_of_getElem? hy)] at hb
    cases hb
 obtain ⟨r,hr⟩:=getElem?_lt hln
 obtain ⟨b4,o4,cs4,hbo,_,hA4,sv4,cv4,tv4,rfl,g1,g2,g3⟩:=hel n r hr
 have dn':(n:Int) < (s.roles.length:Int):=by omega
 have dn:decide ((n:Int) < (s.roles.length:Int))=true:=decide_eq_true dn'
 have hwn:IntKind.i64.wrap ((n:Int)+1)=((n+1:Nat):Int):=by rw [wrap_ok (by omega) (by omega)];omega
 injection hbo with hbo
 injection hbo with hb4 ho4
 subst hb4 ho4
 simp (disch:=try exact DI) only [↓PR,QR,simprocAttr,(cells_of_heap (E2.obj hp)).1,dn]
 refine drawK_intro ?_
 have eD:Ext w2 (Sw.drew w2):=(Ext.refl w2).drew
 generalize Sw.drew w2=D at eD ⊢
 have ED:=E2.trans eD
 unfold n14c4
 cases hkn:(decide (2 < y.kind)||(s.roles.take n).any fun r=>decide (r.name=y.peer)) with
 | true =>
  simp (disch:=try exact DI) only [↓PR,QR,simprocAttr,hwn]
  refine ⟨⟨n+1,rfl,by omega,e2.trans eD,?_⟩,meas_lt (kd := .i64) hln⟩
  rw [take_snoc hr,List.any_append,← Bool.or_assoc,hkn]
  rfl
 | false =>
  simp (disch:=try exact DI) only [↓PR,QR,simprocAttr,(cells_of_heap (ED.obj hp)).1,dn',hA4.c4 ED,(cells_of_heap ((e2.trans eD).obj oY)).1,hwn]
  refine ⟨⟨n+1,rfl,by omega,e2.trans eD,?_⟩,meas_lt (kd := .i64) hln⟩
  rw [take_snoc hr,List.any_append,← Bool.or_assoc,hkn]
  simp
end
theorem rCheckSession_ret (w0:World) (v:Value) (s:SesD) (hs:SesVal w0 v s) (hF:∀ r∈s.roles,RolFit r) (hl:s.roles.length≤1000000000):Ret Pg 27 #[v] w0 fun u w'=>u = .tuple #[.int .i64 (checkS s).1,.int .i64 (checkS s).2]∧Ext w0 w':=by
 obtain ⟨rv,rfl,hR⟩:=hs
 have o1:=SliceOf.oneCell hR
 refine n14s (R:=retR _) ?_;unfold n14
 rw [op_boxA]
 have hp:=heap_new w0 (sesCells s rv).toArray TSes
 have eW:Ext w0 (w0.alloc (.cells (sesCells s rv).toArray TSes)):=ee
 generalize (w0.alloc (.cells (sesCells s rv).toArray TSes))=W at hp eW ⊢
 generalize w0.heap.size=p at hp ⊢
 simp (disch:=try exact DI) only [↓PR,QR,simprocAttr,(cells_of_heap hp).1]
 refine zcr (rName_ret W s.name) fun w1 e1=>?_
 have E1:=eW.trans e1
 have hp1:=e1.obj hp
 have hR1:=hR.ext E1
 unfold checkS
 by_cases hn:nameB s.name=false
 · rw [if_pos hn]
   simp (disch:=try exact DI) only [↓PR,QR,simprocAttr,hn]
   exact ⟨by trivial,E1⟩
 have hn:nameB s.name=true:=by simpa using hn
 rw [hn,if_neg (by simp)]
 obtain ⟨A,c,rfl,_,_,hlm,hel⟩:=SliceOf.open hR1
 by_cases h1:s.roles.length < 2
 · have d1:decide ((s.roles.length:Int) < 2)=true:=decide_eq_true (by omega)
   rw [if_pos (by omega)]
   simp (disch:=try exact DI) only [↓PR,QR,simprocAttr,d1,↓n14c17,↓n14c16,↓n14c15,↓n14c14,↓n14c13,↓n14c12,(cells_of_heap hp1).1]
   exact ⟨by trivial,E1⟩
 have d1:decide ((s.roles.length:Int) < 2)=false:=decide_eq_false (by omega)
 by_cases h2:4 < s.roles.length
 · have d2:decide ((s.roles.length:Int) > 4)=true:=decide_eq_true (by omega)
   rw [if_pos (by omega)]
   simp (disch:=try exact DI) only [↓PR,QR,simprocAttr,d1,d2,↓n14c17,↓n14c16,↓n14c15,↓n14c14,↓n14c13,↓n14c12,(cells_of_heap hp1).1]
   exact ⟨by trivial,E1⟩
 have d2:decide ((s.roles.length:Int) > 4)=false:=decide_eq_false (by omega)
 by_cases h3:s.cls < 1
 · have d3:decide (s.cls < 1)=true:=decide_eq_true (by omega)
   rw [if_pos (by omega)]
   simp (disch:=try exact DI) only [↓PR,QR,simprocAttr,d1,d2,d3,↓n14c17,↓n14c16,↓n14c15,↓n14c14,↓n14c13,↓n14c12,(cells_of_heap hp1).1]
   exact ⟨by trivial,E1⟩
 have d3:decide (s.cls < 1)=false:=decide_eq_false (by omega)
 by_cases h4:3 < s.cls
 · have d4:decide (s.cls > 3)=true:=decide_eq_true (by omega)
   rw [if_pos (by omega)]
   simp (disch:=try exact DI) only [↓PR,QR,simprocAttr,d1,d2,d3,d4,↓n14c17,↓n14c16,↓n14c15,↓n14c14,↓n14c13,↓n14c12,(cells_of_heap hp1).1]
   exact ⟨by trivial,E1⟩
 have d4:decide (s.cls > 3)=false:=decide_eq_false (by omega)
 by_cases h5:s.capacity < 1
 · have d5:decide (s.capacity < 1)=true:=decide_eq_true (by omega)
   rw [if_pos (by omega)]
   simp (disch:=try exact DI) only [↓PR,QR,simprocAttr,d1,d2,d3,d4,d5,↓n14c17,↓n14c16,↓n14c15,↓n14c14,↓n14c13,↓n14c12,(cells_of_heap hp1).1]
   exact ⟨by trivial,E1⟩
 have d5:decide (s.capacity < 1)=false:=decide_eq_false (by omega)
 by_cases h6:4 < s.capacity
 · have d6:decide (s.capacity > 4)=true:=decide_eq_true (by omega)
   rw [if_pos (by omega)]
   simp (disch:=try exact DI) only [↓PR,QR,simprocAttr,d1,d2,d3,d4,d5,d6,↓n14c17,↓n14c16,↓n14c15,↓n14c14,↓n14c13,↓n14c12,(cells_of_heap hp1).1]
   exact ⟨by trivial,E1⟩
 have d6:decide (s.capacity > 4)=false:=decide_eq_false (by omega)
 rw [if_neg (by omega)]
 simp (disch:=try exact DI) only [↓PR,QR,simprocAttr,d1,d2,d3,d4,d5,d6,↓n14c17,↓n14c16,↓n14c15,↓n14c14,↓n14c13,↓n14c12,(cells_of_heap hp1).1]
 refine loop1_intro (fun a w=>∃ k:Nat,a = .int .i64 k∧k≤s.roles.length∧Ext w1 w∧rolesE [] s.roles 0=rolesE (s.roles.take k) (s.roles.drop k) (k:Int)) (fun a _=>s.roles.length - (intOf a).toNat) ⟨0,rfl,by omega,Ext.refl _,rfl⟩ ?_
 rintro _ w ⟨k,rfl,hk,e,hI⟩
 by_cases hlt:k < s.roles.length
 · obtain ⟨x,hx⟩:=getElem?_lt hlt
   obtain ⟨b,o,cs,rfl,_,hA,sv,cv,tv,rfl,i1,i2,i3⟩:=hel k x hx
   have dk:(k:Int) < (s.roles.length:Int):=by omega
   have dl:decide ((k:Int) < (s.roles.length:Int))=true:=decide_eq_true dk
   have hw:IntKind.i64.wrap ((k:Int)+1)=((k+1:Nat):Int):=by rw [wrap_ok (by omega) (by omega)];omega
   have f1:=SliceOf.oneCell i1
   have f2:=SliceOf.oneCell i2
   have f3:=SliceOf.oneCell i3
   rw [drop_at hx,rolesE_cons] at hI
   simp (disch:=try exact DI) only [↓PR,QR,simprocAttr,(cells_of_heap (e.obj hp1)).1,dk,dl,↓n14c11,↓n14c10,hA.c4 e]
   refine zcr (rCheck_ret w _ x ⟨sv,cv,tv,rfl,i1.ext e,i2.ext e,i3.ext e⟩ (hF x (List.mem_of_getElem? hx)).2) fun w2 e2=>?_
   have E2:=e.trans e2
   by_cases hc:(checkR x).2=0
   · have q2:((checkR x).2 != 0)=false:=by simp [hc]
     rw [if_neg (fun h=>h hc)] at hI
     simp (disch:=try exact DI) only [↓PR,QR,simprocAttr,↓n14c3,q2]
     refine loop1_intro (fun a w'=>∃ j:Nat,a = .int .i64 j∧j≤k∧Ext w2 w'∧∀ (i:Nat) y,i < j→s.roles[i]?=some y→decide (y.name=x.name)=false) (fun a _=>k - (intOf a).toNat) ⟨0,rfl,by omega,Ext.refl _,fun i y h=>by omega⟩ ?_
     rintro _ w3 ⟨j,rfl,hj,e3,hJ⟩
     have E3:=E2.trans e3
     unfold n14c2
     by_cases hlj:j < k
     · have dj:decide ((j:Int) < (k:Int))=true:=decide_eq_true (by omega)
       have hwj:IntKind.i64.wrap ((j:Int)+1)=((j+1:Nat):Int):=by rw [wrap_ok (by omega) (by omega)];omega
       obtain ⟨y,hy⟩:=getElem?_lt (show j < s.roles.length by omega)
       obtain ⟨b4,o4,cs4,hbo,_,hA4,sv4,cv4,tv4,rfl,g1,g2,g3⟩:=hel j y hy
       simp (disch:=try exact DI) only [↓PR,QR,simprocAttr,dj]
       refine drawK_intro ?_
       have eD:Ext w3 (Sw.drew w3):=(Ext.refl w3).drew
       generalize Sw.drew w3=D at eD ⊢
       have ED:=E3.trans eD
       have dj':(j:Int) < (s.roles.length:Int):=by omega
       injection hbo with hbo
       injection hbo with hb4 ho4
       subst hb4 ho4
       unfold n14c1
       cases hp:decide (y.name=x.name) with
       | true =>
        have ha:=any_at (p:=fun z:RolD=>decide (z.name=x.name)) hlj hy hp
        rw [if_pos ha] at hI
        rw [hI]
        simp (disch:=try exact DI) only [↓PR,QR,simprocAttr,(cells_of_heap (ED.obj hp1)).1,dj',dk,hA4.c4 ED,hA.c4 ED,hp]
        exact ⟨by simp,E1.trans ED⟩
       | false =>
        simp (disch:=try exact DI) only [↓PR,QR,simprocAttr,(cells_of_heap (ED.obj hp1)).1,dj',dk,hA4.c4 ED,hA.c4 ED,hp,hwj]
        exact ⟨⟨j+1,rfl,by omega,e3.trans eD,before_succ hJ hy hp⟩,meas_lt (kd := .i64) hlj⟩
     · obtain rfl:j=k:=by omega
       have dj:decide ((j:Int) < (j:Int))=false:=decide_eq_false (by omega)
       have ha:=take_any hJ
       rw [if_neg (by rw [ha];simp)] at hI
       simp (disch:=try exact DI) only [↓PR,QR,simprocAttr,dj,hw]
       exact ⟨⟨j+1,rfl,by omega,E3,by rw [hI,take_snoc hx];rfl⟩,meas_lt (kd := .i64) hlt⟩
   · have q2:((checkR x).2 != 0)=true:=by simp [hc]
     rw [if_pos hc] at hI
     rw [hI,if_pos hc]
     simp (disch:=try exact DI) only [↓PR,QR,simprocAttr,↓n14c3,q2]
     exact ⟨by trivial,E1.trans E2⟩
 · obtain rfl:k=s.roles.length:=by omega
   have dl:decide ((s.roles.length:Int) < (s.roles.length:Int))=false:=decide_eq_false (by omega)
   rw [List.drop_length] at hI
   have hI2:(rolesE [] s.roles 0).2=0:=by rw [hI];rfl
   rw [if_neg (fun h=>h hI2)]
   have E0:=E1.trans e
   clear hI hlt hk
   simp (disch:=try exact DI) only [↓PR,QR,simprocAttr,dl,↓n14c11,(cells_of_heap (e.obj hp1)).1]
   refine loop1_intro (fun a w'=>∃ k:Nat,a = .int .i64 k∧k≤s.roles.length∧Ext w w'∧peersE s.roles s.roles 0=peersE s.roles (s.roles.drop k) (k:Int)) (fun a _=>s.roles.length - (intOf a).toNat) ⟨0,rfl,by omega,Ext.refl _,rfl⟩ ?_
   rintro _ w2 ⟨k,rfl,hk,e2,hI⟩
   have E2:=e.trans e2
   by_cases hlt:k < s.roles.length
   · obtain ⟨x,hx⟩:=getElem?_lt hlt
     have dl:decide ((k:Int) < (s.roles.length:Int))=true:=decide_eq_true (by omega)
     rw [drop_at hx,peersE_cons] at hI
     simp (disch:=try exact DI) only [↓PR,QR,simprocAttr,dl,↓n14c9,(cells_of_heap (E2.obj hp1)).1]
     refine rses_steps (w0:=w1) E2 (E2.obj hp1) (hR.ext (E1.trans E2)) hl hx (hF x (List.mem_of_getElem? hx)) (fun ha w' e'=>?_) fun ha w' e'=>?_
     · rw [if_neg (by rw [ha];simp)] at hI
       rw [hI]
       exact ⟨_,rfl,by trivial,E1.trans (E2.trans e')⟩
     · rw [if_pos ha] at hI
       exact ⟨⟨k+1,rfl,by omega,e2.trans e',hI⟩,meas_lt (kd := .i64) hlt⟩
   · obtain rfl:k=s.roles.length:=by omega
     have dl:decide ((s.roles.length:Int) < (s.roles.length:Int))=false:=decide_eq_false (by omega)
     rw [List.drop_length] at hI
     rw [hI]
     simp (disch:=try exact DI) only [↓PR,QR,simprocAttr,dl,↓n14c9,(cells_of_heap (E2.obj hp1)).1]
     exact ⟨by trivial,E1.trans E2⟩
theorem WsC.slice {w:World} {v:Value} {b o cap:Nat} {ws:List ByteArray} (h:WsC w v b o cap ws):SliceOf w 1 EStr v ws :=
 ⟨_,cap,h.val,h.le,h.lim,fun _=>⟨b,o,rfl,fun k x hx=>⟨[.string x],rfl,fun j v hv=>by
  cases j with
  | succ j=>cases hv
  | zero =>
   injection hv with hv
   subst hv
   have:=h.at_ k x hx
   simpa using this,rfl⟩⟩⟩
theorem goR_eq (f:Nat) (acc:List RolD) (L:List (List ByteArray)) (n:Nat):goR (f+1) acc L n=if L=[] then (some acc,n) else if (refR L).2 < 0 then (none,n+(-(refR L).2).toNat) else goR f (acc++[(refR L).1]) (L.drop (refR L).2.toNat) (n+(refR L).2.toNat):=rfl
theorem goR_nil {f:Nat} {acc:List RolD} {n:Nat}:goR f acc [] n=(some acc,n):=by
 cases f with
 | zero=>rfl
 | succ f=>rfl
theorem refR_pos {L:List (List ByteArray)} (h:¬ (refR L).2 < 0):1≤(refR L).2∧(refR L).2≤L.length:=by
 unfold refR at h ⊢
 have hge:=roleP_ge L
 cases hr:roleP L with
 | mk o n =>
 rw [hr] at h hge
 have hge:1≤n:=hge
 cases o with
 | none=>simp only at h;omega
 | some r =>
  have hn:=(roleP_read hr).2.2.2.2.2
  simp only at h ⊢
  cases hd:L.drop n with
  | nil=>simp only;omega
  | cons w t =>
   rw [hd] at h
   simp only at h ⊢
   split
   · simp only;omega
   · rename_i hh
     rw [if_neg hh] at h
     simp only at h
     omega
theorem sesP_head {k:ByteArray} {ws:List ByteArray} {L:List (List ByteArray)} (h:k=kSession→headP ws=none):sesP ((k::ws)::L)=(none,1):=by
 rw [sesP_eq]
 by_cases hk:k=kSession
 · rw [if_pos hk,h hk]
 · rw [if_neg hk]
theorem headP_three (a b c:ByteArray):headP [a,b,c]=if nameB a then (if classI b=0 then none else (numB c).map fun n=>⟨a,classI b,n⟩) else none:=by
 unfold headP
 rw [nameP_eq]
 by_cases ha:nameB a=true
 · rw [if_pos ha,if_pos ha]
   show (if classI b=0 then none else _)=_
   by_cases hb:classI b=0
   · rw [if_pos hb,if_pos hb]
   · rw [if_neg hb,if_neg hb,numP_cons]
     cases numB c<;>rfl
 · rw [if_neg ha,if_neg ha]
   rfl
theorem headP_len {ws:List ByteArray} (h:ws.length≠3):headP ws=none:=by
 match ws,h with
 | [],_=>rfl
 | [a],_ =>
  unfold headP
  rw [nameP_eq]
  split<;>rfl
 | [a,b],_ =>
  unfold headP
  rw [nameP_eq]
  split
  · show (if classI b=0 then none else _)=none
    split<;>rfl
  · rfl
 | a::b::c::d::l,_ =>
  unfold headP
  rw [nameP_eq]
  split
  · show (if classI b=0 then none else _)=none
    split
    · rfl
    · rw [numP_cons]
      cases numB c<;>rfl
  · rfl
 | [a,b,c],h=>exact absurd rfl h
abbrev SsR (w0:World) (text:ByteArray):Ending→World→Prop:=retR fun u w'=>(∃ v,u = .tuple #[v,.int .i64 (parseS text).2.1,.int .i64 (parseS text).2.2]∧SesOwn w' w0.heap.size v (parseS text).1)∧Ext w0 w'
abbrev zSes:Array Value:=(sesCells zeroSes (.slice none 0 0)).toArray
theorem ss_zero {w0 w:World} {text:ByteArray} {p2:Nat} {a c:Int} (l2:w0.heap.size≤p2) (e:Ext w0 w) (hR:parseS text=(zeroSes,a,c)):(∃ v,Value.tuple #[.agg zSes,.int .i64 a,.int .i64 c] = .tuple #[v,.int .i64 (parseS text).2.1,.int .i64 (parseS text).2.2]∧SesOwn ((((w.setCell ⟨p2,0,none⟩ (.string ByteArray.empty)).setCell ⟨p2,1,none⟩ (.slice none 0 0)).setCell ⟨p2,2,none⟩ (.int .i64 0)).setCell ⟨p2,3,none⟩ (.int .i64 0)) w0.heap.size v (parseS text).1)∧Ext w0 ((((w.setCell ⟨p2,0,none⟩ (.string ByteArray.empty)).setCell ⟨p2,1,none⟩ (.slice none 0 0)).setCell ⟨p2,2,none⟩ (.int .i64 0)).setCell ⟨p2,3,none⟩ (.int .i64 0)):=by
 refine ⟨⟨.agg zSes,by rw [hR],by rw [hR];exact SesOwn.zero _ _⟩,?_⟩
 exact (((e.setCell (p:=⟨p2,0,none⟩) l2 _).setCell (p:=⟨p2,1,none⟩) l2 _).setCell (p:=⟨p2,2,none⟩) l2 _).setCell (p:=⟨p2,3,none⟩) l2 _
section
variable {w0 W0 w:World} {p2 p7 b o cap0:Nat} {text:ByteArray} {lines:List ByteArray} {v0:Value} {nm:ByteArray} {cls cap:Int}
theorem rs_loop (E0:Ext w0 W0) (l2:w0.heap.size≤p2) (h2:W0.heap[p2]?=some (.cells zSes TSes (0,0))) (hW:WsC W0 v0 b o cap0 lines) (hz:∀ x∈lines,x.size≤90000) (hl:lines.length≤100000) (h7:W0.heap.size≤p7) (e0:Ext W0 w) (ho:w.heap[p7]?=some (.cells (sesCells ⟨nm,[],cls,cap⟩ (.slice none 0 0)).toArray TSes (0,0))) (hln:1≤lines.length)
 (hok:∀ rs,goS ((lines.map spW).drop 1).length [] ((lines.map spW).drop 1) 1=(some rs,lines.length)→parseS text=(if (checkS ⟨nm,rs,cls,cap⟩).2=0 then (⟨nm,rs,cls,cap⟩,0,0) else (zeroSes,0,(checkS ⟨nm,rs,cls,cap⟩).2))∧∀ r∈rs,RolFit r)
 (hno:∀ n,goS ((lines.map spW).drop 1).length [] ((lines.map spW).drop 1) 1=(none,n)→parseS text=(zeroSes,(n:Int),6)) :
 loop1 (fun t11 w next8=>n17c10 (.pointer (some ⟨p2,0,none⟩)) (.pointer (some ⟨p7,0,none⟩)) t11 v0 next8 (SsR w0 text) w) (.int .i64 1) w:=by
 obtain rfl:=hW.val
 generalize hL:lines.map spW=L at hok hno
 have hLl:L.length=lines.length:=by rw [← hL,List.length_map]
 have hp7:p7 < w.heap.size:=(Array.getElem?_eq_some_iff.1 ho).1
 have hp2:p2 < W0.heap.size:=(Array.getElem?_eq_some_iff.1 h2).1
 refine loop1_intro (fun a w=>∃ (at_:Nat) (vv:Value) (acc:List RolD) (f:Nat),a = .int .i64 at_∧Ext W0 w∧w.heap[p7]?=some (.cells (sesCells ⟨nm,acc,cls,cap⟩ vv).toArray TSes (0,0))∧RolsK w (p7+1) vv acc∧acc.length+1≤at_∧at_≤lines.length∧lines.length≤at_+f∧goS (L.drop 1).length [] (L.drop 1) 1=goR f acc (L.drop at_) at_) (fun a _=>lines.length - (intOf a).toNat) ⟨1,_,[],(L.drop 1).length,rfl,e0,ho,RolsK.nil _ _,by simp,hln,by rw [List.length_drop];omega,goS_ref _ _ _ _ (Nat.le_refl _)⟩ ?_
 clear ho
 have hpw:=hp7
 clear hp7
 rintro _ w ⟨at_,vv,acc,f,rfl,e,ho,hK,ha,hal,hf,hG⟩
 have hp7:p7 < w.heap.size:=(Array.getElem?_eq_some_iff.1 ho).1
 have E:=E0.trans e
 have hov:vv.oneCell'=true:=SliceOf.oneCell hK.of
 have h2w:=e.obj h2
 unfold n17c10
 by_cases hlt:at_ < lines.length
 case neg =>
  obtain rfl:at_=lines.length:=by omega
  have d1:decide ((lines.length:Int) < (lines.length:Int))=false:=decide_eq_false (by omega)
  rw [← hLl,List.drop_length,goR_nil] at hG
  rw [hLl] at hG
  obtain ⟨hpp,hfit⟩:=hok acc hG
  simp (disch:=try exact DI) only [↓PR,QR,simprocAttr,d1,(cells_of_heap ho).1]
  refine zcr (rCheckSession_ret w _ ⟨nm,acc,cls,cap⟩ ⟨vv,rfl,hK.of⟩ hfit (by show acc.length≤_;omega)) fun w3 e3=>?_
  have ho3:=e3.obj ho
  have h23:=e3.obj h2w
  have E3:=E.trans e3
  by_cases hc0:(checkS ⟨nm,acc,cls,cap⟩).2=0
  · have d2:((checkS ⟨nm,acc,cls,cap⟩).2 != 0)=false:=by simp [hc0]
    rw [if_pos hc0] at hpp
    simp (disch:=try exact DI) only [↓PR,QR,simprocAttr,↓n17c8,d2,↓n17c7,(cells_of_heap ho3).1,(cells_of_heap h23).1,(cells_of_heap h23).2]
    have hb5:∀ b,b≠p2→((((w3.setCell ⟨p2,0,none⟩ (.string nm)).setCell ⟨p2,1,none⟩ vv).setCell ⟨p2,2,none⟩ (.int .i64 cls)).setCell ⟨p2,3,none⟩ (.int .i64 cap)).heap[b]?=w3.heap[b]?:=fun b hb=>by simp only [Only.setCell _ p2 _ _ b hb]
    refine ⟨⟨_,by rw [hpp],?_⟩,?_⟩
    · rw [hpp]
      exact ⟨vv,rfl,((hK.ext e3).keep fun b hb _=>hb5 b (by omega)).base (by have:=E0.size;omega)⟩
    · exact (((E3.setCell (p:=⟨p2,0,none⟩) l2 _).setCell (p:=⟨p2,1,none⟩) l2 _).setCell (p:=⟨p2,2,none⟩) l2 _).setCell (p:=⟨p2,3,none⟩) l2 _
  · have d2:((checkS ⟨nm,acc,cls,cap⟩).2 != 0)=true:=by simp [hc0]
    rw [if_neg hc0] at hpp
    simp (disch:=try exact DI) only [↓PR,QR,simprocAttr,↓n17c8,d2,↓n17c6,(cells_of_heap h23).1,(cells_of_heap h23).2]
    exact ss_zero l2 E3 hpp
 have d1:decide ((at_:Int) < (lines.length:Int))=true:=decide_eq_true (by omega)
 have hWw:=hW.ext e
 have hD:=hWw.drop at_ hal
 have hne:lines.drop at_≠[]:=by
  intro e
  rw [List.drop_eq_nil_iff] at e
  omega
 simp (disch:=try exact DI) only [↓PR,QR,simprocAttr,d1,↓n17c9]
 rw [op_dropV at_ b o lines.length cap0 hal hWw.le]
 refine callK_ret (rrole_lines w _ (lines.drop at_) hD.slice hne (fun x hx=>Nat.le_trans (hz x (List.mem_of_mem_drop hx)) (by omega)) (by rw [List.length_drop];omega)) ?_
 rw [List.map_drop,hL]
 have hne2:L.drop at_≠[]:=by
  intro e
  rw [List.drop_eq_nil_iff] at e
  omega
 obtain ⟨f,rfl⟩:∃ f',f=f'+1:=⟨f - 1,by omega⟩
 rw [goR_eq,if_neg hne2] at hG
 have hnum:=refR_num (L.drop at_)
 have hpos:=refR_pos (L:=L.drop at_)
 rw [List.length_drop] at hnum hpos
 generalize refR (L.drop at_)=q at hG hnum hpos ⊢
 rintro _ w2 ⟨⟨x,rfl,sv,cv,tv,rfl,o1,o2,o3⟩,e2⟩
 have ov1:=own_one o1 fun _=>rfl
 have ov2:=own_one o2 fun _=>rfl
 have ov3:=own_one o3 fun _=>rfl
 have E2:=E.trans e2
 have ho2:=e2.obj ho
 have h22:=e2.obj h2w
 have s2:=e2.size
 have h6:(w2.alloc (.cells (rolCells q.1 sv cv tv).toArray TRol)).heap[w2.heap.size]?=some (.cells (rolCells q.1 sv cv tv).toArray TRol (0,0)):=heap_new _ _ _
 have eX:Ext w2 (w2.alloc (.cells (rolCells q.1 sv cv tv).toArray TRol)):=ee
 by_cases hn:q.2 < 0
 · have d2:decide (q.2 < 0)=true:=decide_eq_true hn
   rw [if_pos hn] at hG
   have hpp:=hno _ hG
   have hw:IntKind.i64.wrap ((at_:Int) - q.2)=((at_+(-q.2).toNat:Nat):Int):=by rw [wrap_ok (by omega) (by omega)];omega
   simp (disch:=try exact DI) only [↓PR,QR,simprocAttr,↓n17c5,d2]
   change n17c3 _ _ _ _ (w2.alloc (.cells (rolCells q.1 sv cv tv).toArray TRol))
   generalize (w2.alloc (.cells (rolCells q.1 sv cv tv).toArray TRol))=X at h6 eX ⊢
   have h2X:=eX.obj h22
   simp (disch:=try exact DI) only [↓PR,QR,simprocAttr,↓n17c3,hw,(cells_of_heap h2X).1,(cells_of_heap h2X).2]
   exact ss_zero l2 (E2.trans eX) hpp
 have d2:decide (q.2 < 0)=false:=decide_eq_false hn
 rw [if_neg hn] at hG
 have hpos:=hpos hn
 obtain ⟨n,hqn⟩:∃ n:Nat,q.2=n:=⟨q.2.toNat,by omega⟩
 rw [hqn,Int.toNat_natCast] at hG
 have hw:IntKind.i64.wrap ((at_:Int)+(n:Int))=((at_+n:Nat):Int):=by rw [wrap_ok (by omega) (by omega)];omega
 simp (disch:=try exact DI) only [↓PR,QR,simprocAttr,↓n17c5,d2]
 change n17c4 _ _ _ _ _ _ (w2.alloc (.cells (rolCells q.1 sv cv tv).toArray TRol))
 have sX:(w2.alloc (.cells (rolCells q.1 sv cv tv).toArray TRol)).heap.size=w2.heap.size+1:=Array.size_push ..
 generalize (w2.alloc (.cells (rolCells q.1 sv cv tv).toArray TRol))=X at h6 eX sX ⊢
 have hoX:=eX.obj ho2
 simp (disch:=try exact DI) only [↓PR,QR,simprocAttr,↓n17c4,(cells_of_heap h6).1,(cells_of_heap hoX).1]
 generalize hY:World.alloc X _=Y
 have eY:Ext X Y:=by rw [← hY];exact (Ext.refl X).alloc _
 have oY:ElemAt Y X.heap.size 0 (rolCells q.1 sv cv tv):=by rw [← hY];exact ElemAt.new _ _
 clear hY
 have e2Y:=eX.trans eY
 have ewY:=e2.trans e2Y
 have sY:=eY.size
 have hlo:=hK.lt
 have hrow:RowK Y (p7+1) vv.ownBlock ⟨q.1,sv,cv,tv⟩:=⟨(o1.ext e2Y).base (by omega),(o2.ext e2Y).base (by omega),(o3.ext e2Y).base (by omega),fun b hb e=>by
  have hlt1:=(hlo b e).2
  have:w.heap.size≤b:=by
   rcases hb with hb | hb | hb
   · exact (World.ownsRow.lt o1 b hb).1
   · exact (World.ownsRow.lt o2 b hb).1
   · exact (World.ownsRow.lt o3 b hb).1
  omega⟩
 refine append_role (hK.ext ewY) hrow oY (by omega) (by omega) ?_
 intro g cap' w4 hK4 hg hgg hgl
 have h74:w4.heap[p7]?=some (.cells (sesCells ⟨nm,acc,cls,cap⟩ vv).toArray TSes (0,0)):=(hg.block p7 (by omega) fun e=>by have:=(hlo p7 e.symm).1;omega).trans (eY.obj hoX)
 have e4:Ext W0 w4:=(e.trans ewY).grown hg fun b hb=>by have:=(hlo b hb).1;omega
 simp (disch:=try exact DI) only [↓PR,QR,simprocAttr,(cells_of_heap h74).1,(cells_of_heap h74).2,hqn,hw]
 refine ⟨⟨at_+n,_,acc++[q.1],f,rfl,e4.setCell (p:=⟨p7,1,none⟩) h7 _,heap_set h74 _,hK4.keep fun b hb1 _=>Only.setCell w4 p7 1 _ b (by omega),by simp;omega,by omega,by omega,?_⟩,?_⟩
 · rw [hG,List.drop_drop]
 · simp only [intOf,Int.toNat_natCast];omega
end
def clsU (n:Nat) (x:ByteArray):Int:=if 3 < n∧x=classB 3 then 3 else if 2 < n∧x=classB 2 then 2 else if 1 < n∧x=classB 1 then 1 else 0
theorem clsU_4 (x:ByteArray):clsU 4 x=classI x:=by
 unfold clsU classI
 by_cases h1:x=classB 1
 · subst h1;decide
 · by_cases h2:x=classB 2
   · subst h2;decide
   · by_cases h3:x=classB 3
     · subst h3;decide
     · simp [h1,h2,h3]
theorem clsU_step {n:Nat} (h1:1≤n) (h3:n≤3) (x:ByteArray):clsU (n+1) x=if x=classB n then (n:Int) else clsU n x:=by
 have:n=1∨n=2∨n=3:=by omega
 rcases this with rfl | rfl | rfl
 · unfold clsU
   by_cases h:x=classB 1<;>simp [h]
 · unfold clsU
   by_cases h:x=classB 2
   · simp [h]
   · simp [h]
 · unfold clsU
   by_cases h:x=classB 3
   · simp [h]
   · simp [h]
section
variable {W0 w:World} {p7:Nat} {R:RT} {a:ByteArray} {b1 o1 cap1:Nat} {ws:List ByteArray} {x:ByteArray} {t2 t17 v1:Value}
theorem rs_class (hV:WsC W0 v1 b1 o1 cap1 ws) (hx:ws[2]?=some x) (h7:W0.heap.size≤p7) (e0:Ext W0 w) (ho:w.heap[p7]?=some (.cells (sesCells ⟨a,[],0,0⟩ (.slice none 0 0)).toArray TSes (0,0)))
 (hk:∀ w,Ext W0 w→w.heap[p7]?=some (.cells (sesCells ⟨a,[],classI x,0⟩ (.slice none 0 0)).toArray TSes (0,0))→n17c14 t2 (.pointer (some ⟨p7,0,none⟩)) t17 v1 R w) :
 loop1 (fun t8 w next3=>n17c15 t2 (.pointer (some ⟨p7,0,none⟩)) t8 t17 v1 next3 R w) (.int .i64 1) w:=by
 obtain rfl:=hV.val
 have h2:=(List.getElem?_eq_some_iff.1 hx).1
 refine loop1_intro (fun i w=>∃ n:Nat,i = .int .i64 n∧1≤n∧n≤4∧Ext W0 w∧w.heap[p7]?=some (.cells (sesCells ⟨a,[],clsU n x,0⟩ (.slice none 0 0)).toArray TSes (0,0))) (fun i _=>4 - (intOf i).toNat) ⟨1,rfl,by omega,by omega,e0,ho⟩ ?_
 clear ho
 rintro _ w ⟨n,rfl,n1,n4,e,ho⟩
 unfold n17c15
 by_cases hlt:n≤3
 case neg =>
  obtain rfl:n=4:=by omega
  rw [clsU_4] at ho
  have d1:decide (((4:Nat):Int)≤3)=false:=by decide
  simp (disch:=try exact DI) only [↓PR,QR,simprocAttr,d1]
  exact hk w e ho
 have d1:decide ((n:Int)≤3)=true:=decide_eq_true (by omega)
 have hw:IntKind.i64.wrap ((n:Int)+1)=((n+1:Nat):Int):=by rw [wrap_ok (by omega) (by omega)];omega
 simp (disch:=try exact DI) only [↓PR,QR,simprocAttr,d1]
 refine drawK_intro ?_
 have eD:Ext w (Sw.drew w):=(Ext.refl w).drew
 have ho:=eD.obj ho
 generalize Sw.drew w=D at eD ho ⊢
 have ED:=e.trans eD
 have cx:=(hV.ext ED).at_ 2 x hx
 unfold n17c2
 rw [q_ws2 b1 o1 _ cap1 h2]
 simp (disch:=try exact DI) only [↓PR,QR,simprocAttr,cx]
 generalize hY:World.alloc D _=Y
 have eY:Ext D Y:=by rw [← hY];exact (Ext.refl D).alloc _
 have oY:Y.heap[D.heap.size]?=some (.cells clsCells.toArray 9 (0,0)):=by rw [← hY];exact heap_new _ _ _
 clear hY
 refine narrowK_EC eY ?_
 have hidx:∀ K:Value→Prop,qV Pg (EC Y) (Instr.indexAt 73 (.slice (some ⟨D.heap.size,0,none⟩) 4 4) (.int .i64 (n:Int))) K=K (.pointer (some ⟨D.heap.size,0+n*1,none⟩)):=fun K=>qV_of fun QP w k=>op_indexN Tryz.underlying73 ty9 D.heap.size 0 4 4 .i64 n (by omega)
 have hcl:=cls_cell oY n1 hlt
 have hoY:=eY.obj ho
 have EY:=ED.trans eY
 unfold n17c1
 rw [hidx]
 generalize 0+n*1=o at hcl
 have hst:=clsU_step n1 hlt x
 cases hp:decide (x=classB n) with
 | true =>
  rw [if_pos (of_decide_eq_true hp)] at hst
  simp (disch:=try exact DI) only [↓PR,QR,simprocAttr,hcl,hp,(cells_of_heap hoY).1,(cells_of_heap hoY).2,hw]
  refine ⟨⟨n+1,rfl,by omega,by omega,EY.setCell (p:=⟨p7,2,none⟩) h7 _,?_⟩,by simp only [intOf,Int.toNat_natCast];omega⟩
  rw [hst]
  exact heap_set hoY _
 | false =>
  rw [if_neg (of_decide_eq_false hp)] at hst
  simp (disch:=try exact DI) only [↓PR,QR,simprocAttr,hcl,hp,hw]
  exact ⟨⟨n+1,rfl,by omega,by omega,EY,by rw [hst];exact hoY⟩,by simp only [intOf,Int.toNat_natCast];omega⟩
end
theorem rParseSession_ret (w0:World) (text:ByteArray) (hz:text.size≤90000):Ret Pg 31 #[.string text] w0 fun u w'=>(∃ v,u = .tuple #[v,.int .i64 (parseS text).2.1,.int .i64 (parseS text).2.2]∧SesOwn w' w0.heap.size v (parseS text).1)∧Ext w0 w':=by
 obtain ⟨hln,hlz⟩:=lines_small text
 refine n17s (R:=retR _) ?_;unfold n17
 simp (disch:=try exact DI) only [↓PR,QR,simprocAttr]
 have eW:Ext w0 (w0.alloc (.cells zSes TSes)):=ee
 have h2:(w0.alloc (.cells zSes TSes)).heap[w0.heap.size]?=some (.cells zSes TSes (0,0)):=heap_new _ _ _
 have sW:(w0.alloc (.cells zSes TSes)).heap.size=w0.heap.size+1:=Array.size_push ..
 change callK _ _ _ _ (w0.alloc (.cells zSes TSes)) _
 generalize (w0.alloc (.cells zSes TSes))=W at eW h2 sW ⊢
 refine callK_ret (cut_ret W text 10 (by omega)) ?_
 rintro u w1 ⟨hO,e1⟩
 have hSl:SliceOf w1 1 EStr u (cutW 10 text):=OwnE.slice hO (fun _=>rfl) (fun _ _=>rfl)
 have hLT:linesT text=(cutW 10 text).map spW:=rfl
 have hne:=cutW_ne 10 text
 generalize hlines:cutW 10 text=lines at hSl hln hlz hLT hne
 obtain ⟨b,o,cap0,hW⟩:=ws_of hSl hne
 obtain rfl:=hW.val
 have E1:=eW.trans e1
 have h21:=e1.obj h2
 cases lines with
 | nil=>exact absurd rfl hne
 | cons l0 rest =>
 have i0:0 < (l0::rest).length:=by simp
 have c0:w1.cell? ⟨b,o,none⟩=some (.string l0):=hW.at_ 0 l0 rfl
 have hl0:=hlz l0 (List.mem_cons_self ..)
 unfold n17c20
 rw [op_ws0 b o _ cap0 i0]
 simp (disch:=try exact DI) only [↓PR,QR,simprocAttr,c0]
 refine callK_ret (cut_ret w1 l0 32 (by omega)) ?_
 rintro u w2 ⟨hO2,e2⟩
 have hSw:SliceOf w2 1 EStr u (cutW 32 l0):=OwnE.slice hO2 (fun _=>rfl) (fun _ _=>rfl)
 have E2:=E1.trans e2
 have h22:=e2.obj h21
 have hW2:=hW.ext e2
 have hmap:linesT text=cutW 32 l0::rest.map spW:=by rw [hLT,List.map_cons,spW_cut]
 cases hc:cutW 32 l0 with
 | nil=>exact absurd hc (cutW_ne 32 l0)
 | cons k ws =>
 rw [hc] at hSw hmap
 obtain ⟨b1,o1,cap1,hV⟩:=ws_of hSw (by simp)
 obtain rfl:=hV.val
 have bad:(k=kSession→headP ws=none)→parseS text=(zeroSes,1,6):=fun h=>by
  unfold parseS
  rw [hmap,sesP_head h]
  rfl
 have bad16:(k=kSession→headP ws=none)→∀ w,Ext w0 w→w.heap[w0.heap.size]?=some (.cells zSes TSes (0,0))→n17c16 (.pointer (some ⟨w0.heap.size,0,none⟩)) (SsR w0 text) w:=fun h w e ho=>by
  unfold n17c16
  simp (disch:=try exact DI) only [↓PR,QR,simprocAttr,(cells_of_heap ho).1,(cells_of_heap ho).2]
  exact ss_zero (Nat.le_refl _) e (bad h)
 unfold n17c19
 by_cases hl3:ws.length=3
 case neg =>
  have d1:((((k::ws).length:Nat):Int) != 4)=true:=by simp only [bne_iff_ne,ne_eq,List.length_cons];omega
  simp (disch:=try exact DI) only [↓PR,QR,simprocAttr,d1,↓n17c18]
  exact bad16 (fun _=>headP_len hl3) _ E2 h22
 match ws,hl3 with
 | [x1,x2,x3],_ =>
 have d1:((((k::[x1,x2,x3]).length:Nat):Int) != 4)=false:=rfl
 have j0:0 < (k::[x1,x2,x3]).length:=by simp
 have j1:1 < (k::[x1,x2,x3]).length:=by simp
 have j3:3 < (k::[x1,x2,x3]).length:=by simp
 have ck:w2.cell? ⟨b1,o1,none⟩=some (.string k):=hV.at_ 0 k rfl
 have cx:=hV.at_ 1 x1 rfl
 by_cases hk:k=kSession
 case neg =>
  have q1:(!decide (k=⟨#[115,101,115,115,105,111,110]⟩))=true:=by simp [hk]
  simp (disch:=try exact DI) only [↓PR,QR,simprocAttr,d1,op_ws0 b1 o1 _ cap1 j0,Nat.add_zero,ck,q1,↓n17c18]
  exact bad16 (fun e=>absurd e hk) _ E2 h22
 subst hk
 have q1:decide (kSession=⟨#[115,101,115,115,105,111,110]⟩)=true:=decide_eq_true rfl
 simp (disch:=try exact DI) only [↓PR,QR,simprocAttr,d1,op_ws0 b1 o1 _ cap1 j0,Nat.add_zero,ck,q1,Bool.not_true,↓n17c18,op_ws1 b1 o1 _ cap1 j1,cx]
 refine zcr (rName_ret w2 x1) fun w3 e3=>?_
 have E3:=E2.trans e3
 have h23:=e3.obj h22
 cases hn:nameB x1 with
 | false =>
  simp (disch:=try exact DI) only [↓PR,QR,simprocAttr,d1,q1,Bool.not_true]
  exact bad16 (fun _=>by rw [headP_three,hn];rfl) _ E3 h23
 | true =>
 have hV3:=hV.ext e3
 have hW3:=hW2.ext e3
 have cx:=hV3.at_ 1 x1 rfl
 simp (disch:=try exact DI) only [↓PR,QR,simprocAttr,d1,q1,Bool.not_true,↓n17c17,op_ws1 b1 o1 _ cap1 j1,cx]
 have eX:Ext w3 (w3.alloc (.cells (sesCells ⟨x1,[],0,0⟩ (.slice none 0 0)).toArray TSes)):=ee
 have h7:(w3.alloc (.cells (sesCells ⟨x1,[],0,0⟩ (.slice none 0 0)).toArray TSes)).heap[w3.heap.size]?=some (.cells (sesCells ⟨x1,[],0,0⟩ (.slice none 0 0)).toArray TSes (0,0)):=heap_new _ _ _
 change loop1 _ _ (w3.alloc (.cells (sesCells ⟨x1,[],0,0⟩ (.slice none 0 0)).toArray TSes))
 generalize (w3.alloc (.cells (sesCells ⟨x1,[],0,0⟩ (.slice none 0 0)).toArray TSes))=X at eX h7 ⊢
 refine rs_class (x:=x2) hV3 rfl (Nat.le_refl _) eX h7 fun w4 e4 h74=>?_
 have cx3:=(hV3.ext e4).at_ 3 x3 rfl
 unfold n17c14
 rw [op_ws3 b1 o1 _ cap1 j3]
 simp (disch:=try exact DI) only [↓PR,QR,simprocAttr,cx3]
 refine callK_ret (rnumber_ret w4 x3) ?_
 rintro _ V' ⟨rfl,hV'⟩
 rw [hV',numT_eq]
 clear hV' V'
 have E4:=E3.trans e4
 have h24:=e4.obj h23
 have bad11:headP [x1,x2,x3]=none→∀ w,Ext w0 w→w.heap[w0.heap.size]?=some (.cells zSes TSes (0,0))→n17c11 (.pointer (some ⟨w0.heap.size,0,none⟩)) (SsR w0 text) w:=fun h w e ho=>by
  unfold n17c11
  simp (disch:=try exact DI) only [↓PR,QR,simprocAttr,(cells_of_heap ho).1,(cells_of_heap ho).2]
  exact ss_zero (Nat.le_refl _) e (bad fun _=>h)
 by_cases hci:classI x2=0
 · have q2:(classI x2 == 0)=true:=by simp [hci]
   simp (disch:=try exact DI) only [↓PR,QR,simprocAttr,↓n17c13,(cells_of_heap h74).1,q2]
   exact bad11 (by rw [headP_three,hn,if_pos rfl,if_pos hci]) w4 E4 h24
 have q2:(classI x2 == 0)=false:=by simp [hci]
 cases hnb:numB x3 with
 | none =>
  simp (disch:=try exact DI) only [↓PR,QR,simprocAttr,↓n17c13,(cells_of_heap h74).1,q2]
  exact bad11 (by rw [headP_three,hn,if_pos rfl,if_neg hci,hnb];rfl) w4 E4 h24
 | some cp =>
  have hh:headP [x1,x2,x3]=some ⟨x1,classI x2,cp⟩:=by rw [headP_three,hn,if_pos rfl,if_neg hci,hnb];rfl
  simp (disch:=try exact DI) only [↓PR,QR,simprocAttr,↓n17c13,(cells_of_heap h74).1,q2,↓n17c12,(cells_of_heap h74).2]
  have h75:(w4.setCell ⟨w3.heap.size,3,none⟩ (.int .i64 cp)).heap[w3.heap.size]?=some (.cells (sesCells ⟨x1,[],classI x2,cp⟩ (.slice none 0 0)).toArray TSes (0,0)):=heap_set (o:=3) h74 (.int .i64 cp)
  have hp7:w3.heap.size≤w3.heap.size:=Nat.le_refl _
  have hsp2:∀ oo m,goS (((l0::rest).map spW).drop 1).length [] (((l0::rest).map spW).drop 1) 1=(oo,m)→sesP (linesT text)=(oo.map fun rs=>⟨x1,rs,classI x2,cp⟩,m):=by
   intro oo m hg
   rw [List.map_cons,List.drop_succ_cons,List.drop_zero] at hg
   rw [hmap,sesP_eq,if_pos rfl,hh]
   simp only
   rw [hg]
   cases oo<;>rfl
  refine rs_loop (nm:=x1) (cls:=classI x2) (cap:=cp) (p2:=w0.heap.size) E3 (Nat.le_refl _) h23 hW3 (fun x hx=>Nat.le_trans (hlz x hx) (by omega)) (by omega) hp7 (e4.setCell (p:=⟨w3.heap.size,3,none⟩) hp7 _) h75 (by simp) (fun rs hg=>?_) fun n hg=>?_
  · have hs:=hsp2 _ _ hg
    refine ⟨by unfold parseS;rw [hs];rfl,fun r hr=>OkFit (lines_roles (s:=⟨x1,rs,classI x2,cp⟩) hz hs hr)⟩
  · have hs:=hsp2 _ _ hg
    unfold parseS
    rw [hs]
    rfl
theorem rolT_size {t:ByteArray} {r:RolD} (h:(checkR r).2=0):(rolT t r).size≤t.size+300001:=by
 have:=text_small h
 unfold rolT
 simp only [size_app]
 have e1:(⟨#[10]⟩:ByteArray).size=1:=rfl
 omega
theorem rTextSession_ret (w0:World) (v:Value) (s:SesD) (hs:SesVal w0 v s) (hc:(checkS s).2=0):Ret Pg 29 #[v] w0 fun u w'=>u = .string (textS s)∧Ext w0 w':=by
 obtain ⟨rv,rfl,hR⟩:=hs
 have o1:=SliceOf.oneCell hR
 have ho:=check_ses hc
 have ln:=ho.n2
 obtain ⟨A,c,rfl,_,_,_,hel⟩:=SliceOf.open hR
 refine n21s (R:=retR _) ?_;unfold n21
 rw [op_boxA]
 have hp:=heap_new w0 (sesCells s (.slice A s.roles.length c)).toArray TSes
 have eW:Ext w0 (w0.alloc (.cells (sesCells s (.slice A s.roles.length c)).toArray TSes)):=ee
 generalize (w0.alloc (.cells (sesCells s (.slice A s.roles.length c)).toArray TSes))=W at hp eW ⊢
 generalize w0.heap.size=p at hp ⊢
 refine drawK_intro ?_
 have eD:Ext W (Sw.drew W):=(Ext.refl W).drew
 generalize Sw.drew W=D at eD ⊢
 have ED:=eW.trans eD
 have hpD:=eD.obj hp
 have cp:=cells_of_heap hpD
 have z0:(sesT s).size≤400:=by
  have h1:=name100 ho.nm
  have h2:=classB_size s.cls
  have h3:=dec100 (n:=s.capacity) (by have h1:=ho.p1;have h2:=ho.p2;unfold Num10;omega)
  have e1:(⟨#[115,101,115,115,105,111,110,32]⟩:ByteArray).size=8:=rfl
  have e2:(⟨#[32]⟩:ByteArray).size=1:=rfl
  unfold sesT
  simp only [size_app,e1,e2]
  omega
 have loop:∀ w,Ext D w→loop2 (fun t3 t4 w next3=>n21c2 (.pointer (some ⟨p,0,none⟩)) t3 t4 next3 (retR fun u w'=>u = .string (textS s)∧Ext w0 w') w) (.string (sesT s)) (.int .i64 0) w:=by
  intro w e
  refine loop2_intro (fun a b w=>∃ (k:Nat) (t:ByteArray),a = .string t∧b = .int .i64 k∧k≤s.roles.length∧Ext D w∧t.size≤400+k*300001∧textS s=(s.roles.drop k).foldl rolT t) (fun _ b _=>s.roles.length - (intOf b).toNat) ⟨0,sesT s,rfl,rfl,by omega,e,by omega,rfl⟩ ?_
  rintro _ _ w ⟨k,t,rfl,rfl,hk,e,hz,ht⟩
  unfold n21c2
  have hzk:t.size≤2000000:=Nat.le_trans hz (by have:=Nat.mul_le_mul_right 300001 (Nat.le_trans hk ln);omega)
  by_cases hlt:k < s.roles.length
  · obtain ⟨x,hx⟩:=getElem?_lt hlt
    obtain ⟨b,o,cs,rfl,_,hA,sv,cv,tv,rfl,i1,i2,i3⟩:=hel k x hx
    have dk:(k:Int) < (s.roles.length:Int):=by omega
    have d1:decide ((k:Int) < (s.roles.length:Int))=true:=decide_eq_true dk
    have hw:IntKind.i64.wrap ((k:Int)+1)=((k+1:Nat):Int):=by rw [wrap_ok (by omega) (by omega)];omega
    have f1:=SliceOf.oneCell i1
    have f2:=SliceOf.oneCell i2
    have f3:=SliceOf.oneCell i3
    have hcx:=ho.rs x (List.mem_of_getElem? hx)
    obtain ⟨_,⟨l1,_⟩,⟨⟨_,l2⟩,_⟩,l3,_⟩:=check_parts hcx
    rw [drop_at hx,List.foldl_cons] at ht
    haveI j0:Szb t 2000000:=⟨hzk⟩
    simp (disch:=try exact DI) only [↓PR,QR,simprocAttr,(cells_of_heap (e.obj hpD)).1,d1,↓n21c1]
    rw [op_saddB _ _ _ _ rfl]
    simp (disch:=try exact DI) only [↓PR,QR,simprocAttr,(cells_of_heap (e.obj hpD)).1,dk,hA.c4 (ED.trans e)]
    have Ew:=ED.trans e
    refine zcr (rText_ret w _ x ⟨sv,cv,tv,rfl,i1.ext Ew,i2.ext Ew,i3.ext Ew⟩ (check_rd hcx) ⟨by omega,by omega,by omega⟩) fun w4 e4=>?_
    haveI j1:Szb (textP x) 300000:=⟨text_small hcx⟩
    rw [op_saddB _ _ _ _ rfl]
    simp (disch:=try exact DI) only [↓PR,QR,simprocAttr,hw]
    refine ⟨⟨k+1,_,rfl,rfl,by omega,e.trans e4,?_,ht⟩,meas_lt (kd := .i64) hlt⟩
    have:=rolT_size (t:=t) hcx
    have hm:(k+1)*300001=k*300001+300001:=by rw [Nat.add_mul,Nat.one_mul]
    rw [hm]
    exact Nat.le_trans this (by omega)
  · obtain rfl:k=s.roles.length:=by omega
    have d1:decide ((s.roles.length:Int) < (s.roles.length:Int))=false:=decide_eq_false (by omega)
    rw [List.drop_length,List.foldl_nil] at ht
    simp (disch:=try exact DI) only [↓PR,QR,simprocAttr,(cells_of_heap (e.obj hpD)).1,d1,ht]
    exact ⟨by trivial,ED.trans e⟩
 have cap1:=ho.p1
 have cap2:=ho.p2
 obtain ⟨kn,hkn⟩:∃ kn:Nat,s.cls=kn:=⟨s.cls.toNat,by have:=ho.c1;omega⟩
 have k1:1≤kn:=by have:=ho.c1;omega
 have k3:kn≤3:=by have:=ho.c2;omega
 haveI i0:=szb_name ho.nm
 haveI i1:Szb (classB kn) 100:=⟨classB_size _⟩
 haveI i2:Szb (decB s.capacity) 21:=szb_dec (by unfold Num10;omega)
 have hT:sesT s=⟨#[115,101,115,115,105,111,110,32]⟩++s.name++⟨#[32]⟩++classB kn++⟨#[32]⟩++decB s.capacity:=by rw [← hkn];rfl
 rw [hT] at loop
 unfold n21c6
 simp (disch:=try exact DI) only [↓PR,QR,simprocAttr,cp.1]
 rw [q_saddB _ _ _ _ rfl,q_saddB _ _ _ _ rfl]
 simp (disch:=try exact DI) only [↓PR,QR,simprocAttr,cp.1,hkn]
 refine ⟨?_,?_⟩
 · generalize hY:World.alloc D _=Y
   have eY:Ext D Y:=by rw [← hY];exact (Ext.refl D).alloc _
   have oY:Y.heap[D.heap.size]?=some (.cells clsCells.toArray 9 (0,0)):=by rw [← hY];exact heap_new _ _ _
   clear hY
   refine narrowK_EC eY ?_
   have hidx:∀ K:Value→Prop,qV Pg (EC Y) (Instr.indexAt 73 (.slice (some ⟨D.heap.size,0,none⟩) 4 4) (.int .i64 (kn:Int))) K=K (.pointer (some ⟨D.heap.size,0+kn*1,none⟩)):=fun K=>qV_of fun QP w k=>op_indexN Tryz.underlying73 ty9 D.heap.size 0 4 4 .i64 kn (by omega)
   have hcl:=cls_cell oY k1 k3
   unfold n21c3
   rw [hidx]
   generalize 0+kn*1=o at hcl
   simp (disch:=try exact DI) only [↓PR,QR,simprocAttr,hcl]
   rw [q_saddB _ _ _ _ rfl,q_saddB _ _ _ _ rfl]
   refine zcr (rDigits_ret Y s.capacity (by omega) (by omega)) fun w4 e4=>?_
   refine ⟨e4,?_⟩
   rw [q_saddB _ _ _ _ rfl]
   exact loop w4 (eY.trans e4)
 · refine zcr (rDigits_ret D s.capacity (by omega) (by omega)) fun w4 e4=>?_
   refine ⟨e4,?_⟩
   unfold n21c5
   simp (disch:=try exact DI) only [↓PR,QR,simprocAttr]
   generalize hY:World.alloc w4 _=Y
   have eY:Ext w4 Y:=by rw [← hY];exact (Ext.refl w4).alloc _
   have oY:Y.heap[w4.heap.size]?=some (.cells clsCells.toArray 9 (0,0)):=by rw [← hY];exact heap_new _ _ _
   clear hY
   refine narrowK_EC (e4.trans eY) ?_
   have hidx:∀ K:Value→Prop,qV Pg (EC Y) (Instr.indexAt 73 (.slice (some ⟨w4.heap.size,0,none⟩) 4 4) (.int .i64 (kn:Int))) K=K (.pointer (some ⟨w4.heap.size,0+kn*1,none⟩)):=fun K=>qV_of fun QP w k=>op_indexN Tryz.underlying73 ty9 w4.heap.size 0 4 4 .i64 kn (by omega)
   have hcl:=cls_cell oY k1 k3
   unfold n21c4
   rw [hidx]
   generalize 0+kn*1=o at hcl
   simp (disch:=try exact DI) only [↓PR,QR,simprocAttr,hcl]
   rw [q_saddB _ _ _ _ rfl,q_saddB _ _ _ _ rfl,q_saddB _ _ _ _ rfl]
   exact loop Y (e4.trans eY)
theorem rSameSes_ret (w0:World) (va vb:Value) (a b:SesD) (ha:SesVal w0 va a) (hb:SesVal w0 vb b):Ret Pg 32 #[va,vb] w0 fun u w'=>u = .bool (decide (a=b))∧Ext w0 w':=by
 obtain ⟨ra,rfl,hA⟩:=ha
 obtain ⟨rb,rfl,hB⟩:=hb
 obtain ⟨A1,c1,rfl,_,_,l1,hel⟩:=SliceOf.open hA
 obtain ⟨B1,d1,rfl,_,_,m1,hem⟩:=SliceOf.open hB
 refine n19s (R:=retR _) ?_;unfold n19
 rw [op_boxA]
 have hp:=heap_new w0 (sesCells a (.slice A1 a.roles.length c1)).toArray 57
 have eW0:Ext w0 (w0.alloc (.cells (sesCells a (.slice A1 a.roles.length c1)).toArray 57)):=ee
 generalize (w0.alloc (.cells (sesCells a (.slice A1 a.roles.length c1)).toArray 57))=W0 at hp eW0 ⊢
 generalize w0.heap.size=p at hp ⊢
 rw [op_boxA]
 have hq:=heap_new W0 (sesCells b (.slice B1 b.roles.length d1)).toArray 57
 have eW1:Ext W0 (W0.alloc (.cells (sesCells b (.slice B1 b.roles.length d1)).toArray 57)):=ee
 generalize (W0.alloc (.cells (sesCells b (.slice B1 b.roles.length d1)).toArray 57))=W at hq eW1 ⊢
 generalize W0.heap.size=q at hq ⊢
 replace hp:=eW1.obj hp
 have eW:=eW0.trans eW1
 have no:∀ w,Ext W w→a≠b→Value.bool false = .bool (decide (a=b))∧Ext w0 w:=fun w e h=>⟨by rw [decide_eq_false h],eW.trans e⟩
 by_cases g0:a.name=b.name
 case neg =>
  have z0:(!decide (a.name=b.name))=true:=by simp [g0]
  simp (disch:=try exact DI) only [↓PR,QR,simprocAttr,(cells_of_heap hp).1,(cells_of_heap hq).1,z0,g0,↓n19c5,↓n19c4]
  exact no _ (Ext.refl _) fun e=>g0 (by rw [e])
 have z0:decide (a.name=b.name)=true:=decide_eq_true g0
 by_cases g1:a.cls=b.cls
 case neg =>
  have z1:(a.cls != b.cls)=true:=by simp [g1]
  simp (disch:=try exact DI) only [↓PR,QR,simprocAttr,(cells_of_heap hp).1,(cells_of_heap hq).1,z0,Bool.not_true,z1,↓n19c5,↓n19c4]
  exact no _ (Ext.refl _) fun e=>g1 (by rw [e])
 have z1:(a.cls != b.cls)=false:=by simp [g1]
 by_cases g2:a.capacity=b.capacity
 case neg =>
  have z2:(a.capacity != b.capacity)=true:=by simp [g2]
  simp (disch:=try exact DI) only [↓PR,QR,simprocAttr,(cells_of_heap hp).1,(cells_of_heap hq).1,z0,Bool.not_true,z1,z2,↓n19c5,↓n19c4]
  exact no _ (Ext.refl _) fun e=>g2 (by rw [e])
 have z2:(a.capacity != b.capacity)=false:=by simp [g2]
 by_cases g3:a.roles.length=b.roles.length
 case neg =>
  have z3:((a.roles.length:Int) != (b.roles.length:Int))=true:=by simp only [bne_iff_ne,ne_eq];omega
  simp (disch:=try exact DI) only [↓PR,QR,simprocAttr,(cells_of_heap hp).1,(cells_of_heap hq).1,z0,Bool.not_true,z1,z2,z3,↓n19c5,↓n19c4]
  exact no _ (Ext.refl _) fun e=>g3 (by rw [e])
 have z3:((a.roles.length:Int) != (b.roles.length:Int))=false:=by rw [g3];simp
 simp (disch:=try exact DI) only [↓PR,QR,simprocAttr,(cells_of_heap hp).1,(cells_of_heap hq).1,z0,Bool.not_true,z1,z2,z3,↓n19c5,↓n19c4]
 refine loop1_intro (fun i w=>∃ k:Nat,i = .int .i64 k∧k≤a.roles.length∧Ext W w∧∀ (j:Nat) y z,j < k→a.roles[j]?=some y→b.roles[j]?=some z→y=z) (fun i _=>a.roles.length - (intOf i).toNat) ⟨0,rfl,by omega,Ext.refl _,fun j y z h=>by omega⟩ ?_
 rintro _ w ⟨k,rfl,hk,e,hbb⟩
 unfold n19c3
 by_cases hlt:k < a.roles.length
 · obtain ⟨x,hx⟩:=getElem?_lt hlt
   obtain ⟨y,hy⟩:=getElem?_lt (l:=b.roles) (k:=k) (by omega)
   obtain ⟨b1,o1,cs1,rfl,_,hA1,s1,s2,s3,rfl,i1,i2,i3⟩:=hel k x hx
   obtain ⟨b2,o2,cs2,rfl,_,hB1,t1,t2,t3,rfl,j1,j2,j3⟩:=hem k y hy
   have dk:(k:Int) < (a.roles.length:Int):=by omega
   have dk2:(k:Int) < (b.roles.length:Int):=by omega
   have d1:decide ((k:Int) < (a.roles.length:Int))=true:=decide_eq_true dk
   have hw:IntKind.i64.wrap ((k:Int)+1)=((k+1:Nat):Int):=by rw [wrap_ok (by omega) (by omega)];omega
   simp (disch:=try exact DI) only [↓PR,QR,simprocAttr,(cells_of_heap (e.obj hp)).1,d1]
   refine drawK_intro ?_
   have eD:Ext w (Sw.drew w):=(Ext.refl w).drew
   have e2:=e.trans eD
   generalize (Sw.drew w)=w2 at e2 ⊢
   clear eD
   simp (disch:=try exact DI) only [↓PR,QR,simprocAttr,↓n19c2,(cells_of_heap (e2.obj hp)).1,(cells_of_heap (e2.obj hq)).1,hA1.c4 (eW.trans e2),hB1.c4 (eW.trans e2)]
   have e3:=eW.trans e2
   refine zcr (rSame_ret w2 _ _ x y ⟨s1,s2,s3,rfl,i1.ext e3,i2.ext e3,i3.ext e3⟩ ⟨t1,t2,t3,rfl,j1.ext e3,j2.ext e3,j3.ext e3⟩) fun w3 e4=>?_
   unfold n19c1
   refine ⟨e4,?_⟩
   by_cases hxy:x=y
   · have hq1:decide (x=y)=true:=decide_eq_true hxy
     simp (disch:=try exact DI) only [↓PR,QR,simprocAttr,hq1,Bool.not_true,hw]
     exact ⟨⟨k+1,rfl,by omega,e2.trans e4,same_succ hbb hx hy hxy⟩,meas_lt (kd := .i64) hlt⟩
   · have hq1:decide (x=y)=false:=decide_eq_false hxy
     simp (disch:=try exact DI) only [↓PR,QR,simprocAttr,hq1,Bool.not_false]
     exact no _ (e2.trans e4) fun h=>same_no hx hy hxy (by rw [h])
 · have d1:decide ((k:Int) < (a.roles.length:Int))=false:=decide_eq_false (by omega)
   have ex:a.roles=b.roles:=same_ext g3 fun j y z hj=>hbb j y z (by omega)
   simp (disch:=try exact DI) only [↓PR,QR,simprocAttr,(cells_of_heap (e.obj hp)).1,d1]
   have:a=b:=by
    cases a;cases b
    simp_all
   exact ⟨by rw [decide_eq_true this],eW.trans e⟩
def n7c1 (t92 t97:Value) (R:RT) (w:World):Prop :=
 pickK t92 t97 (.bool false) fun t98 =>
 joinK (fun (t100:Value) (w:World) =>
 pickK t98 t100 (.bool false) fun t101 =>
 R (.returned t101) w) fun K12 =>
 guardP t98 true (
 callK Pg 11 #[] (panK R) w fun t100 w =>
 K12 t100 w) (
 K12 undef w)
def n7c2 (t78 t84 t87 t91:Value) (R:RT) (w:World):Prop :=
 pickK t87 t91 (.bool false) fun t92 =>
 joinK (fun (t97:Value) (w:World) =>
 n7c1 t92 t97 R w) fun K11 =>
 guardP t92 true (
 callK Pg 15 #[t78] (panK R) w fun t95 w =>
 opV Pg (binS .eql 3 false t95 t84) (panK R) w fun t97 w =>
 K11 t97 w) (
 K11 undef w)
def n7c3 (t77 t78 t83 t84 t87:Value) (R:RT) (w:World):Prop :=
 joinK (fun (t91:Value) (w:World) =>
 n7c2 t78 t84 t87 t91 R w) fun K10 =>
 guardP t87 true (
 opV Pg (binS .eql 3 false t77 t83) (panK R) w fun t91 w =>
 K10 t91 w) (
 K10 undef w)
def n7c4 (t11 t77 t78 t81:Value) (R:RT) (w:World):Prop :=
 opV Pg (Instr.extract t81 0) (panK R) w fun t82 w =>
 opV Pg (Instr.extract t81 1) (panK R) w fun t83 w =>
 opV Pg (Instr.extract t81 2) (panK R) w fun t84 w =>
 opV Pg (Instr.alloc 57 true (.tuple #[])) (panK R) w fun t14 w =>
 opU Pg (Instr.storeAt 57 t14 t82) (panK R) w fun w =>
 opV Pg (Instr.loadAt 57 t11) (panK R) w fun t85 w =>
 opV Pg (Instr.loadAt 57 t14) (panK R) w fun t86 w =>
 callK Pg 32 #[t85,t86] (panK R) w fun t87 w =>
 n7c3 t77 t78 t83 t84 t87 R w
def n7c5 (t1 t75:Value) (R:RT) (w:World):Prop :=
 opV Pg (Instr.extract t75 0) (panK R) w fun t76 w =>
 opV Pg (Instr.extract t75 1) (panK R) w fun t77 w =>
 opV Pg (Instr.extract t75 2) (panK R) w fun t78 w =>
 opV Pg (Instr.alloc 57 true (.tuple #[])) (panK R) w fun t11 w =>
 opU Pg (Instr.storeAt 57 t11 t76) (panK R) w fun w =>
 callK Pg 31 #[t1] (panK R) w fun t81 w =>
 n7c4 t11 t77 t78 t81 R w
def n7c6 (t1 t62 t66 t70:Value) (R:RT) (w:World):Prop :=
 joinK (fun (t71:Value) (w:World) =>
 pickK t62 (.bool true) t71 fun t72 =>
 condP t72 (
 R (.returned (.bool false)) w) (
 callK Pg 30 #[t1] (panK R) w fun t75 w =>
 n7c5 t1 t75 R w)) fun K9 =>
 guardP t62 false (
 pickK t66 t70 (.bool false) fun t71 =>
 K9 t71 w) (
 K9 undef w)
def n7c7 (t1 t2 t38 t62 t66:Value) (R:RT) (w:World):Prop :=
 joinK (fun (t70:Value) (w:World) =>
 n7c6 t1 t62 t66 t70 R w) fun K8 =>
 guardP t66 true (
 opV Pg (Instr.loadAt 57 t2) (panK R) w fun t68 w =>
 callK Pg 29 #[t68] (panK R) w fun t69 w =>
 opV Pg (binS .neq 9 false t38 t69) (panK R) w fun t70 w =>
 K8 t70 w) (
 K8 undef w)
def n7c8 (t1 t2 t34 t38 t54 t61:Value) (R:RT) (w:World):Prop :=
 pickK t54 (.bool true) t61 fun t62 =>
 joinK (fun (t66:Value) (w:World) =>
 n7c7 t1 t2 t38 t62 t66 R w) fun K7 =>
 guardP t62 false (
 opV Pg (binS .eql 3 true t34 (.int .i64 0)) (panK R) w fun t65 w =>
 K7 t65 w) (
 K7 undef w)
def n7c9 (t1 t2 t34 t38 t54 t58 t60:Value) (R:RT) (w:World):Prop :=
 joinK (fun (t61:Value) (w:World) =>
 n7c8 t1 t2 t34 t38 t54 t61 R w) fun K6 =>
 guardP t54 false (
 pickK t58 t60 (.bool false) fun t61 =>
 K6 t61 w) (
 K6 undef w)
def n7c10 (t1 t2 t34 t38 t54 t58:Value) (R:RT) (w:World):Prop :=
 joinK (fun (t60:Value) (w:World) =>
 n7c9 t1 t2 t34 t38 t54 t58 t60 R w) fun K5 =>
 guardP t58 true (
 opV Pg (binS .neq 9 true t38 (.string { data := #[] })) (panK R) w fun t60 w =>
 K5 t60 w) (
 K5 undef w)
def n7c11 (t1 t2 t34 t38 t48 t53:Value) (R:RT) (w:World):Prop :=
 pickK t48 (.bool true) t53 fun t54 =>
 joinK (fun (t58:Value) (w:World) =>
 n7c10 t1 t2 t34 t38 t54 t58 R w) fun K4 =>
 guardP t54 false (
 opV Pg (binS .neq 3 true t34 (.int .i64 0)) (panK R) w fun t57 w =>
 K4 t57 w) (
 K4 undef w)
def n7c12 (t1 t2 t34 t38 t39 t42 t47:Value) (R:RT) (w:World):Prop :=
 pickK t42 (.bool true) t47 fun t48 =>
 joinK (fun (t53:Value) (w:World) =>
 n7c11 t1 t2 t34 t38 t48 t53 R w) fun K3 =>
 guardP t48 false (
 callK Pg 15 #[t39] (panK R) w fun t51 w =>
 opV Pg (binS .neq 3 false t51 t34) (panK R) w fun t53 w =>
 K3 t53 w) (
 K3 undef w)
def n7c13 (t1 t2 t28 t29 t33 t34 t37:Value) (R:RT) (w:World):Prop :=
 opV Pg (Instr.extract t37 0) (panK R) w fun t38 w =>
 opV Pg (Instr.extract t37 1) (panK R) w fun t39 w =>
 opV Pg (binS .neq 3 false t28 t33) (panK R) w fun t42 w =>
 joinK (fun (t47:Value) (w:World) =>
 n7c12 t1 t2 t34 t38 t39 t42 t47 R w) fun K2 =>
 guardP t42 false (
 callK Pg 15 #[t29] (panK R) w fun t45 w =>
 opV Pg (binS .neq 3 false t45 t34) (panK R) w fun t47 w =>
 K2 t47 w) (
 K2 undef w)
def n7c14 (t1 t2 t28 t29 t32:Value) (R:RT) (w:World):Prop :=
 opV Pg (Instr.extract t32 0) (panK R) w fun t33 w =>
 opV Pg (Instr.extract t32 1) (panK R) w fun t34 w =>
 opV Pg (Instr.loadAt 57 t2) (panK R) w fun t36 w =>
 callK Pg 28 #[t36] (panK R) w fun t37 w =>
 n7c13 t1 t2 t28 t29 t33 t34 t37 R w
def n7c15 (t1 t2 t27:Value) (R:RT) (w:World):Prop :=
 opV Pg (Instr.extract t27 0) (panK R) w fun t28 w =>
 opV Pg (Instr.extract t27 1) (panK R) w fun t29 w =>
 opV Pg (Instr.loadAt 57 t2) (panK R) w fun t31 w =>
 callK Pg 27 #[t31] (panK R) w fun t32 w =>
 n7c14 t1 t2 t28 t29 t32 R w
def n7c16 (t1 t2 t18 t22:Value) (R:RT) (w:World):Prop :=
 pickK t18 (.bool true) t22 fun t23 =>
 condP t23 (
 callK Pg 11 #[] (panK R) w fun t24 w =>
 R (.returned t24) w) (
 opV Pg (Instr.loadAt 57 t2) (panK R) w fun t26 w =>
 callK Pg 26 #[t26] (panK R) w fun t27 w =>
 n7c15 t1 t2 t27 R w)
def n7c17 (t1 t2 t18:Value) (R:RT) (w:World):Prop :=
 joinK (fun (t22:Value) (w:World) =>
 n7c16 t1 t2 t18 t22 R w) fun K1 =>
 guardP t18 false (
 opV Pg (Builtin.len_ #[9] 3 #[t1]) (panK R) w fun t21 w =>
 opV Pg (binS .gtr 3 true t21 (.int .i64 3000)) (panK R) w fun t22 w =>
 K1 t22 w) (
 K1 undef w)
def n7 (t0 t1:Value) (R:RT) (w:World):Prop :=
 opV Pg (Instr.box 57 t0) (panK R) w fun t2 w =>
 opV Pg (Instr.loadAt 57 t2) (panK R) w fun t17 w =>
 callK Pg 25 #[t17] (panK R) w fun t18 w =>
 n7c17 t1 t2 t18 R w
set_option maxHeartbeats 40000000 in
theorem n7s {t0 t1:Value} {R:RT} {w:World} (h:n7 t0 t1 R w):Calls Pg 7 #[t0,t1] w R:=by
 refine yD Tryz.func7 ?_
 refine zs<|zr<|yv h fun _ w h=>zm<|zn<|zk<|zs<|zs<|sim_regionG<|yG 3<|yv h fun _ w h=>yc h c25 fun _ w h=>zm<|zn<|yg1 3 2 false [20,21,22] 22 h (fun _ T hT h=>?_) fun σ w h=>?_
 · refine zm<|yx h fun _ w h=>yb h fun _ w h=>zn ?_
   exact zt hT h
 refine yG 1<|yp h fun _ h=>zn<|sim_end<|zk<|yC h (fun h=>zs<|zr<|yc h c11 fun _ w h=>zm<|zn<|zk<|sim_ret<|sim_then_ret<|body_ret1 rfl rfl h) fun h=>sim_skip<|zk<|zs<|zr<|yv h fun _ w h=>yc h c26 fun _ w h=>zm<|yv h fun _ w h=>?_
 refine yv h fun _ w h=>zm<|zm<|zn<|zk<|zs<|zr<|yv h fun _ w h=>yc h c27 fun _ w h=>zm<|yv h fun _ w h=>yv h fun _ w h=>zm<|zm<|zn ?_
 refine zk<|zs<|zr<|yv h fun _ w h=>yc h c28 fun _ w h=>zm<|yv h fun _ w h=>yv h fun _ w h=>zm<|zm<|zn<|zk<|zs<|zs<|sim_regionG ?_
 refine yG 4<|zm<|zm<|yb h fun _ w h=>zm<|zn<|yg1 4 3 false [44,45,46,47] 47 h (fun _ T hT h=>?_) fun σ w h=>?_
 · refine zm<|yc h c15 fun _ w h=>zm<|yb h fun _ w h=>zn ?_
   exact zt hT h
 refine yG 2<|yp h fun _ h=>zm<|zn<|yg1 4 9 false [50,51,52,53] 53 h (fun _ T hT h=>?_) fun σ w h=>?_
 · refine zm<|yc h c15 fun _ w h=>zm<|yb h fun _ w h=>zn ?_
   exact zt hT h
 refine yG 2<|yp h fun _ h=>zm<|zn<|yg1 3 15 false [56,57,58] 58 h (fun _ T hT h=>?_) fun σ w h=>?_
 · refine zm<|yb h fun _ w h=>zm<|zn ?_
   exact zt hT h
 refine yg1 2 18 true [59,60] 60 h (fun _ T hT h=>?_) fun σ w h=>?_
 · refine zm<|yb h fun _ w h=>zn ?_
   exact zt hT h
 refine yg1 1 15 false [61] 61 h (fun _ T hT h=>?_) fun σ w h=>?_
 · refine yp h fun _ h=>zn ?_
   exact zt hT h
 refine yG 2<|yp h fun _ h=>zm<|zn<|yg1 3 23 false [64,65,66] 66 h (fun _ T hT h=>?_) fun σ w h=>?_
 · refine zm<|yb h fun _ w h=>zm<|zn ?_
   exact zt hT h
 refine yg1 4 26 true [67,68,69,70] 70 h (fun _ T hT h=>?_) fun σ w h=>?_
 · refine zm<|yv h fun _ w h=>yc h c29 fun _ w h=>yb h fun _ w h=>zn ?_
   exact zt hT h
 refine yg1 1 23 false [71] 71 h (fun _ T hT h=>?_) fun σ w h=>?_
 · refine yp h fun _ h=>zn ?_
   exact zt hT h
 refine yG 1<|yp h fun _ h=>zn<|sim_end<|zk<|yC h (fun h=>zs<|zr<|zm<|zn<|zk<|sim_ret<|sim_then_ret<|body_ret1 rfl rfl h) fun h=>sim_skip<|zk<|zs<|zr<|zm<|yc h c30 fun _ w h=>zm<|yv h fun _ w h=>?_
 refine yv h fun _ w h=>yv h fun _ w h=>yv h fun _ w h=>yu h fun w h=>zm<|zm<|zn<|zk<|zs<|zr<|zm<|yc h c31 fun _ w h=>zm<|yv h fun _ w h=>yv h fun _ w h=>?_
 refine yv h fun _ w h=>yv h fun _ w h=>yu h fun w h=>zm<|zm<|zn<|zk<|zs<|sim_regionG<|yG 4<|yv h fun _ w h=>yv h fun _ w h=>yc h c32 fun _ w h=>zm<|zn ?_
 refine yg1 3 3 true [89,90,91] 91 h (fun _ T hT h=>?_) fun σ w h=>?_
 · refine zm<|zm<|yb h fun _ w h=>zn ?_
   exact zt hT h
 refine yG 2<|yp h fun _ h=>zm<|zn<|yg1 4 8 true [94,95,96,97] 97 h (fun _ T hT h=>?_) fun σ w h=>?_
 · refine zm<|yc h c15 fun _ w h=>zm<|yb h fun _ w h=>zn ?_
   exact zt hT h
 refine yG 2<|yp h fun _ h=>zm<|zn<|yg1 1 14 true [100] 100 h (fun _ T hT h=>?_) fun σ w h=>?_
 · refine yc h c11 fun _ w h=>zn ?_
   exact zt hT h
 exact yG 2<|yp h fun _ h=>zm<|zn<|sim_end<|zk<|sim_ret<|body_ret1 rfl rfl h
theorem FewFit {r:RolD} (h:Few r):RolFit r:=⟨h.sm,by have:=h.nc;omega,by have:=h.ns;omega,by have:=h.nt;omega⟩
theorem ses_known {w0 w:World} (hE:EnvOK w0) (e:Ext w0 w):callK Pg 11 #[] (panK (LawR w0)) w fun t24 w=>LawR w0 (.returned t24) w:=by
 refine zcr (known_ret w (hE.ext e)) fun w2 e2=>?_
 exact ⟨_,rfl,rfl,e.trans e2⟩
theorem ses_parse {w0 w:World} (hE:EnvOK w0) (e:Ext w0 w) (text:ByteArray) (hz:text.size≤3000):callK Pg 30 #[.string text] (panK (LawR w0)) w fun t75 w=>n7c5 (.string text) t75 (LawR w0) w:=by
 refine callK_ret (ParseSession_ret (hE.ext e) (by omega)) ?_
 rintro _ w1 ⟨⟨x,rfl,hx⟩,e1⟩
 obtain ⟨rv,rfl,hK⟩:=hx
 have f1:rv.oneCell'=true:=SliceOf.oneCell hK.of
 have eX:Ext w1 (w1.alloc (.cells (sesCells (parseS text).1 rv).toArray TSes)):=ee
 have hX:(w1.alloc (.cells (sesCells (parseS text).1 rv).toArray TSes)).heap[w1.heap.size]?=some (.cells (sesCells (parseS text).1 rv).toArray TSes (0,0)):=heap_new _ _ _
 simp (disch:=try exact DI) only [↓PR,QR,simprocAttr,↓n7c5]
 change callK _ _ _ _ (w1.alloc (.cells (sesCells (parseS text).1 rv).toArray TSes)) _
 generalize (w1.alloc (.cells (sesCells (parseS text).1 rv).toArray TSes))=X at eX hX ⊢
 refine callK_ret (rParseSession_ret X text (by omega)) ?_
 rintro _ w2 ⟨⟨y,rfl,hy⟩,e2⟩
 obtain ⟨rv2,rfl,hK2⟩:=hy
 have f2:rv2.oneCell'=true:=SliceOf.oneCell hK2.of
 have eY:Ext w2 (w2.alloc (.cells (sesCells (parseS text).1 rv2).toArray TSes)):=ee
 have hY:(w2.alloc (.cells (sesCells (parseS text).1 rv2).toArray TSes)).heap[w2.heap.size]?=some (.cells (sesCells (parseS text).1 rv2).toArray TSes (0,0)):=heap_new _ _ _
 have hXY:=(cells_of_heap (eY.obj (e2.obj hX))).1
 have hYY:=(cells_of_heap hY).1
 simp (disch:=try exact DI) only [↓PR,QR,simprocAttr,↓n7c4,hXY,hYY]
 change callK _ _ _ _ (w2.alloc (.cells (sesCells (parseS text).1 rv2).toArray TSes)) _
 generalize (w2.alloc (.cells (sesCells (parseS text).1 rv2).toArray TSes))=Y at eY hY ⊢
 have e1Y:=(eX.trans e2).trans eY
 have EY:=(e.trans e1).trans e1Y
 refine zcr (rSameSes_ret Y _ _ (parseS text).1 (parseS text).1 ⟨rv,rfl,hK.of.ext e1Y⟩ ⟨rv2,rfl,hK2.of.ext eY⟩) fun w3 e3=>?_
 have E3:=EY.trans e3
 have q1:decide ((parseS text).1=(parseS text).1)=true:=decide_eq_true rfl
 have q2:((parseS text).2.1 == (parseS text).2.1)=true:=by simp
 have q3:((parseS text).2.2 == (parseS text).2.2)=true:=by simp
 simp (disch:=try exact DI) only [↓PR,QR,simprocAttr,q1,q2,↓n7c3,↓n7c2]
 refine callK_ret (num_ret w3 _) ?_
 rintro _ V' ⟨rfl,hV'⟩
 rw [hV']
 clear hV' V'
 simp (disch:=try exact DI) only [↓PR,QR,simprocAttr,q1,q2,q3,↓n7c1]
 refine zcr (known_ret w3 (hE.ext E3)) fun w5 e5=>?_
 simp (disch:=try exact DI) only [↓PR,QR,simprocAttr,q1,q2,q3]
 exact ⟨by trivial,E3.trans e5⟩
theorem RoleSessions_ret (w0:World) (v:Value) (s:SesD) (text:ByteArray) (hs:SesVal w0 v s) (hi:SesIn s) (hE:EnvOK w0):Ret Pg 7 #[v,.string text] w0 fun u w'=>u = .bool true∧Ext w0 w':=by
 obtain ⟨rv,rfl,hR⟩:=hs
 have o1:=SliceOf.oneCell hR
 refine n7s (R:=retR _) ?_;unfold n7
 rw [op_boxA]
 have hp:=heap_new w0 (sesCells s rv).toArray TSes
 have eW:Ext w0 (w0.alloc (.cells (sesCells s rv).toArray TSes)):=ee
 generalize (w0.alloc (.cells (sesCells s rv).toArray TSes))=W at hp eW ⊢
 generalize w0.heap.size=p at hp ⊢
 have hV:∀ w,Ext W w→SesVal w (.agg (sesCells s rv).toArray) s:=fun w e=>⟨_,rfl,hR.ext (eW.trans e)⟩
 simp (disch:=try exact DI) only [↓PR,QR,simprocAttr,(cells_of_heap hp).1]
 refine callK_ret (sesMany_ret W _ s (hV W (Ext.refl W))) ?_
 rintro _ w1 ⟨e1,b,rfl,hb⟩
 have E1:=eW.trans e1
 cases b with
 | true =>
  simp (disch:=try exact DI) only [↓PR,QR,simprocAttr,↓n7c17,↓n7c16]
  exact ses_known hE E1
 | false =>
 have hF:=hb rfl
 by_cases htx:3000 < text.size
 · have d1:decide ((text.size:Int) > 3000)=true:=decide_eq_true (by omega)
   simp (disch:=try exact DI) only [↓PR,QR,simprocAttr,↓n7c17,d1,↓n7c16]
   exact ses_known hE E1
 have d1:decide ((text.size:Int) > 3000)=false:=decide_eq_false (by omega)
 have hn6:=hF.n
 have hfit:∀ r∈s.roles,RolFit r:=fun r hr=>FewFit (hF.rs r hr)
 simp (disch:=try exact DI) only [↓PR,QR,simprocAttr,↓n7c17,d1,↓n7c16,(cells_of_heap (e1.obj hp)).1]
 refine zcr (CheckSession_ret w1 _ s (hV w1 e1) hfit (by omega)) fun w2 e2=>?_
 have E2:=e1.trans e2
 simp (disch:=try exact DI) only [↓PR,QR,simprocAttr,↓n7c15,(cells_of_heap (E2.obj hp)).1]
 refine zcr (rCheckSession_ret w2 _ s (hV w2 E2) hfit (by omega)) fun w3 e3=>?_
 have E3:=E2.trans e3
 simp (disch:=try exact DI) only [↓PR,QR,simprocAttr,↓n7c14,(cells_of_heap (E3.obj hp)).1]
 refine zcr (PrintSession_ret w3 _ s (hV w3 E3) (fun r hr=>(hF.rs r hr).ok (hi.1 r hr)) (by omega) (hE.tab.ext (eW.trans E3))) fun w4 e4=>?_
 have E4:=E3.trans e4
 have E4':=eW.trans E4
 have q1:((checkS s).1 != (checkS s).1)=false:=by simp
 have q2:((checkS s).2 != (checkS s).2)=false:=by simp
 simp (disch:=try exact DI) only [↓PR,QR,simprocAttr,↓n7c13,q1]
 refine callK_ret (num_ret w4 _) ?_
 rintro _ V' ⟨rfl,hV'⟩
 rw [hV']
 clear hV' V'
 simp (disch:=try exact DI) only [↓PR,QR,simprocAttr,↓n7c12,q1,q2]
 refine callK_ret (num_ret w4 _) ?_
 rintro _ V' ⟨rfl,hV'⟩
 rw [hV']
 clear hV' V'
 have hpar:=ses_parse hE E4' text (by omega)
 by_cases hc:(checkS s).2=0
 · have q3:((checkS s).2 != 0)=false:=by simp [hc]
   have q4:((checkS s).2 == 0)=true:=by simp [hc]
   simp (disch:=try exact DI) only [↓PR,QR,simprocAttr,↓n7c11,q2,q3,↓n7c10,↓n7c9,↓n7c8,q4,↓n7c7,(cells_of_heap (E4.obj hp)).1]
   refine zcr (rTextSession_ret w4 _ s (hV w4 E4) hc) fun w5 e5=>?_
   have q5:decide (textS s=textS s)=true:=decide_eq_true rfl
   rw [printS_eq hc]
   simp (disch:=try exact DI) only [↓PR,QR,simprocAttr,q4,q5,Bool.not_true,↓n7c6]
   exact ses_parse hE (E4'.trans e5) text (by omega)
 · have q3:((checkS s).2 != 0)=true:=by simp [hc]
   have q4:((checkS s).2 == 0)=false:=by simp [hc]
   have hpe:printS s=⟨#[]⟩:=by unfold printS;rw [if_neg hc]
   have q5:decide ((⟨#[]⟩:ByteArray)=⟨#[]⟩)=true:=decide_eq_true rfl
   rw [hpe]
   simp (disch:=try exact DI) only [↓PR,QR,simprocAttr,↓n7c11,q2,q3,↓n7c10,↓n7c9,↓n7c8,q4,q5,Bool.not_true,↓n7c7,↓n7c6]
   exact hpar
end Go.Proofs.YtngflmjncplkaaaGreatDoor
namespace Go.Proofs.YtngflmjncplkaaaGreatDoor
open Sw
open Go.RowKit Go.Deep
def role_laid:List (String×DataW Unit):=[("math/bits.deBruijn32tab", Rows.laid_math_bits_deBruijn32tab),("math/bits.deBruijn64tab", Rows.laid_math_bits_deBruijn64tab),("internal/strconv.uint64pow10", Rows.laid_internal_strconv_uint64pow10),("unicode/utf8.acceptRanges", Rows.laid_unicode_utf8_acceptRanges),("strconv.ErrRange", Rows.laid_strconv_ErrRange),("strconv.ErrSyntax", Rows.laid_strconv_ErrSyntax),("unicode/utf8.first", Rows.laid_unicode_utf8_first)]
theorem role_own:ownKnob Pg.godebug=none:=by kernel_rfl
theorem role_laidOut:laidOutB Pg=true:=by kernel_rfl
theorem role_met (os:Os) (args:Array Value):laidMetH Pg role_laid ((World.laidAll Pg os role_laid).forCall (fun _ _=>0) ⟨#[],args,[]⟩).memory:=by
 rw [MakeChecks.laidMetH_plain _ _ _ (by kernel_rfl)]
 exact laidMet_laidAll _ (by kernel_rfl) (by kernel_rfl)
theorem role_tab {W:World} (h:laidMetH Pg role_laid W):TabOK W:=by
 rw [MakeChecks.laidMetH_plain _ _ _ (by kernel_rfl)] at h
 have h3:=laidMet.tail (laidMet.tail h)
 have he:(Rows.laid_internal_strconv_uint64pow10:DataW Unit)=Go.Lib.tabData .u64 Go.Lib.pow10Tab:=by kernel_rfl
 rw [he] at h3
 obtain ⟨g,hg⟩:=Option.isSome_iff_exists.1 gPow
 have hty:(Pg.globals[g]?).map (·.type)=some 197:=by
  have h1:(Pg.globalNamed "internal/strconv.uint64pow10").bind (fun g=>(Pg.globals[g]?).map (·.type))=some 197:=by kernel_rfl
  rw [hg] at h1
  exact h1
 exact Go.Lib.tabIs_of_head hg hty Tryz.underlying197 Tryz.underlying161 (by kernel_rfl) (by kernel_rfl) h3
theorem role_star : "*" ++ "errors.errorString" = "*errors.errorString" := by decide
theorem role_rowErr (u:TypeId) (h:Pg.typeName? 3 u=some "*errors.errorString"):u=200 :=
 typeName_ptr_named (nm := "errors.errorString") (by rw [role_star];kernel_rfl) (by kernel_rfl) (by decide) u (by rw [role_star];exact h)
theorem role_env {W:World} (hs:W.ShapedOpen Pg) (h:laidMetH Pg role_laid W):EnvOK W:=by
 refine ⟨role_tab h,Go.Proofs.cell_of_shapedOpen_int (k := .i64) hs (of_decide_eq_true (by kernel_rfl)) (zero := #[.int .i64 0]) (t:=3) (by kernel_rfl) rfl (by kernel_rfl) (by kernel_rfl) Tryz.underlying3,?_,?_⟩
 · rw [MakeChecks.laidMetH_plain _ _ _ (by kernel_rfl)] at h
   have h5:=h.tail.tail.tail.tail.tail
   obtain ⟨a,s,hv,_⟩:=laid_sentinel (g:=1) h5 (by kernel_rfl) (by kernel_rfl) Tryz.underlying130 role_rowErr Tryz.underlying200 Tryz.underlying202 rfl rfl Tryz.underlying9 (by kernel_rfl) (by kernel_rfl)
   refine ⟨_,by rw [World.var?_cell (show Pg.globalNamed "strconv.ErrSyntax" = some 1 by kernel_rfl) hv 0];rfl,.inr ⟨_,_,rfl⟩⟩
 · rw [MakeChecks.laidMetH_plain _ _ _ (by kernel_rfl)] at h
   have h5:=h.tail.tail.tail.tail
   obtain ⟨a,s,hv,_⟩:=laid_sentinel (g:=2) h5 (by kernel_rfl) (by kernel_rfl) Tryz.underlying130 role_rowErr Tryz.underlying200 Tryz.underlying202 rfl rfl Tryz.underlying9 (by kernel_rfl) (by kernel_rfl)
   refine ⟨_,by rw [World.var?_cell (show Pg.globalNamed "strconv.ErrRange" = some 2 by kernel_rfl) hv 0];rfl,.inr ⟨_,_,rfl⟩⟩
theorem handed_and {H:Type} {enc:TypeId×Value→H} {a:Assume} {C:Checked} {os:Os} {f:FuncId} {fn:Func} {s:ChangeSpec} {conds:List PathCond} {apart fresh handsOn again:Bool} {X:World→Array Value→Prop}
 (hX:∀ (w w':World) (args:Array Value),w.heap=w'.heap→X w args→X w' args)
 (own:ownKnob C.prog.godebug=none) (started:os.Started) (noInit:C.prog.inits.idxOf? f=none) (hfn:C.prog.funcs[f]?=some fn)
 (witness:∃ (w:World) (tape:Tape) (i:Input),w.os=os∧(w.forCall tape i).Shaped C.prog∧i.vars=[]∧Input.okWide C.prog (w.forCall tape i) .any w.heap.size f i ∧
  ((s.pre enc C.prog fn conds apart (w.forCall tape i).memory i.args∧X (w.forCall tape i).memory i.args)∧sizedMet enc C.prog fn (OpenSpec.ofChange s) apart (w.forCall tape i).memory i.args)∧a.holds C.prog (lone (Frame.enter C.prog f i.args .normal) [] (w.forCall tape i)))
 (contract:∀ (W:World) (base:Nat) (args:Array Value) (ds gs:List (DataW H)) (before:List MemPlace),
  (∀ (j:Nat) t v,fn.params[j]?=some t→args[j]?=some v→Value.okWide C.prog W .any base t v) →
  DataW.Whole enc C.prog fn.params.toList s.vars apart W args.toList ds gs before →
  conds.all (PathCond.test C.prog ⟨fn.params.toList,ds,s.plain.varTypes C.prog,gs⟩)=true →
  (DataW.weightsEach C.prog (fn.params.toList++s.plain.varTypes C.prog) (ds++gs)).all (· ≤ reachBytes)=true→X W args→W.ShapedOpen C.prog →
  a.holds C.prog (lone (Frame.enter C.prog f args .normal) [] W) →
  Calls C.prog f args W fun e W'=>∃ v,e = .returned v∧s.post enc C.prog fn apart fresh handsOn again W args v W') :
 ReturnsInHanded a C os f .any (fun w args=>(s.pre enc C.prog fn conds apart w args∧X w args)∧sizedMet enc C.prog fn (OpenSpec.ofChange s) apart w args) (s.post enc C.prog fn apart fresh handsOn again):=by
 refine returnsInHanded_of_calls own started noInit witness ?_
 intro w tape i _ hsh _ hok hpre hholds
 obtain ⟨_,_,_,fn',hfn',_,_,_,_,hval⟩:=hok
 have e:fn'=fn:=Option.some.inj (hfn'.symm.trans hfn)
 subst e
 obtain ⟨⟨⟨ds,gs,before,hw,hc⟩,hx⟩,hz⟩:=hpre
 have hw':=DataW.Whole.of_heap (w':=w.forCall tape i) (by rfl) hw
 refine (contract (w.forCall tape i) w.heap.size i.args ds gs before hval hw' hc (hz.weights hw) (hX _ _ _ (by rfl) hx) hsh hholds).mono fun e W' ⟨v,he,hp⟩=>?_
 subst he
 exact ChangeSpec.post_blind hp
end Go.Proofs.YtngflmjncplkaaaGreatDoor
namespace Go.Proofs.YtngflmjncplkaaaGreatDoor
open Sw
open Go.ChangeShapes Go.WideShapes Go.RowKit Go.ChangeAt Go.Deep
theorem rsessions_lifted (os:Os) (started:os.Started) (H:Type) (enc:TypeId×Value→H) :
 ReturnsInHanded {} Tryz.checked os 7 .any (fun w args=>(Rows.roleSessionsSpec.pre enc Pg Tryz.f7 Rows.roleSessionsRow.domain false w args∧laidMetH Pg role_laid w)∧sizedMet enc Pg Tryz.f7 (OpenSpec.ofChange Rows.roleSessionsSpec) false w args) (Rows.roleSessionsSpec.post enc Pg Tryz.f7 false true false false):=by
 refine handed_and (C:=Tryz.checked) (X:=fun w _=>laidMetH Pg role_laid w) (fun _ _ _ hh h=>h.of_heap hh) role_own started (by kernel_rfl) Tryz.func7
  (ChangeSpec.witness_shaped (enc:=enc) (C:=Tryz.checked) (os:=os) (X:=fun w _=>laidMetH Pg role_laid w) false (World.laidAll Pg os role_laid) #[.agg #[.string ByteArray.empty,.slice none 0 0,.int .i64 0,.int .i64 0],.string ByteArray.empty] 8 (World.laidAll_os _ _ _) (World.shaped_of_ZipB (by kernel_rfl) (by kernel_rfl)) (by kernel_rfl) (by kernel_rfl) (by kernel_rfl) (role_met os _)) ?_
 intro W base args ds gs before hval hW _ hsz hL hsh _
 have hW':=hW
 obtain ⟨p,q,hA0,hV,rfl,_,_⟩:=hW
 have hA:DataW.TrodAll enc Pg W 0 (fun _=>true) true Tryz.f7.params.toList args.toList ds p:=hA0
 rw [Tryz.params7] at hA hval hsz
 obtain ⟨v0,vs0,d0,ds0,p0,q0,ha0,rfl,rfl,h0,r0⟩:=trodAll_cons hA
 obtain ⟨v1,vs1,d1,ds1,p1,q1,ha1,rfl,rfl,h1,r1⟩:=trodAll_cons r0
 obtain ⟨rfl,rfl,rfl⟩:=trodAll_nil r1
 subst ha1
 obtain rfl:args = #[v0,v1]:=by cases args;simp_all
 obtain ⟨f0,hf0,hs0⟩:=ses_val (hval 0 _ v0 rfl rfl) h0 (reached_of (j:=0) hsz rfl rfl)
 obtain ⟨s1,rfl,_⟩:=open_str Tryz.underlying9 (hval 1 _ v1 rfl rfl) h1
 refine Calls.mono (RoleSessions_ret W v0 f0 s1 hf0 hs0 (role_env hsh hL)) fun e W' ⟨v,he,hv,hx⟩=>?_
 subst he hv
 exact ⟨_,rfl,law_post role_laidOut (by decide +kernel) rfl hW' hx rfl Tryz.underlying4 rfl rfl rfl⟩
theorem rsessions_holds:Rows.RoleSessionsSaid :=
 OpenClaim.holds_of_wide 7 Tryz.f7 rfl rfl rfl rfl rfl rfl rfl ⟨rfl,rfl,rfl,rfl,rfl⟩ rfl rfl rfl rfl rfl (by kernel_rfl) Tryz.func7 (by kernel_rfl)
  (of_decide_eq_true (by kernel_rfl)) (by unfold Func.isWrapper;first | (rw [if_pos (by decide +kernel)];kernel_rfl) | (rw [if_neg (by decide +kernel)];exact ⟨rfl,rfl⟩))
  (fun os started H enc _=>rsessions_lifted os started H enc)
theorem rsessions_card:Rows.RoleSessionsCardSaid :=
 Claim7.holds_tied_plain_at .later [] [.data,.data,.data,.data,.sentinel,.sentinel,.pinned] true (true, "805d62ceadf1c0eaaccbbc96f2703f3718560c4f9884483faf4dfcc0b7041b30") true
  rsessions_holds (fun _ h=>by cases h) (by kernel_rfl) (fun _ h=>by cases h) roleSessions_row_tie rfl ⟨rfl,rfl⟩ (by kernel_rfl) rfl
  (fun f fn hf hfn=>by
   obtain rfl:f=7:=Option.some.inj ((show Pg.funcNamed "phrasebook/phrasebooklaw28.RoleSessions" = some 7 by kernel_rfl).symm.trans hf) |>.symm
   obtain rfl:fn=Tryz.f7:=(Option.some.inj (Tryz.func7.symm.trans hfn)).symm
   exact ⟨by kernel_rfl,fun j t ht=>by
    rw [Tryz.params7] at ht
    have hm:t∈[57,9]:=by simpa using Array.mem_of_getElem? ht
    have hall:([57,9].all fun u=>!Pg.wantsStandIn u)=true:=by kernel_rfl
    exact (show Pg.wantsStandIn t=false by simpa using List.all_eq_true.1 hall t hm)⟩)
  (by kernel_rfl)
end Go.Proofs.YtngflmjncplkaaaGreatDoor
