/-
  phrasebooklaw18.ProgramCodes returns true for every definition, every number of an instruction and every number of rounds, and leaves its arguments as they were; no condition is asked but that the tables of the library lie as the program lays them (the card ties them).
-/
import Derived.Test.YtfdecdnmooaegaaGreatDoorRb5
set_option linter.all false
set_option maxHeartbeats 4000000
set_option maxRecDepth 100000
namespace Go.Proofs.YtfdecdnmooaegaaGreatDoor
open Sw
def n30c1 (t3 t5 t6 t9 t123:Value) (C7:World→Prop) (next5:KW) (R:RT) (w:World):Prop :=
 qV Pg C7 (Instr.build 36 #[(0,(.int .i64 8)),(1,t5),(2,t6),(3,(.int .i64 (-1))),(4,t9),(5,t123)]) fun t124 =>
 opV Pg (Instr.buildSlice 32 1 #[(0,t124)]) (panK R) w fun t125 w =>
 C7 w∧(
 opV Pg (Builtin.append_ #[32,32] 32 #[t3,t125]) (panK R) w fun t126 w =>
 C7 w∧(
 opV Pg (binS .add 3 true t9 (.int .i64 1)) (panK R) w fun t111 w =>
 next5 t126 t111 w))
def n30c2 (t1 t3 t5 t6 t7 t9:Value) (C7:World→Prop) (next5:KW) (R:RT) (w:World):Prop :=
 qV Pg C7 (Instr.loadAt 24 t1) fun t116 =>
 qV Pg C7 (Instr.fieldAt 71 t7 11) fun t117 =>
 qV Pg C7 (Instr.loadAt 69 t117) fun t118 =>
 qV Pg C7 (Instr.indexAt 69 t118 t9) fun t120 =>
 qV Pg C7 (Instr.fieldAt 85 t120 2) fun t121 =>
 qV Pg C7 (Instr.loadAt 9 t121) fun t122 =>
 callK Pg 34 #[t116,t122] (panK R) w fun t123 w =>
 C7 w∧(
 n30c1 t3 t5 t6 t9 t123 C7 next5 R w)
def n30c3 (t1 t3 t5 t6 t7 t9 t102 t108:Value) (next3:KW) (next5:KW) (R:RT) (w:World):Prop :=
 pickK t102 t108 (.bool false) fun t109 =>
 condP t109 (
 drawK w fun C7 w =>
 n30c2 t1 t3 t5 t6 t7 t9 C7 next5 R w) (
 opV Pg (binS .add 3 true t6 (.int .i64 1)) (panK R) w fun t46 w =>
 next3 t3 t46 w)
def n30c4 (t1 t3 t5 t6 t7 t9:Value) (next3:KW) (next5:KW) (R:RT) (w:World):Prop :=
 opV Pg (Instr.fieldAt 71 t7 1) (panK R) w fun t100 w =>
 opV Pg (Instr.loadAt 65 t100) (panK R) w fun t101 w =>
 opV Pg (binS .eql 65 true t101 (.int .i64 9)) (panK R) w fun t102 w =>
 joinK (fun (t108:Value) (w:World) =>
 n30c3 t1 t3 t5 t6 t7 t9 t102 t108 next3 next5 R w) fun K6 =>
 guardP t102 true (
 opV Pg (Instr.fieldAt 71 t7 11) (panK R) w fun t105 w =>
 opV Pg (Instr.loadAt 69 t105) (panK R) w fun t106 w =>
 opV Pg (Builtin.len_ #[69] 3 #[t106]) (panK R) w fun t107 w =>
 opV Pg (binS .lss 3 false t9 t107) (panK R) w fun t108 w =>
 K6 t108 w) (
 K6 undef w)
def n30c5 (t1 t3 t5 t6 t7 t8:Value) (next3:KW) (R:RT) (w:World):Prop :=
 opV Pg (Instr.loadAt 36 t8) (panK R) w fun t97 w =>
 opV Pg (Instr.buildSlice 32 1 #[(0,t97)]) (panK R) w fun t98 w =>
 opV Pg (Builtin.append_ #[32,32] 32 #[t3,t98]) (panK R) w fun t99 w =>
 loop2 (fun t3 t9 w next5 =>
 n30c4 t1 t3 t5 t6 t7 t9 next3 next5 R w) t99 (.int .i64 0) w
def n30c6 (t8 t74:Value) (K4:World→Prop) (R:RT) (w:World):Prop :=
 opV Pg (Instr.fieldAt 36 t8 0) (panK R) w fun t75 w =>
 opU Pg (Instr.storeAt 34 t75 (.int .i64 5)) (panK R) w fun w =>
 opV Pg (Instr.fieldAt 36 t8 5) (panK R) w fun t76 w =>
 opU Pg (Instr.storeAt 3 t76 t74) (panK R) w fun w =>
 K4 w
def n30c7 (t8 t82:Value) (K4:World→Prop) (R:RT) (w:World):Prop :=
 opV Pg (Instr.fieldAt 36 t8 0) (panK R) w fun t83 w =>
 opU Pg (Instr.storeAt 34 t83 (.int .i64 6)) (panK R) w fun w =>
 opV Pg (Instr.fieldAt 36 t8 5) (panK R) w fun t84 w =>
 opU Pg (Instr.storeAt 3 t84 t82) (panK R) w fun w =>
 K4 w
def n30c8 (t8 t90:Value) (K4:World→Prop) (R:RT) (w:World):Prop :=
 opV Pg (Instr.fieldAt 36 t8 0) (panK R) w fun t91 w =>
 opU Pg (Instr.storeAt 34 t91 (.int .i64 9)) (panK R) w fun w =>
 opV Pg (Instr.fieldAt 36 t8 5) (panK R) w fun t92 w =>
 opU Pg (Instr.storeAt 3 t92 t90) (panK R) w fun w =>
 K4 w
def n30c9 (t1 t5 t6 t8:Value) (K4:World→Prop) (R:RT) (w:World):Prop :=
 opV Pg (Instr.fieldAt 24 t1 1) (panK R) w fun t61 w =>
 opV Pg (Instr.loadAt 22 t61) (panK R) w fun t62 w =>
 opV Pg (Instr.indexAt 22 t62 t5) (panK R) w fun t64 w =>
 opV Pg (Instr.loadAt 53 t64) (panK R) w fun t65 w =>
 callK Pg 35 #[t65,t6] (panK R) w fun t67 w =>
 opV Pg (Instr.fieldAt 36 t8 3) (panK R) w fun t68 w =>
 opU Pg (Instr.storeAt 3 t68 t67) (panK R) w fun w =>
 K4 w
def n30c10 (t1 t7 t8:Value) (K4:World→Prop) (R:RT) (w:World):Prop :=
 opV Pg (Instr.loadAt 24 t1) (panK R) w fun t87 w =>
 opV Pg (Instr.fieldAt 71 t7 8) (panK R) w fun t88 w =>
 opV Pg (Instr.loadAt 9 t88) (panK R) w fun t89 w =>
 callK Pg 34 #[t87,t89] (panK R) w fun t90 w =>
 n30c8 t8 t90 K4 R w
def n30c11 (t1 t5 t6 t8 t60:Value) (K4:World→Prop) (R:RT) (w:World):Prop :=
 opV Pg (binS .eql 65 true t60 (.int .i64 9)) (panK R) w fun t94 w =>
 condP t94 (
 opV Pg (Instr.fieldAt 36 t8 0) (panK R) w fun t95 w =>
 opU Pg (Instr.storeAt 34 t95 (.int .i64 7)) (panK R) w fun w =>
 K4 w) (
 n30c9 t1 t5 t6 t8 K4 R w)
def n30c12 (t1 t7 t8:Value) (K4:World→Prop) (R:RT) (w:World):Prop :=
 opV Pg (Instr.loadAt 24 t1) (panK R) w fun t79 w =>
 opV Pg (Instr.fieldAt 71 t7 8) (panK R) w fun t80 w =>
 opV Pg (Instr.loadAt 9 t80) (panK R) w fun t81 w =>
 callK Pg 34 #[t79,t81] (panK R) w fun t82 w =>
 n30c7 t8 t82 K4 R w
def n30c13 (t1 t7 t8:Value) (K4:World→Prop) (R:RT) (w:World):Prop :=
 opV Pg (Instr.loadAt 24 t1) (panK R) w fun t71 w =>
 opV Pg (Instr.fieldAt 71 t7 8) (panK R) w fun t72 w =>
 opV Pg (Instr.loadAt 9 t72) (panK R) w fun t73 w =>
 callK Pg 34 #[t71,t73] (panK R) w fun t74 w =>
 n30c6 t8 t74 K4 R w
def n30c14 (t1 t5 t6 t7 t8 t60:Value) (K4:World→Prop) (R:RT) (w:World):Prop :=
 opV Pg (binS .eql 65 true t60 (.int .i64 7)) (panK R) w fun t78 w =>
 condP t78 (
 n30c12 t1 t7 t8 K4 R w) (
 opV Pg (binS .eql 65 true t60 (.int .i64 12)) (panK R) w fun t86 w =>
 condP t86 (
 n30c10 t1 t7 t8 K4 R w) (
 n30c11 t1 t5 t6 t8 t60 K4 R w))
def n30c15 (t3 t5:Value) (K2:KV) (R:RT) (w:World):Prop :=
 opV Pg (Instr.build 36 #[(0,(.int .i64 10)),(1,t5),(2,(.int .i64 (-1))),(3,(.int .i64 (-1))),(4,(.int .i64 (-1))),(5,(.int .i64 (-1)))]) (panK R) w fun t129 w =>
 opV Pg (Instr.buildSlice 32 1 #[(0,t129)]) (panK R) w fun t130 w =>
 opV Pg (Builtin.append_ #[32,32] 32 #[t3,t130]) (panK R) w fun t131 w =>
 K2 t131 w
def n30c16 (t1 t3 t5 t6:Value) (next3:KW) (R:RT) (w:World):Prop :=
 opV Pg (Instr.fieldAt 24 t1 1) (panK R) w fun t47 w =>
 opV Pg (Instr.loadAt 22 t47) (panK R) w fun t48 w =>
 opV Pg (Instr.indexAt 22 t48 t5) (panK R) w fun t50 w =>
 opV Pg (Instr.fieldAt 53 t50 1) (panK R) w fun t51 w =>
 opV Pg (Instr.loadAt 51 t51) (panK R) w fun t52 w =>
 opV Pg (Instr.indexAt 51 t52 t6) (panK R) w fun t54 w =>
 opV Pg (Instr.loadAt 71 t54) (panK R) w fun t55 w =>
 opV Pg (Instr.alloc 71 true (.tuple #[])) (panK R) w fun t7 w =>
 opU Pg (Instr.storeAt 71 t7 t55) (panK R) w fun w =>
 opV Pg (Instr.build 36 #[(0,(.int .i64 4)),(1,t5),(2,t6),(3,(.int .i64 (-1))),(4,(.int .i64 (-1))),(5,(.int .i64 (-1)))]) (panK R) w fun t58 w =>
 opV Pg (Instr.alloc 36 true (.tuple #[])) (panK R) w fun t8 w =>
 opU Pg (Instr.storeAt 36 t8 t58) (panK R) w fun w =>
 opV Pg (Instr.fieldAt 71 t7 1) (panK R) w fun t59 w =>
 opV Pg (Instr.loadAt 65 t59) (panK R) w fun t60 w =>
 opV Pg (binS .eql 65 true t60 (.int .i64 8)) (panK R) w fun t70 w =>
 joinK (fun (w:World) =>
 n30c5 t1 t3 t5 t6 t7 t8 next3 R w) fun K4 =>
 condP t70 (
 n30c13 t1 t7 t8 K4 R w) (
 n30c14 t1 t5 t6 t7 t8 t60 K4 R w)
def n30c17 (t1 t3 t5 t6:Value) (K2:KV) (next3:KW) (R:RT) (w:World):Prop :=
 opV Pg (Instr.fieldAt 24 t1 1) (panK R) w fun t37 w =>
 opV Pg (Instr.loadAt 22 t37) (panK R) w fun t38 w =>
 opV Pg (Instr.indexAt 22 t38 t5) (panK R) w fun t40 w =>
 opV Pg (Instr.fieldAt 53 t40 1) (panK R) w fun t41 w =>
 opV Pg (Instr.loadAt 51 t41) (panK R) w fun t42 w =>
 opV Pg (Builtin.len_ #[51] 3 #[t42]) (panK R) w fun t43 w =>
 opV Pg (binS .lss 3 false t6 t43) (panK R) w fun t44 w =>
 condP t44 (
 n30c16 t1 t3 t5 t6 next3 R w) (
 n30c15 t3 t5 K2 R w)
def n30c18 (t1 t3 t5:Value) (K2:KV) (R:RT) (w:World):Prop :=
 opV Pg (Instr.build 36 #[(0,(.int .i64 3)),(1,t5),(2,(.int .i64 (-1))),(3,(.int .i64 (-1))),(4,(.int .i64 (-1))),(5,(.int .i64 (-1)))]) (panK R) w fun t33 w =>
 opV Pg (Instr.buildSlice 32 1 #[(0,t33)]) (panK R) w fun t34 w =>
 opV Pg (Builtin.append_ #[32,32] 32 #[t3,t34]) (panK R) w fun t35 w =>
 loop2 (fun t3 t6 w next3 =>
 n30c17 t1 t3 t5 t6 K2 next3 R w) t35 (.int .i64 0) w
def n30c19 (t1 t3 t5 t18:Value) (next1:KW) (R:RT) (w:World):Prop :=
 joinK (fun (t3:Value) (w:World) =>
 opV Pg (binS .add 3 true t5 (.int .i64 1)) (panK R) w fun t25 w =>
 next1 t3 t25 w) fun K2 =>
 opV Pg (Instr.indexAt 75 t18 t5) (panK R) w fun t28 w =>
 opV Pg (Instr.loadAt 4 t28) (panK R) w fun t29 w =>
 opV Pg (Op.unary .not t29) (panK R) w fun t30 w =>
 condP t30 (
 K2 t3 w) (
 n30c18 t1 t3 t5 K2 R w)
def n30c20 (t1 t3 t5 t18:Value) (next1:KW) (R:RT) (w:World):Prop :=
 opV Pg (Instr.fieldAt 24 t1 1) (panK R) w fun t20 w =>
 opV Pg (Instr.loadAt 22 t20) (panK R) w fun t21 w =>
 opV Pg (Builtin.len_ #[22] 3 #[t21]) (panK R) w fun t22 w =>
 opV Pg (binS .lss 3 false t5 t22) (panK R) w fun t23 w =>
 condP t23 (
 n30c19 t1 t3 t5 t18 next1 R w) (
 R (.returned t3) w)
def n30c21 (t1 t13:Value) (R:RT) (w:World):Prop :=
 opV Pg (Instr.build 36 #[(0,(.int .i64 1)),(1,(.int .i64 (-1))),(2,(.int .i64 (-1))),(3,(.int .i64 (-1))),(4,(.int .i64 (-1))),(5,t13)]) (panK R) w fun t14 w =>
 opV Pg (Instr.build 36 #[(0,(.int .i64 2)),(1,(.int .i64 (-1))),(2,(.int .i64 (-1))),(3,(.int .i64 (-1))),(4,(.int .i64 (-1))),(5,(.int .i64 (-1)))]) (panK R) w fun t15 w =>
 opV Pg (Instr.buildSlice 32 2 #[(0,t14),(1,t15)]) (panK R) w fun t16 w =>
 opV Pg (Instr.loadAt 24 t1) (panK R) w fun t17 w =>
 callK Pg 27 #[t17] (panK R) w fun t18 w =>
 loop2 (fun t3 t5 w next1 =>
 n30c20 t1 t3 t5 t18 next1 R w) t16 (.int .i64 0) w
def n30 (t0:Value) (R:RT) (w:World):Prop :=
 opV Pg (Instr.box 24 t0) (panK R) w fun t1 w =>
 opV Pg (Instr.loadAt 24 t1) (panK R) w fun t10 w =>
 opV Pg (Instr.fieldAt 24 t1 2) (panK R) w fun t11 w =>
 opV Pg (Instr.loadAt 9 t11) (panK R) w fun t12 w =>
 callK Pg 34 #[t10,t12] (panK R) w fun t13 w =>
 n30c21 t1 t13 R w
set_option maxHeartbeats 40000000 in
theorem n30s {t0:Value} {R:RT} {w:World} (h:n30 t0 R w):Calls Pg 13 #[t0] w R:=by
 refine yD Tryz.func13 ?_
 refine zs<|zr<|yv h fun _ w h=>zm<|zn<|zk<|zs<|zr<|yv h fun _ w h=>yv h fun _ w h=>yv h fun _ w h=>yc h c34 fun _ w h=>yB h fun _ w h=>yB h fun _ w h=>yS h fun _ w h=>?_
 refine zm<|zn<|zk<|zs<|zr<|yv h fun _ w h=>yc h c27 fun _ w h=>zm<|zn<|zk<|zs<|zs<|zr<|zm<|zn ?_
 refine zk<|sim_block<|yl2 [3,5,6,7,8,9,19,20,21,22,23,24,25,26,27,28,29,30,31,32,33,34,35,36,37,38,39,40,41,42,43,44,45,46,47,48,49,50,51,52,53,54,55,56,57,58,59,60,61,62,63,64,65,66,67,68,69,70,71,72,73,74,75,76,77,78,79,80,81,82,83,84,85,86,87,88,89,90,91,92,93,94,95,96,97,98,99,100,101,102,103,104,105,106,107,108,109,110,111,112,113,114,115,116,117,118,119,120,121,122,123,124,125,126,127,128,129,130,131] 3 5 h fun σ w next h=>zs<|zs<|zr<|zm<|yv h fun _ w h=>yv h fun _ w h=>yx h fun _ w h=>yb h fun _ w h=>zn<|zk<|yC h (fun h=>?_) fun h=>?_
 · refine sim_skip<|zk<|zs<|yJ1 [3,6,7,8,9,26,27,28,29,30,31,32,33,34,35,36,37,38,39,40,41,42,43,44,45,46,47,48,49,50,51,52,53,54,55,56,57,58,59,60,61,62,63,64,65,66,67,68,69,70,71,72,73,74,75,76,77,78,79,80,81,82,83,84,85,86,87,88,89,90,91,92,93,94,95,96,97,98,99,100,101,102,103,104,105,106,107,108,109,110,111,112,113,114,115,116,117,118,119,120,121,122,123,124,125,126,127,128,129,130,131] 3 h (fun _ _ hkK2 h=>?_) fun σ w h=>?_
   · refine sim_block<|zs<|zs<|zr<|zm<|zm<|yv h fun _ w h=>yv h fun _ w h=>yv h fun _ w h=>zn<|zk<|yC h (fun h=>?_) fun h=>?_
     · refine sim_exit<|sim_then_exit<|sim_block_hit<|zk ?_
       exact zt hkK2 h
     refine sim_skip<|zk<|zs<|zr<|zm<|zm<|yB h fun _ w h=>yS h fun _ w h=>yx h fun _ w h=>zm<|zn<|zk<|zs<|zs<|zr ?_
     refine zm<|zn<|zk<|sim_block<|yl2 [3,6,7,8,9,36,37,38,39,40,41,42,43,44,45,46,47,48,49,50,51,52,53,54,55,56,57,58,59,60,61,62,63,64,65,66,67,68,69,70,71,72,73,74,75,76,77,78,79,80,81,82,83,84,85,86,87,88,89,90,91,92,93,94,95,96,97,98,99,100,101,102,103,104,105,106,107,108,109,110,111,112,113,114,115,116,117,118,119,120,121,122,123,124,125,126] 3 6 h fun σ w next h=>zs<|zs<|zr<|zm<|yv h fun _ w h=>yv h fun _ w h=>zm<|yv h fun _ w h=>yv h fun _ w h=>yv h fun _ w h=>?_
     refine yx h fun _ w h=>yb h fun _ w h=>zn<|zk<|yC h (fun h=>?_) fun h=>?_
     · refine sim_skip<|zk<|zs<|sim_block<|zs<|zr<|yv h fun _ w h=>yv h fun _ w h=>zm<|yv h fun _ w h=>yv h fun _ w h=>yv h fun _ w h=>zm<|yv h fun _ w h=>yv h fun _ w h=>?_
       refine yv h fun _ w h=>yu h fun w h=>zn<|zk<|zs<|zr<|zm<|zm<|yB h fun _ w h=>yv h fun _ w h=>yu h fun w h=>zn<|zk<|zs<|zs ?_
       refine zr<|yv h fun _ w h=>yv h fun _ w h=>zn<|zk<|sim_block<|zs<|zr<|yb h fun _ w h=>zm<|zn<|zk<|yJ0 [61,62,63,64,65,66,67,68,71,72,73,74,75,76,77,78,79,80,81,82,83,84,85,86,87,88,89,90,91,92,93,94,95] h (fun _ _ hkK4 h=>?_) fun σ w h=>?_
       · refine yC h (fun h=>?_) fun h=>?_
         · refine zr<|yv h fun _ w h=>yv h fun _ w h=>yv h fun _ w h=>yc h c34 fun _ w h=>yv h fun _ w h=>yu h fun w h=>yv h fun _ w h=>yu h fun w h=>zn<|zk ?_
           exact zt hkK4 h
         refine zs<|zr<|yb h fun _ w h=>zm<|zn<|zk<|yC h (fun h=>?_) fun h=>?_
         · refine zr<|yv h fun _ w h=>yv h fun _ w h=>yv h fun _ w h=>yc h c34 fun _ w h=>yv h fun _ w h=>yu h fun w h=>yv h fun _ w h=>yu h fun w h=>zn<|zk ?_
           exact zt hkK4 h
         refine zs<|zr<|yb h fun _ w h=>zm<|zn<|zk<|yC h (fun h=>?_) fun h=>?_
         · refine zr<|yv h fun _ w h=>yv h fun _ w h=>yv h fun _ w h=>yc h c34 fun _ w h=>yv h fun _ w h=>yu h fun w h=>yv h fun _ w h=>yu h fun w h=>zn<|zk ?_
           exact zt hkK4 h
         refine zs<|zr<|yb h fun _ w h=>zm<|zn<|zk<|yC h (fun h=>?_) fun h=>?_
         · refine zr<|yv h fun _ w h=>yu h fun w h=>zn<|zk ?_
           exact zt hkK4 h
         refine zr<|yv h fun _ w h=>yv h fun _ w h=>zm<|yv h fun _ w h=>yv h fun _ w h=>zm<|yc h c35 fun _ w h=>yv h fun _ w h=>yu h fun w h=>zn<|zk ?_
         exact zt hkK4 h
       refine sim_block_normal<|zk<|zs<|zr<|zm<|yv h fun _ w h=>yS h fun _ w h=>yx h fun _ w h=>zm<|zn<|zk<|zs<|zr<|zm<|zn ?_
       refine zk<|sim_block<|yl2 [3,9,100,101,102,103,104,105,106,107,108,109,110,111,112,113,114,115,116,117,118,119,120,121,122,123,124,125,126] 3 9 h fun σ w next h=>zs<|zs<|sim_regionG<|yG 4<|yv h fun _ w h=>yv h fun _ w h=>yb h fun _ w h=>zm<|zn<|yg1 5 3 true [104,105,106,107,108] 108 h (fun _ T hT h=>?_) fun σ w h=>?_
       · refine zm<|yv h fun _ w h=>yv h fun _ w h=>yx h fun _ w h=>yb h fun _ w h=>zn ?_
         exact zt hT h
       refine yG 1<|yp h fun _ h=>zn<|sim_end<|zk<|yC h (fun h=>?_) fun h=>?_
       · refine sim_skip<|zk<|zs<|sim_block<|yh [3,112,113,114,115,116,117,118,119,120,121,122,123,124,125,126] h fun C hC h=>yw 0 hC ?_
         refine yw 1 hC ?_
         refine yw 2 hC ?_
         refine yw 3 hC ?_
         refine ye 4 hC h fun _ h=>?_
         refine ye 5 hC h fun _ h=>?_
         refine ye 6 hC h fun _ h=>?_
         refine yw 7 hC ?_
         refine ye 8 hC h fun _ h=>?_
         refine ye 9 hC h fun _ h=>?_
         refine ye 10 hC h fun _ h=>?_
         refine yo 11 ?_
         refine yc h c34 fun _ w h=>zn ?_
         obtain ⟨hC,h⟩:=h
         refine ⟨hC,?_⟩
         refine ye 12 hC h fun _ h=>?_
         refine yo 13 ?_
         refine yS h fun _ w h=>zn ?_
         obtain ⟨hC,h⟩:=h
         refine ⟨hC,?_⟩
         refine yo 14 ?_
         refine yx h fun _ w h=>zn ?_
         obtain ⟨hC,h⟩:=h
         refine ⟨hC,?_⟩
         refine yw 15 hC ?_
         exact yz<|sim_block_normal<|zk<|zr<|zm<|yb h fun _ w h=>zm<|zn<|zk<|⟨rfl,h⟩
       exact sim_exit<|sim_then_exit<|sim_then_exit<|sim_block_hit<|sim_block_normal<|zk<|zr<|zm<|yb h fun _ w h=>zm<|zn<|zk<|⟨rfl,h⟩
     refine sim_exit<|sim_then_exit<|sim_then_exit<|sim_block_hit<|zk<|zr<|zm<|zm<|yB h fun _ w h=>yS h fun _ w h=>yx h fun _ w h=>zm<|zn<|sim_block_normal<|zk ?_
     exact zt hkK2 h
   exact zk<|zr<|zm<|yb h fun _ w h=>zm<|zn<|zk<|⟨rfl,h⟩
 exact sim_exit<|sim_then_exit<|sim_then_exit<|sim_block_hit<|zk<|zs<|zr<|zm<|zm<|zn<|zk<|sim_ret<|body_ret1 rfl rfl h
def n38c1 (t4:Value) (R:RT) (w:World):Prop :=
 opV Pg (Instr.build 36 #[]) (panK R) w fun t22 w =>
 opU Pg (Instr.storeAt 36 t4 t22) (panK R) w fun w =>
 qW Pg 36 t4 w fun r0 =>
 R (.returned (.tuple #[r0,(.int .i64 3)])) w
def n38c2 (t0 t1 t4:Value) (R:RT) (w:World):Prop :=
 opN Pg (nilN t0) (panK R) w fun t24 w =>
 opV Pg (Instr.fieldAt 61 t24 1) (panK R) w fun t25 w =>
 opV Pg (Instr.loadAt 32 t25) (panK R) w fun t26 w =>
 opV Pg (Instr.indexAt 32 t26 t1) (panK R) w fun t28 w =>
 opV Pg (Instr.loadAt 36 t28) (panK R) w fun t29 w =>
 opU Pg (Instr.storeAt 36 t4 t29) (panK R) w fun w =>
 qW Pg 36 t4 w fun r0 =>
 R (.returned (.tuple #[r0,(.int .i64 0)])) w
def n38c3 (t4:Value) (R:RT) (w:World):Prop :=
 opV Pg (Instr.build 36 #[]) (panK R) w fun t9 w =>
 opU Pg (Instr.storeAt 36 t4 t9) (panK R) w fun w =>
 qW Pg 36 t4 w fun r0 =>
 R (.returned (.tuple #[r0,(.int .i64 1)])) w
def n38c4 (t0 t1 t4:Value) (R:RT) (w:World):Prop :=
 opV Pg (binS .lss 3 true t1 (.int .i64 0)) (panK R) w fun t12 w =>
 joinK (fun (t20:Value) (w:World) =>
 pickK t12 (.bool true) t20 fun t21 =>
 condP t21 (
 n38c1 t4 R w) (
 n38c2 t0 t1 t4 R w)) fun K1 =>
 guardP t12 false (
 opN Pg (nilN t0) (panK R) w fun t16 w =>
 opV Pg (Instr.fieldAt 61 t16 1) (panK R) w fun t17 w =>
 opV Pg (Instr.loadAt 32 t17) (panK R) w fun t18 w =>
 opV Pg (Builtin.len_ #[32] 3 #[t18]) (panK R) w fun t19 w =>
 opV Pg (binS .geq 3 false t1 t19) (panK R) w fun t20 w =>
 K1 t20 w) (
 K1 undef w)
def n38 (t0 t1:Value) (R:RT) (w:World):Prop :=
 opV Pg (Instr.alloc 36 true (.tuple #[])) (panK R) w fun t4 w =>
 callK Pg 36 #[t0] (panK R) w fun t8 w =>
 condP t8 (
 n38c3 t4 R w) (
 n38c4 t0 t1 t4 R w)
theorem n38s {t0 t1:Value} {R:RT} {w:World} (h:n38 t0 t1 R w):Calls Pg 14 #[t0,t1] w R:=by
 refine yD Tryz.func14 ?_
 refine zs<|zr<|yv h fun _ w h=>zm<|zn<|zk<|zs<|sim_block<|zs<|zr<|zm<|yc h c36 fun _ w h=>zm<|zn<|zk ?_
 refine yC h (fun h=>zs<|zr<|yB h fun _ w h=>yu h fun w h=>zm<|zn<|zk<|sim_ret<|sim_block_ret<|sim_then_ret<|body_retCT rfl rfl rfl h) fun h=>zs<|sim_regionG<|yG 3<|zm<|yb h fun _ w h=>zm<|zn<|yg1 7 2 false [14,15,16,17,18,19,20] 20 h (fun _ T hT h=>?_) fun σ w h=>?_
 · refine zm<|zm<|yN h fun _ w h=>yv h fun _ w h=>yv h fun _ w h=>yx h fun _ w h=>yb h fun _ w h=>zn ?_
   exact zt hT h
 refine yG 2<|yp h fun _ h=>zm<|zn<|sim_end<|zk<|yC h (fun h=>zs<|zr<|yB h fun _ w h=>yu h fun w h=>zm<|zn<|zk<|sim_ret<|sim_block_ret<|sim_then_ret<|body_retCT rfl rfl rfl h) fun h=>sim_skip<|sim_block_normal<|zk<|zs<|zr<|zm<|yN h fun _ w h=>?_
 exact yv h fun _ w h=>yv h fun _ w h=>zm<|yv h fun _ w h=>yv h fun _ w h=>yu h fun w h=>zm<|zn<|zk<|sim_ret<|body_retCT rfl rfl rfl h
def n24 (t0:Value) (R:RT) (w:World):Prop :=
 R (.returned t0) w
theorem n24s {t0:Value} {R:RT} {w:World} (h:n24 t0 R w):Calls Pg 15 #[t0] w R:=by
 refine yD Tryz.func15 ?_
 exact zs<|zr<|zm<|zn<|zk<|zs<|zr<|zm<|zm<|zn<|zk<|sim_ret<|body_ret1 rfl rfl h
def n39c1 (t0 t3:Value) (K1:World→Prop) (R:RT) (w:World):Prop :=
 opN Pg (nilN t0) (panK R) w fun t8 w =>
 opV Pg (Instr.fieldAt 61 t8 1) (panK R) w fun t9 w =>
 opV Pg (Instr.loadAt 32 t9) (panK R) w fun t10 w =>
 callK Pg 37 #[t10] (panK R) w fun t11 w =>
 opU Pg (Instr.storeAt 32 t3 t11) (panK R) w fun w =>
 K1 w
def n39c2 (t0 t3 t5:Value) (R:RT) (w:World):Prop :=
 opV Pg (Op.unary .not t5) (panK R) w fun t6 w =>
 joinK (fun (w:World) =>
 opV Pg (Instr.makeFunc (.func 38) #[] #[t3]) (panK R) w fun t12 w =>
 R (.returned t12) w) fun K1 =>
 condP t6 (
 n39c1 t0 t3 K1 R w) (
 K1 w)
def n39 (t0:Value) (R:RT) (w:World):Prop :=
 opV Pg (Instr.alloc 32 true (.tuple #[])) (panK R) w fun t3 w =>
 callK Pg 36 #[t0] (panK R) w fun t5 w =>
 n39c2 t0 t3 t5 R w
theorem n39s {t0:Value} {R:RT} {w:World} (h:n39 t0 R w):Calls Pg 16 #[t0] w R:=by
 refine yD Tryz.func16 ?_
 refine zs<|zr<|zm<|zn<|zk<|zs<|zr<|yv h fun _ w h=>zn<|zk<|zs<|zs<|zr<|zm<|yc h c36 fun _ w h=>?_
 refine yv h fun _ w h=>zn<|zk<|yJ0 [7,8,9,10,11] h (fun _ _ hkK1 h=>?_) fun σ w h=>?_
 · refine yC h (fun h=>?_) fun h=>?_
   · refine zr<|zm<|yN h fun _ w h=>yv h fun _ w h=>yv h fun _ w h=>yc h c37 fun _ w h=>yu h fun w h=>zn<|zk ?_
     exact zt hkK1 h
   refine sim_skip<|zk ?_
   exact zt hkK1 h
 exact zk<|zs<|zr<|yF h fun _ w h=>zm<|zn<|zk<|sim_ret<|body_ret1 rfl rfl h
def n41c1 (t0:Value) (R:RT) (w:World):Prop :=
 opN Pg (nilN t0) (panK R) w fun t6 w =>
 opV Pg (Instr.fieldAt 61 t6 1) (panK R) w fun t7 w =>
 opV Pg (Instr.loadAt 32 t7) (panK R) w fun t8 w =>
 opV Pg (Builtin.len_ #[32] 3 #[t8]) (panK R) w fun t9 w =>
 R (.returned t9) w
def n41 (t0:Value) (R:RT) (w:World):Prop :=
 callK Pg 36 #[t0] (panK R) w fun t4 w =>
 condP t4 (
 R (.returned (.int .i64 0)) w) (
 n41c1 t0 R w)
theorem n41s {t0:Value} {R:RT} {w:World} (h:n41 t0 R w):Calls Pg 17 #[t0] w R:=by
 refine yD Tryz.func17 ?_
 refine zs<|zr<|zm<|zn<|zk<|zs<|zs<|zr<|zm<|yc h c36 fun _ w h=>zn<|zk<|yC h (fun h=>zs<|zr<|zm<|zn<|zk<|sim_ret<|sim_then_ret<|body_ret1 rfl rfl h) fun h=>sim_skip ?_
 exact zk<|zs<|zr<|zm<|yN h fun _ w h=>yv h fun _ w h=>yv h fun _ w h=>yx h fun _ w h=>zm<|zn<|zk<|sim_ret<|body_ret1 rfl rfl h
open Go.RowKit (intOf Below)
section
variable {P:Program} {QP:List PanicEntry→World→Prop} {w:World} {k:Value→World→Prop}
theorem eqNil_p (d0:Nat) {t e:TypeId} (hu:P.underlying t=some (.pointer e)) (a:Option Addr):(Op.equalIn (d0+1) t (.pointer a) (.pointer none)).run P w = .ok a.isNone w:=by cases a<;>simp [Op.equalIn,run_underlying hu]
theorem op_eqNilP {t e:TypeId} (hu:P.underlying t=some (.pointer e)) (c:Bool) (a:Option Addr):opV P (binS .eql t c (.pointer a) (.pointer none)) QP w k=k (.bool a.isNone) w:=opV_ok (run_eqv (eqNil_p 9999 hu a))
theorem op_neNilP {t e:TypeId} (hu:P.underlying t=some (.pointer e)) (c:Bool) (a:Option Addr):opV P (binS .neq t c (.pointer a) (.pointer none)) QP w k=k (.bool (!a.isNone)) w:=opV_ok (run_nev (eqNil_p 9999 hu a))
end
theorem ext_set6 {w w':World} (e:Ext w w') {b:Nat} (hb:w.heap.size≤b) (v0 v1 v2 v3 v4 v5:Value):Ext w ((((((w'.setCell ⟨b,0,none⟩ v0).setCell ⟨b,1,none⟩ v1).setCell ⟨b,2,none⟩ v2).setCell ⟨b,3,none⟩ v3).setCell ⟨b,4,none⟩ v4).setCell ⟨b,5,none⟩ v5) :=
 (((((e.setCell (p:=⟨b,0,none⟩) hb _).setCell (p:=⟨b,1,none⟩) hb _).setCell (p:=⟨b,2,none⟩) hb _).setCell (p:=⟨b,3,none⟩) hb _).setCell (p:=⟨b,4,none⟩) hb _).setCell (p:=⟨b,5,none⟩) hb _
theorem codeP_len (d:DefD):(codeP d).length=sizeP d:=by
 unfold codeP sizeP
 rw [List.length_append,← codeN_len (rt:=toR d.msgs (reachD d))]
 show 2+_=_
 omega
theorem sizeP_pos (d:DefD):2≤sizeP d:=by rw [← codeP_len];unfold codeP;rw [List.length_append];show 2≤2+_;omega
def errI (d:DefD) (i:Int):Int:=if 0≤i∧i < sizeP d then 0 else 3
def zeroI:InsD:=⟨0,0,0,0,0,0⟩
def atI (d:DefD) (i:Int):InsD:=if 0≤i∧i < sizeP d then ((codeP d)[i.toNat]?).getD zeroI else zeroI
section
variable {w:World} {lo pb:Nat} {d:DefD}
theorem ProgAt.code (h:ProgAt w lo pb d):∃ mc rm gm g cap,w.heap[pb]?=some (.cells (progCells d mc (.slice (some ⟨g,0,none⟩) (sizeP d) cap) rm gm).toArray 61 (0,0))∧OwnE w lo TI 6 insCells (.slice (some ⟨g,0,none⟩) (sizeP d) cap) (codeP d)∧(∀ k x,(codeP d)[k]?=some x→ElemAt w g (k*6) (insCells x))∧sizeP d≤cap:=by
 obtain ⟨mc,cv,rm,gm,h1,_,_,_,_,h2,_⟩:=h
 have hp:=sizeP_pos d
 have hl:=codeP_len d
 have hs:=h2.slice (E:=fun _ cs x=>cs=insCells x) (fun _=>rfl) (fun _ _=>rfl)
 obtain ⟨g,cap,rfl,_,_,_,_,hE⟩:=h2.row (fun _=>rfl) (by omega)
 obtain ⟨A,c,hv,hlc,_⟩:=SliceOf.open hs
 injection hv with _ _ hv
 rw [hl] at h1 h2
 exact ⟨mc,rm,gm,g,cap,h1,h2,hE,by omega⟩
theorem none_ret (h:ProgAt w lo pb d):Ret Pg 36 #[.pointer (some ⟨pb,0,none⟩)] w fun r w'=>r = .bool false∧Ext w w':=by
 obtain ⟨mc,rm,gm,g,cap,h1,_⟩:=h.code
 have hp:=sizeP_pos d
 have hz:((sizeP d:Int) == 0)=false:=by simp;omega
 refine n49s (R:=retR _) ?_;unfold n49
 rw [op_eqNilP Tryz.underlying27]
 simp (disch:=try exact DI) only [↓PR,QR,simprocAttr,(cells_of_heap h1).1,hz,Option.isNone_some]
 exact ⟨by trivial,Ext.refl _⟩
theorem Len_ret (h:ProgAt w lo pb d):Ret Pg 17 #[.pointer (some ⟨pb,0,none⟩)] w fun r w'=>r = .int .i64 (sizeP d:Int)∧Ext w w':=by
 refine n41s (R:=retR _) ?_;unfold n41
 refine zcr (none_ret h) fun w1 e1=>?_
 obtain ⟨mc,rm,gm,g,cap,h1,_⟩:=(h.ext e1).code
 simp (disch:=try exact DI) only [↓PR,QR,simprocAttr,↓n41c1,(cells_of_heap h1).1]
 exact ⟨by first | trivial | rfl,ee⟩
theorem At_ret (h:ProgAt w lo pb d) (i:Int) (hz:sizeP d≤100000):Ret Pg 14 #[.pointer (some ⟨pb,0,none⟩),.int .i64 i] w fun r w'=>r = .tuple #[insVal (atI d i),.int .i64 (errI d i)]∧Ext w w':=by
 refine n38s (R:=retR _) ?_;unfold n38
 simp (disch:=try exact DI) only [↓PR,QR,simprocAttr]
 generalize hW:World.alloc w _=W
 have eW:Ext w W:=by rw [← hW];exact ee
 have oW:W.heap[w.heap.size]?=some (.cells (insCells zeroI).toArray TI (0,0)):=by rw [← hW];exact heap_new _ _ _
 clear hW
 refine zcr (none_ret (h.ext eW)) fun w1 e1=>?_
 have E1:=eW.trans e1
 have q1:=e1.obj oW
 obtain ⟨mc,rm,gm,g,cap,h1,hO,hE,hcap⟩:=(h.ext E1).code
 by_cases h0:i < 0
 · have d0:decide (i < 0)=true:=decide_eq_true h0
   simp (disch:=try exact DI) only [↓PR,QR,simprocAttr,↓n38c4,↓n38c1,d0,(cells_of_heap q1).1,(cells_of_heap q1).2]
   have hx:¬ (0≤i∧i < sizeP d):=by omega
   unfold atI errI
   rw [if_neg hx,if_neg hx]
   exact ⟨rfl,ext_set6 E1 (Nat.le_refl _) _ _ _ _ _ _⟩
 · have d0:decide (i < 0)=false:=decide_eq_false h0
   by_cases h2:i < sizeP d
   · have d1:decide (i≥(sizeP d:Int))=false:=decide_eq_false (by omega)
     obtain ⟨k,rfl⟩:∃ k:Nat,i=k:=⟨i.toNat,by omega⟩
     have hk:k < sizeP d:=by omega
     obtain ⟨x,hx⟩:=getElem?_lt (l:=codeP d) (k:=k) (by rw [codeP_len];exact hk)
     have hA:=hE k x hx
     simp (disch:=try exact DI) only [↓PR,QR,simprocAttr,↓n38c4,↓n38c2,d0,d1,(cells_of_heap h1).1,hA.c6 (Ext.refl _),(cells_of_heap q1).1,(cells_of_heap q1).2]
     have hx':(0:Int)≤k∧(k:Int) < sizeP d:=by omega
     unfold atI errI
     rw [if_pos hx',if_pos hx',Int.toNat_natCast,hx]
     exact ⟨rfl,ext_set6 E1 (Nat.le_refl _) _ _ _ _ _ _⟩
   · have d1:decide (i≥(sizeP d:Int))=true:=decide_eq_true (by omega)
     simp (disch:=try exact DI) only [↓PR,QR,simprocAttr,↓n38c4,↓n38c1,d0,d1,(cells_of_heap h1).1,(cells_of_heap q1).1,(cells_of_heap q1).2]
     have hx:¬ (0≤i∧i < sizeP d):=by omega
     unfold atI errI
     rw [if_neg hx,if_neg hx]
     exact ⟨rfl,ext_set6 E1 (Nat.le_refl _) _ _ _ _ _ _⟩
theorem found_ret (h:ProgAt w lo pb d) (s:ByteArray) {fn:FuncId} {cp rr:Nat} {φ:ByteArray→Option Int} (hc:Callable Pg fn) (hM:MapI w rr φ) (hfn:∀ w',Ext w w'→Ret Pg fn #[.pointer (some ⟨cp,0,none⟩)] w' fun r w''=>r = .map (some rr)∧Ext w' w'') :
 Ret Pg 49 #[.pointer (some ⟨pb,0,none⟩),.string s,.func (.func fn) #[] #[.pointer (some ⟨cp,0,none⟩)]] w fun r w'=>r = .tuple #[.int .i64 ((φ s).getD 0),.int .i64 (if (φ s).isSome then 0 else 9)]∧Ext w w':=by
 refine n47s (R:=retR _) ?_;unfold n47
 refine zcr (none_ret h) fun w1 e1=>?_
 simp (disch:=try exact DI) only [↓PR,QR,simprocAttr]
 rw [callV_func hc]
 simp only [Array.empty_append,List.push_toArray,List.append_toArray,Array.append_eq_append,List.nil_append]
 refine zcr (hfn w1 e1) fun w2 e2=>?_
 unfold n47c1
 rw [(hM.ext (e1.trans e2)).look2]
 cases hf:φ s with
 | none=>simp (disch:=try exact DI) only [↓PR,QR,simprocAttr,Option.isSome_none,Option.getD_none];exact ⟨by trivial,e1.trans e2⟩
 | some n=>simp (disch:=try exact DI) only [↓PR,QR,simprocAttr,Option.isSome_some,Option.getD_some];exact ⟨by trivial,e1.trans e2⟩
def routE (d:DefD) (s:ByteArray):Option Int:=mapF d.msgs (reachD d) (fun i=>(routN d.msgs (reachD d) i:Int)) d.msgs.length s
def regE (d:DefD) (s:ByteArray):Option Int:=mapF d.msgs (reachD d) (cntM d.msgs) d.msgs.length s
theorem Routine_ret (h:ProgAt w lo pb d) (s:ByteArray):Ret Pg 22 #[.pointer (some ⟨pb,0,none⟩),.string s] w fun r w'=>r = .tuple #[.int .i64 ((routE d s).getD 0),.int .i64 (if (routE d s).isSome then 0 else 9)]∧Ext w w':=by
 refine n44s (R:=retR _) ?_;unfold n44
 simp (disch:=try exact DI) only [↓PR,QR,simprocAttr]
 generalize hV:World.alloc w _=W
 have eW:Ext w W:=by rw [← hV];exact ee
 have oW:W.heap[w.heap.size]?=some (.cells #[.pointer (some ⟨pb,0,none⟩)] 27 (0,0)):=by rw [← hV];exact heap_new _ _ _
 clear hV
 have hW:=h.ext eW
 obtain ⟨mc,cv,rm,gm,h1,h2,h3,h4,h5,h6,h7,h8⟩:=id hW
 refine callK_ret (found_ret hW s (φ:=routE d) c51 h7 fun w' e=>?_) ?_
 · refine n45s (R:=retR _) ?_;unfold n45
   simp (disch:=try exact DI) only [↓PR,QR,simprocAttr,(cells_of_heap (e.obj oW)).1,(cells_of_heap (e.obj h1)).1]
   exact ⟨by trivial,Ext.refl _⟩
 rintro _ w2 ⟨rfl,e2⟩
 simp (disch:=try exact DI) only [↓PR,QR,simprocAttr]
 exact ⟨by trivial,eW.trans e2⟩
theorem Registers_ret (h:ProgAt w lo pb d) (s:ByteArray):Ret Pg 21 #[.pointer (some ⟨pb,0,none⟩),.string s] w fun r w'=>r = .tuple #[.int .i64 ((regE d s).getD 0),.int .i64 (if (regE d s).isSome then 0 else 9)]∧Ext w w':=by
 refine n42s (R:=retR _) ?_;unfold n42
 simp (disch:=try exact DI) only [↓PR,QR,simprocAttr]
 generalize hV:World.alloc w _=W
 have eW:Ext w W:=by rw [← hV];exact ee
 have oW:W.heap[w.heap.size]?=some (.cells #[.pointer (some ⟨pb,0,none⟩)] 27 (0,0)):=by rw [← hV];exact heap_new _ _ _
 clear hV
 have hW:=h.ext eW
 obtain ⟨mc,cv,rm,gm,h1,h2,h3,h4,h5,h6,h7,h8⟩:=id hW
 refine callK_ret (found_ret hW s (φ:=regE d) c50 h8 fun w' e=>?_) ?_
 · refine n43s (R:=retR _) ?_;unfold n43
   simp (disch:=try exact DI) only [↓PR,QR,simprocAttr,(cells_of_heap (e.obj oW)).1,(cells_of_heap (e.obj h1)).1]
   exact ⟨by trivial,Ext.refl _⟩
 rintro _ w2 ⟨rfl,e2⟩
 simp (disch:=try exact DI) only [↓PR,QR,simprocAttr]
 exact ⟨by trivial,eW.trans e2⟩
end
end Go.Proofs.YtfdecdnmooaegaaGreatDoor
namespace Go.Sw
open Go.RowKit (Below)
section
variable {P:Program} {QP:List PanicEntry→World→Prop} {w:World}
theorem op_appendL {α:Type} {t ty T n m:Nat} {z:Value} {agg:Bool} {enc:α→List Value} {v:Value} {l l':List α} {base:Nat} {k:Value→World→Prop}
 (ht:P.underlying t=some (.slice T)) (hT:TyInfo P T agg n m z) (hz:z.cells.size=n) (h0:0 < n) (hn:∀ x,(enc x).length=n) (h1:∀ x,x∈l'→∀ u∈enc x,u.oneCell'=true)
 (hown:OwnE w base T n enc v l) {b o c:Nat} (hc:∀ j x,l'[j]?=some x→ElemAt w b (o+j*n) (enc x)) (hbase:base≤w.heap.size) (hl':0 < l'.length) (hm:(l.length+l'.length)*m≤140737488355328) (hb:l.length+l'.length≤140737488355328)
 (hk:∀ g cap w',OwnE w' base T n enc (.slice (some ⟨g,0,none⟩) (l.length+l'.length) cap) (l++l')→w.grownBy w' v.ownBlock→(v.ownBlock=some g∨g=w.heap.size)→g < w'.heap.size→k (.slice (some ⟨g,0,none⟩) (l.length+l'.length) cap) w') :
 opV P (Builtin.append_ #[t,t] ty #[v,.slice (some ⟨b,o,none⟩) l'.length c]) QP w k:=by
 obtain ⟨⟨i,hi,hs,hby,hzz⟩,_⟩:=hT
 have hfl:(l'.flatMap enc).length=l'.length*n:=by
  clear hm hb hc h1 hk hl'
  induction l' with
  | nil=>simp
  | cons a l ih=>rw [List.flatMap_cons,List.length_append,hn,ih,List.length_cons,Nat.add_mul];omega
 have hcells:∀ j u,(l'.flatMap enc)[j]?=some u→w.cell? ((⟨b,o,none⟩:Addr).add j)=some u:=by
  intro j u hu
  have hj:j < l'.length*n:=by have:=(List.getElem?_eq_some_iff.1 hu).1;rwa [hfl] at this
  have hq:j / n < l'.length:=Nat.div_lt_of_lt_mul (by rw [Nat.mul_comm];exact hj)
  obtain ⟨x,hx⟩:=getElem?_lt hq
  have hjn:j % n < (enc x).length:=by rw [hn];exact Nat.mod_lt _ h0
  have hdm:j / n*n+j % n=j:=by rw [Nat.mul_comm];exact Nat.div_add_mod j n
  have hg:=flatMap_get hn l' (j / n) x (j % n) _ hx (List.getElem?_eq_getElem hjn)
  rw [hdm,hu] at hg
  injection hg with hg
  rw [Addr.add_lit]
  have:=hc _ _ hx (j % n) _ (List.getElem?_eq_getElem hjn)
  rw [hg,← this]
  congr 2;omega
 obtain ⟨g,cap,w',hr,ho,hg,hgl,hlt⟩:=run_append_lies (P:=P) (w:=w) t ty base T i z n m ht hi hzz hs hby hz h0 v l.length (l.flatMap enc) hown ⟨b,o,none⟩ l'.length c (l'.flatMap enc) hfl hcells
  (by intro u hu;obtain ⟨x,hx,hux⟩:=List.mem_flatMap.1 hu;exact h1 x hx u hux) hl' (by simp only [maxLen];omega) hm hbase _ rfl
 rw [opV_ok hr]
 refine hk g cap w' ?_ hg hgl hlt
 unfold OwnE
 rw [List.flatMap_append,List.length_append];exact ho
end
theorem OwnE.grown {α:Type} {w w':World} {lo n:Nat} {T:TypeId} {enc:α→List Value} {v:Value} {l:List α} {row:Option Nat} (h:OwnE w lo T n enc v l) (hg:w.grownBy w' row) (hne:∀ b,v.ownBlock=some b→row≠some b):OwnE w' lo T n enc v l:=by
 obtain ⟨h1,h2⟩:=h
 refine ⟨h1,?_⟩
 rcases h2 with h2 | ⟨g,cap,cur,hv,hb,hc,h3⟩
 · exact .inl h2
 · refine .inr ⟨g,cap,cur,hv,hb,?_,h3⟩
   rw [hg.block g (Array.getElem?_eq_some_iff.1 hc).1 (fun e=>hne g (by rw [hv];rfl) e.symm)]
   exact hc
end Go.Sw
namespace Go.Proofs.YtfdecdnmooaegaaGreatDoor
open Sw
open Go.RowKit (intOf Below)
def addS (o:List ByteArray) (s:ByteArray):List ByteArray:=if o.any (fun y=>decide (y=s)) then o else o++[s]
theorem dedup_snoc:∀ (l seen:List ByteArray) (s:ByteArray),dedupA seen (l++[s])=dedupA seen l++(if (seen++l).any (fun y=>decide (s=y)) then [] else [s])
 | [],seen,s=>by
  simp only [List.nil_append,dedupA,List.append_nil]
 | a::l,seen,s=>by
  simp only [List.cons_append,dedupA]
  rw [dedup_snoc l (seen++[a]) s]
  have:(seen++[a]++l)=seen++a::l:=by simp
  rw [this]
  split<;>simp
theorem mem_dedup:∀ (l seen:List ByteArray) (s:ByteArray),s∈dedupA seen l↔s∈l∧s ∉ seen
 | [],seen,s=>by simp [dedupA]
 | a::l,seen,s=>by
  simp only [dedupA]
  by_cases h:(seen.any fun y=>decide (a=y))=true
  · rw [if_pos h,mem_dedup l]
    have ha:a∈seen:=by obtain ⟨y,h1,h2⟩:=List.any_eq_true.1 h;simp at h2;subst h2;exact h1
    simp only [List.mem_append,List.mem_singleton,List.mem_cons,not_or]
    constructor
    · rintro ⟨h1,h2,h3⟩;exact ⟨.inr h1,h2⟩
    · rintro ⟨h1 | h1,h2⟩
      · subst h1;exact absurd ha h2
      · exact ⟨h1,h2,⟨fun (e:s=a)=>h2 (e ▸ ha),by simp⟩⟩
  · rw [if_neg h]
    have ha:a ∉ seen:=fun h2=>h (List.any_eq_true.2 ⟨a,h2,by simp⟩)
    simp only [List.mem_cons,mem_dedup l,List.mem_append,List.mem_singleton,not_or]
    by_cases e:s=a
    · subst e;simp [ha]
    · simp [e]
theorem dedup_fold (l:List ByteArray):dedupA [] l=l.foldl addS []:=by
 refine snoc_induct (motive:=fun l=>dedupA [] l=l.foldl addS []) rfl (fun l a ih=>?_) l
 rw [dedup_snoc,List.foldl_append,← ih,List.nil_append]
 show _=addS (dedupA [] l) a
 unfold addS
 have:((dedupA [] l).any fun y=>decide (y=a))=(l.any fun y=>decide (a=y)):=by
  rw [Bool.eq_iff_iff,List.any_eq_true,List.any_eq_true]
  constructor
  · rintro ⟨y,h1,h2⟩;simp at h2;subst h2;exact ⟨y,((mem_dedup l [] y).1 h1).1,by simp⟩
  · rintro ⟨y,h1,h2⟩;simp at h2;subst h2;exact ⟨a,(mem_dedup l [] a).2 ⟨h1,by simp⟩,by simp⟩
 rw [this]
 split<;>simp
theorem addS_len (o:List ByteArray) (s:ByteArray):o.length≤(addS o s).length∧(addS o s).length≤o.length+1:=by unfold addS;split<;>simp
theorem foldl_addS_len:∀ (l o:List ByteArray),(l.foldl addS o).length≤o.length+l.length
 | [],o=>by simp
 | s::l,o=>by
  have h1:=foldl_addS_len l (addS o s)
  have h2:=(addS_len o s).2
  simp only [List.foldl_cons,List.length_cons];omega
abbrev OwnS (w:World) (base:Nat) (v:Value) (l:List ByteArray):Prop:=OwnE w base 9 1 strEnc v l
theorem append_strL {w:World} {QP:List PanicEntry→World→Prop} {k:Value→World→Prop} {base:Nat} {v:Value} {l:List ByteArray} (s:ByteArray) {p:Nat} (hown:OwnS w base v l) (hp:w.heap[p]?=some (.cells #[.string s] 9 (0,0))) (hbase:base≤w.heap.size) (hl:l.length≤1048576)
 (hk:∀ v' w',OwnS w' base v' (l++[s])→w.grownBy w' v.ownBlock→(∀ b,v'.ownBlock=some b→v.ownBlock=some b∨b=w.heap.size)→k v' w') :
 opV Pg (Builtin.append_ #[80,80] 80 #[v,.slice (some ⟨p,0,none⟩) 1 1]) QP w k:=by
 have hby:=by9
 refine op_appendL (l':=[s]) Tryz.underlying80 ty9 rfl (by decide) (fun _=>rfl) (fun x _ u hu=>by simp at hu;subst hu;rfl) hown (fun j x hx=>?_) hbase (Nat.zero_lt_one) ?_ (by simp;omega) ?_
 · cases j with
   | zero =>
    simp at hx;subst hx
    intro j v hv
    rw [(cells_of_heap hp).1]
    simpa using hv
   | succ j=>simp at hx
 · simp only [List.length_cons,List.length_nil]
   exact Nat.le_trans (Nat.mul_le_mul (Nat.add_le_add_right hl 1) hby) (by decide)
 · intro g cap w' h1 h2 h3 h4
   refine hk _ w' h1 h2 (fun b hb=>?_)
   simp only [Value.ownBlock,Option.some.injEq] at hb
   subst hb
   exact h3
def Apart (v u:Value):Prop:=∀ b,v.ownBlock=some b→u.ownBlock≠some b
theorem OwnS.lt {w:World} {base:Nat} {v:Value} {l:List ByteArray} (h:OwnS w base v l):∀ b,v.ownBlock=some b→b < w.heap.size:=fun b hb=>(World.ownsRow.lt h b hb).2
theorem Apart.after {v u v':Value} {n:Nat} (h:Apart v u) (hu:∀ b,u.ownBlock=some b→b < n) (hv:∀ b,v'.ownBlock=some b→v.ownBlock=some b∨b=n):Apart v' u:=fun b hb e=>by
 rcases hv b hb with h1 | h1
 · exact h b h1 e
 · have:=hu b e;omega
def refsL (m:MsgD):List ByteArray:=dedupA [] (allRefs m.fields)
section
variable {W:World} {R:RT}
theorem rre_in2 {w:World} (e:Ext W w) (sv t6 t4:Value) (out L:List ByteArray) (hO:OwnS w W.heap.size sv out) (hL:OwnS w W.heap.size t6 L) (hA:Apart sv t6) (hlen:out.length+L.length≤1048576) (next1:Value→Value→World→Prop)
 (i:Nat) (hi:i < 9223372036854775807) (h4:t4 = .int .i64 (i:Int)) (hn:∀ sv' w',Ext W w'→OwnS w' W.heap.size sv' (L.foldl addS out)→next1 sv' (.int .i64 ((i+1:Nat):Int)) w') :
 loop2 (fun t3 t8 w next7=>n29c5 t3 t4 t6 t8 next1 next7 R w) sv (.int .i64 0) w:=by
 refine loop2_intro (fun a b w'=>∃ (k:Nat) (sv':Value),a=sv'∧b = .int .i64 k∧k≤L.length∧Ext W w'∧OwnS w' W.heap.size sv' ((L.take k).foldl addS out)∧OwnS w' W.heap.size t6 L∧Apart sv' t6) (fun _ b _=>L.length - (intOf b).toNat) ⟨0,sv,rfl,rfl,by omega,e,hO,hL,hA⟩ ?_
 rintro _ _ w1 ⟨k,sv',rfl,rfl,hk,e1,hO1,hL1,hA1⟩
 have hsl:=hL1.slice (E:=EStr) (fun _=>rfl) (fun _ _=>rfl)
 obtain ⟨A,c,h6,hlc,hcm,hlm,hel⟩:=SliceOf.open hsl
 unfold n29c5
 rcases drop_cases hk with ⟨x,hx,hd,hlt,hdec⟩ | ⟨hk,hd,hdec⟩
 · have hstep:(L.take (k+1)).foldl addS out=addS ((L.take k).foldl addS out) x:=by rw [take_snoc hx,List.foldl_append];rfl
   have hol:((L.take k).foldl addS out).length≤1048576:=by
    have:=foldl_addS_len (L.take k) out
    have h2:(L.take k).length≤L.length:=by rw [List.length_take];omega
    omega
   generalize ((L.take k).foldl addS out)=o1 at hO1 hstep hol
   obtain ⟨b6,o6,cs6,hA6,_,hE6,hcs6⟩:=hel k x hx
   subst h6 hA6
   subst hcs6
   simp (disch:=try exact DI) only [↓PR,QR,simprocAttr,hdec]
   refine loop2_intro (fun a b w'=>∃ (j:Nat),a = .bool ((o1.take j).any fun y=>decide (y=x))∧b = .int .i64 j∧j≤o1.length∧Ext w1 w') (fun _ b _=>o1.length - (intOf b).toNat) ⟨0,by simp,rfl,by omega,Ext.refl _⟩ ?_
   rintro _ _ w2 ⟨j,rfl,rfl,hj,e2⟩
   have hso:=hO1.slice (E:=EStr) (fun _=>rfl) (fun _ _=>rfl)
   obtain ⟨A3,c3,h3,hlc3,hcm3,hlm3,hel3⟩:=SliceOf.open hso
   unfold n29c4
   rcases drop_cases hj with ⟨y,hy,hdj,hltj,hdecj⟩ | ⟨hj,hdj,hdecj⟩
   · obtain ⟨b3,o3,cs3,hA3,_,hE3,hcs3⟩:=hel3 j y hy
     subst h3 hA3
     subst hcs3
     have hany:((o1.take (j+1)).any fun y=>decide (y=x))=(((o1.take j).any fun y=>decide (y=x))||decide (y=x)):=by rw [take_snoc hy,List.any_append];simp
     simp (disch:=try exact DI) only [↓PR,QR,simprocAttr,hdecj]
     refine drawK_intro ?_
     unfold n29c1
     generalize hsn:((o1.take j).any fun y=>decide (y=x))=sn at hany
     cases sn with
     | true =>
      simp (disch:=try exact DI) only [↓PR,QR,simprocAttr]
      refine ⟨⟨j+1,?_,rfl,by omega,ee⟩,meas_lt (kd := .i64) hltj⟩
      rw [hany];rfl
     | false =>
      simp (disch:=try exact DI) only [↓PR,QR,simprocAttr,hE3.c1 e2,hE6.c1 e2]
      refine ⟨⟨j+1,?_,rfl,by omega,ee⟩,meas_lt (kd := .i64) hltj⟩
      rw [hany];rfl
   · subst hj
     rw [List.take_length]
     have hadd:addS o1 x=if (o1.any fun y=>decide (y=x))=true then o1 else o1++[x]:=rfl
     rw [hadd] at hstep
     subst h3
     simp (disch:=try exact DI) only [↓PR,QR,simprocAttr,hdecj]
     unfold n29c3
     generalize (o1.any fun y=>decide (y=x))=sn at hstep
     cases sn with
     | true =>
      rw [if_pos rfl] at hstep
      simp (disch:=try exact DI) only [↓PR,QR,simprocAttr]
      exact ⟨⟨k+1,_,rfl,rfl,by omega,e1.trans e2,by rw [hstep];exact hO1.ext e2,hL1.ext e2,hA1⟩,meas_lt (kd := .i64) hlt⟩
     | false =>
      rw [if_neg (by simp)] at hstep
      simp (disch:=try exact DI) only [↓PR,QR,simprocAttr,n29c2,hE6.c1 e2]
      have ea:Ext w1 (w2.alloc (Obj.cells #[.string x] 9)):=e2.alloc _
      have hsz:(w2.alloc (Obj.cells #[.string x] 9)).heap.size=w2.heap.size+1:=by simp only [World.size_alloc]
      have s1:=e1.size
      have s2:=e2.size
      refine append_strL x (hO1.ext ea) (heap_new w2 _ _) (by omega) hol ?_
      intro v' w' hO' hg hv'
      have ew:Ext W w':=(e1.trans ea).grown hg (fun b hb=>(World.ownsRow.lt hO1 b hb).1)
      simp (disch:=try exact DI) only [↓PR,QR,simprocAttr]
      refine ⟨⟨k+1,v',rfl,rfl,by omega,ew,by rw [hstep];exact hO',(hL1.ext ea).grown hg (fun b hb e=>hA1 b e hb),hA1.after (fun b hb=>?_) hv'⟩,meas_lt (kd := .i64) hlt⟩
      have:=hL1.lt b hb
      omega
 · subst hk
   rw [List.take_length] at hO1
   subst h6
   rw [h4]
   simp (disch:=try exact DI) only [↓PR,QR,simprocAttr,hdec]
   exact hn _ w1 e1 hO1
theorem rre_c8 {w:World} (e:Ext W w) (x:FieldD) (tv cv:Value) (p5:Nat) (o5:w.heap[p5]?=some (.cells (fieldCells x tv cv).toArray 71 (0,0))) (hC:CasesOf W cv x.cases) (sv t6 t4:Value) (out:List ByteArray) (hO:OwnS w W.heap.size sv out) (hlen:out.length+(refsF x).length≤1048576)
 (h6:(x.kind≠9∧OwnS w W.heap.size t6 (refsF x)∧Apart sv t6)∨(x.kind=9∧t6 = .slice none 0 0)) (next1:Value→Value→World→Prop) (i:Nat) (hi:i < 9223372036854775807) (h4:t4 = .int .i64 (i:Int))
 (hn:∀ sv' w',Ext W w'→OwnS w' W.heap.size sv' ((refsF x).foldl addS out)→next1 sv' (.int .i64 ((i+1:Nat):Int)) w') :
 loop2 (fun t6 t7 w next5=>n29c8 sv t4 (.pointer (some ⟨p5,0,none⟩)) t6 t7 next1 next5 R w) t6 (.int .i64 0) w:=by
 rcases h6 with ⟨hk,hL,hA⟩ | ⟨hk,rfl⟩
 · refine loop2_intro (fun a b w'=>a=t6∧b = .int .i64 0∧w'=w) (fun _ _ _=>0) ⟨rfl,rfl,rfl⟩ ?_
   rintro _ _ _ ⟨rfl,rfl,rfl⟩
   unfold n29c8
   have k9:(x.kind == 9)=false:=by simpa using hk
   simp (disch:=try exact DI) only [↓PR,QR,simprocAttr,(cells_of_heap o5).1,k9,n29c7]
   exact rre_in2 e sv _ t4 out (refsF x) hO hL hA hlen next1 i hi h4 hn
 · have hr:refsF x=x.cases.map (·.of):=by unfold refsF;rw [if_neg (by omega),if_pos hk]
   have k9:(x.kind == 9)=true:=by simpa using hk
   obtain ⟨A,c,rfl,hlc,hcm,hlm,hel⟩:=SliceOf.open hC
   have l5:p5 < w.heap.size:=(Array.getElem?_eq_some_iff.1 o5).1
   rw [hr] at hlen hn
   simp only [List.length_map] at hlen
   refine loop2_intro (fun a b w'=>∃ (k:Nat) (u:Value),a=u∧b = .int .i64 k∧k≤x.cases.length∧Ext W w'∧w'.heap[p5]?=some (.cells (fieldCells x tv (.slice A x.cases.length c)).toArray 71 (0,0))∧OwnS w' w.heap.size u ((x.cases.take k).map (·.of))∧OwnS w' W.heap.size sv out∧w.heap.size≤w'.heap.size) (fun _ b _=>x.cases.length - (intOf b).toNat) ⟨0,_,rfl,rfl,by omega,e,o5,OwnE.nil _ _ _ _ _,hO,Nat.le_refl _⟩ ?_
   rintro u _ w1 ⟨k,_,rfl,rfl,hk1,e1,y5,hU,hO1,hs1⟩
   have hAp:Apart sv u:=fun b hb e=>by
    have h1:=hO.lt b hb
    have h2:=(World.ownsRow.lt hU b e).1
    omega
   unfold n29c8
   rcases drop_cases hk1 with ⟨y,hy,hd,hlt,hdec⟩ | ⟨hk1,hd,hdec⟩
   · obtain ⟨b,o,cs,rfl,hl,hA,rfl⟩:=hel k y hy
     simp (disch:=try exact DI) only [↓PR,QR,simprocAttr,(cells_of_heap y5).1,k9,hdec,n29c7]
     unfold n29c6
     simp (disch:=try exact DI) only [↓PR,QR,simprocAttr,(cells_of_heap y5).1,hA.c3 e1]
     have ea:Ext w1 (w1.alloc (Obj.cells #[.string y.of] 9)):=ee
     have hsz:(w1.alloc (Obj.cells #[.string y.of] 9)).heap.size=w1.heap.size+1:=by simp only [World.size_alloc]
     have sW:=e.size
     refine append_strL y.of (hU.ext ea) (heap_new w1 _ _) (by omega) (by rw [List.length_map,List.length_take];omega) ?_
     intro v' w' hO' hg hv'
     have ew:Ext W w':=(e1.trans ea).grown hg (fun b hb=>by have:=(World.ownsRow.lt hU b hb).1;omega)
     have hsw:=hg.size
     simp (disch:=try exact DI) only [↓PR,QR,simprocAttr]
     refine ⟨⟨k+1,v',rfl,rfl,by omega,ew,?_,?_,(hO1.ext ea).grown hg (fun b hb e=>hAp b hb e),by omega⟩,meas_lt (kd := .i64) hlt⟩
     · rw [hg.block p5 (by omega) (fun e=>by have:=(World.ownsRow.lt hU p5 e.symm).1;omega)]
       exact ea.obj y5
     · rw [take_snoc hy,List.map_append];exact hO'
   · subst hk1
     rw [List.take_length] at hU
     simp (disch:=try exact DI) only [↓PR,QR,simprocAttr,(cells_of_heap y5).1,k9,hdec,n29c7]
     exact rre_in2 e1 sv _ t4 out (x.cases.map (·.of)) hO1 (OwnE.base hU e.size) hAp (by simpa using hlen) next1 i hi h4 hn
theorem rRefers_ret (w0:World) (v:Value) (m:MsgD) (hm:MsgVal w0 v m) (hb:(allRefs m.fields).length≤1048576) :
 Ret Pg 63 #[v] w0 fun r w'=>OwnS w' w0.heap.size r (refsL m)∧Ext w0 w':=by
 obtain ⟨fv,rfl,hF⟩:=hm
 obtain ⟨A,c,rfl,hlc,hcm,hlm,hel⟩:=SliceOf.open hF
 refine n29s (R:=retR _) ?_;unfold n29
 simp (disch:=try exact DI) only [↓PR,QR,simprocAttr]
 have hBW:=ElemAt.new (w:=w0) (msgCells m (.slice A m.fields.length c)) (53)
 have eW:Ext w0 (w0.alloc (Obj.cells (List.toArray (msgCells m (.slice A m.fields.length c))) (53))):=(Ext.refl _).alloc _
 generalize (w0.alloc (Obj.cells (List.toArray (msgCells m (.slice A m.fields.length c))) (53)))=W at hBW eW ⊢
 have hW:w0.heap.size≤W.heap.size:=eW.size
 refine loop2_intro (fun a b w'=>∃ (k:Nat) (sv:Value),a=sv∧b = .int .i64 k∧k≤m.fields.length∧Ext W w'∧OwnS w' W.heap.size sv (dedupA [] (allRefs (m.fields.take k)))) (fun _ b _=>m.fields.length - (intOf b).toNat) ⟨0,_,rfl,rfl,by omega,Ext.refl _,OwnE.nil _ _ _ _ _⟩ ?_
 rintro sv _ w1 ⟨k,_,rfl,rfl,hk,e,hO⟩
 have e':=eW.trans e
 have s1:=e.size
 unfold n29c13
 rcases drop_cases hk with ⟨x,hx,hd,hlt,hdec⟩ | ⟨hk,hd,hdec⟩
 · obtain ⟨b,o,cs,rfl,hl,hA,hE⟩:=hel k x hx
   obtain ⟨tv,cv,rfl,hT,hC,ht1,hc1⟩:=hE.op
   have hpre:allRefs (m.fields.take (k+1))=allRefs (m.fields.take k)++refsF x:=by unfold allRefs;rw [take_snoc hx,List.flatMap_append];simp
   have hle:(allRefs (m.fields.take k)).length+(refsF x).length≤1048576:=by
    have h1:(allRefs (m.fields.take (k+1))).length≤(allRefs m.fields).length:=by
     conv=>rhs;rw [← List.take_append_drop (k+1) m.fields]
     unfold allRefs
     rw [List.flatMap_append,List.length_append];omega
    rw [hpre,List.length_append] at h1;omega
   have hout:(dedupA [] (allRefs (m.fields.take k))).length≤(allRefs (m.fields.take k)).length:=by
    rw [dedup_fold];have:=foldl_addS_len (allRefs (m.fields.take k)) [];simpa using this
   have hle':(dedupA [] (allRefs (m.fields.take k))).length+(refsF x).length≤1048576:=by omega
   have hnext:dedupA [] (allRefs (m.fields.take (k+1)))=(refsF x).foldl addS (dedupA [] (allRefs (m.fields.take k))):=by rw [hpre,dedup_fold,dedup_fold,List.foldl_append]
   simp (disch:=try exact DI) only [↓PR,QR,simprocAttr,hdec,hBW.c2]
   unfold n29c12
   simp (disch:=try exact DI) only [↓PR,QR,simprocAttr,hBW.c2,hA.c15 e']
   have ea:Ext w1 (w1.alloc (Obj.cells (fieldCells x tv cv).toArray 71)):=ee
   have o5:=heap_new w1 (fieldCells x tv cv).toArray 71
   have hO2:=hO.ext ea
   have ew:=e.trans ea
   have hbn:∀ sv' w',Ext W w'→OwnS w' W.heap.size sv' ((refsF x).foldl addS (dedupA [] (allRefs (m.fields.take k))))→(∃ (k':Nat) (sv:Value),sv'=sv∧(Value.int .i64 ((k+1:Nat):Int)) = .int .i64 k'∧k'≤m.fields.length∧Ext W w'∧OwnS w' W.heap.size sv (dedupA [] (allRefs (m.fields.take k'))))∧m.fields.length - (intOf (Value.int .i64 ((k+1:Nat):Int))).toNat < m.fields.length - (intOf (Value.int .i64 (k:Int))).toNat :=
    fun sv' w' ew h=>⟨⟨k+1,sv',rfl,rfl,by omega,ew,by rw [hnext];exact h⟩,meas_lt (kd := .i64) hlt⟩
   have hCW:=CasesOf.ext hC eW
   have lo:∀ b,sv.ownBlock=some b→b < w1.heap.size:=fun b hb=>hO.lt b hb
   generalize hw2:(w1.alloc (Obj.cells (fieldCells x tv cv).toArray 71))=w2 at ea o5 hO2 ew
   have hs2:w2.heap.size=w1.heap.size+1:=by rw [← hw2];simp only [World.size_alloc]
   by_cases hr:x.kind=7∨x.kind=8∨x.kind=12
   · have hrf:refsF x=[x.of]:=by unfold refsF;rw [if_pos hr]
     have tail:joinK (fun (t6:Value) (w:World)=>loop2 (fun t6 t7 w next5=>n29c8 sv (.int .i64 (k:Int)) (.pointer (some ⟨w1.heap.size,0,none⟩)) t6 t7 (fun a0' a1' w'=>(∃ (k':Nat) (sv:Value),a0'=sv∧a1' = .int .i64 k'∧k'≤m.fields.length∧Ext W w'∧OwnS w' W.heap.size sv (dedupA [] (allRefs (m.fields.take k'))))∧m.fields.length - (intOf a1').toNat < m.fields.length - (intOf (Value.int .i64 (k:Int))).toNat) next5 (retR fun r w'=>OwnS w' w0.heap.size r (refsL m)∧Ext w0 w') w) t6 (.int .i64 0) w) fun K4=>n29c9 (.pointer (some ⟨w1.heap.size,0,none⟩)) K4 (retR fun r w'=>OwnS w' w0.heap.size r (refsL m)∧Ext w0 w') w2:=by
      rw [joinK_eq]
      unfold n29c9
      simp (disch:=try exact DI) only [↓PR,QR,simprocAttr,(cells_of_heap o5).1]
      have eb:Ext w2 (w2.alloc (Obj.cells #[.string x.of] 9)):=ee
      have hsb:(w2.alloc (Obj.cells #[.string x.of] 9)).heap.size=w2.heap.size+1:=by simp only [World.size_alloc]
      refine append_strL x.of (OwnE.nil _ W.heap.size _ _ _) (heap_new w2 _ _) (by omega) (by decide) ?_
      intro v' w' hO' hg hv'
      have eg:Ext w1 w':=(ea.trans eb).grown hg (fun b hb=>by cases hb)
      refine rre_c8 (e.trans eg) x tv cv w1.heap.size ?_ hCW sv v' _ _ (hO.ext eg) hle' (.inl ⟨by omega,by rw [hrf];exact hO',fun b hb e=>?_⟩) _ k (by omega) rfl hbn
      · exact (Ext.grown (Ext.refl _) hg (fun b hb=>by cases hb)).obj (eb.obj o5)
      · rcases hv' b e with h1 | h1
        · cases h1
        · have:=lo b hb;omega
     rw [joinK_eq] at tail
     rcases hr with h7 | h8 | h12
     · have k7:(x.kind == 7)=true:=by simpa using h7
       simp (disch:=try exact DI) only [↓PR,QR,simprocAttr,k7,n29c11,n29c10]
       exact tail
     · have k7:(x.kind == 7)=false:=by simp;omega
       have k8:(x.kind == 8)=true:=by simpa using h8
       simp (disch:=try exact DI) only [↓PR,QR,simprocAttr,k7,k8,n29c11,n29c10,(cells_of_heap o5).1]
       exact tail
     · have k7:(x.kind == 7)=false:=by simp;omega
       have k8:(x.kind == 8)=false:=by simp;omega
       have k12:(x.kind == 12)=true:=by simpa using h12
       simp (disch:=try exact DI) only [↓PR,QR,simprocAttr,k7,k8,k12,n29c11,n29c10,(cells_of_heap o5).1]
       exact tail
   · have k7:(x.kind == 7)=false:=by simp;omega
     have k8:(x.kind == 8)=false:=by simp;omega
     have k12:(x.kind == 12)=false:=by simp;omega
     simp (disch:=try exact DI) only [↓PR,QR,simprocAttr,k7,k8,k12,n29c11,n29c10,(cells_of_heap o5).1]
     refine rre_c8 ew x tv cv w1.heap.size o5 hCW sv _ _ _ hO2 hle' ?_ _ k (by omega) rfl hbn
     by_cases h9:x.kind=9
     · exact .inr ⟨h9,rfl⟩
     · have hrf:refsF x=[]:=by unfold refsF;rw [if_neg hr,if_neg h9]
       exact .inl ⟨h9,by rw [hrf];exact OwnE.nil _ _ _ _ _,fun b _ e=>by cases e⟩
 · subst hk
   rw [List.take_length] at hO
   simp (disch:=try exact DI) only [↓PR,QR,simprocAttr,hdec,hBW.c2]
   exact ⟨OwnE.base hO hW,ee⟩
end
def FineF (deps:List (ByteArray×Int)) (strs:List (ByteArray×Bool)) (l:List FieldD):Prop:=∀ (j:Nat) (f:FieldD),l[j]?=some f→examineC (l.take j) (vI deps) (vB strs) f=0
theorem withinQ {hi lo n:Int} {l:List Int} (h:withinC hi lo (n::l)=0):lo≤n∧n≤hi∧withinC hi n l=0:=by
 rw [withinC,orC_iff,needC_iff (by decide)] at h
 simp only [Bool.and_eq_true,decide_eq_true_eq] at h
 exact ⟨h.1.1,h.1.2,h.2⟩
theorem top_in {f:FieldD} (h:bitsB f=true):topF f≤34359738367:=by
 unfold bitsB at h
 simp only [Bool.and_eq_true,decide_eq_true_eq] at h
 obtain ⟨⟨h1,h2⟩,_⟩:=h
 unfold topF
 obtain ⟨n,hn⟩:∃ n:Nat,f.bits=n:=⟨f.bits.toNat,by omega⟩
 rw [hn,Int.toNat_natCast]
 have hn:n≤32:=by omega
 have key:∀ n:Nat,n≤32→(2:Int) ^ n - 1≤34359738367:=by decide
 exact key n hn
theorem exam_check {bef:List FieldD} {deps strs:List (ByteArray×Value)} {f:FieldD} (h:examineC bef deps strs f=0):checkC bef deps strs f=0:=by
 unfold examineC at h
 rw [orC_iff,orC_iff,orC_iff,orC_iff] at h
 exact h.2.2.2.2
theorem num_in {deps:List (ByteArray×Int)} {strs:List (ByteArray×Bool)} {l:List FieldD} (hF:FineF deps strs l) {g:FieldD} (hg:g∈l) (hn:numberB g=true):0≤g.low∧highOf g≤34359738367:=by
 obtain ⟨j,hj⟩:=List.getElem?_of_mem hg
 have h:=exam_check (hF j g hj)
 unfold checkC at h
 by_cases h1:g.kind=1
 · rw [if_pos h1,orC_iff,needC_iff (by decide)] at h
   have a:=withinQ h.2
   have b:=withinQ a.2.2
   have c:=top_in h.1
   have:highOf g=g.high:=by unfold highOf;rw [h1];rfl
   omega
 · rw [if_neg h1] at h
   by_cases h2:g.kind=2
   · rw [if_pos h2,orC_iff,needC_iff (by decide)] at h
     have a:=withinQ h.2
     have c:=top_in h.1
     have:highOf g=g.low:=by unfold highOf;rw [h2];rfl
     omega
   · rw [if_neg h2] at h
     have h3:g.kind=3:=by
      unfold numberB at hn
      simp [h1,h2] at hn
      exact hn
     rw [if_pos h3] at h
     have a:=withinQ h
     have b:=withinQ a.2.2
     have:highOf g=g.high:=by unfold highOf;rw [h3];rfl
     omega
theorem casesL_in {hi:Int} {deps:List (ByteArray×Value)} (hh:hi≤34359738367):∀ (l:List CaseD) (lo:Int),0≤lo→casesL hi deps lo l=0→∀ c∈l,0≤c.low∧c.low≤c.high∧c.high≤34359738367
 | [],_,_,_,c,hc=>by cases hc
 | a::l,lo,hl,h,c,hc=>by
  rw [casesL,orC_iff,orC_iff] at h
  have h1:=withinQ h.1
  have h2:=withinQ h1.2.2
  rcases List.mem_cons.1 hc with rfl | hc
  · omega
  · refine casesL_in hh l _ ?_ h.2.2 c hc
    rw [wrap_ok (by omega) (by omega)]
    omega
theorem case_in {l:List MsgD} (hf:Fine l) {i:Nat} {m:MsgD} (hm:l[i]?=some m) {f:FieldD} (hfm:f∈m.fields) (h9:f.kind=9):∀ c∈f.cases,0≤c.low∧c.low≤c.high∧c.high≤34359738367:=by
 obtain ⟨_,_,h3,h4,_⟩:=next_parts (hf.next hm)
 have hF:FineF (depsOf (l.take i)) (strsOf (l.take i)) m.fields:=fun j f hj=>by simpa using fields_all _ _ h4 j f hj
 obtain ⟨j,hj⟩:=List.getElem?_of_mem hfm
 have h:=exam_check (hF j f hj)
 unfold checkC at h
 rw [h9] at h
 simp only [Int.reduceEq,if_false,if_true] at h
 unfold casesC at h
 rw [orC_iff,orC_iff,needC_iff (by decide)] at h
 simp only [Bool.and_eq_true] at h
 obtain ⟨⟨ht,_⟩,_,hc⟩:=h
 cases hl:lastR (numR (m.fields.take j)) f.tag with
 | none=>rw [hl] at ht;cases ht
 | some q =>
  rw [hl] at hc
  obtain ⟨g,hg,hn,_,rfl⟩:=mem_numR.1 (lastP_mem hl)
  have:=num_in hF (List.mem_of_mem_take hg) hn
  exact casesL_in this.2 _ _ this.1 hc
def decB (n:Int):ByteArray:=⟨(Go.Lib.itoa n).toArray⟩
def joinW (sep:ByteArray) (xs:List ByteArray):ByteArray:=⟨(Go.Lib.join (xs.map (·.data.toList)) sep.data.toList).toArray⟩
theorem joinW_nil (sep:ByteArray):joinW sep []=ByteArray.empty:=rfl
theorem size_append (a b:ByteArray):(a++b).size=a.size+b.size:=by simp [ByteArray.size_append]
theorem lens_le {B:Nat}:∀ {xs:List (List UInt8)},(∀ x∈xs,x.length≤B)→Go.Lib.lens xs≤xs.length*B
 | [],_=>by simp [Go.Lib.lens]
 | a::l,h=>by
  have h1:=h a (List.mem_cons_self ..)
  have h2:=lens_le (xs:=l) fun x hx=>h x (List.mem_cons_of_mem _ hx)
  unfold Go.Lib.lens at *
  rw [List.map_cons,List.sum_cons,List.length_cons,Nat.add_mul]
  omega
theorem joinW_size {sep:ByteArray} {B:Nat} {xs:List ByteArray} (h:∀ x∈xs,x.size≤B):(joinW sep xs).size≤xs.length*(B+sep.size):=by
 cases xs with
 | nil=>simp [joinW_nil]
 | cons a l =>
  have h1:(joinW sep (a::l)).size=(Go.Lib.join ((a::l).map (·.data.toList)) sep.data.toList).length:=by unfold joinW ByteArray.size;simp
  have h2:=lens_le (B:=B) (xs:=(a::l).map (·.data.toList)) fun x hx=>by
   obtain ⟨y,hy,rfl⟩:=List.mem_map.1 hx
   have:=h y hy
   unfold ByteArray.size at this
   simpa using this
  rw [List.map_cons] at h1 h2
  rw [h1,Go.Lib.join_length]
  rw [List.length_cons,List.length_map] at h2
  have h3:sep.data.toList.length=sep.size:=by unfold ByteArray.size;simp
  rw [h3,List.length_map,List.length_cons,Nat.mul_add,Nat.mul_comm sep.size,Nat.add_mul l.length 1 sep.size]
  omega
def opNames:List ByteArray:=[⟨#[]⟩,⟨#[99,97,108,108]⟩,⟨#[115,116,111,112]⟩,⟨#[101,110,116,101,114]⟩,⟨#[114,101,97,100]⟩,⟨#[111,110,101]⟩,⟨#[109,97,110,121]⟩,⟨#[115,101,108,101,99,116]⟩,⟨#[99,97,115,101]⟩,⟨#[118,105,101,119]⟩,⟨#[114,101,116,117,114,110]⟩]
def opN (c:Int):ByteArray:=(opNames[c.toNat]?).getD ⟨#[]⟩
structure OkX (d:DefD) (x:InsD):Prop where
 code:1≤x.code∧x.code≤10
 msg:(x.msg = -1∧x.code≠8)∨∃ (i:Nat) (m:MsgD),x.msg=i∧d.msgs[i]?=some m∧((x.field = -1∧x.code≠8)∨∃ (k:Nat) (f:FieldD),x.field=k∧m.fields[k]?=some f∧(x.code≠8∨∃ (j:Nat) (c:CaseD),x.cas=j∧f.cases[j]?=some c∧0≤c.low∧c.low≤c.high∧c.high≤34359738367))
 reg : -1≤x.reg∧x.reg≤100000
 to : -1≤x.to∧x.to≤100000
def caseB (c:CaseD):ByteArray:=decB c.low++⟨#[45]⟩++decB c.high
def nameX (d:DefD) (x:InsD):ByteArray:=match d.msgs[x.msg.toNat]? with
 | some m=>if x.field < 0 then m.name else match m.fields[x.field.toNat]? with
  | some f=>if x.code=8 then (match f.cases[x.cas.toNat]? with
   | some c=>caseB c
   | none=>⟨#[]⟩) else m.name++(⟨#[46]⟩++f.name)
  | none=>⟨#[]⟩
 | none=>⟨#[]⟩
def words1 (i:Int) (x:InsD):List ByteArray:=[decB i,opN x.code]
def words2 (d:DefD) (i:Int) (x:InsD):List ByteArray:=if 0≤x.msg then words1 i x++[nameX d x] else words1 i x
def words3 (d:DefD) (i:Int) (x:InsD):List ByteArray:=if 0≤x.reg then words2 d i x++[⟨#[114]⟩++decB x.reg] else words2 d i x
def words4 (d:DefD) (i:Int) (x:InsD):List ByteArray:=if 0≤x.to then words3 d i x++[decB x.to] else words3 d i x
def lineB (d:DefD) (i:Int) (x:InsD):ByteArray:=joinW ⟨#[32]⟩ (words4 d i x)
def linesN (d:DefD) (l:List InsD):Nat→List ByteArray
 | 0=>[]
 | k+1=>linesN d l k++(match l[k]? with
  | some x=>[lineB d k x]
  | none=>[])
def textN (d:DefD) (l:List InsD) (k:Nat):ByteArray:=joinW ⟨#[10]⟩ (linesN d l k)
def Names100 (d:DefD):Prop:=∀ m∈d.msgs,m.name.size≤100∧∀ f∈m.fields,f.name.size≤100
theorem decB_size {n:Int} (h0 : -9223372036854775808≤n) (h1:n≤9223372036854775807):(decB n).size≤21:=by
 have:=Go.Lib.itoa_length_le n h0 h1
 unfold decB ByteArray.size
 simpa using this
theorem opN_size (c:Int):(opN c).size≤6:=by
 unfold opN
 rcases Nat.lt_or_ge c.toNat 11 with h | h
 · have:∀ n,n < 11→((opNames[n]?).getD ⟨#[]⟩).size≤6:=by decide
   exact this _ h
 · rw [List.getElem?_eq_none (by simpa [opNames] using h)]
   decide
theorem nameX_size {d:DefD} (hN:Names100 d) {x:InsD} (hx:OkX d x):(nameX d x).size≤201:=by
 unfold nameX
 cases hm:d.msgs[x.msg.toNat]? with
 | none=>exact (by decide:(⟨#[]⟩:ByteArray).size≤201)
 | some m =>
  have h1:=hN m (List.mem_of_getElem? hm)
  simp only
  split
  · omega
  · cases hf:m.fields[x.field.toNat]? with
    | none=>exact (by decide:(⟨#[]⟩:ByteArray).size≤201)
    | some f =>
     have h2:=h1.2 f (List.mem_of_getElem? hf)
     simp only
     split
     · rename_i hfd h8
       rcases hx.msg with ⟨_,h⟩ | ⟨i,m',hi,hm',h⟩
       · exact absurd h8 h
       · rcases h with ⟨_,h⟩ | ⟨k,f',hk,hf',h⟩
         · exact absurd h8 h
         · rcases h with h | ⟨j,c,hj,hc,h3,h4,h5⟩
           · exact absurd h8 h
           · rw [hi,Int.toNat_natCast,hm'] at hm
             injection hm with hm
             subst hm
             rw [hk,Int.toNat_natCast,hf'] at hf
             injection hf with hf
             subst hf
             rw [hj,Int.toNat_natCast,hc]
             simp only
             unfold caseB
             rw [size_append,size_append]
             have a:=decB_size (n:=c.low) (by omega) (by omega)
             have b:=decB_size (n:=c.high) (by omega) (by omega)
             have:(⟨#[45]⟩:ByteArray).size=1:=rfl
             omega
     · rw [size_append,size_append]
       have:(⟨#[46]⟩:ByteArray).size=1:=rfl
       omega
theorem words_size {d:DefD} (hN:Names100 d) {i:Int} (hi:0≤i∧i≤100000) {x:InsD} (hx:OkX d x):(∀ s∈words4 d i x,s.size≤201)∧(words4 d i x).length≤5∧(words3 d i x).length≤4∧(words2 d i x).length≤3:=by
 have h1:∀ s∈words1 i x,s.size≤201:=by
  intro s hs
  simp only [words1,List.mem_cons,List.not_mem_nil,or_false] at hs
  rcases hs with rfl | rfl
  · have:=decB_size (n:=i) (by omega) (by omega);omega
  · have:=opN_size x.code;omega
 have h2:(∀ s∈words2 d i x,s.size≤201)∧(words2 d i x).length≤3:=by
  unfold words2
  split
  · refine ⟨fun s hs=>?_,by simp [words1]⟩
    rcases List.mem_append.1 hs with hs | hs
    · exact h1 s hs
    · simp only [List.mem_singleton] at hs;subst hs;exact nameX_size hN hx
  · exact ⟨h1,by simp [words1]⟩
 have h3:(∀ s∈words3 d i x,s.size≤201)∧(words3 d i x).length≤4:=by
  unfold words3
  split
  · refine ⟨fun s hs=>?_,by simp;omega⟩
    rcases List.mem_append.1 hs with hs | hs
    · exact h2.1 s hs
    · simp only [List.mem_singleton] at hs;subst hs
      rw [size_append]
      have:=decB_size (n:=x.reg) (by have:=hx.reg;omega) (by have:=hx.reg;omega)
      have:(⟨#[114]⟩:ByteArray).size=1:=rfl
      omega
  · exact ⟨h2.1,by omega⟩
 refine ⟨?_,?_,h3.2,h2.2⟩
 · unfold words4
   split
   · intro s hs
     rcases List.mem_append.1 hs with hs | hs
     · exact h3.1 s hs
     · simp only [List.mem_singleton] at hs;subst hs
       have:=decB_size (n:=x.to) (by have:=hx.to;omega) (by have:=hx.to;omega)
       omega
   · exact h3.1
 · unfold words4
   split
   · simp;omega
   · omega
theorem line_size {d:DefD} (hN:Names100 d) {i:Int} (hi:0≤i∧i≤100000) {x:InsD} (hx:OkX d x):(lineB d i x).size≤1010:=by
 obtain ⟨h1,h2,_⟩:=words_size hN hi hx
 have:=joinW_size (sep:=⟨#[32]⟩) h1
 have h3:(⟨#[32]⟩:ByteArray).size=1:=rfl
 rw [h3] at this
 have:=Nat.mul_le_mul_right (201+1) h2
 unfold lineB
 omega
theorem linesN_len {d:DefD} {l:List InsD}:∀ {k:Nat},k≤l.length→(linesN d l k).length=k
 | 0,_=>rfl
 | k+1,h=>by
  obtain ⟨x,hx⟩:=getElem?_lt (show k < l.length by omega)
  unfold linesN
  rw [hx,List.length_append,linesN_len (by omega)]
  rfl
theorem linesN_succ {d:DefD} {l:List InsD} {k:Nat} {x:InsD} (hx:l[k]?=some x):linesN d l (k+1)=linesN d l k++[lineB d k x]:=by
 show linesN d l k++_=_
 rw [hx]
theorem linesN_size {d:DefD} (hN:Names100 d) {l:List InsD} (hx:∀ x∈l,OkX d x):∀ {k:Nat},k≤l.length→k≤100000→∀ s∈linesN d l k,s.size≤1010
 | 0,_,_,s,hs=>by cases hs
 | k+1,h,hk,s,hs=>by
  obtain ⟨x,hx'⟩:=getElem?_lt (show k < l.length by omega)
  rw [linesN_succ hx'] at hs
  rcases List.mem_append.1 hs with hs | hs
  · exact linesN_size hN hx (by omega) (by omega) s hs
  · simp only [List.mem_singleton] at hs
    subst hs
    exact line_size hN (by omega) (hx x (List.mem_of_getElem? hx'))
theorem textN_size {d:DefD} (hN:Names100 d) {l:List InsD} (hx:∀ x∈l,OkX d x) {k:Nat} (hk:k≤l.length) (hl:k≤100000):(textN d l k).size≤101100000:=by
 have:=joinW_size (sep:=⟨#[10]⟩) (linesN_size hN hx hk hl)
 rw [linesN_len hk] at this
 have h3:(⟨#[10]⟩:ByteArray).size=1:=rfl
 rw [h3] at this
 have:=Nat.mul_le_mul_right (1010+1) hl
 unfold textN
 omega
theorem idx_low {α:Type} (p:α→Bool) (l:List α):(idx p l).toNat≤l.length:=by
 unfold idx
 cases h:l.findIdx? p with
 | none=>simp
 | some i =>
  have:=(List.findIdx?_eq_some_iff_getElem.1 h).1
  simp
  omega
theorem toR_in (l:List MsgD) (r:Nat→Bool) (s:ByteArray):2≤toR l r s∧toR l r s≤routN l r l.length:=by
 unfold toR
 have h1:=routN_mono l r (idx_low (fun m=>decide (m.name=s)) l)
 have h2:=routN_mono l r (Nat.zero_le (idx (fun m=>decide (m.name=s)) l).toNat)
 have h3:routN l r 0=2:=rfl
 omega
theorem casI_mem {rt:ByteArray→Int} {i k:Int} {l:List CaseD} {x:InsD}:∀ {n:Nat},x∈casI rt i k l n→∃ (j:Nat) (c:CaseD),l[j]?=some c∧x=⟨8,i,k,-1,j,rt c.of⟩
 | 0,h=>by cases h
 | n+1,h=>by
  unfold casI at h
  rcases List.mem_append.1 h with h | h
  · exact casI_mem h
  · cases hc:l[n]? with
    | none=>rw [hc] at h;cases h
    | some c=>rw [hc] at h;simp only [List.mem_singleton] at h;exact ⟨n,c,hc,h⟩
theorem fieldsC_mem {rt:ByteArray→Int} {i:Int} {l:List FieldD} {x:InsD}:∀ {n:Nat},x∈fieldsC rt i l n→∃ (k:Nat) (f:FieldD),k < n∧l[k]?=some f∧x∈fieldC rt i k (gR l k f) f
 | 0,h=>by cases h
 | n+1,h=>by
  unfold fieldsC at h
  rcases List.mem_append.1 h with h | h
  · obtain ⟨k,f,h1,h2,h3⟩:=fieldsC_mem h
    exact ⟨k,f,by omega,h2,h3⟩
  · cases hc:l[n]? with
    | none=>rw [hc] at h;cases h
    | some c=>rw [hc] at h;exact ⟨n,c,Nat.lt_succ_self n,hc,h⟩
theorem codeN_mem {rt:ByteArray→Int} {l:List MsgD} {r:Nat→Bool} {x:InsD}:∀ {n:Nat},x∈codeN rt l r n→∃ (i:Nat) (m:MsgD),i < n∧l[i]?=some m∧r i=true∧x∈msgC rt i m
 | 0,h=>by cases h
 | n+1,h=>by
  unfold codeN at h
  rcases List.mem_append.1 h with h | h
  · obtain ⟨k,f,h1,h2,h3⟩:=codeN_mem h
    exact ⟨k,f,by omega,h2,h3⟩
  · cases hc:l[n]? with
    | none=>rw [hc] at h;cases h
    | some m =>
     rw [hc] at h
     simp only at h
     split at h
     · rename_i hr;exact ⟨n,m,Nat.lt_succ_self n,hc,hr,h⟩
     · cases h
theorem okx {d:DefD} {c m f g s t:Int} (h1:1≤c∧c≤10) (h2:(m = -1∧c≠8)∨∃ (i:Nat) (x:MsgD),m=i∧d.msgs[i]?=some x∧((f = -1∧c≠8)∨∃ (k:Nat) (y:FieldD),f=k∧x.fields[k]?=some y∧(c≠8∨∃ (j:Nat) (z:CaseD),s=j∧y.cases[j]?=some z∧0≤z.low∧z.low≤z.high∧z.high≤34359738367))) (h3 : -1≤g∧g≤100000) (h4 : -1≤t∧t≤100000):OkX d ⟨c,m,f,g,s,t⟩:=⟨h1,h2,h3,h4⟩
theorem code_ok {d:DefD} (hc:(checkP d).2.2=0) (hz:sizeP d≤100000):∀ x∈codeP d,OkX d x:=by
 have hf:=(check_fine hc).2.2.1
 have hto:∀ s,-1≤toR d.msgs (reachD d) s∧toR d.msgs (reachD d) s≤100000:=fun s=>by
  have:=toR_in d.msgs (reachD d) s
  unfold sizeP at hz
  omega
 intro x hx
 unfold codeP at hx
 rcases List.mem_append.1 hx with hx | hx
 · simp only [headC,List.mem_cons,List.not_mem_nil,or_false] at hx
   rcases hx with rfl | rfl
   · exact okx (by decide) (.inl ⟨rfl,by decide⟩) (by decide) (hto _)
   · exact okx (by decide) (.inl ⟨rfl,by decide⟩) (by decide) (by decide)
 · obtain ⟨i,m,_,hm,_,hx⟩:=codeN_mem hx
   unfold msgC at hx
   simp only [List.cons_append,List.mem_cons,List.mem_append,List.not_mem_nil,or_false] at hx
   rcases hx with rfl | hx | rfl
   · exact okx (by decide) (.inr ⟨i,m,rfl,hm,.inl ⟨rfl,by decide⟩⟩) (by decide) (by decide)
   · obtain ⟨k,f,hk,hfk,hx⟩:=fieldsC_mem hx
     have hl40:=(next_parts (hf.next hm)).2.2.1.2
     have hg : -1≤gR m.fields k f∧gR m.fields k f≤100000:=by
      unfold gR
      have:=cnt_le m.fields k
      split<;>omega
     have hrest:∀ c:Int,(1≤c∧c≤10)→c≠8→∀ g t:Int,(-1≤g∧g≤100000)→(-1≤t∧t≤100000)→OkX d ⟨c,i,k,g,-1,t⟩:=fun c h1 h2 g t h3 h4=>⟨h1,.inr ⟨i,m,rfl,hm,.inr ⟨k,f,rfl,hfk,.inl h2⟩⟩,h3,h4⟩
     unfold fieldC at hx
     split at hx
     · rename_i h9
       rcases List.mem_cons.1 hx with rfl | hx
       · exact hrest 7 (by decide) (by decide) _ _ (by decide) (by decide)
       · obtain ⟨j,c,hj,rfl⟩:=casI_mem hx
         have hb:=case_in hf hm (List.mem_of_getElem? hfk) h9 c (List.mem_of_getElem? hj)
         exact okx (by decide) (.inr ⟨i,m,rfl,hm,.inr ⟨k,f,rfl,hfk,.inr ⟨j,c,rfl,hj,hb⟩⟩⟩) (by decide) (hto _)
     · split at hx
       · simp only [List.mem_singleton] at hx;subst hx;exact hrest 5 (by decide) (by decide) _ _ (by decide) (hto _)
       · split at hx
         · simp only [List.mem_singleton] at hx;subst hx;exact hrest 6 (by decide) (by decide) _ _ (by decide) (hto _)
         · split at hx
           · simp only [List.mem_singleton] at hx;subst hx;exact hrest 9 (by decide) (by decide) _ _ (by decide) (hto _)
           · simp only [List.mem_singleton] at hx;subst hx;exact hrest 4 (by decide) (by decide) _ _ hg (by decide)
   · exact okx (by decide) (.inr ⟨i,m,rfl,hm,.inl ⟨rfl,by decide⟩⟩) (by decide) (by decide)
theorem dedupA_len:∀ (l seen:List ByteArray),(dedupA seen l).length≤l.length
 | [],_=>Nat.le_refl _
 | x::l,seen=>by
  have ih:=dedupA_len l (seen++[x])
  unfold dedupA
  split
  · simp only [List.length_cons];omega
  · simp only [List.length_cons];omega
theorem rReached_ret (w0:World) (v:Value) (d:DefD) (hd:DefVal w0 v d) (ht:calm d) (hc:(checkP d).2.2=0):Ret Pg 27 #[v] w0 fun r w'=>(∃ b,r = .slice (some ⟨b,0,none⟩) d.msgs.length d.msgs.length∧BRow w' b (tab d.msgs.length (reachD d)))∧Ext w0 w':=by
 obtain ⟨mv,rfl,hM⟩:=hd
 have hm1:=SliceOf.oneCell hM
 have hM0:=hM
 obtain ⟨A,c,rfl,hlc,hcm,hlm,hel⟩:=SliceOf.open hM
 obtain ⟨hs,hany,hidx⟩:=start_spec hc
 have hf:=(check_fine hc).2.2.1
 have hl60:=(check_fine hc).2.1.2
 have hidx2:idx (fun m:MsgD=>decide (m.name=d.start)) d.msgs=startI d:=by
  have ha:=hany
  rw [← idx_neg] at ha
  rw [← hidx]
  unfold idx0
  simp at ha
  rw [if_neg (by omega)]
 unfold reachD
 generalize startI d=s at hs hidx2 ⊢
 refine n31s (R:=retR _) ?_;unfold n31
 rw [op_boxA]
 have o1:=heap_new w0 (defCells d (.slice A d.msgs.length c)).toArray 24
 have eW:Ext w0 (w0.alloc (.cells (defCells d (.slice A d.msgs.length c)).toArray 24)):=ee
 generalize (w0.alloc (.cells (defCells d (.slice A d.msgs.length c)).toArray 24))=W at o1 eW ⊢
 generalize hp1:w0.heap.size=p1 at o1 ⊢
 simp (disch:=try exact DI) only [↓PR,QR,simprocAttr,(cells_of_heap o1).1]
 rw [op_makeBools d.msgs.length (by omega)]
 have eV:Ext W (W.alloc (.cells ((List.replicate d.msgs.length false).map fun x=>Value.bool x).toArray 4)):=ee
 have oR:BRow (W.alloc (.cells ((List.replicate d.msgs.length false).map fun x=>Value.bool x).toArray 4)) W.heap.size (tab d.msgs.length fun _=>false):=by
  have:=heap_new W ((List.replicate d.msgs.length false).map fun x=>Value.bool x).toArray 4
  rw [show tab d.msgs.length (fun _=>false)=List.replicate d.msgs.length false by unfold tab;rw [List.map_const'];simp]
  exact this
 have sV:=eV.size
 generalize (W.alloc (.cells ((List.replicate d.msgs.length false).map fun x=>Value.bool x).toArray 4))=V at eV oR sV ⊢
 generalize hr:W.heap.size=r at oR ⊢
 simp (disch:=try exact DI) only [↓PR,QR,simprocAttr,(cells_of_heap (eV.obj o1)).1]
 refine zcr (rFind_ret _ _ d d.start d.msgs.length ⟨_,rfl,hM0.ext (eW.trans eV)⟩ (Nat.le_refl _)) fun w2 e2=>?_
 rw [List.take_length,hidx2]
 have oR2:=oR.ext e2
 have g2:Ext W w2:=eV.trans e2
 have hfz:∀ o,w2.frozen? ⟨r,o,none⟩=false:=(cells_of_heap oR2).2
 have hcs:w2.cell? ⟨r,s,none⟩=some (.bool false):=oR2.get (tab_get hs)
 unfold n31c6
 have oR3:=oR2.set s true
 rw [tab_set hs] at oR3
 have g3:Ext W (w2.setCell ⟨r,s,none⟩ (.bool true)):=g2.setCell (by show W.heap.size≤r;omega) _
 have hwl:IntKind.i64.wrap ((d.msgs.length:Int) - 1)=(d.msgs.length:Int) - 1:=wrap_ok (by omega) (by omega)
 have q1:=g3.obj o1
 simp (disch:=try exact DI) only [↓PR,QR,simprocAttr,hcs,hfz,Nat.mul_one,Nat.zero_add,(cells_of_heap q1).1,hwl]
 clear hfz hcs q1
 generalize (w2.setCell ⟨r,s,none⟩ (.bool true))=w3 at oR3 g3 ⊢
 have h0:tab d.msgs.length (fun j=>if j=s then true else false)=tab d.msgs.length (reachN d.msgs s 0):=tab_congr fun i _=>by
  by_cases h:i=s<;>simp [h,reachN]
 rw [h0] at oR3
 refine loop1_intro (fun a w=>∃ t:Nat,a = .int .i64 ((d.msgs.length:Int) - 1 - t)∧t≤d.msgs.length∧Ext W w∧BRow w r (tab d.msgs.length (reachN d.msgs s t))) (fun a _=>(intOf a+1).toNat) ⟨0,by rw [Int.natCast_zero,Int.sub_zero],by omega,g3,oR3⟩ ?_
 rintro _ w4 ⟨t,rfl,htl,g4,oR4⟩
 by_cases hlt:t < d.msgs.length
 · have hge:decide (((d.msgs.length:Int) - 1 - t)≥0)=true:=decide_eq_true (by omega)
   obtain ⟨at_,hat⟩:∃ k:Nat,k=d.msgs.length - 1 - t:=⟨_,rfl⟩
   have hatI:((d.msgs.length:Int) - 1 - t)=(at_:Int):=by omega
   rw [hatI] at hge ⊢
   have hal:at_ < d.msgs.length:=by omega
   obtain ⟨m,hm⟩:=getElem?_lt hal
   obtain ⟨b,o,cs,rfl,_,hA,fv,rfl,hF⟩:=hel at_ m hm
   have hfv:=SliceOf.oneCell hF
   have hm':d.msgs[d.msgs.length - 1 - t]?=some m:=by rw [← hat];exact hm
   simp (disch:=try exact DI) only [↓PR,QR,simprocAttr,hge,↓n31c5,(cells_of_heap (g4.obj o1)).1,hA.c2 (eW.trans g4)]
   refine callK_ret (rRefers_ret _ _ m ⟨_,rfl,hF.ext (eW.trans g4)⟩ (ht m (List.mem_of_getElem? hm)).1) ?_
   rintro rv w5 ⟨hT,e5⟩
   have g5:=g4.trans e5
   have oR5:=oR4.ext e5
   have hTs:SliceOf w5 1 EStr rv (refsM m):=hT.slice (fun _=>rfl) (fun _ _=>rfl)
   have hrl:(refsM m).length≤1048576:=Nat.le_trans (dedupA_len _ _) (ht m (List.mem_of_getElem? hm)).1
   obtain ⟨Ar,cr,rfl,hlr,hcr,hlmr,helr⟩:=SliceOf.open hTs
   have s4:=(Array.getElem?_eq_some_iff.1 oR4).1
   refine loop1_intro (fun a w=>∃ k:Nat,a = .int .i64 k∧k≤(refsM m).length∧Ext W w∧OwnS w w4.heap.size (.slice Ar (refsM m).length cr) (refsM m)∧BRow w r (tab d.msgs.length (reachY d.msgs s t ((refsM m).take k)))) (fun a _=>(refsM m).length - (intOf a).toNat) ⟨0,rfl,by omega,g5,hT,by rw [List.take_zero,tab_congr fun i _=>reachY_nil d.msgs s t i];exact oR5⟩ ?_
   rintro _ w6 ⟨k,rfl,hk,g6,hT6,oR6⟩
   have c2:w6.cell? ⟨r,at_,none⟩=some (.bool (reachN d.msgs s t at_)):=by
    rw [oR6.get (tab_get hal),hat,reachY_at hf hm']
   have hwr:IntKind.i64.wrap ((at_:Int) - 1)=(d.msgs.length:Int) - 1 - ((t+1:Nat):Int):=by rw [wrap_ok (by omega) (by omega)];omega
   unfold n31c4
   cases hb:reachN d.msgs s t at_ with
   | false =>
    rw [hb] at c2
    simp (disch:=try exact DI) only [↓PR,QR,simprocAttr,c2,↓n31c3,hwr,Nat.mul_one,Nat.zero_add]
    refine ⟨⟨t+1,rfl,by omega,g6,?_⟩,?_⟩
    · rw [tab_congr fun i _=>reachY_dead (by rw [← hat];exact hb) _ i] at oR6
      exact oR6
    · simp only [intOf]
      omega
   | true =>
    rw [hb] at c2
    rcases drop_cases hk with ⟨x,hx,_,hltk,hdec⟩ | ⟨hke,_,hdec⟩
    · obtain ⟨j,_,hjl,_,_,hix,hix2⟩:=fine_idx hf hm (List.mem_of_getElem? hx)
      obtain ⟨_,_,hv,_,_,_,hel6⟩:=SliceOf.open (hT6.slice (E:=EStr) (fun _=>rfl) (fun _ _=>rfl))
      injection hv with hv _ hv'
      subst hv hv'
      obtain ⟨b6,o6,cs6,rfl,_,hA6,rfl⟩:=hel6 k _ hx
      have hjn:j < d.msgs.length:=by omega
      simp (disch:=try exact DI) only [↓PR,QR,simprocAttr,c2,hdec,↓n31c3,Nat.mul_one,Nat.zero_add]
      refine drawK_intro ?_
      have g7:=g6.wdrew
      unfold n31c2
      simp (disch:=try exact DI) only [↓PR,QR,simprocAttr,(cells_of_heap (g6.obj o1)).1,hA6.c1 (Ext.refl _)]
      refine zcr (rFind_ret _ _ d x d.msgs.length ⟨_,rfl,hM0.ext (eW.trans g7)⟩ (Nat.le_refl _)) fun w7 e7=>?_
      refine ⟨e7,?_⟩
      rw [List.take_length,hix]
      have eD:Ext w6 w6.drew:=(Ext.refl w6).wdrew
      have oR7:=oR6.ext (eD.trans e7)
      have hT7:=hT6.ext (eD.trans e7)
      have g8:=g7.trans e7
      have s7:=(eD.trans e7).size
      have c1:w7.cell? ⟨r,j,none⟩=some (.bool (reachY d.msgs s t ((refsM m).take k) j)):=oR7.get (tab_get hjn)
      have hfz:∀ o,w7.frozen? ⟨r,o,none⟩=false:=(cells_of_heap oR7).2
      have oR8:=oR7.set j true
      rw [tab_set hjn] at oR8
      rw [tab_congr fun i _=>(reachY_snoc (ns:=(refsM m).take k) (by rw [← hat];exact hb) hix i).symm,← take_snoc hx] at oR8
      unfold n31c1
      simp (disch:=try exact DI) only [↓PR,QR,simprocAttr,c1,hfz,Nat.mul_one,Nat.zero_add]
      refine turnK_intro ?_
      have hwk:IntKind.i64.wrap ((k:Int)+1)=(k:Int)+1:=wrap_ok (by omega) (by omega)
      simp (disch:=try exact DI) only [↓PR,QR,simprocAttr,hwk]
      refine ⟨⟨k+1,rfl,by omega,g8.setCell (by show W.heap.size≤r;omega) _,?_,oR8⟩,meas_lt (kd := .i64) hltk⟩
      exact (OwnR.only (lo:=w4.heap.size) (hi:=w7.heap.size) ⟨hT7,fun b hb=>(hT7.lt b hb).2⟩ (Only.setCell w7 r j _) (.inr (.inl s4))).1
    · subst hke
      simp (disch:=try exact DI) only [↓PR,QR,simprocAttr,c2,hdec,↓n31c3,hwr,Nat.mul_one,Nat.zero_add]
      refine ⟨⟨t+1,rfl,by omega,g6,?_⟩,?_⟩
      · rw [List.take_length,tab_congr fun i _=>reachY_all hm' i] at oR6
        exact oR6
      · simp only [intOf]
        omega
 · obtain rfl:t=d.msgs.length:=by omega
   have hge:decide (((d.msgs.length:Int) - 1 - (d.msgs.length:Int))≥0)=false:=decide_eq_false (by omega)
   simp (disch:=try exact DI) only [↓PR,QR,simprocAttr,hge]
   exact ⟨⟨r,rfl,oR4⟩,eW.trans g4⟩
theorem rRoutine_ret (w0:World) (v:Value) (d:DefD) (ix:Int) (hd:DefVal w0 v d) (ht:calm d) (htm:tame d) (hc:(checkP d).2.2=0) (hz:sizeP d≤100000) (hix:ix≤d.msgs.length):Ret Pg 28 #[v,.int .i64 ix] w0 fun r w'=>r = .int .i64 (routN d.msgs (reachD d) ix.toNat)∧Ext w0 w':=by
 obtain ⟨mv,rfl,hM⟩:=hd
 have hM0:=hM
 obtain ⟨A,c,rfl,hlc,hcm,hlm,hel⟩:=SliceOf.open hM
 refine n33s (R:=retR _) ?_;unfold n33
 rw [op_boxA]
 have o2:=heap_new w0 (defCells d (.slice A d.msgs.length c)).toArray 24
 have eW:Ext w0 (w0.alloc (.cells (defCells d (.slice A d.msgs.length c)).toArray 24)):=ee
 generalize (w0.alloc (.cells (defCells d (.slice A d.msgs.length c)).toArray 24))=W at o2 eW ⊢
 generalize hp2:w0.heap.size=p2 at o2 ⊢
 simp (disch:=try exact DI) only [↓PR,QR,simprocAttr,(cells_of_heap o2).1]
 refine callK_ret (rReached_ret _ _ d ⟨_,rfl,hM0.ext eW⟩ ht hc) ?_
 rintro _ w1 ⟨⟨g,rfl,hB⟩,e1⟩
 have E1:=eW.trans e1
 have hzz:routN d.msgs (reachD d) d.msgs.length≤100000:=hz
 unfold n33c4
 refine loop2_intro (fun a b w'=>∃ i:Nat,a = .int .i64 (routN d.msgs (reachD d) i:Int)∧b = .int .i64 i∧i≤ix.toNat∧Ext w1 w') (fun _ b _=>ix.toNat - (intOf b).toNat) ⟨0,rfl,rfl,by omega,Ext.refl _⟩ ?_
 rintro _ _ w2 ⟨i,rfl,rfl,hi,e2⟩
 have E2:=E1.trans e2
 rcases Nat.lt_or_ge i ix.toNat with hlt | hge
 · have d1:decide ((i:Int) < ix)=true:=decide_eq_true (by omega)
   have hil:i < d.msgs.length:=by omega
   obtain ⟨m,hm⟩:=getElem?_lt hil
   obtain ⟨b,o,cs,rfl,_,hA,fv,rfl,hF⟩:=hel i m hm
   obtain ⟨AF,cF,rfl,_,_,_,helF⟩:=SliceOf.open hF
   have hcell:w2.cell? ⟨g,i,none⟩=some (.bool (reachD d i)):=(hB.ext e2).get (tab_get hil)
   have hwi:IntKind.i64.wrap ((i:Int)+1)=(i:Int)+1:=wrap_ok (by omega) (by omega)
   have hrm:=routN_mono d.msgs (reachD d) (show i+1≤d.msgs.length by omega)
   have hrs:=routN_succ (r:=reachD d) hm
   cases hr:reachD d i with
   | false =>
    rw [hr] at hcell hrs
    simp only [Bool.false_eq_true,if_false,Nat.add_zero] at hrs
    simp (disch:=try exact DI) only [↓PR,QR,simprocAttr,d1,↓n33c3,hcell,Nat.mul_one,Nat.zero_add,hwi]
    refine ⟨⟨i+1,by rw [hrs],rfl,by omega,e2⟩,?_⟩
    simp only [intOf];omega
   | true =>
    rw [hr] at hcell hrs
    simp only [if_true] at hrs
    have hlm:lenM m=2+lenK m.fields m.fields.length:=rfl
    have hmm:=htm.2 m (List.mem_of_getElem? hm)
    have hw2:IntKind.i64.wrap ((routN d.msgs (reachD d) i:Int)+2)=((routN d.msgs (reachD d) i+2+lenK m.fields 0:Nat):Int):=by rw [wrap_ok (by omega) (by omega)];show _=((routN d.msgs (reachD d) i+2+0:Nat):Int);omega
    simp (disch:=try exact DI) only [↓PR,QR,simprocAttr,d1,↓n33c3,hcell,Nat.mul_one,Nat.zero_add,hw2]
    refine loop2_intro (fun a b w'=>∃ k:Nat,a = .int .i64 ((routN d.msgs (reachD d) i+2+lenK m.fields k:Nat):Int)∧b = .int .i64 k∧k≤m.fields.length∧Ext w2 w') (fun _ b _=>m.fields.length - (intOf b).toNat) ⟨0,rfl,rfl,by omega,Ext.refl _⟩ ?_
    rintro _ _ w3 ⟨k,rfl,rfl,hk,e3⟩
    have E3:=E2.trans e3
    have q2:=(e1.trans (e2.trans e3)).obj o2
    unfold n33c2
    rcases drop_cases hk with ⟨x,hx,_,hltk,hdec⟩ | ⟨hke,_,hdec⟩
    · obtain ⟨bF,oF,csF,rfl,_,hAF,tv,cv,rfl,hT,hC⟩:=helF k x hx
      have hlk:=lenK_succ hx
      have hlkm:=lenK_mono m.fields (show k+1≤m.fields.length by omega)
      have hwk:IntKind.i64.wrap ((k:Int)+1)=(k:Int)+1:=wrap_ok (by omega) (by omega)
      have hwn:IntKind.i64.wrap (((routN d.msgs (reachD d) i+2+lenK m.fields k:Nat):Int)+(lenF x:Int))=((routN d.msgs (reachD d) i+2+lenK m.fields (k+1):Nat):Int):=by rw [wrap_ok (by omega) (by omega)];omega
      simp (disch:=try exact DI) only [↓PR,QR,simprocAttr,(cells_of_heap q2).1,hA.c2 E3,hdec,↓n33c1,hAF.c15 E3]
      refine zcr (rlength_ret w3 _ x ⟨tv,cv,rfl,TermsOf.ext hT E3,CasesOf.ext hC E3⟩ (hmm.2 x (List.mem_of_getElem? hx)).2) fun w4 e4=>?_
      simp (disch:=try exact DI) only [↓PR,QR,simprocAttr,hwn,hwk]
      exact ⟨⟨k+1,rfl,rfl,by omega,e3.trans e4⟩,by simp only [intOf];omega⟩
    · subst hke
      simp (disch:=try exact DI) only [↓PR,QR,simprocAttr,(cells_of_heap q2).1,hA.c2 E3,hdec,hwi]
      refine ⟨⟨i+1,?_,rfl,by omega,e2.trans e3⟩,?_⟩
      · rw [hrs,hlm]
        congr 1
        omega
      · simp only [intOf];omega
 · obtain rfl:i=ix.toNat:=by omega
   have d1:decide (((ix.toNat:Nat):Int) < ix)=false:=decide_eq_false (by omega)
   simp (disch:=try exact DI) only [↓PR,QR,simprocAttr,d1]
   exact ⟨by trivial,E2⟩
theorem rto_ret (w0:World) (v:Value) (d:DefD) (s:ByteArray) (hd:DefVal w0 v d) (ht:calm d) (htm:tame d) (hc:(checkP d).2.2=0) (hz:sizeP d≤100000):Ret Pg 34 #[v,.string s] w0 fun r w'=>r = .int .i64 (toR d.msgs (reachD d) s)∧Ext w0 w':=by
 obtain ⟨mv,rfl,hM⟩:=hd
 have hM0:=hM
 obtain ⟨A,c,rfl,hlc,hcm,hlm,hel⟩:=SliceOf.open hM
 refine n35s (R:=retR _) ?_;unfold n35
 rw [op_boxA]
 have o2:=heap_new w0 (defCells d (.slice A d.msgs.length c)).toArray 24
 have eW:Ext w0 (w0.alloc (.cells (defCells d (.slice A d.msgs.length c)).toArray 24)):=ee
 generalize (w0.alloc (.cells (defCells d (.slice A d.msgs.length c)).toArray 24))=W at o2 eW ⊢
 generalize hp2:w0.heap.size=p2 at o2 ⊢
 refine drawK_intro ?_
 have eD:Ext W (Sw.drew W):=(Ext.refl W).drew
 have q2:=eD.obj o2
 have E1:=eW.trans eD
 generalize (Sw.drew W)=w1 at q2 E1 ⊢
 unfold n35c1
 simp (disch:=try exact DI) only [↓PR,QR,simprocAttr,(cells_of_heap q2).1]
 refine zcr (rFind_ret _ _ d s d.msgs.length ⟨_,rfl,hM0.ext E1⟩ (Nat.le_refl _)) fun w2 e2=>?_
 refine ⟨e2,?_⟩
 rw [List.take_length]
 have hlow:=idx_low (fun m:MsgD=>decide (m.name=s)) d.msgs
 refine zcr (rRoutine_ret w2 _ d _ ⟨_,rfl,hM0.ext (E1.trans e2)⟩ ht htm hc hz (by omega)) fun w3 e3=>?_
 exact ⟨e2.trans e3,_,rfl,rfl,E1.trans (e2.trans e3)⟩
end Go.Proofs.YtfdecdnmooaegaaGreatDoor
namespace Go.Sw
open Go.RowKit (Below)
structure LW3 (B:Nat) (w w':World):Prop where
 os:w'.os=w.os
 tape:w'.tape=w.tape
 output:w'.output=w.output
 size:w.heap.size≤w'.heap.size
 block:∀ b,b < B→b < w.heap.size→w'.heap[b]?=w.heap[b]?
end Go.Sw
namespace Go.Sw
open Go.RowKit (Below)
def KR5 (_B:Nat) (w w':World):Prop:=w.heap.size≤w'.heap.size∧(∀ (b:Nat) (r:Loop),w.heap[b]?=some (.loop r)→∃ st p,w'.heap[b]?=some (.loop { r with state:=st,pending:=p })) ∧
 (∀ (b:Nat),w.heap[b]?=some (.deferred (some []))→w'.heap[b]?=some (.deferred (some [])))
section
variable {B:Nat} {w w1 w2:World}
theorem KR5.of2 (h:KR B w w1):KR5 B w w1:=⟨h.1,h.2.1,h.2.2.1⟩
theorem KR5.trans (h:KR5 B w w1) (k:KR5 B w1 w2):KR5 B w w2:=⟨Nat.le_trans h.1 k.1,fun b r hb=>by
 obtain ⟨st,p,h1⟩:=h.2.1 b r hb
 obtain ⟨st',p',h2⟩:=k.2.1 b _ h1
 exact ⟨st',p',h2⟩,fun b hb=>k.2.2 b (h.2.2 b hb)⟩
theorem KR5.of (e:Ext w w1):KR5 B w w1 := .of2 (.of e)
theorem KR5.setCell (h:KR5 B w w1) (b o:Nat) (v:Value):KR5 B w (w1.setCell ⟨b,o,none⟩ v):=h.trans ⟨by simp,fun b r hb=>⟨r.state,r.pending,(KeepsOthers.setCell w1 _ v).same _ _ hb rfl⟩,fun b hb=>(KeepsOthers.setCell w1 _ v).same _ _ hb rfl⟩
theorem KR5.busied {l:Nat} (h:Busied l w w1):KR5 B w w1 := .of2 (.busied h)
theorem KR5.turn {l:Nat} {r:Loop} (hl:w.heap[l]?=some (.loop r)) (st:LoopState) (p:Option Code):KR5 B w (w.putObj l (.loop { r with state:=st,pending:=p })) := .of2 (.turn hl st p)
theorem KR5.grown {row:Option Nat} (h:KR5 B w w1) (hg:w1.grownBy w2 row) (hr:∀ g,row=some g→∃ cs T f,w1.heap[g]?=some (.cells cs T f)):KR5 B w w2:=h.trans ⟨hg.size,fun b r hb=>⟨r.state,r.pending,(hg.block b (Array.getElem?_eq_some_iff.1 hb).1 (fun e=>by
 obtain ⟨cs,T,f,hc⟩:=hr b e.symm
 rw [hb] at hc;cases hc)).trans hb⟩,fun b hb=>(hg.block b (Array.getElem?_eq_some_iff.1 hb).1 (fun e=>by
 obtain ⟨cs,T,f,hc⟩:=hr b e.symm
 rw [hb] at hc;cases hc)).trans hb⟩
end
def Firm5 (B:Nat) (R:World→Prop):Prop:=∀ w w',KR5 B w w'→R w→R w'
theorem RecAt.firm5 (rec:Loop) (B b:Nat):Firm5 B (RecAt rec b):=fun w w' h ⟨h1,st,p,h2⟩=>by
 obtain ⟨st',p',h3⟩:=h.2.1 _ _ h2
 exact ⟨h.2.2 _ h1,st',p',h3⟩
theorem Firm5.and {B:Nat} {R S:World→Prop} (h:Firm5 B R) (k:Firm5 B S):Firm5 B (fun w=>R w∧S w):=fun w w' e hh=>⟨h _ _ e hh.1,k _ _ e hh.2⟩
theorem Firm5.firm {B:Nat} {R:World→Prop} (h:Firm5 B R):Firm B R:=fun w w' e hr=>h w w' (.of2 e) hr
def SeqIt5 (P:Program) (f:FuncId) (caps:Array Value) (n:Nat) (xs ys:Nat→Value) (FP:World→Prop):Prop :=
 ∀ (yv:Value) (J:Nat→World→Prop) (Jx:World→Prop) (Jp:List PanicEntry→World→Prop) (w:World),yv.oneCell'=true→(∀ k w,J k w→FP w)→(∀ k,Lasts2 w.heap.size (J k))→Lasts2 w.heap.size Jx→(∀ ch,Lasts2 w.heap.size (Jp ch)) →
  (∀ k,k < n→∀ Rk,Firm5 w.heap.size Rk→∀ w,J k w→Rk w→callV P yv #[xs k,ys k] (fun ch w'=>Rk w'∧Jp ch w') w (fun v w'=>Rk w'∧((v = .bool true∧J (k+1) w')∨(v = .bool false∧Jx w'))))→J 0 w →
  Calls P f (#[yv]++caps) w (fun e w'=>match e with
   | .returned _=>J n w'∨Jx w'
   | .panicked ch=>Jp ch w'
   | .outgrown=>False)
def rangeN5 (P:Program) (fv:Value) (ds:List Deferred) (body:Nat→Value→Value→World→(World→Prop)→(Nat→World→Prop)→(List PanicEntry→World→Prop)→Prop) (QP:List PanicEntry→List Deferred→World→Prop) (w:World)
 (k:List Deferred→World→Prop) (kx:List (List Deferred→World→Prop)):Prop :=
 ∃ (f:FuncId) (caps:Array Value) (n:Nat) (xs ys:Nat→Value) (FP:World→Prop) (I:Nat→World→Prop) (Ix:Nat→World→Prop) (Ip:List PanicEntry→World→Prop),
  fv = .func (.func f) #[] caps∧Callable P f∧SeqIt5 P f caps n xs ys FP∧I 0 w∧(∀ k w,I k w→FP w)∧(∀ k,Lasts2 w.heap.size (I k))∧(∀ c,Lasts2 w.heap.size (Ix c))∧(∀ ch,Lasts2 w.heap.size (Ip ch)) ∧
  (∀ (Rk:World→Prop),Firm5 (w.heap.size+1+1) Rk→∀ (j:Nat) (w':World),j < n→I j w'→Rk w'→w.heap.size+1 < w'.heap.size→ReadyAt (w.heap.size+1) w' →
   body (w.heap.size+1) (xs j) (ys j) w' (fun w''=>Rk w''∧I (j+1) w'') (fun c w''=>Rk w''∧Ix c w'') (fun ch w''=>Rk w''∧Ip ch w'')) ∧
  (∀ w',I n w'→MarkAt w.heap.size w'→k (mark w.heap.size::ds) w') ∧
  (∀ c w',Ix c w'→MarkAt w.heap.size w'→nthK kx c (mark w.heap.size::ds) w') ∧
  (∀ ch w',Ip ch w'→MarkAt w.heap.size w'→QP ch (mark w.heap.size::ds) w')
section
variable {P:Program} {N:Nat}
theorem sim_range5 {g:Operand} {p p2:Nat} {asg body:Code} {Q:K} {QP:KP} {ρ:Env} {ds:List Deferred} {w:World} {fv:Value} {nbody:Nat→Value→Value→World→(World→Prop)→(Nat→World→Prop)→(List PanicEntry→World→Prop)→Prop} {QPn:List PanicEntry→List Deferred→World→Prop}
 {k:List Deferred→World→Prop} {kx:List (List Deferred→World→Prop)} (js:List Code) (h:rangeN5 P fv ds nbody QPn w k kx) (hg:ev ρ g=fv)
 (hbody:∀ l x y w K X QPr,nbody l x y w K X QPr→den P N (some l) asg (thenK (fun ρ' ds' w'=>ds'=[]∧busyK l w' (fun w''=>den P N (some l) body (roundK js K X) (roundQP QPr) ρ' [] w'')) (fun _ _ _ _=>False)) (fun _ _ _ _=>False) (put N (put N ρ (some p) x) (some p2) y) [] w)
 (hk:∀ ds w,k ds w→Q .normal ρ ds w) (hx:∀ c ds w,nthK kx c ds w→∃ code,js[c]?=some code∧((code = .ret∧Q .ret ρ ds w)∨(∃ id,code = .exit id∧Q (.exit id) ρ ds w))) (hp:∀ ch ds w,QPn ch ds w→QP ch ρ ds w) :
 den P N none (.rangeFunc g #[p,p2] asg body) Q QP ρ ds w:=by
 intro a ha hds
 subst hds
 obtain ⟨f,caps,n,xs,ys,FP,I,Ix,Ip,hfv,hcal,hseq,h0,hFP,hL,hLx,hLp,hround,hend,hjump,hpan⟩:=h
 refine wpV_rangeFunc fun fn hfn=>?_
 obtain ⟨rec,hrec⟩:∃ rec:Loop,rec={ state := .ready,pending:=none,fn,tmps:=a.tmps,params := #[p,p2],assign:=asg,body,defers:=w.heap.size }:=⟨_,rfl⟩
 obtain ⟨W1,hW1⟩:∃ W1,(w.alloc (.deferred (some []))).alloc (.loop rec)=W1:=⟨_,rfl⟩
 have hE1:Ext w W1:=by rw [← hW1];exact ((Ext.refl w).alloc _).alloc _
 have hW1s:W1.heap.size=w.heap.size+1+1:=by rw [← hW1];simp
 have hL1:W1.heap[w.heap.size+1]?=some (.loop rec):=by
  rw [← hW1];have:=World.alloc_heap_new (w.alloc (.deferred (some []))) (.loop rec);rwa [World.size_alloc] at this
 have hK1:MarkAt w.heap.size W1:=by
  rw [← hW1];exact MarkAt.alloc (World.alloc_heap_new w _) _
 have hev:a.eval g=fv:=by rw [ha.eval];exact hg
 refine ⟨w.heap.size+1,[mark w.heap.size],W1,{ target := .fn (.func f) caps,args := #[.func (.yield (w.heap.size+1)) #[] #[]] },W1,f,#[.func (.yield (w.heap.size+1)) #[] #[]]++caps,W1,?_,?_,?_,?_⟩
 · rw [← hW1,hrec];exact run_enterLoop_outer _ _ _ _ _
 · simp only [resolve,hev,hfv]
   simp [go_sem]
 · simp only [invoke]
   exact callFunc_run hcal _ _
 · refine Calls.mono (hseq (.func (.yield (w.heap.size+1)) #[] #[]) (fun j w'=>I j w'∧MarkAt w.heap.size w'∧∃ p,w'.heap[w.heap.size+1]?=some (.loop { rec with state := .ready,pending:=p })∧p=none)
    (fun w'=>MarkAt w.heap.size w'∧∃ c code,Ix c w'∧js[c]?=some code∧w'.heap[w.heap.size+1]?=some (.loop { rec with state := .done,pending:=some code }))
    (fun ch w'=>MarkAt w.heap.size w'∧Ip ch w') W1 rfl (fun j w' hj=>hFP j w' hj.1) (fun j=>((hL j).mono (by omega)).and ((Lasts2.low (by omega) _).and (.ex fun q=>(Lasts2.low (by omega) _).and (.const _ _))))
    ((Lasts2.low (by omega) _).and (.ex fun c => .ex fun code=>((hLx c).mono (by omega)).and ((Lasts2.const _ _).and (Lasts2.low (by omega) _)))) (fun ch=>(Lasts2.low (by omega) _).and ((hLp ch).mono (by omega))) ?_ ⟨(hL 0).ext h0 hE1,hK1,none,by rw [hL1,hrec],rfl⟩) ?_
   · rintro j hj Rk hF w' ⟨hi,hm,q,hl,rfl⟩ hR
     have hlt:w.heap.size+1 < w'.heap.size:=(Array.getElem?_eq_some_iff.1 hl).1
     have hy:=run_yield (P:=P) (args := #[xs j,ys j]) hl (by rw [hrec];rfl)
     show onNext P _ _ _ _
     have hcs:callS (.func (.yield (w.heap.size+1)) #[] #[]) #[xs j,ys j]=Instr.yield (w.heap.size+1) #[xs j,ys j]:=by
      simp [callS,Deferred.ofValue,invoke,go_sem,bind,pure,Sem.bind]
     rw [hcs,hy]
     have key:∀ R,wpV (some (w.heap.size+1)) P asg (Exit.then (fun a₁ w₁=>∃ w₂,(Instr.beginRound (w.heap.size+1)).run P w₁ = .ok () w₂∧wpV (some (w.heap.size+1)) P body (endV P (w.heap.size+1) R) a₁ w₂) (fun _ _ _=>False)) { tmps:=((#[p,p2].zip #[xs j,ys j]).foldl (fun tmps (t,a)=>tmps.setIfInBounds t a) a.tmps),defers:=[] } w' →
      RoundV P (w.heap.size+1) rec.fn ((rec.params.zip #[xs j,ys j]).foldl (fun tmps (t,a)=>tmps.setIfInBounds t a) rec.tmps) rec.assign rec.body w' R:=by
      intro R h;rw [hrec];exact roundV_of_wpV hfn h
     refine key _ ?_
     have hb:=hbody _ _ _ _ _ _ _ (hround _ ((RecAt.firm5 rec _ w.heap.size).and (hW1s ▸ hF)) j w' hj hi ⟨⟨hm,_,_,hl⟩,hR⟩ hlt ⟨_,hl,rfl⟩)
     have hagr:Agrees N ({ tmps:=((#[p,p2].zip #[xs j,ys j]).foldl (fun tmps (t,a)=>tmps.setIfInBounds t a) a.tmps),defers:=[] }:Act) (put N (put N ρ (some p) (xs j)) (some p2) (ys j)):=by
      have:=((Agrees.defers ha []).put (some p) (xs j)).put (some p2) (ys j)
      simpa [Act.put] using this
     refine wpV_mono (den_sound asg _ _ _ _ _ hagr hb) ?_
     intro e a1 w1 hl1
     cases e with
     | panic ch=>obtain ⟨_,_,hf⟩:=hl1;exact hf.elim
     | outgrown=>exact hl1
     | exit id=>obtain ⟨_,_,_,hf⟩:=hl1;exact hf.elim
     | goto l=>obtain ⟨_,_,_,hf⟩:=hl1;exact hf.elim
     | ret=>obtain ⟨_,_,_,hf⟩:=hl1;exact hf.elim
     | normal =>
      obtain ⟨ρ1,ha1,_,hd1,hbz⟩:=hl1
      obtain ⟨⟨r,hr1,hr2⟩,hbz⟩:=hbz
      refine ⟨_,run_beginRound hr1 hr2,?_⟩
      rw [show a1={ a1 with defers:=[] } by rw [← hd1]]
      refine wpV_mono (den_sound body _ _ _ _ _ (Agrees.defers ha1 []) (hbz _ ⟨_,hr1,rfl⟩)) ?_
      have fin:∀ (jump:Option Code) (w2:World),RecAt rec w.heap.size w2→(Instr.endRound (w.heap.size+1) jump).run P w2 = .ok (.bool jump.isNone) (w2.putObj (w.heap.size+1) (.loop { rec with state:=if jump.isNone then .ready else .done,pending:=jump })) ∧
       (w2.putObj (w.heap.size+1) (.loop { rec with state:=if jump.isNone then .ready else .done,pending:=jump })).heap[w.heap.size+1]?=some (.loop { rec with state:=if jump.isNone then .ready else .done,pending:=jump }) ∧
       MarkAt w.heap.size (w2.putObj (w.heap.size+1) (.loop { rec with state:=if jump.isNone then .ready else .done,pending:=jump })):=by
       rintro jump w2 ⟨hm2,st,q,hq⟩
       refine ⟨by have:=run_endRound (P:=P) jump hq;exact this,World.putObj_heap_same (Array.getElem?_eq_some_iff.1 hq).1,?_⟩
       unfold MarkAt
       rw [World.putObj_heap_other (by omega)];exact hm2
      intro e a2 w2 hl2
      cases e with
      | normal =>
       obtain ⟨_,_,_,_,⟨hrec2,hR2⟩,hi2⟩:=hl2
       obtain ⟨f1,f2,f3⟩:=fin none w2 hrec2
       obtain ⟨_,st,q,hq⟩:=hrec2
       exact ⟨_,_,f1,hF _ _ (KR5.turn hq _ _) hR2,.inl ⟨rfl,(hL _).loop (Nat.le_succ _) hi2 hq _,f3,none,f2,rfl⟩⟩
      | ret =>
       obtain ⟨_,_,_,_,c,hc,⟨hrec2,hR2⟩,hi2⟩:=hl2
       obtain ⟨f1,f2,f3⟩:=fin (some .ret) w2 hrec2
       obtain ⟨_,st,q,hq⟩:=hrec2
       exact ⟨_,_,f1,hF _ _ (KR5.turn hq _ _) hR2,.inr ⟨rfl,f3,c,_,(hLx _).loop (Nat.le_succ _) hi2 hq _,hc,f2⟩⟩
      | exit id =>
       obtain ⟨_,_,_,_,c,hc,⟨hrec2,hR2⟩,hi2⟩:=hl2
       obtain ⟨f1,f2,f3⟩:=fin (some (.exit id)) w2 hrec2
       obtain ⟨_,st,q,hq⟩:=hrec2
       exact ⟨_,_,f1,hF _ _ (KR5.turn hq _ _) hR2,.inr ⟨rfl,f3,c,_,(hLx _).loop (Nat.le_succ _) hi2 hq _,hc,f2⟩⟩
      | panic ch =>
       obtain ⟨_,_,hd2,⟨hrec2,hR2⟩,hi2⟩:=hl2
       exact ⟨hd2,hR2,hrec2.1,hi2⟩
      | goto l=>obtain ⟨_,_,_,hf⟩:=hl2;exact hf.elim
      | outgrown=>exact hl2
   · have hagr:Agrees N ({ a with defers:=[mark w.heap.size]++a.defers }:Act) ρ:=ha
     have exh:∀ (st:LoopState) (q:Option Code) (w':World),w'.heap[w.heap.size+1]?=some (.loop { rec with state:=st,pending:=q })→st ≠ .busy→MarkAt w.heap.size w' →
      (Instr.endLoop (w.heap.size+1)).run P w' = .ok q (w'.putObj (w.heap.size+1) (.loop { rec with state := .exhausted,pending:=q }))∧MarkAt w.heap.size (w'.putObj (w.heap.size+1) (.loop { rec with state := .exhausted,pending:=q })):=by
      intro st q w' hq hne hm
      refine ⟨by have:=run_endLoop (P:=P) hq hne;exact this,?_⟩
      unfold MarkAt
      rw [World.putObj_heap_other (by omega)];exact hm
     rintro e w' he
     cases e with
     | returned v =>
      rcases he with ⟨hi,hm,q,hl,rfl⟩ | ⟨hm,c,code,hi,hc,hl⟩
      · obtain ⟨e1,e2⟩:=exh _ _ w' hl (by simp) hm
        exact ⟨none,_,e1,hagr,hk _ _ (hend _ ((hL _).loop (Nat.le_succ _) hi hl _) e2)⟩
      · obtain ⟨e1,e2⟩:=exh _ _ w' hl (by simp) hm
        refine ⟨some code,_,e1,?_⟩
        obtain ⟨code',hc',hden⟩:=hx c _ _ (hjump c _ ((hLx _).loop (Nat.le_succ _) hi hl _) e2)
        rw [hc] at hc';cases hc'
        rcases hden with ⟨rfl,hq⟩ | ⟨id,rfl,hq⟩
        · exact wpV_ret ⟨hagr,hq⟩
        · exact wpV_exit ⟨hagr,hq⟩
     | panicked ch=>exact ⟨hagr,hp _ _ _ (hpan ch _ he.2 he.1)⟩
     | outgrown=>exact he.elim
end
theorem SeqIt5.to2 {P:Program} {f:FuncId} {caps:Array Value} {n:Nat} {xs ys:Nat→Value} {FP:World→Prop} (h:SeqIt5 P f caps n xs ys FP):SeqIt2 P f caps n xs ys FP:=fun yv J Jx Jp w hy hFP hJ hJx hJp hs h0=>h yv J Jx Jp w hy hFP hJ hJx hJp (fun k hk Rk hF=>hs k hk Rk hF.firm) h0
end Go.Sw
namespace Go.Proofs.YtfdecdnmooaegaaGreatDoor
open Sw
open Go.RowKit (intOf Below)
abbrev EIns:World→List Value→InsD→Prop:=fun _ cs x=>cs=insCells x
def InsAt (e:Nat) (v:Value) (l:List InsD) (w:World):Prop:=w.heap[e]?=some (.cells #[v] 32 (0,0))∧SliceOf w 6 EIns v l
theorem keptIns:Kept EIns:=fun _ _ _ _ _ h=>h
theorem InsAt.ext {e:Nat} {v:Value} {l:List InsD} {w w':World} (h:InsAt e v l w) (x:Ext w w'):InsAt e v l w':=⟨x.obj h.1,SliceOf.ext keptIns h.2 x⟩
section
variable {w:World} {lo pb:Nat} {d:DefD}
theorem clone_ret (w0:World) (l:List InsD) (g cap n:Nat) (hn:n=l.length) (hE:∀ k x,l[k]?=some x→ElemAt w0 g (k*6) (insCells x)) (hl:l.length≤100000):Ret Pg 37 #[.slice (some ⟨g,0,none⟩) n cap] w0 fun r w'=>OwnE w' w0.heap.size TI 6 insCells r l∧Ext w0 w':=by
 subst hn
 refine n50s (R:=retR _) ?_;unfold n50
 simp (disch:=try exact DI) only [↓PR,QR,simprocAttr]
 have hO:=OwnE.new w0 TI 6 insCells [] (fun _=>rfl) (by simp)
 have eW:Ext w0 (w0.alloc (.cells ([]:List Value).toArray TI)):=ee
 simp only [List.flatMap_nil,List.length_nil] at hO
 generalize (w0.alloc (.cells ([]:List Value).toArray TI))=W at hO eW ⊢
 refine op_appendE (l':=l) (o:=0) Tryz.underlying32 ty36 rfl (by decide) (fun x=>rfl) (fun x hx u hu=>?_) hO (fun j x hx=>?_) eW.size (Nat.le_trans (Nat.mul_le_mul (show ([]:List InsD).length+l.length≤100001 by simp;omega) by36) (by decide)) (by simp;omega) ?_
 · simp only [insCells,List.mem_cons,List.not_mem_nil,or_false] at hu
   rcases hu with rfl | rfl | rfl | rfl | rfl | rfl<;>rfl
 · rw [Nat.zero_add]
   intro j' u hu
   exact eW.cell (hE j x hx j' u hu)
 · intro v' w' hO' hg
   simp (disch:=try exact DI) only [↓PR,QR,simprocAttr]
   exact ⟨hO',eW.grown hg fun b hb=>(hO.lt b hb).1⟩
theorem Each_ret (h:ProgAt w lo pb d) (hz:sizeP d≤100000):Ret Pg 16 #[.pointer (some ⟨pb,0,none⟩)] w fun r w'=>(∃ e v,r = .func (.func 38) #[] #[.pointer (some ⟨e,0,none⟩)]∧w.heap.size≤e∧w'.heap[e]?=some (.cells #[v] 32 (0,0))∧OwnE w' w.heap.size TI 6 insCells v (codeP d))∧Ext w w':=by
 refine n39s (R:=retR _) ?_;unfold n39
 simp (disch:=try exact DI) only [↓PR,QR,simprocAttr]
 generalize hV:World.alloc w _=W
 have eW:Ext w W:=by rw [← hV];exact ee
 have oW:W.heap[w.heap.size]?=some (.cells #[.slice none 0 0] 32 (0,0)):=by rw [← hV];exact heap_new _ _ _
 clear hV
 refine zcr (none_ret (h.ext eW)) fun w1 e1=>?_
 obtain ⟨mc,rm,gm,g,cap,h1,hO,hE,hcap⟩:=(h.ext (eW.trans e1)).code
 simp (disch:=try exact DI) only [↓PR,QR,simprocAttr,↓n39c2,↓n39c1,(cells_of_heap h1).1]
 refine callK_ret (clone_ret w1 (codeP d) g cap _ (codeP_len d).symm hE (by rw [codeP_len];exact hz)) ?_
 rintro v w2 ⟨hO2,e2⟩
 have E2:=eW.trans (e1.trans e2)
 have q2:=(e1.trans e2).obj oW
 have hS2:=hO2.slice (E:=EIns) (fun _=>rfl) (fun _ _=>rfl)
 have hv1:=SliceOf.oneCell hS2
 have l1:=(Array.getElem?_eq_some_iff.1 (e1.obj oW)).1
 have ho:=Only.setCell w2 w.heap.size 0 v
 generalize hp:w.heap.size=p at *
 simp (disch:=try exact DI) only [↓PR,QR,simprocAttr,(cells_of_heap q2).1,(cells_of_heap q2).2]
 refine ⟨⟨p,v,rfl,by omega,by simpa using heap_set (o:=0) q2 v,((hO2.range.only ho (.inr (.inl l1))).1).base (by have:=e1.size;have:=eW.size;omega)⟩,E2.setCell (p:=⟨p,0,none⟩) (by show w.heap.size≤p;omega) _⟩
theorem ins_at {e B:Nat} {v:Value} {l:List InsD} {w:World} (h:w.heap[e]?=some (.cells #[v] 32 (0,0))∧OwnE w B TI 6 insCells v l):InsAt e v l w:=⟨h.1,h.2.slice (fun _=>rfl) (fun _ _=>rfl)⟩
theorem Each_seq (e:Nat) (v:Value) (l:List InsD) (hl:l.length≤100000) :
 SeqIt5 Pg 38 #[.pointer (some ⟨e,0,none⟩)] l.length (fun k => .int .i64 k) (fun k=>insVal ((l[k]?).getD zeroI)) (InsAt e v l):=by
 intro yv J Jx Jp w hy hFP hJl hJx hJp hstep h0
 obtain ⟨ho,hF⟩:=hFP 0 w h0
 obtain ⟨A,c,rfl,hlc,hcm,hlm,_⟩:=SliceOf.open hF
 refine n40s (t0:=yv) (t1 := .pointer (some ⟨e,0,none⟩)) ?_
 unfold n40
 simp (disch:=try exact DI) only [↓PR,QR,simprocAttr,(cells_of_heap ho).1]
 refine loop1_intro (fun i w'=>∃ k:Nat,i = .int .i64 k∧k≤l.length∧J k w'∧w.heap.size≤w'.heap.size) (fun i _=>l.length - (intOf i).toNat) ⟨0,rfl,by omega,h0,Nat.le_refl _⟩ ?_
 rintro _ w' ⟨k,rfl,hk,hJ,hsz⟩
 obtain ⟨ho',hF'⟩:=hFP k w' hJ
 rcases drop_cases hk with ⟨x,hx,hd,hlt,hdec⟩ | ⟨hk,hd,hdec⟩
 · obtain ⟨A',c',hv,_,_,_,hel⟩:=SliceOf.open hF'
   injection hv with hv1 _ hv2
   subst hv1 hv2
   obtain ⟨b,o,cs,rfl,hl',hA,rfl⟩:=hel k x hx
   have hwr:IntKind.i64.wrap ((k:Int)+1)=(k:Int)+1:=wrap_ok (by omega) (by omega)
   simp (disch:=try exact DI) only [↓PR,QR,simprocAttr,hdec]
   unfold n40c1
   simp (disch:=try exact DI) only [↓PR,QR,simprocAttr,hA.c6 (Ext.refl _)]
   generalize hV:World.alloc w' _=W
   have eW:Ext w' W:=by rw [← hV];exact ee
   clear hV
   have hs:=hstep k (by omega) (fun u=>w.heap.size≤u.heap.size) (fun u u' h hh=>Nat.le_trans hh h.1) W ((hJl k).ext hJ eW) (Nat.le_trans hsz eW.size)
   simp only [hx,Option.getD_some] at hs
   refine callV_mono hs (fun ch w h=>h.2) ?_
   rintro v w2 ⟨hs2,⟨rfl,h2⟩ | ⟨rfl,h2⟩⟩
   · simp (disch:=try exact DI) only [↓PR,QR,simprocAttr,hwr]
     exact ⟨⟨k+1,rfl,by omega,h2,hs2⟩,meas_lt (kd := .i64) hlt⟩
   · simp (disch:=try exact DI) only [↓PR,QR,simprocAttr]
     exact .inr h2
 · subst hk
   simp (disch:=try exact DI) only [↓PR,QR,simprocAttr,hdec]
   exact .inl hJ
end
open Go.Shelf
def sh_lays156_ren:Go.Shelf.Ren:=⟨fun | 156=>32 | 165=>66 | 166=>67 | 169=>68 | 240=>83 | 241=>84 | 276=>102 | 277=>103 | n=>n,fun | 31=>80 | 9=>9 | 3=>3 | 4=>4 | 0=>0 | 20=>20 | 72=>128 | 76=>132 | 70=>125 | 37=>126 | 75=>131 | 127=>150 | 164=>171 | 5=>5 | 80=>30 | n=>n,fun | n=>n⟩
theorem sh_lays156:Go.Proofs.Lays.n156 Pg sh_lays156_ren:={
 mixed:=by kernel_rfl
 f156:=Tryz.func32.trans (congrArg some (by kernel_rfl))
 f165:=Tryz.func66.trans (congrArg some (by kernel_rfl))
 f166:=Tryz.func67.trans (congrArg some (by kernel_rfl))
 f169:=Tryz.func68.trans (congrArg some (by kernel_rfl))
 f240:=Tryz.func83.trans (congrArg some (by kernel_rfl))
 f241:=Tryz.func84.trans (congrArg some (by kernel_rfl))
 f276:=Tryz.func102.trans (congrArg some (by kernel_rfl))
 f277:=Tryz.func103.trans (congrArg some (by kernel_rfl))
 t0:=Tryz.underlying0
 a0:=Tryz.isAgg0
 z0:=Tryz.sizeOf0
 v0:=Tryz.zeroValue0
 t3:=Tryz.underlying3
 a3:=Tryz.isAgg3
 z3:=Tryz.sizeOf3
 v3:=Tryz.zeroValue3
 t4:=Tryz.underlying4
 a4:=Tryz.isAgg4
 z4:=Tryz.sizeOf4
 v4:=Tryz.zeroValue4
 t9:=Tryz.underlying9
 a9:=Tryz.isAgg9
 z9:=Tryz.sizeOf9
 v9:=Tryz.zeroValue9
 t20:=Tryz.underlying20
 a20:=Tryz.isAgg20
 z20:=Tryz.sizeOf20
 v20:=Tryz.zeroValue20
 t31:=Tryz.underlying80
 a31:=Tryz.isAgg80
 z31:=Tryz.sizeOf80
 v31:=Tryz.zeroValue80
 t37:=Tryz.underlying126
 a37:=Tryz.isAgg126
 z37:=Tryz.sizeOf126
 v37:=Tryz.zeroValue126
 t70:=Tryz.underlying125
 a70:=Tryz.isAgg125
 z70:=Tryz.sizeOf125
 v70:=Tryz.zeroValue125
 t72:=Tryz.underlying128
 a72:=Tryz.isAgg128
 z72:=Tryz.sizeOf128
 v72:=Tryz.zeroValue128
 t75:=Tryz.underlying131
 a75:=Tryz.isAgg131
 z75:=Tryz.sizeOf131
 v75:=Tryz.zeroValue131
 t76:=Tryz.underlying132
 a76:=Tryz.isAgg132
 z76:=Tryz.sizeOf132
 v76:=Tryz.zeroValue132
 t127:=Tryz.underlying150
 a127:=Tryz.isAgg150
 z127:=Tryz.sizeOf150
 v127:=Tryz.zeroValue150
 t164:=Tryz.underlying171
 a164:=Tryz.isAgg171
 z164:=Tryz.sizeOf171
 v164:=Tryz.zeroValue171 }
theorem sh_Builder_Extra_156:Builder.Extra Pg sh_lays156_ren:={
 sizeBuilder:=by kernel_rfl
 liesBuilder:=by kernel_rfl
 t5:=Tryz.underlying5
 a5:=Tryz.isAgg5
 z5:=Tryz.sizeOf5
 v5:=Tryz.zeroValue5
 infoByte:=by kernel_rfl
 cellsByte:=by kernel_rfl
 sizeByte:=by kernel_rfl
 neB5:=by decide }
open Go.RowKit in
open Go.RowKit in
theorem sh_strings_Join (bk o c:Nat) (xs:List ByteArray) (sep:ByteArray) (w:World) (hcells:∀ (j:Nat) x,xs[j]?=some x→w.cell? ⟨bk,o+j,none⟩=some (.string x)) (hbk:bk < w.heap.size) (hN:xs.length≤140737488355328) (hcap:xs.length≤c) (hlen:(Lib.join (xs.map (·.data.toList)) sep.data.toList).length≤140737488355328) :
 Calls Pg 32 #[.slice (some ⟨bk,o,none⟩) xs.length c,.string sep] w fun e w'=>e = .returned (.string ⟨(Lib.join (xs.map (·.data.toList)) sep.data.toList).toArray⟩)∧Below w.heap.size w w':=Any.strings_Join sh_lays156 sh_Builder_Extra_156 bk o c xs sep w hcells hbk hN hcap hlen
open Go.RowKit Go.Sort Go.Lib in
open Go.RowKit Go.Sort Go.Lib in
open Go.RowKit Go.Sort Go.Lib in
open Go.RowKit Go.Sort Go.Lib in
def sh_laysM171_ren:Go.Shelf.Ren:=⟨fun | 171=>65 | 243=>82 | 246=>101 | 283=>117 | 284=>118 | 285=>119 | 286=>120 | 129=>128 | 317=>127 | 318=>129 | 319=>130 | 320=>131 | 337=>136 | 338=>137 | n=>n,fun | 3=>3 | 9=>9 | 2=>2 | 4=>4 | 171=>184 | 0=>0 | 53=>185 | 37=>126 | 5=>5 | 173=>188 | 212=>196 | 51=>197 | 20=>20 | 213=>198 | 46=>200 | 232=>215 | 233=>216 | n=>n,fun | 17=>1 | 18=>2 | 19=>3 | n=>n⟩
theorem sh_laysM171:Go.Proofs.LaysM.n171 Pg sh_laysM171_ren:={
 mixed:=by kernel_rfl
 f129:=Tryz.func128.trans (congrArg some (by kernel_rfl))
 f171:=Tryz.func65.trans (congrArg some (by kernel_rfl))
 f243:=Tryz.func82.trans (congrArg some (by kernel_rfl))
 f246:=Tryz.func101.trans (congrArg some (by kernel_rfl))
 f283:=Tryz.func117.trans (congrArg some (by kernel_rfl))
 f284:=Tryz.func118.trans (congrArg some (by kernel_rfl))
 f285:=Tryz.func119.trans (congrArg some (by kernel_rfl))
 f286:=Tryz.func120.trans (congrArg some (by kernel_rfl))
 f317:=Tryz.func127.trans (congrArg some (by kernel_rfl))
 f318:=Tryz.func129.trans (congrArg some (by kernel_rfl))
 f319:=Tryz.func130.trans (congrArg some (by kernel_rfl))
 f320:=Tryz.func131.trans (congrArg some (by kernel_rfl))
 f337:=Tryz.func136.trans (congrArg some (by kernel_rfl))
 f338:=Tryz.func137.trans (congrArg some (by kernel_rfl))
 t0:=Tryz.underlying0
 a0:=Tryz.isAgg0
 z0:=Tryz.sizeOf0
 v0:=Tryz.zeroValue0
 t2:=Tryz.underlying2
 a2:=Tryz.isAgg2
 z2:=Tryz.sizeOf2
 v2:=Tryz.zeroValue2
 t3:=Tryz.underlying3
 a3:=Tryz.isAgg3
 z3:=Tryz.sizeOf3
 v3:=Tryz.zeroValue3
 t4:=Tryz.underlying4
 a4:=Tryz.isAgg4
 z4:=Tryz.sizeOf4
 v4:=Tryz.zeroValue4
 t5:=Tryz.underlying5
 a5:=Tryz.isAgg5
 z5:=Tryz.sizeOf5
 v5:=Tryz.zeroValue5
 t9:=Tryz.underlying9
 a9:=Tryz.isAgg9
 z9:=Tryz.sizeOf9
 v9:=Tryz.zeroValue9
 t20:=Tryz.underlying20
 a20:=Tryz.isAgg20
 z20:=Tryz.sizeOf20
 v20:=Tryz.zeroValue20
 t37:=Tryz.underlying126
 a37:=Tryz.isAgg126
 z37:=Tryz.sizeOf126
 v37:=Tryz.zeroValue126
 t46:=Tryz.underlying200
 a46:=Tryz.isAgg200
 z46:=Tryz.sizeOf200
 v46:=Tryz.zeroValue200
 t51:=Tryz.underlying197
 a51:=Tryz.isAgg197
 z51:=Tryz.sizeOf197
 v51:=Tryz.zeroValue197
 t53:=Tryz.underlying185
 a53:=Tryz.isAgg185
 z53:=Tryz.sizeOf185
 v53:=Tryz.zeroValue185
 t171:=Tryz.underlying184
 a171:=Tryz.isAgg184
 z171:=Tryz.sizeOf184
 v171:=Tryz.zeroValue184
 t173:=Tryz.underlying188
 a173:=Tryz.isAgg188
 z173:=Tryz.sizeOf188
 v173:=Tryz.zeroValue188
 t212:=Tryz.underlying196
 a212:=Tryz.isAgg196
 z212:=Tryz.sizeOf196
 v212:=Tryz.zeroValue196
 t213:=Tryz.underlying198
 a213:=Tryz.isAgg198
 z213:=Tryz.sizeOf198
 t232:=Tryz.underlying215
 a232:=Tryz.isAgg215
 z232:=Tryz.sizeOf215
 v232:=Tryz.zeroValue215
 t233:=Tryz.underlying216
 a233:=Tryz.isAgg216
 z233:=Tryz.sizeOf216
 v233:=Tryz.zeroValue216
 g17:=by kernel_rfl
 g18:=by kernel_rfl
 g19:=by kernel_rfl
 i0:=by kernel_rfl
 i2:=by kernel_rfl
 i3:=by kernel_rfl
 i4:=by kernel_rfl
 i5:=by kernel_rfl
 i9:=by kernel_rfl
 i20:=by kernel_rfl
 i37:=by kernel_rfl
 i46:=by kernel_rfl
 i51:=by kernel_rfl
 i53:=by kernel_rfl
 i171:=by kernel_rfl
 i173:=by kernel_rfl
 i212:=by kernel_rfl
 i232:=by kernel_rfl
 i233:=by kernel_rfl
 m17:=by kernel_rfl
 m18:=by kernel_rfl
 m19:=by kernel_rfl }
open Go.RowKit Go.Sort Go.Lib in
theorem sh_strconv_Itoa (n:Int) (h0 : -9223372036854775808≤n) (h1:n≤9223372036854775807) (w:World) (htab:Lib.TabIs Pg w "internal/strconv.uint64pow10" .u64 Lib.pow10Tab) :
 Calls Pg 65 #[.int .i64 n] w fun e w'=>e = .returned (.string ⟨(Lib.itoa n).toArray⟩)∧∃ k os,w'=grow (w.drewN k) os:=Any.strconv_Itoa sh_laysM171 n h0 h1 w htab
open Go.RowKit Go.Sort Go.Lib in
def TabOK (w:World):Prop:=Go.Lib.TabIs Pg w "internal/strconv.uint64pow10" .u64 Go.Lib.pow10Tab
theorem gPow:(Pg.globalNamed "internal/strconv.uint64pow10").isSome=true:=by kernel_rfl
theorem TabOK.lt {w:World} (h:TabOK w) {g:Nat} (hg:Pg.globalNamed "internal/strconv.uint64pow10" = some g):g < w.heap.size:=by
 unfold TabOK Go.Lib.TabIs World.var? at h
 rw [hg] at h
 simp only [Option.bind_some] at h
 rcases Nat.lt_or_ge g w.heap.size with h' | h'
 · exact h'
 · rw [Array.getElem?_eq_none h'] at h;cases h
theorem TabOK.same {w w':World} (h:TabOK w) (hb:∀ g,Pg.globalNamed "internal/strconv.uint64pow10" = some g→w'.heap[g]?=w.heap[g]?):TabOK w':=by
 obtain ⟨g,hg⟩:=Option.isSome_iff_exists.1 gPow
 have:=hb g hg
 unfold TabOK Go.Lib.TabIs World.var? at h ⊢
 rw [hg] at h ⊢
 simp only [Option.bind_some] at h ⊢
 rw [this]
 exact h
theorem TabOK.ext {w w':World} (h:TabOK w) (e:Ext w w'):TabOK w':=h.same fun g hg=>e.block g (h.lt hg)
theorem grow_ext (w:World) (k:Nat) (os:Array Obj):Ext w (Sort.grow (w.drewN k) os):=⟨rfl,rfl,rfl,by show w.heap.size≤(w.heap++os).size;simp,fun i hi=>by show (w.heap++os)[i]?=_;rw [Array.getElem?_append_left hi]⟩
theorem Itoa_ret {w:World} (hT:TabOK w) (n:Int) (h0 : -9223372036854775808≤n) (h1:n≤9223372036854775807):Ret Pg 65 #[.int .i64 n] w fun r w'=>r = .string (decB n)∧Ext w w':=by
 refine Calls.mono (sh_strconv_Itoa n h0 h1 w hT) ?_
 rintro e w' ⟨rfl,k,os,rfl⟩
 exact ⟨_,rfl,rfl,grow_ext w k os⟩
theorem Join_ret {w:World} {base:Nat} {v:Value} {l:List ByteArray} (h:OwnS w base v l) (sep:ByteArray) (hl:0 < l.length) (hn:l.length≤100000) (hz:(joinW sep l).size≤1000000000):Ret Pg 32 #[v,.string sep] w fun r w'=>r = .string (joinW sep l)∧Ext w w':=by
 obtain ⟨g,cap,rfl,_,hg,_,_,hE⟩:=h.row (fun _=>rfl) hl
 obtain ⟨A,c,hv,hlc,_⟩:=SliceOf.open (h.slice (E:=EStr) (fun _=>rfl) (fun _ _=>rfl))
 injection hv with _ _ hv
 subst hv
 have hzz:(Go.Lib.join (l.map (·.data.toList)) sep.data.toList).length≤140737488355328:=by
  unfold joinW ByteArray.size at hz
  simp only [List.size_toArray] at hz
  omega
 refine Calls.mono (sh_strings_Join g 0 cap l sep w (fun j x hx=>?_) hg (by omega) hlc hzz) ?_
 · have:=hE j x hx 0 _ rfl
   rw [Nat.zero_add]
   simpa using this
 · rintro e w' ⟨rfl,hb⟩
   exact ⟨_,rfl,rfl,Ext.of_below hb⟩
section
variable {P:Program} {QP:List PanicEntry→World→Prop} {w:World} {k:Value→World→Prop}
theorem op_indexArr {t e:TypeId} {agg:Bool} {n m len:Nat} {z:Value} (hu:P.underlying t=some (.array len e)) (ht:TyInfo P e agg n m z) (b o:Nat) (ik:IntKind) (i:Nat) (h1:i < len) :
 opV P (Instr.indexAt t (.pointer (some ⟨b,o,none⟩)) (.int ik (i:Int))) QP w k=k (.pointer (some ⟨b,o+i*n,none⟩)) w:=opV_ok (by
 have h0:(0:Int)≤i:=by omega
 have h2:(i:Int) < len:=by omega
 simp [Instr.indexAt,asIntOf,run_underlying hu,Sw.run_sizeOf ht,Instr.sureAddr,h1,h0,h2,Addr.add_lit])
theorem op_buildArr {T e:TypeId} {agg:Bool} {n m n' m' len:Nat} {z cs:Array Value} {z':Value} {parts:Array (Nat×Value)} (hu:P.underlying T=some (.array len e)) (hz:TyInfo P T true n m (.agg z)) (he:TyInfo P e agg n' m' z') (hf:Instr.fill (fun i=>some (i*n',n')) z parts.toList=some cs):opV P (Instr.build T parts) QP w k=k (.agg cs) w:=by
 have hsz:=Sw.run_sizeOf (w:=w) he
 obtain ⟨⟨i,hi,_,_,hzz⟩,_⟩:=hz
 refine opV_ok ?_
 unfold Instr.build
 have hz0:(zeroValue T).run P w = .ok (.agg z) w:=by simp [zeroValue,typeInfo,hi,hzz]
 simp only [Sem.run_bind,hz0,Result.andThen_ok,run_underlying hu,hsz]
 have:(Value.agg z).cells=z:=rfl
 rw [this,hf]
 rfl
theorem op_sadd' (t:TypeId) (c:Bool) (a b:ByteArray) (h:a.size+b.size≤9223372036854775807):opV P (binS .add t c (.string a) (.string b)) QP w k=k (.string (a++b)) w:=opV_ok (by
 have h1:¬ (((a.size+b.size:Nat):Int) > IntKind.i64.max):=by
  have:IntKind.i64.max=9223372036854775807:=rfl
  omega
 simp [binS,binOp,Op.stringOp,h1]
 omega)
theorem qV_sadd {C:World→Prop} [ClassNe C] {k:Value→Prop} (t:TypeId) (c:Bool) (a b:ByteArray) (h:a.size+b.size≤9223372036854775807):qV P C (binS .add t c (.string a) (.string b)) k=k (.string (a++b)):=qV_of fun _ _ _=>op_sadd' t c a b h
end
abbrev opArr:Array Value := #[.string ⟨#[]⟩,.string ⟨#[99,97,108,108]⟩,.string ⟨#[115,116,111,112]⟩,.string ⟨#[101,110,116,101,114]⟩,.string ⟨#[114,101,97,100]⟩,.string ⟨#[111,110,101]⟩,.string ⟨#[109,97,110,121]⟩,.string ⟨#[115,101,108,101,99,116]⟩,.string ⟨#[99,97,115,101]⟩,.string ⟨#[118,105,101,119]⟩,.string ⟨#[114,101,116,117,114,110]⟩]
theorem opArr_get {c:Nat} (h:c≤10):opArr[c]?=some (.string (opN c)):=by
 have:∀ c:Nat,c≤10→opArr[c]?=some (.string (opN c)):=by
  intro c hc
  match c,hc with
  | 0,_=>rfl
  | 1,_=>rfl
  | 2,_=>rfl
  | 3,_=>rfl
  | 4,_=>rfl
  | 5,_=>rfl
  | 6,_=>rfl
  | 7,_=>rfl
  | 8,_=>rfl
  | 9,_=>rfl
  | 10,_=>rfl
 exact this c h
section
variable {w:World} {lo pb:Nat} {d:DefD}
theorem line_ret (h:ProgAt w lo pb d) (hT:TabOK w) (hN:Names100 d) (i:Int) (hi:0≤i∧i≤100000) (x:InsD) (hx:OkX d x):Ret Pg 31 #[.pointer (some ⟨pb,0,none⟩),.int .i64 i,insVal x] w fun r w'=>r = .string (lineB d i x)∧Ext w w':=by
 refine n48s (R:=retR _) ?_;unfold n48
 rw [op_boxA]
 have o5:=heap_new w (insCells x).toArray TI
 have e1:Ext w (w.alloc (.cells (insCells x).toArray TI)):=ee
 generalize (w.alloc (.cells (insCells x).toArray TI))=w1 at o5 e1 ⊢
 generalize hp5:w.heap.size=p5 at o5 ⊢
 rw [op_buildArr (cs:=opArr) Tryz.underlying124 ty124 ty9 rfl]
 simp (disch:=try exact DI) only [↓PR,QR,simprocAttr]
 have o7:=heap_new w1 opArr 124
 have e2:Ext w1 (w1.alloc (.cells opArr 124)):=ee
 generalize hp7:w1.heap.size=p7 at o7 ⊢
 generalize (w1.alloc (.cells opArr 124))=w2 at o7 e2 ⊢
 refine drawK_intro ?_
 have eD:Ext w2 (Sw.drew w2):=(Ext.refl w2).drew
 have q5:=(e2.trans eD).obj o5
 have q7:=eD.obj o7
 have E2:=e1.trans (e2.trans eD)
 generalize (Sw.drew w2)=w3 at q5 q7 E2 ⊢
 clear eD
 unfold n48c14
 obtain ⟨c,hc⟩:∃ c:Nat,x.code=c:=⟨x.code.toNat,by have:=hx.code;omega⟩
 have hc10:c≤10:=by have:=hx.code;omega
 have hidx:∀ K:Value→Prop,qV Pg (EC w3) (Instr.indexAt 124 (.pointer (some ⟨p7,0,none⟩)) (.int .i64 x.code)) K=K (.pointer (some ⟨p7,c,none⟩)):=fun K=>qV_eqC fun w' _=>run_of_op fun QP kk=>by
  rw [hc]
  exact (op_indexArr Tryz.underlying124 ty9 p7 0 .i64 c (by omega)).trans (by rw [Nat.zero_add,Nat.mul_one])
 have hcell:w3.cell? ⟨p7,c,none⟩=some (.string (opN x.code)):=by rw [(cells_of_heap q7).1,opArr_get hc10,hc]
 simp (disch:=try exact DI) only [↓PR,QR,simprocAttr,(cells_of_heap q5).1,hidx,hcell]
 obtain ⟨wz,w5l,w4l,w3l⟩:=words_size hN hi hx
 have w4n:0 < (words4 d i x).length:=by
  have a1:words1 i x≠[]:=by simp [words1]
  have a2:words2 d i x≠[]:=by
   unfold words2
   split
   · simp
   · exact a1
  have a3:words3 d i x≠[]:=by
   unfold words3
   split
   · simp
   · exact a2
  refine List.length_pos_iff.2 ?_
  unfold words4
  split
  · simp
  · exact a3
 have last:∀ v u,OwnS u w3.heap.size v (words4 d i x)→Ext w3 u→callK Pg 32 #[v,.string ⟨#[32]⟩] (panK (retR fun r w'=>r=Value.string (lineB d i x)∧Ext w w')) u fun t94 w_1=>retR (fun r w'=>r=Value.string (lineB d i x)∧Ext w w') (Ending.returned t94) w_1:=by
  intro v u hO e
  have hz:=line_size hN hi hx
  refine zcr (Join_ret hO ⟨#[32]⟩ w4n (by omega) (Nat.le_trans hz (by decide))) fun u2 e2=>?_
  exact ⟨_,rfl,rfl,E2.trans (e.trans e2)⟩
 have fin2:∀ v u,OwnS u w3.heap.size v (words3 d i x)→Ext w3 u→n48c2 (.pointer (some ⟨p5,0,none⟩)) v (retR fun r w'=>r=Value.string (lineB d i x)∧Ext w w') u:=by
  intro v u hO e
  have q:=cells_of_heap (e.obj q5)
  have hto:=hx.to
  have last:=last
  unfold words4 at last
  unfold n48c2
  by_cases h0:0≤x.to
  · have d0:decide (x.to≥0)=true:=decide_eq_true h0
    rw [if_pos h0] at last
    simp (disch:=try exact DI) only [↓PR,QR,simprocAttr,q.1,d0,↓n48c1]
    refine zcr (Itoa_ret (hT.ext (E2.trans e)) x.to (by omega) (by omega)) fun u2 e2=>?_
    simp (disch:=try exact DI) only [↓PR,QR,simprocAttr]
    generalize hY:World.alloc u2 _=Y
    have eY:Ext u2 Y:=by rw [← hY];exact ee
    have oY:Y.cell? ⟨u2.heap.size,0,none⟩=some (.string (decB x.to)):=by rw [← hY,(cells_of_heap (heap_new _ _ _)).1];rfl
    clear hY
    have E3:=e.trans (e2.trans eY)
    refine append_str (decB x.to) (hO.ext (e2.trans eY)) oY E3.size (by omega) ?_
    intro v' u' hO' hg
    exact last v' u' hO' (E3.grown hg fun b hb=>(World.ownsRow.lt hO b hb).1)
  · have d0:decide (x.to≥0)=false:=decide_eq_false h0
    rw [if_neg h0] at last
    simp (disch:=try exact DI) only [↓PR,QR,simprocAttr,q.1,d0]
    exact last v u hO e
 have fin5:∀ v u,OwnS u w3.heap.size v (words2 d i x)→Ext w3 u→n48c5 (.pointer (some ⟨p5,0,none⟩)) v (retR fun r w'=>r=Value.string (lineB d i x)∧Ext w w') u:=by
  intro v u hO e
  have q:=cells_of_heap (e.obj q5)
  have hreg:=hx.reg
  have fin2:=fin2
  unfold words3 at fin2
  unfold n48c5
  by_cases h0:0≤x.reg
  · have d0:decide (x.reg≥0)=true:=decide_eq_true h0
    rw [if_pos h0] at fin2
    simp (disch:=try exact DI) only [↓PR,QR,simprocAttr,q.1,d0,↓n48c4]
    refine zcr (Itoa_ret (hT.ext (E2.trans e)) x.reg (by omega) (by omega)) fun u2 e2=>?_
    unfold n48c3
    rw [op_sadd' _ _ _ _ (by have:=decB_size (n:=x.reg) (by omega) (by omega);have h3:(⟨#[114]⟩:ByteArray).size=1:=rfl;omega)]
    simp (disch:=try exact DI) only [↓PR,QR,simprocAttr]
    generalize hY:World.alloc u2 _=Y
    have eY:Ext u2 Y:=by rw [← hY];exact ee
    have oY:Y.cell? ⟨u2.heap.size,0,none⟩=some (.string (⟨#[114]⟩++decB x.reg)):=by rw [← hY,(cells_of_heap (heap_new _ _ _)).1];rfl
    clear hY
    have E3:=e.trans (e2.trans eY)
    refine append_str (⟨#[114]⟩++decB x.reg) (hO.ext (e2.trans eY)) oY E3.size (by omega) ?_
    intro v' u' hO' hg
    exact fin2 v' u' hO' (E3.grown hg fun b hb=>(World.ownsRow.lt hO b hb).1)
  · have d0:decide (x.reg≥0)=false:=decide_eq_false h0
    rw [if_neg h0] at fin2
    simp (disch:=try exact DI) only [↓PR,QR,simprocAttr,q.1,d0]
    exact fin2 v u hO e
 refine zcr (Itoa_ret (hT.ext E2) i (by omega) (by omega)) fun w4 e4=>?_
 refine ⟨e4,?_⟩
 simp (disch:=try exact DI) only [↓PR,QR,simprocAttr]
 generalize hY:World.alloc w4 _=Y
 have eY:Ext w4 Y:=by rw [← hY];exact ee
 have hO1:OwnS Y w3.heap.size (.slice (some ⟨w4.heap.size,0,none⟩) 2 2) (words1 i x):=by
  rw [← hY]
  exact (OwnE.new w4 9 1 strEnc (words1 i x) (fun _=>rfl) (by simp [words1])).base e4.size
 clear hY
 have E4:=e4.trans eY
 refine ⟨E4,?_⟩
 generalize hv1:(Value.slice (some ⟨w4.heap.size,0,none⟩) 2 2)=v1 at hO1 ⊢
 unfold n48c13
 have q:=cells_of_heap (E4.obj q5)
 rcases hx.msg with ⟨hm,h8⟩ | ⟨mi,m,hm,hmi,hrest⟩
 · have d0:decide (x.msg≥0)=false:=decide_eq_false (by omega)
   have h0:¬ 0≤x.msg:=by omega
   simp (disch:=try exact DI) only [↓PR,QR,simprocAttr,q.1,d0]
   exact fin5 v1 Y (by unfold words2;rw [if_neg h0];exact hO1) E4
 · have d0:decide (x.msg≥0)=true:=decide_eq_true (by omega)
   have h0:0≤x.msg:=by omega
   simp (disch:=try exact DI) only [↓PR,QR,simprocAttr,q.1,d0]
   have hw2:words2 d i x=words1 i x++[nameX d x]:=by unfold words2;rw [if_pos h0]
   have hns:=nameX_size hN hx
   obtain ⟨mc,cv,rm,gm,hpb,_,_,_,hMN,_⟩:=h.ext (E2.trans E4)
   obtain ⟨A,c',rfl,hlc,hcm,hlm,hel⟩:=SliceOf.open hMN.plain
   obtain ⟨b,o,cs,rfl,_,hA,fv,rfl,hF⟩:=hel mi m hmi
   have hmil:=(List.getElem?_eq_some_iff.1 hmi).1
   have hfv:=SliceOf.oneCell hF
   have fin8:∀ u,Ext Y u→opV Pg (Builtin.append_ #[80,80] 80 #[v1,.slice (some ⟨u.heap.size,0,none⟩) 1 1]) (panK (retR fun r w'=>r=Value.string (lineB d i x)∧Ext w w')) (u.alloc (.cells #[.string (nameX d x)] 9)) fun t73 w_2=>n48c5 (.pointer (some ⟨p5,0,none⟩)) t73 (retR fun r w'=>r=Value.string (lineB d i x)∧Ext w w') w_2:=by
    intro u e
    generalize hZ:World.alloc u _=Z
    have eZ:Ext u Z:=by rw [← hZ];exact ee
    have oZ:Z.cell? ⟨u.heap.size,0,none⟩=some (.string (nameX d x)):=by rw [← hZ,(cells_of_heap (heap_new _ _ _)).1];rfl
    clear hZ
    have E5:=E4.trans (e.trans eZ)
    have hOZ:=hO1.ext (e.trans eZ)
    refine append_str (nameX d x) hOZ oZ E5.size (by simp [words1]) ?_
    intro v' u' hO' hg
    exact fin5 v' u' (by rw [hw2];exact hO') (E5.grown hg fun b hb=>(World.ownsRow.lt hOZ b hb).1)
   refine drawK_intro ?_
   have eD:Ext Y (Sw.drew Y):=(Ext.refl Y).drew
   generalize (Sw.drew Y)=Y1 at eD ⊢
   have q5':=(E4.trans eD).obj q5
   unfold n48c12
   simp (disch:=try exact DI) only [↓PR,QR,simprocAttr,(cells_of_heap q5').1,(cells_of_heap (eD.obj hpb)).1,hm,hA.c2 eD]
   refine ⟨ee,?_⟩
   refine turnK_intro ?_
   have o9:=heap_new Y1 #[.string m.name,fv] 53
   have eZ:Ext Y1 (Y1.alloc (.cells #[.string m.name,fv] 53)):=ee
   generalize (Y1.alloc (.cells #[.string m.name,fv] 53))=Z at o9 eZ ⊢
   generalize hp9:Y1.heap.size=p9 at o9 ⊢
   have q5'':=eZ.obj q5'
   have eYZ:=eD.trans eZ
   have hFZ:=FieldsOf.ext hF eYZ
   have hNm:=hN m (List.mem_of_getElem? hmi)
   obtain ⟨AF,cF,rfl,_,_,_,helF⟩:=SliceOf.open hF
   have fin9:∀ s,(x.code≠8→s=nameX d x)→n48c9 (.pointer (some ⟨p5,0,none⟩)) (.pointer (some ⟨p9,0,none⟩)) (.string s) v1 (fun t8 w_4=>n48c5 (.pointer (some ⟨p5,0,none⟩)) t8 (retR fun r w'=>r=Value.string (lineB d i x)∧Ext w w') w_4) (retR fun r w'=>r=Value.string (lineB d i x)∧Ext w w') Z:=by
    intro s hs
    unfold n48c9
    by_cases h8:x.code=8
    · have d8:(x.code == 8)=true:=by simp [h8]
      rcases hrest with ⟨_,hn8⟩ | ⟨k,f,hk,hfk,hn8 | ⟨j,cc,hj,hcc,hl0,hlh,hh⟩⟩
      · exact absurd h8 hn8
      · exact absurd h8 hn8
      have hkl:=(List.getElem?_eq_some_iff.1 hfk).1
      have hjl:=(List.getElem?_eq_some_iff.1 hcc).1
      obtain ⟨bF,oF,csF,rfl,_,hAF,tv,cv',rfl,hTF,hCF⟩:=helF k f hfk
      obtain ⟨AC,cC,rfl,_,_,_,helC⟩:=SliceOf.open hCF
      obtain ⟨bC,oC,csC,rfl,_,hAC,rfl⟩:=helC j cc hcc
      simp (disch:=try exact DI) only [↓PR,QR,simprocAttr,(cells_of_heap q5'').1,d8]
      refine drawK_intro ?_
      have eD2:Ext Z (Sw.drew Z):=(Ext.refl Z).drew
      have r5:=eD2.obj q5''
      have r9:=eD2.obj o9
      have E9:=eYZ.trans eD2
      generalize (Sw.drew Z)=Z1 at r5 r9 E9 ⊢
      unfold n48c8
      simp (disch:=try exact DI) only [↓PR,QR,simprocAttr,(cells_of_heap r5).1,(cells_of_heap r9).1,hk,hj,hAF.c15 E9,hAC.c3 E9]
      refine ⟨ee,?_⟩
      refine turnK_intro ?_
      refine drawK_intro ?_
      have o11:=heap_new Z1 #[.int .i64 cc.low,.int .i64 cc.high,.string cc.of] 85
      have eC:Ext Z1 (Z1.alloc (.cells #[.int .i64 cc.low,.int .i64 cc.high,.string cc.of] 85)):=ee
      generalize (Z1.alloc (.cells #[.int .i64 cc.low,.int .i64 cc.high,.string cc.of] 85))=Z2 at o11 eC ⊢
      have eD3:Ext Z2 (Sw.drew Z2):=(Ext.refl Z2).drew
      have r11:=eD3.obj o11
      have E10:=E9.trans (eC.trans eD3)
      generalize (Sw.drew Z2)=Z3 at r11 E10 ⊢
      unfold n48c7
      simp (disch:=try exact DI) only [↓PR,QR,simprocAttr,(cells_of_heap r11).1]
      have sl:=decB_size (n:=cc.low) (by omega) (by omega)
      have sh:=decB_size (n:=cc.high) (by omega) (by omega)
      have s1:(⟨#[45]⟩:ByteArray).size=1:=rfl
      refine zcr (Itoa_ret (hT.ext (E2.trans (E4.trans E10))) cc.low (by omega) (by omega)) fun u3 e3=>?_
      refine ⟨e3,?_⟩
      unfold n48c6
      rw [qV_sadd _ _ _ _ (by omega)]
      refine callK_ret (Itoa_ret (hT.ext (E2.trans (E4.trans (E10.trans e3)))) cc.high (by omega) (by omega)) ?_
      rintro _ u4 ⟨rfl,e4'⟩
      refine ⟨e3.trans e4',?_⟩
      rw [qV_sadd _ _ _ _ (by rw [size_append];omega)]
      have hname:decB cc.low++⟨#[45]⟩++decB cc.high=nameX d x:=by
       unfold nameX
       rw [hm,hk,hj,Int.toNat_natCast,hmi]
       simp only
       rw [if_neg (by omega),Int.toNat_natCast,hfk]
       simp only
       rw [if_pos h8,Int.toNat_natCast,hcc]
       rfl
      rw [hname]
      simp (disch:=try exact DI) only [↓PR,QR,simprocAttr]
      exact fin8 u4 (E10.trans (e3.trans e4'))
    · have d8:(x.code == 8)=false:=by simpa using h8
      simp (disch:=try exact DI) only [↓PR,QR,simprocAttr,(cells_of_heap q5'').1,d8]
      rw [hs h8]
      exact fin8 Z eYZ
   unfold n48c11
   rcases hrest with ⟨hfd,hn8⟩ | ⟨k,f,hk,hfk,hn8⟩
   · have d1:decide (x.field≥0)=false:=decide_eq_false (by omega)
     simp (disch:=try exact DI) only [↓PR,QR,simprocAttr,(cells_of_heap q5'').1,(cells_of_heap o9).1,d1]
     refine fin9 m.name fun _=>?_
     unfold nameX
     rw [hm,Int.toNat_natCast,hmi]
     simp only
     rw [if_pos (by omega)]
   · have d1:decide ((k:Int)≥0)=true:=decide_eq_true (by omega)
     have d2:decide (0≤(k:Int))=true:=decide_eq_true (by omega)
     have hkl:=(List.getElem?_eq_some_iff.1 hfk).1
     obtain ⟨bF,oF,csF,rfl,_,hAF,tv,cv',rfl,hTF,hCF⟩:=helF k f hfk
     have hf1:=hNm.2 f (List.mem_of_getElem? hfk)
     simp (disch:=try exact DI) only [↓PR,QR,simprocAttr,(cells_of_heap q5'').1,(cells_of_heap o9).1,d1,d2,↓n48c10,hk,hAF.c15 eYZ]
     have s1:(⟨#[46]⟩:ByteArray).size=1:=rfl
     rw [op_sadd' _ _ _ _ (by omega),op_sadd' _ _ _ _ (by rw [size_append];omega)]
     refine fin9 _ fun hn=>?_
     unfold nameX
     rw [hm,hk,Int.toNat_natCast,hmi]
     simp only
     rw [if_neg (by omega),Int.toNat_natCast,hfk]
     simp only
     rw [if_neg hn]
end
def n26c1 (t4 t5:Value) (K7:KV) (R:RT) (w:World):Prop :=
 opV Pg (Instr.fieldAt 53 t4 1) (panK R) w fun t70 w =>
 opV Pg (Instr.loadAt 51 t70) (panK R) w fun t71 w =>
 opV Pg (Instr.indexAt 51 t71 t5) (panK R) w fun t73 w =>
 opV Pg (Instr.fieldAt 71 t73 7) (panK R) w fun t74 w =>
 opV Pg (Instr.fieldAt 68 t74 1) (panK R) w fun t75 w =>
 opV Pg (Instr.loadAt 66 t75) (panK R) w fun t76 w =>
 opV Pg (Builtin.len_ #[66] 3 #[t76]) (panK R) w fun t77 w =>
 opV Pg (binS .gtr 3 true t77 (.int .i64 6)) (panK R) w fun t78 w =>
 K7 t78 w
def n26c2 (t4 t5 t58 t67:Value) (next5:KV) (R:RT) (w:World):Prop :=
 pickK t58 (.bool true) t67 fun t68 =>
 joinK (fun (t78:Value) (w:World) =>
 pickK t68 (.bool true) t78 fun t79 =>
 condP t79 (
 R (.returned (.bool false)) w) (
 opV Pg (binS .add 3 true t5 (.int .i64 1)) (panK R) w fun t50 w =>
 next5 t50 w)) fun K7 =>
 guardP t68 false (
 n26c1 t4 t5 K7 R w) (
 K7 undef w)
def n26c3 (t4 t5:Value) (K6:KV) (R:RT) (w:World):Prop :=
 opV Pg (Instr.fieldAt 53 t4 1) (panK R) w fun t60 w =>
 opV Pg (Instr.loadAt 51 t60) (panK R) w fun t61 w =>
 opV Pg (Instr.indexAt 51 t61 t5) (panK R) w fun t63 w =>
 opV Pg (Instr.fieldAt 71 t63 11) (panK R) w fun t64 w =>
 opV Pg (Instr.loadAt 69 t64) (panK R) w fun t65 w =>
 opV Pg (Builtin.len_ #[69] 3 #[t65]) (panK R) w fun t66 w =>
 opV Pg (binS .gtr 3 true t66 (.int .i64 20)) (panK R) w fun t67 w =>
 K6 t67 w
def n26c4 (t4 t5:Value) (next5:KV) (R:RT) (w:World):Prop :=
 opV Pg (Instr.fieldAt 53 t4 1) (panK R) w fun t51 w =>
 opV Pg (Instr.loadAt 51 t51) (panK R) w fun t52 w =>
 opV Pg (Instr.indexAt 51 t52 t5) (panK R) w fun t54 w =>
 opV Pg (Instr.fieldAt 71 t54 0) (panK R) w fun t55 w =>
 opV Pg (Instr.loadAt 9 t55) (panK R) w fun t56 w =>
 opV Pg (Builtin.len_ #[9] 3 #[t56]) (panK R) w fun t57 w =>
 opV Pg (binS .gtr 3 true t57 (.int .i64 100)) (panK R) w fun t58 w =>
 joinK (fun (t67:Value) (w:World) =>
 n26c2 t4 t5 t58 t67 next5 R w) fun K6 =>
 guardP t58 false (
 n26c3 t4 t5 K6 R w) (
 K6 undef w)
def n26c5 (t3 t4 t5:Value) (next3:KV) (next5:KV) (R:RT) (w:World):Prop :=
 opV Pg (Instr.fieldAt 53 t4 1) (panK R) w fun t45 w =>
 opV Pg (Instr.loadAt 51 t45) (panK R) w fun t46 w =>
 opV Pg (Builtin.len_ #[51] 3 #[t46]) (panK R) w fun t47 w =>
 opV Pg (binS .lss 3 false t5 t47) (panK R) w fun t48 w =>
 condP t48 (
 n26c4 t4 t5 next5 R w) (
 opV Pg (binS .add 3 true t3 (.int .i64 1)) (panK R) w fun t28 w =>
 next3 t28 w)
def n26c6 (t1 t3:Value) (next3:KV) (R:RT) (w:World):Prop :=
 opV Pg (Instr.fieldAt 24 t1 1) (panK R) w fun t29 w =>
 opV Pg (Instr.loadAt 22 t29) (panK R) w fun t30 w =>
 opV Pg (Instr.indexAt 22 t30 t3) (panK R) w fun t32 w =>
 opV Pg (Instr.loadAt 53 t32) (panK R) w fun t33 w =>
 opV Pg (Instr.alloc 53 true (.tuple #[])) (panK R) w fun t4 w =>
 opU Pg (Instr.storeAt 53 t4 t33) (panK R) w fun w =>
 opV Pg (Instr.fieldAt 53 t4 1) (panK R) w fun t34 w =>
 opV Pg (Instr.loadAt 51 t34) (panK R) w fun t35 w =>
 opV Pg (Builtin.len_ #[51] 3 #[t35]) (panK R) w fun t36 w =>
 opV Pg (binS .gtr 3 true t36 (.int .i64 20)) (panK R) w fun t37 w =>
 joinK (fun (t42:Value) (w:World) =>
 pickK t37 (.bool true) t42 fun t43 =>
 condP t43 (
 R (.returned (.bool false)) w) (
 loop1 (fun t5 w next5 =>
 n26c5 t3 t4 t5 next3 next5 R w) (.int .i64 0) w)) fun K4 =>
 guardP t37 false (
 opV Pg (Instr.fieldAt 53 t4 0) (panK R) w fun t39 w =>
 opV Pg (Instr.loadAt 9 t39) (panK R) w fun t40 w =>
 opV Pg (Builtin.len_ #[9] 3 #[t40]) (panK R) w fun t41 w =>
 opV Pg (binS .gtr 3 true t41 (.int .i64 100)) (panK R) w fun t42 w =>
 K4 t42 w) (
 K4 undef w)
def n26c7 (t1 t3:Value) (next3:KV) (R:RT) (w:World):Prop :=
 opV Pg (Instr.fieldAt 24 t1 1) (panK R) w fun t23 w =>
 opV Pg (Instr.loadAt 22 t23) (panK R) w fun t24 w =>
 opV Pg (Builtin.len_ #[22] 3 #[t24]) (panK R) w fun t25 w =>
 opV Pg (binS .lss 3 false t3 t25) (panK R) w fun t26 w =>
 condP t26 (
 n26c6 t1 t3 next3 R w) (
 R (.returned (.bool true)) w)
def n26c8 (t1 t9 t14:Value) (R:RT) (w:World):Prop :=
 pickK t9 (.bool true) t14 fun t15 =>
 joinK (fun (t20:Value) (w:World) =>
 pickK t15 (.bool true) t20 fun t21 =>
 condP t21 (
 R (.returned (.bool false)) w) (
 loop1 (fun t3 w next3 =>
 n26c7 t1 t3 next3 R w) (.int .i64 0) w)) fun K2 =>
 guardP t15 false (
 opV Pg (Instr.fieldAt 24 t1 2) (panK R) w fun t17 w =>
 opV Pg (Instr.loadAt 9 t17) (panK R) w fun t18 w =>
 opV Pg (Builtin.len_ #[9] 3 #[t18]) (panK R) w fun t19 w =>
 opV Pg (binS .gtr 3 true t19 (.int .i64 100)) (panK R) w fun t20 w =>
 K2 t20 w) (
 K2 undef w)
def n26 (t0:Value) (R:RT) (w:World):Prop :=
 opV Pg (Instr.box 24 t0) (panK R) w fun t1 w =>
 opV Pg (Instr.fieldAt 24 t1 1) (panK R) w fun t6 w =>
 opV Pg (Instr.loadAt 22 t6) (panK R) w fun t7 w =>
 opV Pg (Builtin.len_ #[22] 3 #[t7]) (panK R) w fun t8 w =>
 opV Pg (binS .gtr 3 true t8 (.int .i64 12)) (panK R) w fun t9 w =>
 joinK (fun (t14:Value) (w:World) =>
 n26c8 t1 t9 t14 R w) fun K1 =>
 guardP t9 false (
 opV Pg (Instr.fieldAt 24 t1 0) (panK R) w fun t11 w =>
 opV Pg (Instr.loadAt 9 t11) (panK R) w fun t12 w =>
 opV Pg (Builtin.len_ #[9] 3 #[t12]) (panK R) w fun t13 w =>
 opV Pg (binS .gtr 3 true t13 (.int .i64 100)) (panK R) w fun t14 w =>
 K1 t14 w) (
 K1 undef w)
set_option maxHeartbeats 40000000 in
theorem n26s {t0:Value} {R:RT} {w:World} (h:n26 t0 R w):Calls Pg 8 #[t0] w R:=by
 refine yD Tryz.func8 ?_
 refine zs<|zr<|yv h fun _ w h=>zm<|zn<|zk<|zs<|zs<|sim_regionG<|yG 5<|yv h fun _ w h=>yv h fun _ w h=>yx h fun _ w h=>yb h fun _ w h=>zm ?_
 refine zn<|yg1 4 4 false [11,12,13,14] 14 h (fun _ T hT h=>?_) fun σ w h=>?_
 · refine yv h fun _ w h=>yv h fun _ w h=>yx h fun _ w h=>yb h fun _ w h=>zn ?_
   exact zt hT h
 refine yG 2<|yp h fun _ h=>zm<|zn<|yg1 4 10 false [17,18,19,20] 20 h (fun _ T hT h=>?_) fun σ w h=>?_
 · refine yv h fun _ w h=>yv h fun _ w h=>yx h fun _ w h=>yb h fun _ w h=>zn ?_
   exact zt hT h
 refine yG 1<|yp h fun _ h=>zn<|sim_end<|zk<|yC h (fun h=>zs<|zr<|zm<|zn<|zk<|sim_ret<|sim_then_ret<|body_ret1 rfl rfl h) fun h=>sim_skip<|zk<|zs<|zs<|zr<|zm<|zn<|zk ?_
 refine sim_block<|yl1 [2,3,4,5,22,23,24,25,26,27,28,29,30,31,32,33,34,35,36,37,38,39,40,41,42,43,44,45,46,47,48,49,50,51,52,53,54,55,56,57,58,59,60,61,62,63,64,65,66,67,68,69,70,71,72,73,74,75,76,77,78,79] 3 h fun σ w next h=>zs<|zs<|zr<|zm<|yv h fun _ w h=>yv h fun _ w h=>yx h fun _ w h=>yb h fun _ w h=>zn<|zk<|yC h (fun h=>?_) fun h=>?_
 · refine sim_skip<|zk<|zs<|sim_block<|zs<|zr<|yv h fun _ w h=>yv h fun _ w h=>zm<|yv h fun _ w h=>yv h fun _ w h=>yv h fun _ w h=>yu h fun w h=>zn<|zk ?_
   refine zs<|zs<|sim_regionG<|yG 5<|yv h fun _ w h=>yv h fun _ w h=>yx h fun _ w h=>yb h fun _ w h=>zm<|zn<|yg1 4 4 false [39,40,41,42] 42 h (fun _ T hT h=>?_) fun σ w h=>?_
   · refine yv h fun _ w h=>yv h fun _ w h=>yx h fun _ w h=>yb h fun _ w h=>zn ?_
     exact zt hT h
   refine yG 1<|yp h fun _ h=>zn<|sim_end<|zk<|yC h (fun h=>zs<|zr<|zm<|zn<|zk<|sim_ret<|sim_then_ret<|sim_block_ret<|sim_then_ret<|sim_then_ret<|sim_block_ret<|sim_then_ret<|body_ret1 rfl rfl h) fun h=>sim_skip<|zk<|zs<|zr<|zm<|zn<|zk<|sim_block ?_
   refine yl1 [2,5,44,45,46,47,48,49,50,51,52,53,54,55,56,57,58,59,60,61,62,63,64,65,66,67,68,69,70,71,72,73,74,75,76,77,78,79] 5 h fun σ w next h=>zs<|zs<|zr<|zm<|yv h fun _ w h=>yv h fun _ w h=>yx h fun _ w h=>yb h fun _ w h=>zn<|zk<|yC h (fun h=>?_) fun h=>?_
   · refine sim_skip<|zk<|zs<|sim_block<|zs<|sim_regionG<|yG 9<|yv h fun _ w h=>yv h fun _ w h=>zm<|yv h fun _ w h=>yv h fun _ w h=>yv h fun _ w h=>yx h fun _ w h=>yb h fun _ w h=>?_
     refine zm<|zn<|yg1 8 8 false [60,61,62,63,64,65,66,67] 67 h (fun _ T hT h=>?_) fun σ w h=>?_
     · refine yv h fun _ w h=>yv h fun _ w h=>zm<|yv h fun _ w h=>yv h fun _ w h=>yv h fun _ w h=>yx h fun _ w h=>yb h fun _ w h=>zn ?_
       exact zt hT h
     refine yG 2<|yp h fun _ h=>zm<|zn<|yg1 9 18 false [70,71,72,73,74,75,76,77,78] 78 h (fun _ T hT h=>?_) fun σ w h=>?_
     · refine yv h fun _ w h=>yv h fun _ w h=>zm<|yv h fun _ w h=>yv h fun _ w h=>yv h fun _ w h=>yv h fun _ w h=>yx h fun _ w h=>yb h fun _ w h=>zn ?_
       exact zt hT h
     refine yG 1<|yp h fun _ h=>zn<|sim_end<|zk<|yC h (fun h=>?_) fun h=>?_
     · refine zs<|zr<|zm<|zn<|zk<|sim_ret<|sim_block_ret<|sim_then_ret<|sim_then_ret<|sim_block_ret<|sim_block_ret<|sim_then_ret<|sim_then_ret<|sim_block_ret<|sim_then_ret ?_
       exact body_ret1 rfl rfl h
     exact sim_skip<|sim_block_normal<|zk<|zr<|zm<|yb h fun _ w h=>zm<|zn<|zk<|⟨rfl,h⟩
   exact sim_exit<|sim_then_exit<|sim_then_exit<|sim_block_hit<|sim_block_normal<|zk<|zr<|zm<|yb h fun _ w h=>zm<|zn<|zk<|⟨rfl,h⟩
 exact sim_exit<|sim_then_exit<|sim_then_exit<|sim_block_hit<|zk<|zs<|zr<|zm<|zn<|zk<|sim_ret<|body_ret1 rfl rfl h
def n21c1 (t76:Value) (K7:KV) (R:RT) (w:World):Prop :=
 opV Pg (binS .eql 9 true t76 (.string { data := #[48,32,99,97,108,108,32,53,10,49,32,115,116,111,112,10,50,32,101,110,116,101,114,32,97,10,51,32,114,101,97,100,32,97,46,120,10,52,32,114,101,116,117,114,110,32,97,10,53,32,101,110,116,101,114,32,115,10,54,32,114,101,97,100,32,115,46,110,32,114,48,10,55,32,114,101,97,100,32,115,46,116,32,114,49,10,56,32,109,97,110,121,32,115,46,108,32,50,10,57,32,115,101,108,101,99,116,32,115,46,99,10,49,48,32,99,97,115,101,32,50,45,50,32,50,10,49,49,32,114,101,116,117,114,110,32,115] })) (panK R) w fun t77 w =>
 K7 t77 w
def n21c2 (t14 t68 t72:Value) (R:RT) (w:World):Prop :=
 pickK t68 t72 (.bool false) fun t73 =>
 joinK (fun (t77:Value) (w:World) =>
 pickK t73 t77 (.bool false) fun t78 =>
 R (.returned t78) w) fun K7 =>
 guardP t73 true (
 callK Pg 11 #[t14] (panK R) w fun t76 w =>
 n21c1 t76 K7 R w) (
 K7 undef w)
def n21c3 (t14 t42 t57 t67:Value) (R:RT) (w:World):Prop :=
 pickK t57 t67 (.bool false) fun t68 =>
 joinK (fun (t72:Value) (w:World) =>
 n21c2 t14 t68 t72 R w) fun K6 =>
 guardP t68 true (
 callK Pg 15 #[t42] (panK R) w fun t71 w =>
 opV Pg (binS .eql 3 true t71 (.int .i64 9)) (panK R) w fun t72 w =>
 K6 t72 w) (
 K6 undef w)
def n21c4 (t37 t60 t62:Value) (K5:KV) (R:RT) (w:World):Prop :=
 opV Pg (binS .add 3 false t60 t62) (panK R) w fun t63 w =>
 callK Pg 15 #[t37] (panK R) w fun t65 w =>
 opV Pg (binS .add 3 false t63 t65) (panK R) w fun t66 w =>
 opV Pg (binS .eql 3 true t66 (.int .i64 0)) (panK R) w fun t67 w =>
 K5 t67 w
def n21c5 (t14 t27 t32 t37 t42 t53 t56:Value) (R:RT) (w:World):Prop :=
 pickK t53 t56 (.bool false) fun t57 =>
 joinK (fun (t67:Value) (w:World) =>
 n21c3 t14 t42 t57 t67 R w) fun K5 =>
 guardP t57 true (
 callK Pg 15 #[t27] (panK R) w fun t60 w =>
 callK Pg 15 #[t32] (panK R) w fun t62 w =>
 n21c4 t37 t60 t62 K5 R w) (
 K5 undef w)
def n21c6 (t14 t27 t32 t36 t37 t42 t49 t52:Value) (R:RT) (w:World):Prop :=
 pickK t49 t52 (.bool false) fun t53 =>
 joinK (fun (t56:Value) (w:World) =>
 n21c5 t14 t27 t32 t37 t42 t53 t56 R w) fun K4 =>
 guardP t53 true (
 opV Pg (binS .eql 3 true t36 (.int .i64 0)) (panK R) w fun t56 w =>
 K4 t56 w) (
 K4 undef w)
def n21c7 (t14 t27 t31 t32 t36 t37 t42 t45 t48:Value) (R:RT) (w:World):Prop :=
 pickK t45 t48 (.bool false) fun t49 =>
 joinK (fun (t52:Value) (w:World) =>
 n21c6 t14 t27 t32 t36 t37 t42 t49 t52 R w) fun K3 =>
 guardP t49 true (
 opV Pg (binS .eql 3 true t31 (.int .i64 2)) (panK R) w fun t52 w =>
 K3 t52 w) (
 K3 undef w)
def n21c8 (t14 t26 t27 t31 t32 t36 t37 t42 t44:Value) (R:RT) (w:World):Prop :=
 opV Pg (binS .eql 3 true t44 (.int .i64 12)) (panK R) w fun t45 w =>
 joinK (fun (t48:Value) (w:World) =>
 n21c7 t14 t27 t31 t32 t36 t37 t42 t45 t48 R w) fun K2 =>
 guardP t45 true (
 opV Pg (binS .eql 3 true t26 (.int .i64 5)) (panK R) w fun t48 w =>
 K2 t48 w) (
 K2 undef w)
def n21c9 (t14 t26 t27 t31 t32 t36 t37 t40:Value) (R:RT) (w:World):Prop :=
 opV Pg (Instr.extract t40 0) (panK R) w fun t41 w =>
 opV Pg (Instr.extract t40 1) (panK R) w fun t42 w =>
 callK Pg 17 #[t14] (panK R) w fun t44 w =>
 n21c8 t14 t26 t27 t31 t32 t36 t37 t42 t44 R w
def n21c10 (t14 t26 t27 t31 t32 t35:Value) (R:RT) (w:World):Prop :=
 opV Pg (Instr.extract t35 0) (panK R) w fun t36 w =>
 opV Pg (Instr.extract t35 1) (panK R) w fun t37 w =>
 callK Pg 22 #[t14,(.string { data := #[98] })] (panK R) w fun t40 w =>
 n21c9 t14 t26 t27 t31 t32 t36 t37 t40 R w
def n21c11 (t14 t26 t27 t30:Value) (R:RT) (w:World):Prop :=
 opV Pg (Instr.extract t30 0) (panK R) w fun t31 w =>
 opV Pg (Instr.extract t30 1) (panK R) w fun t32 w =>
 callK Pg 21 #[t14,(.string { data := #[97] })] (panK R) w fun t35 w =>
 n21c10 t14 t26 t27 t31 t32 t35 R w
def n21c12 (t14 t25:Value) (R:RT) (w:World):Prop :=
 opV Pg (Instr.extract t25 0) (panK R) w fun t26 w =>
 opV Pg (Instr.extract t25 1) (panK R) w fun t27 w =>
 callK Pg 21 #[t14,(.string { data := #[115] })] (panK R) w fun t30 w =>
 n21c11 t14 t26 t27 t30 R w
def n21c13 (t14 t18 t21:Value) (R:RT) (w:World):Prop :=
 pickK t18 (.bool true) t21 fun t22 =>
 condP t22 (
 R (.returned (.bool false)) w) (
 callK Pg 22 #[t14,(.string { data := #[115] })] (panK R) w fun t25 w =>
 n21c12 t14 t25 R w)
def n21c14 (t14 t17:Value) (R:RT) (w:World):Prop :=
 opV Pg (binS .neq 3 true t17 (.int .i64 0)) (panK R) w fun t18 w =>
 joinK (fun (t21:Value) (w:World) =>
 n21c13 t14 t18 t21 R w) fun K1 =>
 guardP t18 false (
 opV Pg (binS .eql 27 true t14 (Value.pointer none)) (panK R) w fun t21 w =>
 K1 t21 w) (
 K1 undef w)
def n21c15 (t13:Value) (R:RT) (w:World):Prop :=
 opV Pg (Instr.extract t13 0) (panK R) w fun t14 w =>
 opV Pg (Instr.extract t13 1) (panK R) w fun t15 w =>
 callK Pg 15 #[t15] (panK R) w fun t17 w =>
 n21c14 t14 t17 R w
def n21 (R:RT) (w:World):Prop :=
 callK Pg 30 #[] (panK R) w fun t12 w =>
 callK Pg 20 #[t12] (panK R) w fun t13 w =>
 n21c15 t13 R w
theorem n21s {R:RT} {w:World} (h:n21 R w):Calls Pg 9 #[] w R:=by
 refine yD Tryz.func9 ?_
 refine zs<|zr<|zm<|zn<|zk<|zs<|zr<|yc h c30 fun _ w h=>yc h c20 fun _ w h=>zm<|yv h fun _ w h=>yv h fun _ w h=>zm<|zm<|zn ?_
 refine zk<|zs<|zs<|sim_regionG<|yG 4<|zm<|yc h c15 fun _ w h=>yb h fun _ w h=>zm<|zn<|yg1 2 3 false [20,21] 21 h (fun _ T hT h=>?_) fun σ w h=>?_
 · refine zm<|yb h fun _ w h=>zn ?_
   exact zt hT h
 refine yG 1<|yp h fun _ h=>zn<|sim_end<|zk<|yC h (fun h=>zs<|zr<|zm<|zn<|zk<|sim_ret<|sim_then_ret<|body_ret1 rfl rfl h) fun h=>sim_skip<|zk<|zs<|zr<|zm<|yc h c22 fun _ w h=>zm<|yv h fun _ w h=>?_
 refine yv h fun _ w h=>zm<|zm<|zn<|zk<|zs<|zr<|zm<|yc h c21 fun _ w h=>zm<|yv h fun _ w h=>yv h fun _ w h=>zm<|zm<|zn ?_
 refine zk<|zs<|zr<|zm<|yc h c21 fun _ w h=>zm<|yv h fun _ w h=>yv h fun _ w h=>zm<|zm<|zn<|zk<|zs<|zr<|zm ?_
 refine yc h c22 fun _ w h=>zm<|yv h fun _ w h=>yv h fun _ w h=>zm<|zm<|zn<|zk<|zs<|sim_regionG<|yG 4<|zm<|yc h c17 fun _ w h=>yb h fun _ w h=>zm ?_
 refine zn<|yg1 2 3 true [47,48] 48 h (fun _ T hT h=>?_) fun σ w h=>?_
 · refine zm<|yb h fun _ w h=>zn ?_
   exact zt hT h
 refine yG 2<|yp h fun _ h=>zm<|zn<|yg1 2 7 true [51,52] 52 h (fun _ T hT h=>?_) fun σ w h=>?_
 · refine zm<|yb h fun _ w h=>zn ?_
   exact zt hT h
 refine yG 2<|yp h fun _ h=>zm<|zn<|yg1 2 11 true [55,56] 56 h (fun _ T hT h=>?_) fun σ w h=>?_
 · refine zm<|yb h fun _ w h=>zn ?_
   exact zt hT h
 refine yG 2<|yp h fun _ h=>zm<|zn<|yg1 9 15 true [59,60,61,62,63,64,65,66,67] 67 h (fun _ T hT h=>?_) fun σ w h=>?_
 · refine zm<|yc h c15 fun _ w h=>zm<|yc h c15 fun _ w h=>yb h fun _ w h=>zm<|yc h c15 fun _ w h=>yb h fun _ w h=>yb h fun _ w h=>zn ?_
   exact zt hT h
 refine yG 2<|yp h fun _ h=>zm<|zn<|yg1 3 26 true [70,71,72] 72 h (fun _ T hT h=>?_) fun σ w h=>?_
 · refine zm<|yc h c15 fun _ w h=>yb h fun _ w h=>zn ?_
   exact zt hT h
 refine yG 2<|yp h fun _ h=>zm<|zn<|yg1 3 31 true [75,76,77] 77 h (fun _ T hT h=>?_) fun σ w h=>?_
 · refine zm<|yc h c11 fun _ w h=>yb h fun _ w h=>zn ?_
   exact zt hT h
 exact yG 2<|yp h fun _ h=>zm<|zn<|sim_end<|zk<|sim_ret<|body_ret1 rfl rfl h
def n22c1 (t9 t10:Value) (R:RT) (w:World):Prop :=
 opV Pg (binS .eql 27 true t9 (Value.pointer none)) (panK R) w fun t15 w =>
 joinK (fun (t19:Value) (w:World) =>
 pickK t15 t19 (.bool false) fun t20 =>
 R (.returned (.tuple #[(Value.pointer none),t20])) w) fun K1 =>
 guardP t15 true (
 callK Pg 15 #[t10] (panK R) w fun t18 w =>
 opV Pg (binS .eql 3 true t18 (.int .i64 2)) (panK R) w fun t19 w =>
 K1 t19 w) (
 K1 undef w)
def n22c2 (t9 t10:Value) (R:RT) (w:World):Prop :=
 opV Pg (binS .neq 27 true t9 (Value.pointer none)) (panK R) w fun t23 w =>
 joinK (fun (t27:Value) (w:World) =>
 pickK t23 t27 (.bool false) fun t28 =>
 R (.returned (.tuple #[t9,t28])) w) fun K2 =>
 guardP t23 true (
 callK Pg 15 #[t10] (panK R) w fun t26 w =>
 opV Pg (binS .eql 3 true t26 (.int .i64 0)) (panK R) w fun t27 w =>
 K2 t27 w) (
 K2 undef w)
def n22c3 (t1 t8:Value) (R:RT) (w:World):Prop :=
 opV Pg (Instr.extract t8 0) (panK R) w fun t9 w =>
 opV Pg (Instr.extract t8 1) (panK R) w fun t10 w =>
 opV Pg (Instr.loadAt 24 t1) (panK R) w fun t11 w =>
 callK Pg 19 #[t11] (panK R) w fun t12 w =>
 opV Pg (Op.unary .not t12) (panK R) w fun t13 w =>
 condP t13 (
 n22c1 t9 t10 R w) (
 n22c2 t9 t10 R w)
def n22 (t0:Value) (R:RT) (w:World):Prop :=
 opV Pg (Instr.box 24 t0) (panK R) w fun t1 w =>
 opV Pg (Instr.loadAt 24 t1) (panK R) w fun t7 w =>
 callK Pg 20 #[t7] (panK R) w fun t8 w =>
 n22c3 t1 t8 R w
theorem n22s {t0:Value} {R:RT} {w:World} (h:n22 t0 R w):Calls Pg 10 #[t0] w R:=by
 refine yD Tryz.func10 ?_
 refine zs<|zr<|yv h fun _ w h=>zm<|zm<|zn<|zk<|zs<|zr<|yv h fun _ w h=>yc h c20 fun _ w h=>zm<|yv h fun _ w h=>yv h fun _ w h=>zm ?_
 refine zm<|zn<|zk<|zs<|zs<|zr<|yv h fun _ w h=>yc h c19 fun _ w h=>yv h fun _ w h=>zn<|zk<|yC h (fun h=>?_) fun h=>?_
 · refine zs<|sim_regionG<|yG 3<|zm<|yb h fun _ w h=>zm<|zn<|yg1 3 2 true [17,18,19] 19 h (fun _ T hT h=>?_) fun σ w h=>?_
   · refine zm<|yc h c15 fun _ w h=>yb h fun _ w h=>zn ?_
     exact zt hT h
   exact yG 3<|yp h fun _ h=>zm<|zm<|zn<|sim_end<|zk<|sim_ret<|sim_then_ret<|body_ret2 rfl rfl rfl h
 refine sim_skip<|zk<|zs<|sim_regionG<|yG 4<|zm<|zm<|yb h fun _ w h=>zm<|zn<|yg1 3 3 true [25,26,27] 27 h (fun _ T hT h=>?_) fun σ w h=>?_
 · refine zm<|yc h c15 fun _ w h=>yb h fun _ w h=>zn ?_
   exact zt hT h
 exact yG 3<|yp h fun _ h=>zm<|zm<|zn<|sim_end<|zk<|sim_ret<|body_ret2 rfl rfl rfl h
def n46c1 (t3 t10 t14:Value) (C2:World→Prop) (Kr1:World→Prop) (Qr1:List PanicEntry→World→Prop) (R:RT) (w:World):Prop :=
 opV Pg (Instr.buildSlice 80 1 #[(0,t14)]) Qr1 w fun t15 w =>
 C2 w∧(
 opV Pg (Builtin.append_ #[80,80] 80 #[t10,t15]) Qr1 w fun t16 w =>
 C2 w∧(
 opU Pg (Instr.storeAt 80 t3 t16) Qr1 w fun w =>
 turnK w fun C3 w =>
 Kr1 w))
def n46c2 (t1 t3 t5 t8:Value) (C2:World→Prop) (Kr1:World→Prop) (Qr1:List PanicEntry→World→Prop) (R:RT) (w:World):Prop :=
 qV Pg C2 (Instr.loadAt 80 t3) fun t10 =>
 qV Pg C2 (Instr.loadAt 27 t1) fun t11 =>
 qV Pg C2 (Instr.loadAt 36 t5) fun t13 =>
 callK Pg 31 #[t11,t8,t13] Qr1 w fun t14 w =>
 C2 w∧(
 n46c1 t3 t10 t14 C2 Kr1 Qr1 R w)
def n46c3 (t1 t3 t8 t9:Value) (Kr1:World→Prop) (Qr1:List PanicEntry→World→Prop) (l1:Nat) (R:RT) (w:World):Prop :=
 opV Pg (Instr.alloc 36 true (.tuple #[])) (fun _ _=>False) w fun t5 w =>
 opU Pg (Instr.storeAt 36 t5 t9) (fun _ _=>False) w fun w =>
 busyK l1 w fun w =>
 drawK w fun C2 w =>
 n46c2 t1 t3 t5 t8 C2 Kr1 Qr1 R w
def n46c4 (t3:Value) (ds:List Deferred) (R:RT) (w:World):Prop :=
 opV Pg (Instr.loadAt 80 t3) (outQ Pg ds [(none,(.string { data := #[] }))] R) w fun t17 w =>
 callK Pg 32 #[t17,(.string { data := #[10] })] (outQ Pg ds [(none,(.string { data := #[] }))] R) w fun t18 w =>
 outX Pg ds [(none,t18)] R w
def n46c5 (t1 t3 t7:Value) (ds:List Deferred) (R:RT) (w:World):Prop :=
 rangeN5 Pg t7 ds (fun l1 t8 t9 w Kr1 Xr1 Qr1 =>
 n46c3 t1 t3 t8 t9 Kr1 Qr1 l1 R w) (fun ch ds w=>outQ Pg ds [(none,(.string { data := #[] }))] R ch w) w (fun ds w =>
 n46c4 t3 ds R w) []
def n46 (t0:Value) (R:RT) (w:World):Prop :=
 (fun (ds:List Deferred) =>
 opV Pg (Instr.box 27 t0) (outQ Pg ds [(none,undef)] R) w fun t1 w =>
 opV Pg (Instr.alloc 80 true (.tuple #[])) (outQ Pg ds [(none,(.string { data := #[] }))] R) w fun t3 w =>
 opV Pg (Instr.loadAt 27 t1) (outQ Pg ds [(none,(.string { data := #[] }))] R) w fun t6 w =>
 callK Pg 16 #[t6] (outQ Pg ds [(none,(.string { data := #[] }))] R) w fun t7 w =>
 n46c5 t1 t3 t7 ds R w) []
theorem n46s {t0:Value} {R:RT} {w:World} (h:n46 t0 R w):Calls Pg 11 #[t0] w R:=by
 refine yE Tryz.func11 ?_
 unfold n46 at h
 dsimp only at h
 refine zs<|zr<|yv h fun _ w h=>zm<|zn<|zk<|zs<|zr<|yv h fun _ w h=>zn<|zk<|zs<|zs<|zr<|yv h fun _ w h=>?_
 refine yc h c16 fun _ w h=>zn<|zk<|sim_block<|sim_range5 [] h rfl (fun l1 t8 t9 w Kr1 Xr1 Qr1 h=>?_) (fun ds w h=>?_) (fun c ds w h=>?_) (fun ch ds w h=>outQ_of rfl h)
 · refine zs<|zr<|zm<|zn<|zk<|zr<|yv h fun _ w h=>yu h fun w h=>zn<|zk ?_
   obtain ⟨hr,h⟩:=h
   refine ⟨rfl,hr,fun w hb=>?_⟩
   have h:=h w hb
   refine sim_block<|yh [10,11,12,13,14,15,16] h fun C hC h=>ye 0 hC h fun _ h=>?_
   refine ye 1 hC h fun _ h=>?_
   refine yw 2 hC ?_
   refine ye 3 hC h fun _ h=>?_
   refine yo 4 ?_
   refine yc h c31 fun _ w h=>zn ?_
   obtain ⟨hC,h⟩:=h
   refine ⟨hC,?_⟩
   refine yo 5 ?_
   refine yS h fun _ w h=>zn ?_
   obtain ⟨hC,h⟩:=h
   refine ⟨hC,?_⟩
   refine yo 6 ?_
   refine yx h fun _ w h=>zn ?_
   obtain ⟨hC,h⟩:=h
   refine ⟨hC,?_⟩
   refine yq 7 1 ?_
   refine yu h fun w h=>zn ?_
   obtain ⟨C3,hC,h⟩:=h
   refine ⟨C3,hC,?_⟩
   exact yz<|sim_block_normal<|⟨rfl,h⟩
 · exact sim_block_normal<|zk<|zs<|zr<|yv h fun _ w h=>yc h c32 fun _ w h=>zm<|zn<|zk<|sim_ret<|bodyM_ret rfl h
 exact h.elim
theorem lasts2_sv {B lo hi:Nat} {W:World} (hB:W.heap.size≤B):Lasts2 B (Save lo hi W):=fun w w' hl e=>⟨hl.os.trans e.os,hl.tape.trans e.tape,hl.output.trans e.output,Nat.le_trans e.size hl.size,fun k hk hb=>by
 have:=e.size
 rcases hl.block k (by omega) with h | ⟨h,_⟩
 · rw [h];exact e.block k hk hb
 · omega⟩
theorem lasts2_own {α:Type} {B base n:Nat} {T:TypeId} {enc:α→List Value} {v:Value} {l:List α}:Lasts2 B (fun w=>OwnE w base T n enc v l):=fun w w' hl h=>by
 refine ⟨h.1,?_⟩
 rcases h.2 with h1 | ⟨g,cap,cur,h1,h2,h3,h4⟩
 · exact .inl h1
 · exact .inr ⟨g,cap,cur,h1,h2,Lasts2.has B (by simp) (by simp) w w' hl h3,h4⟩
theorem Save.grown {lo hi:Nat} {w w1 w2:World} {row:Option Nat} (h:Save lo hi w w1) (hg:w1.grownBy w2 row) (hr:∀ g,row=some g→w.heap.size≤g):Save lo hi w w2:=⟨hg.os.trans h.os,hg.tape.trans h.tape,hg.output.trans h.output,Nat.le_trans h.size hg.size,fun k hk hb=>(hg.block k (by have:=h.size;omega) (fun e=>by have:=hr k e.symm;omega)).trans (h.block k hk hb)⟩
theorem own_row {α:Type} {w:World} {base n:Nat} {T:TypeId} {enc:α→List Value} {v:Value} {l:List α} (h:OwnE w base T n enc v l) {g:Nat} (hg:v.ownBlock=some g):∃ cur,w.heap[g]?=some (.cells cur T (0,0)):=by
 rcases h.2 with ⟨rfl,_⟩ | ⟨g',cap,cur,rfl,_,h3,_⟩
 · cases hg
 · have:g'=g:=by injection hg
   subst this
   exact ⟨cur,h3⟩
theorem row_apart {α:Type} {w w':World} {base n:Nat} {T:TypeId} {enc:α→List Value} {v:Value} {l:List α} (h:OwnE w base T n enc v l) (hg:w.grownBy w' v.ownBlock) {b:Nat} {cs:Array Value} {T':TypeId} (hb:w.heap[b]?=some (.cells cs T' (0,0))) (hT:T'≠T):w'.heap[b]?=some (.cells cs T' (0,0)):=(hg.block b (Array.getElem?_eq_some_iff.1 hb).1 (fun e=>by
 obtain ⟨cur,hc⟩:=own_row h e.symm
 rw [hb] at hc
 injection hc with hc
 injection hc with _ hc
 exact hT hc)).trans hb
section
variable {w:World} {lo pb:Nat} {d:DefD}
theorem Text_ret (h:ProgAt w lo pb d) (hT:TabOK w) (hN:Names100 d) (hc:(checkP d).2.2=0) (hz:sizeP d≤100000):Ret Pg 11 #[.pointer (some ⟨pb,0,none⟩)] w fun r w'=>r = .string (textN d (codeP d) (sizeP d))∧Ext w w':=by
 have hlen:=codeP_len d
 have hok:=code_ok hc hz
 refine n46s (R:=retR _) ?_;unfold n46
 dsimp only
 simp (disch:=try exact DI) only [↓PR,QR,simprocAttr]
 generalize hV:World.alloc (World.alloc w _) _=W
 have eW:Ext w W:=by rw [← hV];exact ee
 have o1:W.heap[w.heap.size]?=some (.cells #[.pointer (some ⟨pb,0,none⟩)] 27 (0,0)):=by rw [← hV];simp (disch:=try exact DI) only [↓PR,QR,simprocAttr]
 have o3:W.heap[w.heap.size+1]?=some (.cells #[.slice none 0 0] 80 (0,0)):=by rw [← hV];simp (disch:=try exact DI) only [↓PR,QR,simprocAttr]
 clear hV
 simp only [World.size_alloc]
 have sW:=(Array.getElem?_eq_some_iff.1 o3).1
 generalize hp1:w.heap.size=p1 at *
 generalize hp3:p1+1=p3 at *
 refine callK_ret (Each_ret (h.ext eW) hz) ?_
 rintro _ w2 ⟨⟨e,v0,rfl,he,hI0⟩,e2⟩
 have E2:=eW.trans e2
 have x1:=e2.obj o1
 have x3:=e2.obj o3
 have s2:=e2.size
 unfold n46c5
 let I:Nat→World→Prop:=fun k w'=>k≤sizeP d∧Save p3 (p3+1) w2 w'∧∃ v,w'.heap[p3]?=some (.cells #[v] 80 (0,0))∧OwnS w' w2.heap.size v (linesN d (codeP d) k)
 have hLI:∀ k,Lasts2 w2.heap.size (I k):=fun k=>(Lasts2.const _ _).and ((lasts2_sv (Nat.le_refl _)).and (.ex fun v=>(Lasts2.low (by omega) _).and lasts2_own))
 have hat:∀ w',Save p3 (p3+1) w2 w'→InsAt e v0 (codeP d) w':=fun w' hs=>ins_at (B:=W.heap.size) ⟨hs.obj hI0.1 (.inr (by omega)),hI0.2.1,by
  rcases hI0.2.2 with h1 | ⟨g,cap,cur,h1,h2,h3,h4⟩
  · exact .inl h1
  · exact .inr ⟨g,cap,cur,h1,h2,hs.obj h3 (.inr (by omega)),h4⟩⟩
 refine ⟨_,_,(codeP d).length,(fun k => .int .i64 k),(fun k=>insVal (((codeP d)[k]?).getD zeroI)),InsAt e v0 (codeP d),I,fun _ _=>False,fun _ _=>False,rfl,c38,Each_seq e v0 _ (by omega),⟨Nat.zero_le _,Save.refl _ _ _,_,x3,OwnE.nil _ _ _ _ _⟩,fun k w' h=>hat w' h.2.1,hLI,fun _=>Lasts2.const _ _,fun _=>Lasts2.const _ _,?_,?_,?_,?_⟩
 · intro Rk hRk j w3 hj hI3 hR3 hlt hready
   obtain ⟨x,hx⟩:=getElem?_lt hj
   have hgx:insVal (((codeP d)[j]?).getD zeroI)=insVal x:=by rw [hx];rfl
   dsimp only
   rw [hgx]
   unfold n46c3
   have eA:Ext w3 (w3.alloc (.cells (insCells x).toArray TI)):=ee
   have oA:=heap_new w3 (insCells x).toArray TI
   have hR4:=hRk _ _ (KR5.of eA) hR3
   have hI4:=(hLI j).ext hI3 eA
   have hrd:ReadyAt (w2.heap.size+1) (w3.alloc (.cells (insCells x).toArray TI)):=by obtain ⟨r,h1,h2⟩:=hready;exact ⟨r,eA.obj h1,h2⟩
   simp (disch:=try exact DI) only [↓PR,QR,simprocAttr]
   generalize (w3.alloc (.cells (insCells x).toArray TI))=w4 at oA hR4 hI4 hrd ⊢
   have hq2:w2.heap.size≤w3.heap.size:=hI3.2.1.size
   generalize w3.heap.size=q at oA hq2 ⊢
   refine ⟨hrd,fun w5 hbz=>?_⟩
   have hR5:=hRk _ _ (KR5.busied hbz) hR4
   have hI5:=(hLI j).busied hbz (Nat.le_succ _) hI4
   have o5:w5.heap[q]?=some (.cells (insCells x).toArray TI (0,0)):=by
    obtain ⟨r,hr,rfl⟩:=hbz
    rw [World.putObj_heap_other (by rintro rfl;rw [oA] at hr;cases hr)]
    exact oA
   have eD:Ext w5 (Sw.drew w5):=(Ext.refl w5).drew
   have hR6:=hRk _ _ (KR5.of eD) hR5
   obtain ⟨_,hs6,v,y3,hO6⟩:=(hLI j).ext hI5 eD
   have y5:=eD.obj o5
   have y1:=hs6.obj x1 (.inl (by omega))
   refine looksK (C:=fun u=>u.heap[p3]?=some (.cells #[v] 80 (0,0))∧u.heap[p1]?=some (.cells #[.pointer (some ⟨pb,0,none⟩)] 27 (0,0))∧u.heap[q]?=some (.cells (insCells x).toArray TI (0,0))) ⟨y3,y1,y5⟩ fun hne=>?_
   generalize hCC:(fun u:World=>u.heap[p3]?=some (.cells #[v] 80 (0,0))∧u.heap[p1]?=some (.cells #[.pointer (some ⟨pb,0,none⟩)] 27 (0,0))∧u.heap[q]?=some (.cells (insCells x).toArray TI (0,0)))=CC at hne ⊢
   have hCC1:∀ u,CC u↔(u.heap[p3]?=some (.cells #[v] 80 (0,0))∧u.heap[p1]?=some (.cells #[.pointer (some ⟨pb,0,none⟩)] 27 (0,0))∧u.heap[q]?=some (.cells (insCells x).toArray TI (0,0))):=fun u=>by rw [← hCC]
   clear hCC
   have r3:∀ K:Value→Prop,qV Pg CC (Instr.loadAt 80 (.pointer (some ⟨p3,0,none⟩))) K=K v:=fun K=>qV_loadG fun u hu=>Loads.one ty80 (by rw [(cells_of_heap ((hCC1 u).1 hu).1).1];rfl)
   have r1:∀ K:Value→Prop,qV Pg CC (Instr.loadAt 27 (.pointer (some ⟨p1,0,none⟩))) K=K (.pointer (some ⟨pb,0,none⟩)):=fun K=>qV_loadG fun u hu=>Loads.one ty27 (by rw [(cells_of_heap ((hCC1 u).1 hu).2.1).1];rfl)
   have r5:∀ K:Value→Prop,qV Pg CC (Instr.loadAt TI (.pointer (some ⟨q,0,none⟩))) K=K (insVal x):=fun K=>qV_loadG fun u hu=>ElemAt.loads (b:=q) (o:=0) (cs:=insCells x) (fun j u' hu'=>by rw [Nat.zero_add,(cells_of_heap ((hCC1 u).1 hu).2.2).1];simpa using hu') ty36 rfl
   generalize (Sw.drew w5)=w6 at hR6 hs6 y3 hO6 y5 y1 ⊢
   have E6:Ext w w6:=hs6.to_ext E2 (by omega)
   unfold n46c2
   rw [r3,r1,r5]
   refine zcr (line_ret (h.ext E6) (hT.ext E6) hN j ⟨by omega,by omega⟩ x (hok x (List.mem_of_getElem? hx))) fun w7 e7=>?_
   refine ⟨(hCC1 w7).2 ⟨e7.obj y3,e7.obj y1,e7.obj y5⟩,?_⟩
   unfold n46c1
   simp (disch:=try exact DI) only [↓PR,QR,simprocAttr]
   generalize hY:World.alloc w7 _=w8
   have e8:Ext w7 w8:=by rw [← hY];exact ee
   have oY:w8.cell? ⟨w7.heap.size,0,none⟩=some (.string (lineB d j x)):=by rw [← hY,(cells_of_heap (heap_new _ _ _)).1];rfl
   clear hY
   have e68:=e7.trans e8
   have z3:=e68.obj y3
   have z1:=e68.obj y1
   have z5:=e68.obj y5
   have hO8:=hO6.ext e68
   have hs8:=hs6.ext e68
   refine ⟨(hCC1 w8).2 ⟨z3,z1,z5⟩,?_⟩
   refine append_str (lineB d j x) hO8 oY hs8.size (by rw [linesN_len (by omega)];omega) ?_
   intro v' w9 hO9 hg
   have a3:=row_apart hO8 hg z3 (by decide)
   have a1:=row_apart hO8 hg z1 (by decide)
   have a5:=row_apart hO8 hg z5 (by decide)
   refine ⟨(hCC1 w9).2 ⟨a3,a1,a5⟩,?_⟩
   have hv1:v'.oneCell'=true:=SliceOf.oneCell (hO9.slice (E:=EStr) (fun _=>rfl) (fun _ _=>rfl))
   simp (disch:=try exact DI) only [↓PR,QR,simprocAttr,(cells_of_heap a3).1,(cells_of_heap a3).2]
   refine turnK_intro ?_
   have hs9:=hs8.grown hg fun g hgr=>(World.ownsRow.lt hO8 g hgr).1
   have hk9:KR5 (w2.heap.size+1+1) w6 w9:=(KR5.of e68).grown hg fun g hgr=>by
    obtain ⟨cur,hc⟩:=own_row hO8 hgr
    exact ⟨cur,_,_,hc⟩
   refine ⟨hRk _ _ (hk9.setCell p3 0 v') hR6,by omega,hs9.setCell (Nat.le_refl _) (Nat.lt_succ_self _) v',v',by simpa using heap_set (o:=0) a3 v',?_⟩
   rw [linesN_succ hx]
   exact (OwnR.only (OwnE.range hO9) (Only.setCell w9 p3 0 v') (.inr (.inl (by omega)))).1
 · rintro w3 ⟨_,hs,v,y3,hO⟩ hmk
   have E3:Ext w w3:=hs.to_ext E2 (by omega)
   unfold n46c4
   have hsz:=sizeP_pos d
   have htz:=textN_size hN hok (k:=(codeP d).length) (Nat.le_refl _) (by omega)
   simp (disch:=try exact DI) only [↓PR,QR,simprocAttr,(cells_of_heap y3).1]
   refine zcr (Join_ret hO ⟨#[10]⟩ (by rw [linesN_len (Nat.le_refl _)];omega) (by rw [linesN_len (Nat.le_refl _)];omega) (Nat.le_trans htz (by decide))) fun w4 e4=>?_
   refine outX_mark (hmk.ext e4) ?_
   simp (disch:=try exact DI) only [↓PR,QR,simprocAttr,outX_nil,retV,resOne]
   exact ⟨by rw [hlen];rfl,(E3.trans e4).putObj (by have:=E2.size;omega) _⟩
 · rintro c w3 hf
   exact hf.elim
 · rintro ch w3 hf
   exact hf.elim
end
def CSt (w1:World) (g:Nat) (L:List Bool) (w:World) (v:Value) (l:List InsD):Prop:=OwnE w w1.heap.size TI 6 insCells v l∧Ext w1 w∧BRow w g L
section
variable {w1 w w':World} {g:Nat} {L:List Bool} {v:Value} {l:List InsD}
theorem CSt.ext (h:CSt w1 g L w v l) (e:Ext w w'):CSt w1 g L w' v l:=⟨OwnE.ext h.1 e,h.2.1.trans e,h.2.2.ext e⟩
theorem CSt.app (h:CSt w1 g L w v l) {x:InsD} {b:Nat} {QP:List PanicEntry→World→Prop} {k:Value→World→Prop} (hc:w.heap[b]?=some (.cells (insCells x).toArray TI (0,0))) (hl:l.length≤100000)
 (hk:∀ v' w',CSt w1 g L w' v' (l++[x])→(∀ (b:Nat) (cs:Array Value) (T:TypeId),w.heap[b]?=some (.cells cs T (0,0))→T≠TI→w'.heap[b]?=some (.cells cs T (0,0)))→k v' w') :
 opV Pg (Builtin.append_ #[32,32] 32 #[v,.slice (some ⟨b,0,none⟩) 1 1]) QP w k:=by
 refine append_ins h.1 (fun j u hu=>by rw [Nat.zero_add,(cells_of_heap hc).1];simpa using hu) h.2.1.size hl fun v' w' hO hg=>?_
 have ap:∀ (b:Nat) (cs:Array Value) (T:TypeId),w.heap[b]?=some (.cells cs T (0,0))→T≠TI→w'.heap[b]?=some (.cells cs T (0,0)):=fun b cs T hb hT=>row_apart h.1 hg hb hT
 exact hk v' w' ⟨hO,h.2.1.grown hg fun b hb=>(World.ownsRow.lt h.1 b hb).1,ap _ _ _ h.2.2 (by decide)⟩ ap
theorem CSt.set (h:CSt w1 g L w v l) {b o:Nat} (hb:w1.heap.size≤b) (hv:∀ g',v.ownBlock=some g'→g'≠b) (hg:g≠b) (u:Value):CSt w1 g L (w.setCell ⟨b,o,none⟩ u) v l:=by
 have ho:=Only.setCell w b o u
 refine ⟨⟨h.1.1,?_⟩,h.2.1.setCell (p:=⟨b,o,none⟩) hb u,(ho g hg).trans h.2.2⟩
 rcases h.1.2 with h3 | ⟨g',cap,cur,h3,h4,h5,h6⟩
 · exact .inl h3
 · exact .inr ⟨g',cap,cur,h3,h4,(ho g' (hv g' (by rw [h3];rfl))).trans h5,h6⟩
end
def restC (rt:ByteArray→Int) (i k:Int) (f:FieldD) (j:Nat):List InsD:=if f.kind=9 then casI rt i k f.cases j else []
def manyC (f:FieldD):Nat:=if f.kind=9 then f.cases.length else 0
def oneC (rt:ByteArray→Int) (i k g:Int) (f:FieldD):InsD :=
 if f.kind=9 then ⟨7,i,k,-1,-1,-1⟩ else
 if f.kind=8 then ⟨5,i,k,-1,-1,rt f.of⟩ else
 if f.kind=7 then ⟨6,i,k,-1,-1,rt f.of⟩ else
 if f.kind=12 then ⟨9,i,k,-1,-1,rt f.of⟩ else ⟨4,i,k,g,-1,-1⟩
theorem fieldC_eq (rt:ByteArray→Int) (i k g:Int) (f:FieldD):fieldC rt i k g f=oneC rt i k g f::restC rt i k f (manyC f):=by
 unfold fieldC oneC restC manyC
 by_cases h9:f.kind=9
 · simp only [if_pos h9]
 · simp only [if_neg h9]
   by_cases h8:f.kind=8
   · simp only [if_pos h8]
   · simp only [if_neg h8]
     by_cases h7:f.kind=7
     · simp only [if_pos h7]
     · simp only [if_neg h7]
       by_cases h12:f.kind=12
       · simp only [if_pos h12]
       · simp only [if_neg h12]
theorem cases_loop {w1 w:World} {g p1 p7:Nat} {L:List Bool} {v mv:Value} {pre:List InsD} {d:DefD} {i k:Int} {f:FieldD} {tv cv:Value} (hM:MsgsOf w1 mv d.msgs) (ht:calm d) (htm:tame d) (hc:(checkP d).2.2=0) (hz:sizeP d≤100000)
 (h:CSt w1 g L w v (pre++restC (toR d.msgs (reachD d)) i k f 0)) (o1:w1.heap[p1]?=some (.cells (defCells d mv).toArray 24 (0,0))) (o7:w.heap[p7]?=some (.cells (fieldCells f tv cv).toArray 71 (0,0))) (hC:CasesOf w1 cv f.cases) (hl:pre.length+manyC f≤100000)
 {R:RT} {next3:Value→Value→World→Prop} (hk:IntKind.i64.wrap (k+1)=k+1) (hn:∀ v' w',CSt w1 g L w' v' (pre++restC (toR d.msgs (reachD d)) i k f (manyC f))→next3 v' (.int .i64 (k+1)) w') :
 loop2 (fun t3 t9 w next5=>n30c4 (.pointer (some ⟨p1,0,none⟩)) t3 (.int .i64 i) (.int .i64 k) (.pointer (some ⟨p7,0,none⟩)) t9 next3 next5 R w) v (.int .i64 0) w:=by
 obtain ⟨A,c,rfl,hlc,hcm,hlm,hel⟩:=SliceOf.open hC
 have hmc:manyC f≤100000:=by omega
 refine loop2_intro (fun a b w'=>∃ j:Nat,b = .int .i64 j∧j≤manyC f∧CSt w1 g L w' a (pre++restC (toR d.msgs (reachD d)) i k f j)∧w'.heap[p7]?=some (.cells (fieldCells f tv (.slice A f.cases.length c)).toArray 71 (0,0))) (fun _ b _=>manyC f - (intOf b).toNat) ⟨0,rfl,by omega,h,o7⟩ ?_
 rintro a _ w2 ⟨j,rfl,hj,h2,q7⟩
 unfold n30c4
 have fin:j=manyC f→opV Pg (binS BinOp.add 3 true (.int .i64 k) (.int .i64 1)) (panK R) w2 fun t46 w=>next3 a t46 w:=by
  intro hje
  subst hje
  simp (disch:=try exact DI) only [↓PR,QR,simprocAttr,hk]
  exact hn a w2 h2
 cases h9:decide (f.kind=9) with
 | false =>
  have hk9:(f.kind == 9)=false:=by simpa using h9
  have hj0:j=manyC f:=by
   have:manyC f=0:=by unfold manyC;rw [if_neg (by simpa using h9)]
   omega
  simp (disch:=try exact DI) only [↓PR,QR,simprocAttr,(cells_of_heap q7).1,hk9,↓n30c3]
  have:=fin hj0
  rw [op_add] at this
  exact this
 | true =>
  have hk9:(f.kind == 9)=true:=by simpa using h9
  have h9':f.kind=9:=by simpa using h9
  have hmn:manyC f=f.cases.length:=by unfold manyC;rw [if_pos h9']
  have hrs:∀ j,restC (toR d.msgs (reachD d)) i k f j=casI (toR d.msgs (reachD d)) i k f.cases j:=fun j=>by unfold restC;rw [if_pos h9']
  rcases Nat.lt_or_ge j f.cases.length with hlt | hge
  · have hdec:decide ((j:Int) < (f.cases.length:Int))=true:=decide_eq_true (by omega)
    obtain ⟨cc,hcc⟩:=getElem?_lt hlt
    obtain ⟨b,o,cs,rfl,_,hA,rfl⟩:=hel j cc hcc
    simp (disch:=try exact DI) only [↓PR,QR,simprocAttr,(cells_of_heap q7).1,hk9,hdec,↓n30c3]
    have eD:Ext w2 (Sw.drew w2):=(Ext.refl w2).drew
    have h3:=h2.ext eD
    have q73:=eD.obj q7
    refine looksK (C:=fun u=>Ext w1 u∧u.heap[p7]?=some (.cells (fieldCells f tv (.slice (some ⟨b,o,none⟩) f.cases.length c)).toArray 71 (0,0))) ⟨h3.2.1,q73⟩ fun hne=>?_
    generalize hCC:(fun u:World=>Ext w1 u∧u.heap[p7]?=some (.cells (fieldCells f tv (.slice (some ⟨b,o,none⟩) f.cases.length c)).toArray 71 (0,0)))=CC at hne ⊢
    have hCC1:∀ u,CC u↔(Ext w1 u∧u.heap[p7]?=some (.cells (fieldCells f tv (.slice (some ⟨b,o,none⟩) f.cases.length c)).toArray 71 (0,0))):=fun u=>by rw [← hCC]
    clear hCC
    have r1:∀ K:Value→Prop,qV Pg CC (Instr.loadAt 24 (.pointer (some ⟨p1,0,none⟩))) K=K (.agg (defCells d mv).toArray):=fun K=>qV_loadG fun u hu=>ElemAt.loads (b:=p1) (o:=0) (cs:=defCells d mv) (fun j u' hu'=>by rw [Nat.zero_add,(cells_of_heap (((hCC1 u).1 hu).1.obj o1)).1];simpa using hu') ty24 rfl
    have r7:∀ K:Value→Prop,qV Pg CC (Instr.loadAt 69 (.pointer (some ⟨p7,12,none⟩))) K=K (.slice (some ⟨b,o,none⟩) f.cases.length c):=fun K=>qV_loadG fun u hu=>Loads.one ty69 (by rw [(cells_of_heap ((hCC1 u).1 hu).2).1];rfl)
    have rc:∀ K:Value→Prop,qV Pg CC (Instr.loadAt 9 (.pointer (some ⟨b,o+j*3+2,none⟩))) K=K (.string cc.of):=fun K=>qV_loadG fun u hu=>Loads.one ty9 (((hCC1 u).1 hu).1.cell (hA 2 _ rfl))
    generalize (Sw.drew w2)=w3 at h3 q73 ⊢
    unfold n30c2
    simp (disch:=try exact DI) only [↓PR,QR,simprocAttr,r1,r7,rc]
    refine zcr (rto_ret w3 _ d cc.of ⟨mv,rfl,hM.ext h3.2.1⟩ ht htm hc hz) fun w4 e4=>?_
    refine ⟨(hCC1 w4).2 ⟨h3.2.1.trans e4,e4.obj q73⟩,?_⟩
    unfold n30c1
    simp (disch:=try exact DI) only [↓PR,QR,simprocAttr]
    have o5:=heap_new w4 (insCells ⟨8,i,k,-1,j,toR d.msgs (reachD d) cc.of⟩).toArray TI
    have e5:Ext w4 (w4.alloc (.cells (insCells ⟨8,i,k,-1,j,toR d.msgs (reachD d) cc.of⟩).toArray TI)):=ee
    generalize (w4.alloc (.cells (insCells ⟨8,i,k,-1,j,toR d.msgs (reachD d) cc.of⟩).toArray TI))=w5 at o5 e5 ⊢
    have h5:=h3.ext (e4.trans e5)
    have q75:=(e4.trans e5).obj q73
    refine ⟨(hCC1 w5).2 ⟨h5.2.1,q75⟩,?_⟩
    have hll:(pre++restC (toR d.msgs (reachD d)) i k f j).length≤100000:=by
     rw [List.length_append,hrs,casI_len (by omega)];omega
    refine h5.app o5 hll fun v' w6 h6 hap=>?_
    have q76:=hap _ _ _ q75 (by decide)
    refine ⟨(hCC1 w6).2 ⟨h6.2.1,q76⟩,?_⟩
    have hwj:IntKind.i64.wrap ((j:Int)+1)=(j:Int)+1:=wrap_ok (by omega) (by omega)
    simp (disch:=try exact DI) only [↓PR,QR,simprocAttr,hwj]
    refine ⟨⟨j+1,rfl,by omega,?_,q76⟩,by simp only [intOf];omega⟩
    rw [hrs,casI_succ hcc,← List.append_assoc,← hrs]
    exact h6
  · have hje:j=manyC f:=by omega
    have hdec:decide ((j:Int) < (f.cases.length:Int))=false:=decide_eq_false (by omega)
    simp (disch:=try exact DI) only [↓PR,QR,simprocAttr,(cells_of_heap q7).1,hk9,hdec,↓n30c3]
    have:=fin hje
    rw [op_add] at this
    exact this
theorem field_round {w1 w:World} {g p1 p7 p8:Nat} {L:List Bool} {v mv:Value} {pre:List InsD} {d:DefD} {i k:Nat} {m:MsgD} {f:FieldD} {tv cv:Value} (hM:MsgsOf w1 mv d.msgs) (ht:calm d) (htm:tame d) (hc:(checkP d).2.2=0) (hz:sizeP d≤100000)
 (hm:d.msgs[i]?=some m) (hf:m.fields[k]?=some f) (h:CSt w1 g L w v pre) (o1:w1.heap[p1]?=some (.cells (defCells d mv).toArray 24 (0,0))) (o7:w.heap[p7]?=some (.cells (fieldCells f tv cv).toArray 71 (0,0))) (o8:w.heap[p8]?=some (.cells (insCells ⟨4,i,k,-1,-1,-1⟩).toArray TI (0,0))) (n7:p7≠p8) (hp8:w1.heap.size≤p8)
 (hO8:∀ b,v.ownBlock=some b→b≠p8) (hg8:g≠p8) (hC:CasesOf w1 cv f.cases) (hl:pre.length+lenF f≤100000)
 {R:RT} {next3:Value→Value→World→Prop} (hk:IntKind.i64.wrap ((k:Int)+1)=(k:Int)+1) (hn:∀ v' w',CSt w1 g L w' v' (pre++fieldC (toR d.msgs (reachD d)) i k (gR m.fields k f) f)→next3 v' (.int .i64 ((k:Int)+1)) w') :
 opV Pg (binS BinOp.eql 65 true (.int .i64 f.kind) (.int .i64 8)) (panK R) w fun t70 w=>joinK (fun (w:World)=>n30c5 (.pointer (some ⟨p1,0,none⟩)) v (.int .i64 i) (.int .i64 k) (.pointer (some ⟨p7,0,none⟩)) (.pointer (some ⟨p8,0,none⟩)) next3 R w) fun K4=>condP t70 (n30c13 (.pointer (some ⟨p1,0,none⟩)) (.pointer (some ⟨p7,0,none⟩)) (.pointer (some ⟨p8,0,none⟩)) K4 R w) (n30c14 (.pointer (some ⟨p1,0,none⟩)) (.int .i64 i) (.int .i64 k) (.pointer (some ⟨p7,0,none⟩)) (.pointer (some ⟨p8,0,none⟩)) (.int .i64 f.kind) K4 R w):=by
 have hM0:=hM
 obtain ⟨Am,cm,rfl,_,_,_,helm⟩:=SliceOf.open hM
 have hlen1:(pre++[oneC (toR d.msgs (reachD d)) i k (gR m.fields k f) f]).length=pre.length+1:=by rw [List.length_append];rfl
 have hlf:lenF f=1+manyC f:=by unfold lenF manyC;split<;>rfl
 have last:∀ (x:InsD) u,x=oneC (toR d.msgs (reachD d)) i k (gR m.fields k f) f→CSt w1 g L u v pre→u.heap[p7]?=some (.cells (fieldCells f tv cv).toArray 71 (0,0))→u.heap[p8]?=some (.cells (insCells x).toArray TI (0,0))→n30c5 (.pointer (some ⟨p1,0,none⟩)) v (.int .i64 i) (.int .i64 k) (.pointer (some ⟨p7,0,none⟩)) (.pointer (some ⟨p8,0,none⟩)) next3 R u:=by
  intro x u hx hS u7 u8
  unfold n30c5
  simp (disch:=try exact DI) only [↓PR,QR,simprocAttr,(cells_of_heap u8).1]
  have o9:=heap_new u (insCells x).toArray TI
  have e9:Ext u (u.alloc (.cells (insCells x).toArray TI)):=ee
  generalize (u.alloc (.cells (insCells x).toArray TI))=u2 at o9 e9 ⊢
  refine (hS.ext e9).app o9 (by omega) fun v' u3 h3 hap=>?_
  have u73:=hap _ _ _ (e9.obj u7) (by decide)
  rw [hx] at h3
  refine cases_loop (g:=g) (L:=L) (pre:=pre++[oneC (toR d.msgs (reachD d)) i k (gR m.fields k f) f]) (i:=i) (k:=k) (f:=f) hM0 ht htm hc hz ?_ o1 u73 hC (by rw [hlen1];omega) hk fun v'' u4 h4=>?_
  · have:restC (toR d.msgs (reachD d)) i k f 0=[]:=by unfold restC;split<;>rfl
    rw [this,List.append_nil]
    exact h3
  · refine hn v'' u4 ?_
    rw [fieldC_eq]
    rw [List.append_assoc] at h4
    exact h4
 have two:∀ (c t:Int) u,c≠4→⟨c,i,k,-1,-1,t⟩=oneC (toR d.msgs (reachD d)) i k (gR m.fields k f) f→Ext w u→n30c5 (.pointer (some ⟨p1,0,none⟩)) v (.int .i64 i) (.int .i64 k) (.pointer (some ⟨p7,0,none⟩)) (.pointer (some ⟨p8,0,none⟩)) next3 R ((u.setCell ⟨p8,0,none⟩ (.int .i64 c)).setCell ⟨p8,5,none⟩ (.int .i64 t)):=by
  intro c t u _ hx e
  have q8:=e.obj o8
  have a8:(u.setCell ⟨p8,0,none⟩ (.int .i64 c)).heap[p8]?=some (.cells (insCells ⟨c,i,k,-1,-1,-1⟩).toArray TI (0,0)):=by simpa using heap_set (o:=0) q8 (.int .i64 c)
  have b8:((u.setCell ⟨p8,0,none⟩ (.int .i64 c)).setCell ⟨p8,5,none⟩ (.int .i64 t)).heap[p8]?=some (.cells (insCells ⟨c,i,k,-1,-1,t⟩).toArray TI (0,0)):=by simpa using heap_set (o:=5) a8 (.int .i64 t)
  exact last _ _ hx (((h.ext e).set hp8 hO8 hg8 _).set hp8 hO8 hg8 _) (((Only.setCell _ p8 5 _ p7 n7).trans (Only.setCell u p8 0 _ p7 n7)).trans (e.obj o7)) b8
 have cz:=cells_of_heap (h.2.1.obj o1)
 have c7:=cells_of_heap o7
 by_cases h8:f.kind=8
 · have d8:(f.kind == 8)=true:=by simpa using h8
   simp (disch:=try exact DI) only [↓PR,QR,simprocAttr,d8,↓n30c13,cz.1,c7.1]
   refine zcr (rto_ret w _ d f.of ⟨_,rfl,hM0.ext h.2.1⟩ ht htm hc hz) fun u e=>?_
   have q8:=cells_of_heap (e.obj o8)
   simp (disch:=try exact DI) only [↓PR,QR,simprocAttr,↓n30c6,q8.1,q8.2]
   exact two 5 _ u (by decide) (by unfold oneC;rw [h8];rfl) e
 have d8:(f.kind == 8)=false:=by simpa using h8
 by_cases h7:f.kind=7
 · have d7:(f.kind == 7)=true:=by simpa using h7
   simp (disch:=try exact DI) only [↓PR,QR,simprocAttr,d8,d7,↓n30c14,↓n30c12,cz.1,c7.1]
   refine zcr (rto_ret w _ d f.of ⟨_,rfl,hM0.ext h.2.1⟩ ht htm hc hz) fun u e=>?_
   have q8:=cells_of_heap (e.obj o8)
   simp (disch:=try exact DI) only [↓PR,QR,simprocAttr,↓n30c7,q8.1,q8.2]
   exact two 6 _ u (by decide) (by unfold oneC;rw [h7];rfl) e
 have d7:(f.kind == 7)=false:=by simpa using h7
 by_cases h12:f.kind=12
 · have d12:(f.kind == 12)=true:=by simpa using h12
   simp (disch:=try exact DI) only [↓PR,QR,simprocAttr,d8,d7,d12,↓n30c14,↓n30c10,cz.1,c7.1]
   refine zcr (rto_ret w _ d f.of ⟨_,rfl,hM0.ext h.2.1⟩ ht htm hc hz) fun u e=>?_
   have q8:=cells_of_heap (e.obj o8)
   simp (disch:=try exact DI) only [↓PR,QR,simprocAttr,↓n30c8,q8.1,q8.2]
   exact two 9 _ u (by decide) (by unfold oneC;rw [h12];rfl) e
 have d12:(f.kind == 12)=false:=by simpa using h12
 by_cases h9:f.kind=9
 · have d9:(f.kind == 9)=true:=by simpa using h9
   have q8:=cells_of_heap o8
   simp (disch:=try exact DI) only [↓PR,QR,simprocAttr,d8,d7,d12,d9,↓n30c14,↓n30c11,q8.1,q8.2]
   have b8:(w.setCell ⟨p8,0,none⟩ (.int .i64 7)).heap[p8]?=some (.cells (insCells ⟨7,i,k,-1,-1,-1⟩).toArray TI (0,0)):=by simpa using heap_set (o:=0) o8 (.int .i64 7)
   exact last _ _ (by unfold oneC;rw [h9];rfl) (h.set hp8 hO8 hg8 _) ((Only.setCell w p8 0 _ p7 n7).trans o7) b8
 · have d9:(f.kind == 9)=false:=by simpa using h9
   obtain ⟨b,o,cs,rfl,_,hA,fv,rfl,hF⟩:=helm i m hm
   have hfv:=SliceOf.oneCell hF
   have hil:=(List.getElem?_eq_some_iff.1 hm).1
   simp (disch:=try exact DI) only [↓PR,QR,simprocAttr,d8,d7,d12,d9,↓n30c14,↓n30c11,↓n30c9,cz.1,hA.c2 h.2.1]
   refine zcr (rRegister_ret w _ m k f ⟨_,rfl,FieldsOf.ext hF h.2.1⟩ hf (htm.2 m (List.mem_of_getElem? hm)).1) fun u e=>?_
   have q8:=cells_of_heap (e.obj o8)
   simp (disch:=try exact DI) only [↓PR,QR,simprocAttr,q8.1,q8.2]
   have b8:(u.setCell ⟨p8,3,none⟩ (.int .i64 (gR m.fields k f))).heap[p8]?=some (.cells (insCells ⟨4,i,k,gR m.fields k f,-1,-1⟩).toArray TI (0,0)):=by simpa using heap_set (o:=3) (e.obj o8) (.int .i64 (gR m.fields k f))
   exact last _ _ (by unfold oneC;rw [if_neg h9,if_neg h8,if_neg h7,if_neg h12]) ((h.ext e).set hp8 hO8 hg8 _) ((Only.setCell u p8 3 _ p7 n7).trans (e.obj o7)) b8
theorem rmsg_round {w1 w:World} {g p1:Nat} {L:List Bool} {v mv:Value} {pre:List InsD} {d:DefD} {i:Nat} {m:MsgD} (hM:MsgsOf w1 mv d.msgs) (ht:calm d) (htm:tame d) (hc:(checkP d).2.2=0) (hz:sizeP d≤100000)
 (hm:d.msgs[i]?=some m) (h:CSt w1 g L w v pre) (o1:w1.heap[p1]?=some (.cells (defCells d mv).toArray 24 (0,0))) (hl:pre.length+lenM m≤100000)
 {R:RT} {K2:Value→World→Prop} (hn:∀ v' w',CSt w1 g L w' v' (pre++msgC (toR d.msgs (reachD d)) i m)→K2 v' w') :
 n30c18 (.pointer (some ⟨p1,0,none⟩)) v (.int .i64 i) K2 R w:=by
 have hM0:=hM
 obtain ⟨Am,cm,rfl,_,_,_,helm⟩:=SliceOf.open hM
 obtain ⟨b,o,cs,rfl,_,hA,fv,rfl,hF⟩:=helm i m hm
 have hfv:=SliceOf.oneCell hF
 have hil:=(List.getElem?_eq_some_iff.1 hm).1
 have hmm:=htm.2 m (List.mem_of_getElem? hm)
 have hlm:lenM m=2+lenK m.fields m.fields.length:=rfl
 obtain ⟨Af,cf,rfl,_,_,_,helf⟩:=SliceOf.open hF
 unfold n30c18
 simp (disch:=try exact DI) only [↓PR,QR,simprocAttr]
 have o2:=heap_new w (insCells (⟨3,i,-1,-1,-1,-1⟩:InsD)).toArray TI
 have e2:Ext w (w.alloc (.cells (insCells ⟨3,i,-1,-1,-1,-1⟩).toArray TI)):=ee
 generalize (w.alloc (.cells (insCells ⟨3,i,-1,-1,-1,-1⟩).toArray TI))=w2 at o2 e2 ⊢
 refine (h.ext e2).app o2 (by omega) fun v3 w3 h3 _=>?_
 refine loop2_intro (fun a b w'=>∃ k:Nat,b = .int .i64 k∧k≤m.fields.length∧CSt w1 g L w' a ((pre++[(⟨3,i,-1,-1,-1,-1⟩:InsD)])++fieldsC (toR d.msgs (reachD d)) i m.fields k)) (fun _ b _=>m.fields.length - (intOf b).toNat) ⟨0,rfl,by omega,by rw [show fieldsC (toR d.msgs (reachD d)) i m.fields 0=[] from rfl,List.append_nil];exact h3⟩ ?_
 rintro a _ w4 ⟨k,rfl,hk,h4⟩
 have hlk:((pre++[(⟨3,i,-1,-1,-1,-1⟩:InsD)])++fieldsC (toR d.msgs (reachD d)) i m.fields k).length=pre.length+1+lenK m.fields k:=by rw [List.length_append,fieldsC_len,List.length_append];rfl
 have cz:=cells_of_heap (h4.2.1.obj o1)
 unfold n30c17
 rcases Nat.lt_or_ge k m.fields.length with hlt | hge
 · have hdec:decide ((k:Int) < (m.fields.length:Int))=true:=decide_eq_true (by omega)
   obtain ⟨f,hf⟩:=getElem?_lt hlt
   obtain ⟨bf,of,csf,rfl,_,hAf,tv,cv,rfl,hT,hC⟩:=helf k f hf
   have ht1:=SliceOf.oneCell hT
   have hc1:=SliceOf.oneCell hC
   have hlf:=lenK_mono m.fields (show k+1≤m.fields.length by omega)
   rw [lenK_succ hf] at hlf
   simp (disch:=try exact DI) only [↓PR,QR,simprocAttr,cz.1,hA.c2 h4.2.1,hdec,↓n30c16,hAf.c15 h4.2.1]
   simp only [World.size_alloc]
   generalize hV:World.setCell (World.setCell (World.setCell (World.setCell (World.setCell (World.setCell (World.alloc (World.alloc w4 _) _) _ _) _ _) _ _) _ _) _ _) _ _=V
   have eV:Ext w4 V:=by rw [← hV];exact ext_set6 (((Ext.refl w4).alloc _).alloc _) (Nat.le_succ _) _ _ _ _ _ _
   have o7:V.heap[w4.heap.size]?=some (.cells (fieldCells f tv cv).toArray 71 (0,0)):=by rw [← hV];simp (disch:=try exact DI) only [↓PR,QR,simprocAttr]
   have o8:V.heap[w4.heap.size+1]?=some (.cells (insCells ⟨4,i,k,-1,-1,-1⟩).toArray TI (0,0)):=by rw [← hV];simp (disch:=try exact DI) only [↓PR,QR,simprocAttr]
   clear hV
   have h5:=h4.ext eV
   have hs4:=h4.2.1.size
   have hg4:=(Array.getElem?_eq_some_iff.1 h4.2.2).1
   have hwk:IntKind.i64.wrap ((k:Int)+1)=(k:Int)+1:=wrap_ok (by omega) (by omega)
   have:=field_round (R:=R) (next3:=fun a0' a1' w'=>(∃ k:Nat,a1'=Value.int IntKind.i64 k∧k≤m.fields.length∧CSt w1 g L w' a0' (pre++[(⟨3,i,-1,-1,-1,-1⟩:InsD)]++fieldsC (toR d.msgs (reachD d)) i m.fields k))∧m.fields.length - (intOf a1').toNat < m.fields.length - (intOf (Value.int IntKind.i64 (k:Int))).toNat) hM0 ht htm hc hz hm hf h5 o1 o7 o8 (by omega) (by omega) (fun b hb=>by have:=(World.ownsRow.lt h4.1 b hb).2;omega) (by omega) hC (by omega) hwk fun v' w' h'=>⟨⟨k+1,rfl,by omega,by rw [fieldsC_succ hf,← List.append_assoc];exact h'⟩,by simp only [intOf];omega⟩
   rw [op_eql,joinK_eq] at this
   exact this
 · obtain rfl:k=m.fields.length:=by omega
   have hdec:decide ((m.fields.length:Int) < (m.fields.length:Int))=false:=decide_eq_false (by omega)
   simp (disch:=try exact DI) only [↓PR,QR,simprocAttr,cz.1,hA.c2 h4.2.1,hdec,↓n30c15]
   have o5:=heap_new w4 (insCells ⟨10,i,-1,-1,-1,-1⟩).toArray TI
   have e5:Ext w4 (w4.alloc (.cells (insCells ⟨10,i,-1,-1,-1,-1⟩).toArray TI)):=ee
   generalize (w4.alloc (.cells (insCells ⟨10,i,-1,-1,-1,-1⟩).toArray TI))=w5 at o5 e5 ⊢
   refine (h4.ext e5).app o5 (by omega) fun v6 w6 h6 _=>?_
   refine hn v6 w6 ?_
   unfold msgC
   have he:∀ (a:List InsD) x b y,a++[x]++b++y=a++(x::b++y):=fun a x b y=>by simp
   rw [he] at h6
   exact h6
theorem rCode_ret (w0:World) (v:Value) (d:DefD) (hd:DefVal w0 v d) (ht:calm d) (htm:tame d) (hc:(checkP d).2.2=0) (hz:sizeP d≤100000):Ret Pg 13 #[v] w0 fun r w'=>OwnE w' w0.heap.size TI 6 insCells r (codeP d)∧Ext w0 w':=by
 obtain ⟨mv,rfl,hM⟩:=hd
 have hm1:=SliceOf.oneCell hM
 have hM0:=hM
 obtain ⟨A,c,rfl,_,_,_,_⟩:=SliceOf.open hM
 have hzz:routN d.msgs (reachD d) d.msgs.length≤100000:=hz
 refine n30s (R:=retR _) ?_;unfold n30
 rw [op_boxA]
 have o1:=heap_new w0 (defCells d (.slice A d.msgs.length c)).toArray 24
 have eW:Ext w0 (w0.alloc (.cells (defCells d (.slice A d.msgs.length c)).toArray 24)):=ee
 generalize (w0.alloc (.cells (defCells d (.slice A d.msgs.length c)).toArray 24))=W at o1 eW ⊢
 generalize hp1:w0.heap.size=p1 at o1 ⊢
 simp (disch:=try exact DI) only [↓PR,QR,simprocAttr,(cells_of_heap o1).1]
 refine zcr (rto_ret _ _ d d.start ⟨_,rfl,hM0.ext eW⟩ ht htm hc hz) fun w1 e1=>?_
 have E1:=eW.trans e1
 have q1:=e1.obj o1
 unfold n30c21
 simp (disch:=try exact DI) only [↓PR,QR,simprocAttr]
 have hO2:=OwnE.new w1 TI 6 insCells (headC (toR d.msgs (reachD d) d.start)) (fun _=>rfl) (by simp [headC])
 have e2:Ext w1 (w1.alloc (.cells ((headC (toR d.msgs (reachD d) d.start)).flatMap insCells).toArray TI)):=ee
 simp only [headC,List.flatMap_cons,List.flatMap_nil,insCells,List.cons_append,List.nil_append,List.length_cons,List.length_nil,Nat.zero_add,Nat.reduceAdd] at hO2 e2
 generalize hV:World.alloc w1 _=w2 at hO2 e2 ⊢
 clear hV
 simp (disch:=try exact DI) only [↓PR,QR,simprocAttr,(cells_of_heap (e2.obj q1)).1]
 refine callK_ret (rReached_ret w2 _ d ⟨_,rfl,hM0.ext (E1.trans e2)⟩ ht hc) ?_
 rintro _ w3 ⟨⟨g,rfl,hB⟩,e3⟩
 have h3:CSt w1 g (tab d.msgs.length (reachD d)) w3 (.slice (some ⟨w1.heap.size,0,none⟩) 2 2) (headC (toR d.msgs (reachD d) d.start)):=⟨OwnE.ext hO2 e3,e2.trans e3,hB⟩
 generalize (Value.slice (some ⟨w1.heap.size,0,none⟩) 2 2)=v3 at h3 ⊢
 have hMw:MsgsOf w1 (.slice A d.msgs.length c) d.msgs:=hM0.ext E1
 refine loop2_intro (fun a b w'=>∃ i:Nat,b = .int .i64 i∧i≤d.msgs.length∧CSt w1 g (tab d.msgs.length (reachD d)) w' a (headC (toR d.msgs (reachD d) d.start)++codeN (toR d.msgs (reachD d)) d.msgs (reachD d) i)) (fun _ b _=>d.msgs.length - (intOf b).toNat) ⟨0,rfl,by omega,by rw [show codeN (toR d.msgs (reachD d)) d.msgs (reachD d) 0=[] from rfl,List.append_nil];exact h3⟩ ?_
 rintro a _ w4 ⟨i,rfl,hi,h4⟩
 have cz:=cells_of_heap (h4.2.1.obj q1)
 have hlc:(headC (toR d.msgs (reachD d) d.start)++codeN (toR d.msgs (reachD d)) d.msgs (reachD d) i).length=routN d.msgs (reachD d) i:=by rw [List.length_append,← codeN_len (rt:=toR d.msgs (reachD d))];show 2+_=_;omega
 unfold n30c20
 rcases Nat.lt_or_ge i d.msgs.length with hlt | hge
 · have hdec:decide ((i:Int) < (d.msgs.length:Int))=true:=decide_eq_true (by omega)
   obtain ⟨m,hm⟩:=getElem?_lt hlt
   have hcell:w4.cell? ⟨g,i,none⟩=some (.bool (reachD d i)):=h4.2.2.get (tab_get hlt)
   have hwi:IntKind.i64.wrap ((i:Int)+1)=(i:Int)+1:=wrap_ok (by omega) (by omega)
   have hls:=routN_mono d.msgs (reachD d) (show i+1≤d.msgs.length by omega)
   have hrs:=routN_succ (r:=reachD d) hm
   have hcs:=codeN_succ (rt:=toR d.msgs (reachD d)) (r:=reachD d) hm
   cases hr:reachD d i with
   | false =>
    rw [hr] at hcell hcs
    simp only [Bool.false_eq_true,if_false,List.append_nil] at hcs
    simp (disch:=try exact DI) only [↓PR,QR,simprocAttr,cz.1,hdec,↓n30c19,hcell,Nat.mul_one,Nat.zero_add,hwi]
    exact ⟨⟨i+1,rfl,by omega,by rw [hcs];exact h4⟩,by simp only [intOf];omega⟩
   | true =>
    rw [hr] at hcell hcs hrs
    simp only [if_true] at hcs hrs
    simp (disch:=try exact DI) only [↓PR,QR,simprocAttr,cz.1,hdec,↓n30c19,hcell,Nat.mul_one,Nat.zero_add]
    refine rmsg_round hMw ht htm hc hz hm h4 q1 (by omega) fun v' w' h'=>?_
    exact ⟨⟨i+1,rfl,by omega,by rw [hcs,← List.append_assoc];exact h'⟩,by simp only [intOf];omega⟩
 · obtain rfl:i=d.msgs.length:=by omega
   have hdec:decide ((d.msgs.length:Int) < (d.msgs.length:Int))=false:=decide_eq_false (by omega)
   simp (disch:=try exact DI) only [↓PR,QR,simprocAttr,cz.1,hdec]
   exact ⟨OwnE.base h4.1 (by have:=E1.size;omega),E1.trans h4.2.1⟩
def L1 (i:Int) (x:InsD):ByteArray:=decB i++⟨#[32]⟩++opN x.code
def L2 (d:DefD) (i:Int) (x:InsD):ByteArray:=if 0≤x.msg then L1 i x++⟨#[32]⟩++nameX d x else L1 i x
def L3 (d:DefD) (i:Int) (x:InsD):ByteArray:=if 0≤x.reg then L2 d i x++⟨#[32]⟩++(⟨#[114]⟩++decB x.reg) else L2 d i x
def L4 (d:DefD) (i:Int) (x:InsD):ByteArray:=if 0≤x.to then L3 d i x++⟨#[32]⟩++decB x.to else L3 d i x
end Go.Proofs.YtfdecdnmooaegaaGreatDoor
namespace Go.Sw
open Go.ChangeShapes Go.WideShapes Go.RowKit Go.ChangeAt Go.Deep
theorem list_of {α:Type} {p:Nat→α→Prop}:∀ (n:Nat),(∀ i,i < n→∃ x,p i x)→∃ l:List α,l.length=n∧∀ k x,l[k]?=some x→p k x
 | 0,_=>⟨[],rfl,fun k x h=>by simp at h⟩
 | n+1,h=>by
  obtain ⟨l,hl,hp⟩:=list_of n (fun i hi=>h i (by omega))
  obtain ⟨x,hx⟩:=h n (by omega)
  refine ⟨l++[x],by simp [hl],fun k y hy=>?_⟩
  rw [List.getElem?_append] at hy
  split at hy
  · exact hp k y hy
  · have hk:k=n:=by
     have:=(List.getElem?_eq_some_iff.1 hy).1
     simp at this
     omega
    subst hk
    simp [hl] at hy
    subst hy
    exact hx
section
variable {H:Type} {enc:TypeId×Value→H} {P:Program} {w:World} {base:Nat} {spare:Nat→Bool} {held:Bool}
theorem weightsAll_mem {e:TypeId} {m:Nat} {d:DataW H}:∀ {l:List (DataW H)},d∈l→m∈d.weights P e→m∈DataW.weightsAll P e l
 | [],h,_=>by cases h
 | a::l,h,hm=>by
  rw [DataW.weightsAll,List.mem_append]
  rcases List.mem_cons.1 h with rfl | h
  · exact .inl hm
  · exact .inr (weightsAll_mem h hm)
def Reached (P:Program) (t:TypeId) (d:DataW H):Prop:=∀ m∈d.weights P t,m≤reachBytes
theorem reached_of {ts:List TypeId} {ds:List (DataW H)} (h:(DataW.weightsEach P ts ds).all (· ≤ reachBytes)=true) {j:Nat} {t:TypeId} {d:DataW H} (ht:ts[j]?=some t) (hd:ds[j]?=some d):Reached P t d:=fun m hm=>by
 have:=List.all_eq_true.1 h _ (DataW.weights_mem_each ht hd m hm)
 simpa using this
theorem slice_of_trod {α:Type} {E:World→List Value→α→Prop} {Q:α→Prop} {t e:TypeId} {n fuel:Nat} {cs:List Value} {x:DataW H×List MemPlace} (ht:P.underlying t=some (.slice e)) (hn:P.cellsOf e=n) (hb1:1≤P.bytesOf e) (h0:0 < n)
 (hE:∀ m cs' y,DataW.trod enc P w base spare held m e cs'=some y→Reached P e y.1→∃ x,E w cs' x∧Q x) (h:DataW.trod enc P w base spare held fuel t cs=some x) (hr:Reached P t x.1):∃ v l,cs=[v]∧SliceOf w n E v l∧(∀ x∈l,Q x)∧l.length≤140737488355328:=by
 rcases open_slice ht h with ⟨rfl,_⟩ | ⟨a,len,cap,m,k,D,Pl,rfl,hb,hl,hm,hmm,hx,hel⟩
 · exact ⟨_,[],rfl,SliceOf.nil _ _ _,fun x hx=>by (cases hx),Nat.zero_le _⟩
 · have hlm:len≤m:=by rw [hmm];split<;>omega
   subst hx
   have hw0:=hr ((len+(m - len))*P.bytesOf e) (by simp only [DataW.weights,ht];simp)
   have hlen:len≤140737488355328:=by
    have:len*1≤(len+(m - len))*P.bytesOf e:=Nat.mul_le_mul (by omega) hb1
    simp only [reachBytes] at hw0
    omega
   have hD:∀ i,i < len→Reached P e (D i):=fun i hi q hq=>hr q (by
    simp only [DataW.weights,ht,List.mem_cons,List.mem_append]
    exact .inr (.inl (weightsAll_mem (List.mem_map.2 ⟨i,List.mem_range.2 hi,rfl⟩) hq)))
   obtain ⟨l,hll,hp⟩:=list_of (p:=fun i (x:α)=>∃ cs',w.cells? base (a.add (i*n)) n=some cs'∧E w cs' x∧Q x) len (fun i hi=>by
    obtain ⟨cs',h1,h2⟩:=hel i (by omega)
    rw [hn] at h1
    obtain ⟨x,hx⟩:=hE _ _ _ h2 (hD i hi)
    exact ⟨x,cs',h1,hx⟩)
   refine ⟨_,l,rfl,⟨some a,cap,by rw [hll],by rw [hll];exact hl,by simp only [maxLen] at hm;omega,fun hne=>?_⟩,fun x hx=>?_,by omega⟩
   · obtain ⟨b,o,spot⟩:=a
     have hspot:spot=none:=by
      have:0 < l.length:=List.length_pos_iff.2 hne
      obtain ⟨y,hy⟩:=getElem?_lt this
      obtain ⟨cs',h1,_⟩:=hp 0 y hy
      obtain ⟨_,h2,h3⟩:=World.cells?_some h1
      have h4:=h3 0 h0
      rw [List.getElem?_eq_getElem (by omega)] at h4
      simpa [Addr.add] using World.cell?_spot h4
     subst hspot
     refine ⟨b,o,rfl,fun k x hx=>?_⟩
     obtain ⟨cs',h1,h2,_⟩:=hp k x hx
     obtain ⟨_,h3,h4⟩:=World.cells?_some h1
     refine ⟨cs',h3,fun j v hv=>?_,h2⟩
     have h5:=h4 j (by have:=(List.getElem?_eq_some_iff.1 hv).1;omega)
     rw [hv] at h5
     simpa [Addr.add_lit] using h5
   · obtain ⟨k,hk⟩:=List.getElem?_of_mem hx
     obtain ⟨_,_,_,hq⟩:=hp k x hk
     exact hq
theorem struct_of_trod {fs:Array Field} {t:TypeId} {n fuel:Nat} {cs:List Value} {x:DataW H×List MemPlace} (ht:P.underlying t=some (.struct fs)) (hn:P.cellsOf t=n) (h:DataW.trod enc P w base spare held fuel t cs=some x) (hr:Reached P t x.1) :
 cs.length=n∧∃ m,∀ (i:Nat) (ty off k:Nat),(fs[i]?).map (fun f=>(f.type,f.offset))=some (ty,off)→P.cellsOf ty=k→∃ y,DataW.trod enc P w base spare held m ty ((cs.drop off).take k)=some y∧Reached P ty y.1:=by
 obtain ⟨xs,m,_,rfl,hl,hlen,hf⟩:=DataW.trod_struct ht h
 refine ⟨hl.trans hn,m,fun i ty off k hi hk=>?_⟩
 obtain ⟨f,hfi,he⟩:=Option.map_eq_some_iff.1 hi
 injection he with h1 h2
 subst h1 h2 hk
 have hil:i < xs.length:=by rw [hlen];exact (Array.getElem?_eq_some_iff.1 hfi).1
 refine ⟨xs[i],(hf i f hfi).trans (List.getElem?_eq_getElem hil),fun q hq=>hr q ?_⟩
 simp only [DataW.weights,ht]
 refine DataW.weights_mem_each (j:=i) (t:=f.type) (d:=xs[i].1) ?_ ?_ q hq
 · rw [List.getElem?_map,Array.getElem?_toList,hfi];rfl
 · rw [List.getElem?_map,List.getElem?_eq_getElem hil];rfl
theorem trodAll_stays (hl:laidOutB P=true) {W W':World} (he:Ext W W'):∀ {ts:List TypeId} {vs:List Value} {ds:List (DataW H)} {ps:List MemPlace},(∀ t∈ts,P.readableRec t=true∧t < P.types.size)→(∀ x∈ps,x.block < W.heap.size) →
 DataW.TrodAll enc P W 0 (fun _=>true) true ts vs ds ps→DataW.TrodAll enc P W' 0 (fun b=>decide (b < W.heap.size)) true ts vs ds ps
 | [],_,_,_,_,_,h=>by obtain ⟨rfl,rfl,rfl⟩:=trodAll_nil h;exact trodAll_mk0
 | t::ts,_,_,_,hr,hlt,h=>by
  obtain ⟨v,vs1,d,ds1,a,b,rfl,rfl,rfl,h1,h2⟩:=trodAll_cons h
  refine ⟨a,b,?_,trodAll_stays hl he (fun t ht=>hr t (List.mem_cons_of_mem _ ht)) (fun x hx=>hlt x (List.mem_append_right _ hx)) h2,rfl⟩
  exact Below.trod hl (hr t (List.mem_cons_self ..)).1 (hr t (List.mem_cons_self ..)).2 h1 ⟨he.os,he.tape,he.output,he.size,he.block⟩ (fun x hx=>hlt x (List.mem_append_left _ hx))
theorem law_post {f:Func} {s:ChangeSpec} {W W':World} {args:Array Value} {ds gs:List (DataW H)} {before:List MemPlace} {tb:TypeId} (hl:laidOutB P=true) (hr:∀ t∈f.params.toList,P.readableRec t=true∧t < P.types.size) (hs:s.vars=[])
 (hW:DataW.Whole enc P f.params.toList s.vars false W args.toList ds gs before) (he:Ext W W') (hres:f.resultTypes = #[tb]) (htb:P.underlying tb=some .bool) (hfn:(s.fn H ds).results=[.lit (.bool true)]) (hargs:(s.fn H ds).args=ds) (hvars:(s.fn H ds).vars=[]) :
 s.post enc P f false true false false W args (.bool true) W':=by
 have hW':=hW
 obtain ⟨p,q,hA,hV,rfl,_,_⟩:=hW
 rw [hs] at hV
 obtain ⟨rfl,rfl⟩:=trodVars_none hV
 have hlt:∀ x∈p,x.block < W.heap.size:=fun x hx=>hW'.lt x (by simpa using hx)
 rw [List.append_nil] at hW'
 refine ⟨ds,[],p,[],p,[],hW',?_,?_,?_,Below.frame ⟨he.os,he.tape,he.output,he.size,he.block⟩ _,fun h=>by cases h⟩
 · rw [List.append_nil,hfn,hres]
   exact trodAll_mk1 (shut_bool htb _)
 · rw [List.append_nil,hargs]
   exact trodAll_stays hl he hr hlt hA
 · rw [List.append_nil,hvars,hs]
   exact rfl
end
end Go.Sw
namespace Go.Proofs.YtfdecdnmooaegaaGreatDoor
open Sw
open Go.ChangeShapes Go.WideShapes Go.RowKit Go.ChangeAt Go.Deep
theorem cellsTerm:Pg.cellsOf 113=2:=by kernel_rfl
theorem cellsCase:Pg.cellsOf 85=3:=by kernel_rfl
theorem cellsSize:Pg.cellsOf 68=2:=by kernel_rfl
theorem cellsField:Pg.cellsOf 71=15:=by kernel_rfl
theorem cellsMessage:Pg.cellsOf 53=2:=by kernel_rfl
theorem cellsDefinition:Pg.cellsOf 24=3:=by kernel_rfl
theorem cellsString:Pg.cellsOf 9=1:=by kernel_rfl
theorem cellsInt:Pg.cellsOf 3=1:=by kernel_rfl
theorem cellsBool:Pg.cellsOf 4=1:=by kernel_rfl
theorem cellsKind:Pg.cellsOf 65=1:=by kernel_rfl
theorem cellsTerms:Pg.cellsOf 66=1:=by kernel_rfl
theorem cellsCases:Pg.cellsOf 69=1:=by kernel_rfl
theorem cellsFields:Pg.cellsOf 51=1:=by kernel_rfl
theorem bytesTerm:1≤Pg.bytesOf 113:=Nat.le_of_ble_eq_true (by kernel_rfl)
theorem bytesCase:1≤Pg.bytesOf 85:=Nat.le_of_ble_eq_true (by kernel_rfl)
theorem bytesField:1≤Pg.bytesOf 71:=Nat.le_of_ble_eq_true (by kernel_rfl)
theorem bytesMessage:1≤Pg.bytesOf 53:=Nat.le_of_ble_eq_true (by kernel_rfl)
def FieldSm (f:FieldD):Prop:=f.terms.length≤140737488355328∧f.cases.length≤140737488355328∧∀ c∈f.cases,c.of.size≤140737488355328
def MsgSm (m:MsgD):Prop:=m.fields.length≤140737488355328∧∀ f∈m.fields,FieldSm f
def DefSm (d:DefD):Prop:=d.msgs.length≤140737488355328∧∀ m∈d.msgs,MsgSm m
theorem cellsMessages:Pg.cellsOf 22=1:=by kernel_rfl
section
variable {H:Type} {enc:TypeId×Value→H} {w:World} {base:Nat} {spare:Nat→Bool} {held:Bool}
theorem term_of {m:Nat} {cs:List Value} {y:DataW H×List MemPlace} (h:DataW.trod enc Pg w base spare held m 113 cs=some y) (hr:Reached Pg 113 y.1):∃ x,ETerm w cs x:=by
 obtain ⟨hl,n,hf⟩:=struct_of_trod Tryz.underlying113 cellsTerm h hr
 obtain ⟨y0,h0,r0⟩:=hf 0 9 0 1 rfl cellsString
 obtain ⟨y1,h1,r1⟩:=hf 1 3 1 1 rfl cellsInt
 match cs,hl with
 | [c0,c1],_ =>
  obtain ⟨s,e0,_⟩:=DataW.trod_string Tryz.underlying9 h0
  obtain ⟨k,e1,_⟩:=DataW.trod_int Tryz.underlying3 h1
  simp at e0 e1
  subst e0 e1
  exact ⟨⟨s,k⟩,rfl⟩
theorem case_of {m:Nat} {cs:List Value} {y:DataW H×List MemPlace} (h:DataW.trod enc Pg w base spare held m 85 cs=some y) (hr:Reached Pg 85 y.1):∃ x,ECase w cs x∧x.of.size≤140737488355328:=by
 obtain ⟨hl,n,hf⟩:=struct_of_trod Tryz.underlying85 cellsCase h hr
 obtain ⟨y0,h0,r0⟩:=hf 0 3 0 1 rfl cellsInt
 obtain ⟨y1,h1,r1⟩:=hf 1 3 1 1 rfl cellsInt
 obtain ⟨y2,h2,r2⟩:=hf 2 9 2 1 rfl cellsString
 match cs,hl with
 | [c0,c1,c2],_ =>
  obtain ⟨a,e0,_⟩:=DataW.trod_int Tryz.underlying3 h0
  obtain ⟨b,e1,_⟩:=DataW.trod_int Tryz.underlying3 h1
  obtain ⟨s,e2,e3,_⟩:=DataW.trod_string Tryz.underlying9 h2
  simp at e0 e1 e2
  subst e0 e1 e2
  refine ⟨⟨a,b,s⟩,rfl,?_⟩
  have:=r2 s.data.toList.length (by rw [e3];exact List.mem_singleton.2 rfl)
  simp only [reachBytes] at this
  have h4:s.size=s.data.toList.length:=Array.length_toList.symm
  show s.size≤_
  omega
theorem size_of {m:Nat} {cs:List Value} {y:DataW H×List MemPlace} (h:DataW.trod enc Pg w base spare held m 68 cs=some y) (hr:Reached Pg 68 y.1):∃ b tv ts,cs=[.int .i64 b,tv]∧TermsOf w tv ts∧ts.length≤140737488355328:=by
 obtain ⟨hl,n,hf⟩:=struct_of_trod Tryz.underlying68 cellsSize h hr
 obtain ⟨y0,h0,r0⟩:=hf 0 3 0 1 rfl cellsInt
 obtain ⟨y1,h1,r1⟩:=hf 1 66 1 1 rfl cellsTerms
 match cs,hl with
 | [c0,c1],_ =>
  obtain ⟨a,e0,_⟩:=DataW.trod_int Tryz.underlying3 h0
  obtain ⟨v,l,e1,hS,_,hL⟩:=slice_of_trod (E:=ETerm) (Q:=fun _=>True) Tryz.underlying66 cellsTerm bytesTerm (by decide) (fun _ _ _ h hr=>let ⟨x,hx⟩:=term_of h hr; ⟨x,hx,trivial⟩) h1 r1
  simp at e0 e1
  subst e0 e1
  exact ⟨a,_,l,rfl,hS,hL⟩
theorem field_of {m:Nat} {cs:List Value} {y:DataW H×List MemPlace} (h:DataW.trod enc Pg w base spare held m 71 cs=some y) (hr:Reached Pg 71 y.1):∃ x,EField w cs x∧FieldSm x:=by
 obtain ⟨hl,n,hf⟩:=struct_of_trod Tryz.underlying71 cellsField h hr
 obtain ⟨y0,h0,r0⟩:=hf 0 9 0 1 rfl cellsString
 obtain ⟨y1,h1,r1⟩:=hf 1 65 1 1 rfl cellsKind
 obtain ⟨y2,h2,r2⟩:=hf 2 3 2 1 rfl cellsInt
 obtain ⟨y3,h3,r3⟩:=hf 3 4 3 1 rfl cellsBool
 obtain ⟨y4,h4,r4⟩:=hf 4 4 4 1 rfl cellsBool
 obtain ⟨y5,h5,r5⟩:=hf 5 3 5 1 rfl cellsInt
 obtain ⟨y6,h6,r6⟩:=hf 6 3 6 1 rfl cellsInt
 obtain ⟨y7,h7,r7⟩:=hf 7 68 7 2 rfl cellsSize
 obtain ⟨y8,h8,r8⟩:=hf 8 9 9 1 rfl cellsString
 obtain ⟨y9,h9,r9⟩:=hf 9 9 10 1 rfl cellsString
 obtain ⟨y10,h10,r10⟩:=hf 10 9 11 1 rfl cellsString
 obtain ⟨y11,h11,r11⟩:=hf 11 69 12 1 rfl cellsCases
 obtain ⟨y12,h12,r12⟩:=hf 12 3 13 1 rfl cellsInt
 obtain ⟨y13,h13,r13⟩:=hf 13 3 14 1 rfl cellsInt
 match cs,hl with
 | [c0,c1,c2,c3,c4,c5,c6,c7,c8,c9,c10,c11,c12,c13,c14],_ =>
  obtain ⟨x0,e0,_⟩:=DataW.trod_string Tryz.underlying9 h0
  obtain ⟨x1,e1,_⟩:=DataW.trod_int Tryz.underlying65 h1
  obtain ⟨x2,e2,_⟩:=DataW.trod_int Tryz.underlying3 h2
  obtain ⟨x3,e3,_⟩:=DataW.trod_bool Tryz.underlying4 h3
  obtain ⟨x4,e4,_⟩:=DataW.trod_bool Tryz.underlying4 h4
  obtain ⟨x5,e5,_⟩:=DataW.trod_int Tryz.underlying3 h5
  obtain ⟨x6,e6,_⟩:=DataW.trod_int Tryz.underlying3 h6
  obtain ⟨x7,tv,ts,e7,hT,hTl⟩:=size_of h7 r7
  obtain ⟨x9,e9,_⟩:=DataW.trod_string Tryz.underlying9 h8
  obtain ⟨x10,e10,_⟩:=DataW.trod_string Tryz.underlying9 h9
  obtain ⟨x11,e11,_⟩:=DataW.trod_string Tryz.underlying9 h10
  obtain ⟨cv,l,e12,hC,hCq,hCl⟩:=slice_of_trod (E:=ECase) (Q:=fun c=>c.of.size≤140737488355328) Tryz.underlying69 cellsCase bytesCase (by decide) (fun _ _ _ h hr=>case_of h hr) h11 r11
  obtain ⟨x13,e13,_⟩:=DataW.trod_int Tryz.underlying3 h12
  obtain ⟨x14,e14,_⟩:=DataW.trod_int Tryz.underlying3 h13
  simp at e0 e1 e2 e3 e4 e5 e6 e7 e9 e10 e11 e12 e13 e14
  obtain ⟨e7,e8⟩:=e7
  subst e0 e1 e2 e3 e4 e5 e6 e7 e8 e9 e10 e11 e12 e13 e14
  exact ⟨⟨x0,x1,x2,x3,x4,x5,x6,x7,ts,x9,x10,x11,l,x13,x14⟩,⟨_,_,rfl,hT,hC⟩,hTl,hCl,hCq⟩
theorem msg_of {m:Nat} {cs:List Value} {y:DataW H×List MemPlace} (h:DataW.trod enc Pg w base spare held m 53 cs=some y) (hr:Reached Pg 53 y.1):∃ x,EMsg w cs x∧MsgSm x:=by
 obtain ⟨hl,n,hf⟩:=struct_of_trod Tryz.underlying53 cellsMessage h hr
 obtain ⟨y0,h0,r0⟩:=hf 0 9 0 1 rfl cellsString
 obtain ⟨y1,h1,r1⟩:=hf 1 51 1 1 rfl cellsFields
 match cs,hl with
 | [c0,c1],_ =>
  obtain ⟨a,e0,_⟩:=DataW.trod_string Tryz.underlying9 h0
  obtain ⟨v,l,e1,hS,hQ,hL⟩:=slice_of_trod (E:=EField) (Q:=FieldSm) Tryz.underlying51 cellsField bytesField (by decide) (fun _ _ _ h hr=>field_of h hr) h1 r1
  simp at e0 e1
  subst e0 e1
  exact ⟨⟨a,l⟩,⟨_,rfl,hS⟩,hL,hQ⟩
theorem def_of {m:Nat} {cs:List Value} {y:DataW H×List MemPlace} (h:DataW.trod enc Pg w base spare held m 24 cs=some y) (hr:Reached Pg 24 y.1):∃ d mv,cs=defCells d mv∧MsgsOf w mv d.msgs∧DefSm d:=by
 obtain ⟨hl,n,hf⟩:=struct_of_trod Tryz.underlying24 cellsDefinition h hr
 obtain ⟨y0,h0,r0⟩:=hf 0 9 0 1 rfl cellsString
 obtain ⟨y1,h1,r1⟩:=hf 1 22 1 1 rfl cellsMessages
 obtain ⟨y2,h2,r2⟩:=hf 2 9 2 1 rfl cellsString
 match cs,hl with
 | [c0,c1,c2],_ =>
  obtain ⟨a,e0,_⟩:=DataW.trod_string Tryz.underlying9 h0
  obtain ⟨v,l,e1,hS,hQ,hL⟩:=slice_of_trod (E:=EMsg) (Q:=MsgSm) Tryz.underlying22 cellsMessage bytesMessage (by decide) (fun _ _ _ h hr=>msg_of h hr) h1 r1
  obtain ⟨b,e2,_⟩:=DataW.trod_string Tryz.underlying9 h2
  simp at e0 e1 e2
  subst e0 e1 e2
  exact ⟨⟨a,l,b⟩,_,rfl,hS,hL,hQ⟩
theorem def_val {r:Reach} {b0:Nat} {v:Value} {d:DataW H} {ps:List MemPlace} (hval:Value.okWide Pg w r b0 24 v) (h:DataW.Trod enc Pg w base spare held 24 v d ps) (hr:Reached Pg 24 d):∃ f,DefVal w v f∧DefSm f:=by
 obtain ⟨cs,rfl,_⟩:=okWide_struct Tryz.underlying24 hval
 obtain ⟨fuel,hf⟩:=h
 obtain ⟨f,tv,h1,h2,hs⟩:=def_of hf hr
 exact ⟨f,⟨tv,congrArg Value.agg (by rw [← h1,cells_agg]),h2⟩,hs⟩
end
end Go.Proofs.YtfdecdnmooaegaaGreatDoor
namespace Go.Proofs.YtfdecdnmooaegaaGreatDoor
open Sw
open Go.RowKit (intOf Below)
def smallF (f:FieldD):Prop:=f.name.size≤100∧f.cases.length≤20∧f.terms.length≤6
def smallM (m:MsgD):Prop:=m.fields.length≤20∧m.name.size≤100∧∀ f∈m.fields,smallF f
def smallP (d:DefD):Prop:=d.msgs.length≤12∧∀ m∈d.msgs,smallM m
theorem all_step {α:Type} {p:α→Prop} {l:List α} {k:Nat} {x:α} (h:∀ y∈l.take k,p y) (hx:l[k]?=some x) (hp:p x):∀ y∈l.take (k+1),p y:=by
 rw [take_snoc hx]
 intro y hy
 rcases List.mem_append.1 hy with hy | hy
 · exact h y hy
 · simp only [List.mem_singleton] at hy;subst hy;exact hp
theorem lsmall_ret (w0:World) (v:Value) (d:DefD) (hd:DefVal w0 v d):Ret Pg 8 #[v] w0 fun r w'=>∃ b,r = .bool b∧(b=true→smallP d)∧Ext w0 w':=by
 obtain ⟨mv,rfl,hM⟩:=hd
 obtain ⟨A,c,rfl,hlc,hcm,hlm,hel⟩:=SliceOf.open hM
 refine n26s (R:=retR _) ?_;unfold n26
 rw [op_boxA]
 have hBW:=ElemAt.new (w:=w0) (defCells d (.slice A d.msgs.length c)) (24)
 have eW:Ext w0 (w0.alloc (Obj.cells (List.toArray (defCells d (.slice A d.msgs.length c))) (24))):=(Ext.refl _).alloc _
 generalize (w0.alloc (Obj.cells (List.toArray (defCells d (.slice A d.msgs.length c))) (24)))=W at hBW eW ⊢
 have no:∀ w,Ext W w→∃ b:Bool,Value.bool false=Value.bool b∧(b=true→smallP d)∧Ext w0 w:=fun w e=>⟨false,rfl,⟨fun h=>(by cases h),eW.trans e⟩⟩
 by_cases h1:d.msgs.length≤12
 · have d1:decide ((d.msgs.length:Int) > 12)=false:=decide_eq_false (by omega)
   by_cases h2:d.name.size≤100
   · have d2:decide ((d.name.size:Int) > 100)=false:=decide_eq_false (by omega)
     by_cases h3:d.start.size≤100
     · have d3:decide ((d.start.size:Int) > 100)=false:=decide_eq_false (by omega)
       simp (disch:=try exact DI) only [↓PR,QR,simprocAttr,hBW.c3 (Ext.refl W),d1,d2,↓n26c8,d3]
       refine loop1_intro (fun a0 w=>∃ (k:Nat) , a0 = .int .i64 (k:Int)∧k≤d.msgs.length∧Ext W w∧∀ m∈d.msgs.take k,smallM m) (fun a0 _=>d.msgs.length - (intOf a0).toNat) ⟨0,rfl,Nat.zero_le _,ee,by simp⟩ ?_
       rintro _ w ⟨k,rfl,hk,e,hI⟩
       have se:=e.size
       rcases drop_cases hk with ⟨x,hx,hd,hlt,hdec⟩ | ⟨hk,hd,hdec⟩
       · obtain ⟨b,o,cs,rfl,_,hA,fv,rfl,hF⟩:=hel k x hx
         obtain ⟨Af,cf,rfl,_,_,hlmf,helf⟩:=SliceOf.open hF
         have e':=eW.trans e
         unfold n26c7
         by_cases g1:x.fields.length≤20
         · have f1:decide ((x.fields.length:Int) > 20)=false:=decide_eq_false (by omega)
           by_cases g2:x.name.size≤100
           · have f2:decide ((x.name.size:Int) > 100)=false:=decide_eq_false (by omega)
             simp (disch:=try exact DI) only [↓PR,QR,simprocAttr,hBW.c3 e,hdec,↓n26c6,hA.c2 e',f1,f2]
             have o4:=heap_new w #[.string x.name,.slice Af x.fields.length cf] 53
             have e4:Ext w (w.alloc (.cells #[.string x.name,.slice Af x.fields.length cf] 53)):=ee
             generalize hp4:w.heap.size=p4 at o4 ⊢
             generalize (w.alloc (.cells #[.string x.name,.slice Af x.fields.length cf] 53))=w4 at o4 e4 ⊢
             refine loop1_intro (fun a0 wb=>∃ (kb:Nat) , a0 = .int .i64 (kb:Int)∧kb≤x.fields.length∧Ext w4 wb∧∀ f∈x.fields.take kb,smallF f) (fun a0 _=>x.fields.length - (intOf a0).toNat) ⟨0,rfl,Nat.zero_le _,ee,by simp⟩ ?_
             rintro _ wb ⟨kb,rfl,hkb,eb,hIb⟩
             have seb:=eb.size
             rcases drop_cases hkb with ⟨xb,hxb,hdb,hltb,hdecb⟩ | ⟨hkb,hdb,hdecb⟩
             · obtain ⟨b2,o2,cs2,rfl,_,hA2,tv,cv,rfl,hT,hC⟩:=helf kb xb hxb
               obtain ⟨At,ct,rfl,_,_,_,_⟩:=SliceOf.open hT
               obtain ⟨Ac,cc,rfl,_,_,_,_⟩:=SliceOf.open hC
               have eb':=e'.trans (e4.trans eb)
               have c4:=cells_of_heap (eb.obj o4)
               have no':=no _ (e.trans (e4.trans eb))
               unfold n26c5
               by_cases k1:xb.name.size≤100
               · have l1:decide ((xb.name.size:Int) > 100)=false:=decide_eq_false (by omega)
                 by_cases k2:xb.cases.length≤20
                 · have l2:decide ((xb.cases.length:Int) > 20)=false:=decide_eq_false (by omega)
                   by_cases k3:xb.terms.length≤6
                   · have l3:decide ((xb.terms.length:Int) > 6)=false:=decide_eq_false (by omega)
                     simp (disch:=try exact DI) only [↓PR,QR,simprocAttr,c4.1,hdecb,↓n26c4,↓n26c3,↓n26c2,↓n26c1,hA2.c15 eb',l1,l2,l3]
                     exact ⟨⟨kb+1,rfl,by omega,ee,all_step hIb hxb ⟨k1,k2,k3⟩⟩,meas_lt (kd := .i64) hltb⟩
                   · have l3:decide ((xb.terms.length:Int) > 6)=true:=decide_eq_true (by omega)
                     simp (disch:=try exact DI) only [↓PR,QR,simprocAttr,c4.1,hdecb,↓n26c4,↓n26c3,↓n26c2,↓n26c1,hA2.c15 eb',l1,l2,l3]
                     exact no'
                 · have l2:decide ((xb.cases.length:Int) > 20)=true:=decide_eq_true (by omega)
                   simp (disch:=try exact DI) only [↓PR,QR,simprocAttr,c4.1,hdecb,↓n26c4,↓n26c3,↓n26c2,↓n26c1,hA2.c15 eb',l1,l2]
                   exact no'
               · have l1:decide ((xb.name.size:Int) > 100)=true:=decide_eq_true (by omega)
                 simp (disch:=try exact DI) only [↓PR,QR,simprocAttr,c4.1,hdecb,↓n26c4,↓n26c3,↓n26c2,↓n26c1,hA2.c15 eb',l1]
                 exact no'
             · subst hkb
               rw [List.take_length] at hIb
               have c4:=cells_of_heap (eb.obj o4)
               have ee':=e.trans (e4.trans eb)
               unfold n26c5
               simp (disch:=try exact DI) only [↓PR,QR,simprocAttr,c4.1,hdecb]
               exact ⟨⟨k+1,rfl,by omega,ee,all_step hI hx ⟨g1,g2,hIb⟩⟩,meas_lt (kd := .i64) hlt⟩
           · have f2:decide ((x.name.size:Int) > 100)=true:=decide_eq_true (by omega)
             simp (disch:=try exact DI) only [↓PR,QR,simprocAttr,hBW.c3 e,hdec,↓n26c6,hA.c2 e',f1,f2]
             exact no _ (e.alloc _)
         · have f1:decide ((x.fields.length:Int) > 20)=true:=decide_eq_true (by omega)
           simp (disch:=try exact DI) only [↓PR,QR,simprocAttr,hBW.c3 e,hdec,↓n26c6,hA.c2 e',f1]
           exact no _ (e.alloc _)
       · subst hk
         rw [List.take_length] at hI
         unfold n26c7
         simp (disch:=try exact DI) only [↓PR,QR,simprocAttr,hBW.c3 e,hdec]
         exact ⟨_,rfl,fun _=>⟨h1,hI⟩,eW.trans e⟩
     · have d3:decide ((d.start.size:Int) > 100)=true:=decide_eq_true (by omega)
       simp (disch:=try exact DI) only [↓PR,QR,simprocAttr,hBW.c3 (Ext.refl W),d1,d2,↓n26c8,d3]
       exact no _ (Ext.refl _)
   · have d2:decide ((d.name.size:Int) > 100)=true:=decide_eq_true (by omega)
     simp (disch:=try exact DI) only [↓PR,QR,simprocAttr,hBW.c3 (Ext.refl W),d1,d2,↓n26c8]
     exact no _ (Ext.refl _)
 · have d1:decide ((d.msgs.length:Int) > 12)=true:=decide_eq_true (by omega)
   simp (disch:=try exact DI) only [↓PR,QR,simprocAttr,hBW.c3 (Ext.refl W),d1,↓n26c8]
   exact no _ (Ext.refl _)
theorem srefsF_len {f:FieldD} (h:smallF f):(refsF f).length≤20:=by
 unfold refsF
 split
 · simp
 · split
   · simpa using h.2.1
   · simp
theorem sallRefs_len:∀ {l:List FieldD},(∀ f∈l,smallF f)→(allRefs l).length≤l.length*20
 | [],_=>by simp [allRefs]
 | f::l,h=>by
  have h1:=srefsF_len (h f (List.mem_cons_self ..))
  have h2:=sallRefs_len (l:=l) (fun g hg=>h g (List.mem_cons_of_mem _ hg))
  unfold allRefs at *
  rw [List.flatMap_cons,List.length_append,List.length_cons]
  omega
section
variable {d:DefD}
theorem small_calm (h:smallP d):calm d:=fun m hm=>by
 obtain ⟨h1,_,h3⟩:=h.2 m hm
 have:=sallRefs_len h3
 exact ⟨by omega,fun f hf=>by have:=(h3 f hf).2.2;omega⟩
theorem small_tame (h:smallP d):tame d:=⟨by have:=h.1;omega,fun m hm=>⟨by have:=(h.2 m hm).1;omega,fun f hf=>⟨by have:=((h.2 m hm).2.2 f hf).2.2;omega,by have:=((h.2 m hm).2.2 f hf).2.1;omega⟩⟩⟩
theorem small_names (h:smallP d):Names100 d:=fun m hm=>⟨(h.2 m hm).2.1,fun f hf=>((h.2 m hm).2.2 f hf).1⟩
theorem small_lenK {l:List FieldD} (h:∀ f∈l,smallF f):∀ k,lenK l k≤k*21
 | 0=>Nat.le_refl _
 | k+1=>by
  have:=small_lenK h k
  unfold lenK
  cases hf:l[k]? with
  | none=>simp;omega
  | some f =>
   have:=(h f (List.mem_of_getElem? hf)).2.1
   have:lenF f≤21:=by unfold lenF;split<;>omega
   simp only
   omega
theorem small_rout {l:List MsgD} (h:∀ m∈l,smallM m) (r:Nat→Bool):∀ k,routN l r k≤2+k*422
 | 0=>Nat.le_refl _
 | k+1=>by
  have:=small_rout h r k
  unfold routN
  cases hm:l[k]? with
  | none=>simp;omega
  | some m =>
   obtain ⟨h1,_,h3⟩:=h m (List.mem_of_getElem? hm)
   have h4:=small_lenK h3 m.fields.length
   have:lenM m≤422:=by unfold lenM;omega
   simp only
   split<;>omega
theorem small_size (h:smallP d):sizeP d≤100000:=by
 have:=small_rout h.2 (reachD d) d.msgs.length
 have:=h.1
 unfold sizeP
 omega
end
theorem ProgAt.base {w:World} {lo lo' pb:Nat} {d:DefD} (h:ProgAt w lo pb d) (hl:lo'≤lo):ProgAt w lo' pb d:=by
 obtain ⟨mc,cv,rm,gm,h1,h2,h3,h4,h5,h6,h7,h8⟩:=h
 exact ⟨mc,cv,rm,gm,h1,by omega,by omega,by omega,h5.mono hl (Nat.le_refl _),OwnE.base h6 hl,h7,h8⟩
theorem num_ret (w0:World) (v:Value):Ret Pg 15 #[v] w0 fun r w'=>r=v∧Ext w0 w':=by
 refine n24s (R:=retR _) ?_;unfold n24
 exact ⟨_,rfl,rfl,Ext.refl _⟩
theorem made_ret (w0:World) (v:Value) (d:DefD) (hd:DefVal w0 v d) (ht:calm d) (htm:tame d) (hz:sizeP d≤100000):Ret Pg 10 #[v] w0 fun r w'=>(if flawedA d then r = .tuple #[.pointer none,.bool true] else ∃ pb,r = .tuple #[.pointer (some ⟨pb,0,none⟩),.bool true]∧ProgAt w' w0.heap.size pb d)∧Ext w0 w':=by
 obtain ⟨mv,rfl,hM⟩:=hd
 have hm1:=SliceOf.oneCell hM
 refine n22s (R:=retR _) ?_;unfold n22
 rw [op_boxA]
 have o1:=heap_new w0 (defCells d mv).toArray 24
 have eW:Ext w0 (w0.alloc (.cells (defCells d mv).toArray 24)):=ee
 generalize (w0.alloc (.cells (defCells d mv).toArray 24))=W at o1 eW ⊢
 generalize hp1:w0.heap.size=p1 at o1 ⊢
 simp (disch:=try exact DI) only [↓PR,QR,simprocAttr,(cells_of_heap o1).1]
 refine callK_ret (Compile_ret W _ d ⟨mv,rfl,hM.ext eW⟩ ht htm hz) ?_
 rintro rv w1 ⟨hr,e1⟩
 have E1:=eW.trans e1
 cases hfl:flawedA d with
 | true =>
  rw [hfl,if_pos rfl] at hr
  subst hr
  simp (disch:=try exact DI) only [↓PR,QR,simprocAttr,↓n22c3,(cells_of_heap (e1.obj o1)).1]
  refine zcr (Aligned_ret _ d ⟨_,rfl,hM.ext E1⟩ ht) fun w2 e2=>?_
  rw [hfl]
  simp (disch:=try exact DI) only [↓PR,QR,simprocAttr,↓n22c1]
  rw [op_eqNilP Tryz.underlying27]
  simp (disch:=try exact DI) only [↓PR,QR,simprocAttr,Option.isNone_none]
  refine zcr (num_ret _ _) fun w3 e3=>?_
  simp (disch:=try exact DI) only [↓PR,QR,simprocAttr]
  exact ⟨_,rfl,by rw [if_pos rfl],E1.trans (e2.trans e3)⟩
 | false =>
  rw [hfl,if_neg (by decide)] at hr
  obtain ⟨pb,rfl,hP⟩:=hr
  simp (disch:=try exact DI) only [↓PR,QR,simprocAttr,↓n22c3,(cells_of_heap (e1.obj o1)).1]
  refine zcr (Aligned_ret _ d ⟨_,rfl,hM.ext E1⟩ ht) fun w2 e2=>?_
  rw [hfl]
  simp (disch:=try exact DI) only [↓PR,QR,simprocAttr,↓n22c2]
  rw [op_neNilP Tryz.underlying27]
  simp (disch:=try exact DI) only [↓PR,QR,simprocAttr,Option.isNone_some]
  refine zcr (num_ret _ _) fun w3 e3=>?_
  simp only [Option.isNone_some,Bool.not_false]
  simp (disch:=try exact DI) only [↓PR,QR,simprocAttr]
  exact ⟨⟨pb,rfl,(hP.ext (e2.trans e3)).base (by have:=eW.size;omega)⟩,E1.trans (e2.trans e3)⟩
def zFd:FieldD:={ name:=ByteArray.empty,kind:=0,bits:=0,little:=false,loose:=false,low:=0,high:=0,base:=0,terms:=[],of:=ByteArray.empty,tag:=ByteArray.empty,fr:=ByteArray.empty,cases:=[],check:=0,key:=0 }
def fAx:FieldD:={ zFd with name:=⟨#[120]⟩,kind:=1,bits:=8,high:=1 }
def fBz:FieldD:={ zFd with name:=⟨#[122]⟩,kind:=2,bits:=8 }
def fSn:FieldD:={ zFd with name:=⟨#[110]⟩,kind:=1,bits:=8,high:=3 }
def fSt:FieldD:={ zFd with name:=⟨#[116]⟩,kind:=2,bits:=8,low:=2 }
def fSl:FieldD:={ zFd with name:=⟨#[108]⟩,kind:=7,of:=⟨#[97]⟩,terms:=[⟨⟨#[110]⟩,1⟩] }
def fSc:FieldD:={ zFd with name:=⟨#[99]⟩,kind:=9,tag:=⟨#[116]⟩,cases:=[⟨2,2,⟨#[97]⟩⟩] }
def xA:MsgD:=⟨⟨#[97]⟩,[fAx]⟩
def xB:MsgD:=⟨⟨#[98]⟩,[fBz]⟩
def xS:MsgD:=⟨⟨#[115]⟩,[fSn,fSt,fSl,fSc]⟩
def gv18:DefD:=⟨⟨#[100]⟩,[xA,xB,xS],⟨#[115]⟩⟩
theorem gv_small:smallP gv18:=by
 refine ⟨by decide,?_⟩
 intro m hm
 simp only [gv18,List.mem_cons,List.not_mem_nil,or_false] at hm
 rcases hm with rfl | rfl | rfl
 all_goals
  refine ⟨by decide,by decide,?_⟩
  intro f hf
  simp only [xA,xB,xS,List.mem_cons,List.not_mem_nil,or_false] at hf
  rcases hf with rfl | rfl | rfl | rfl<;>exact ⟨by decide,by decide,by decide⟩
theorem gv_ok:flawedA gv18=false:=by decide +kernel
theorem gv_size:sizeP gv18=12:=by decide +kernel
theorem gv_rs:routE gv18 ⟨#[115]⟩=some 5:=by decide +kernel
theorem gv_gs:regE gv18 ⟨#[115]⟩=some 2:=by decide +kernel
theorem gv_ga:regE gv18 ⟨#[97]⟩=some 0:=by decide +kernel
theorem gv_rb:routE gv18 ⟨#[98]⟩=none:=by decide +kernel
theorem gv_text:textN gv18 (codeP gv18) 12=⟨#[48,32,99,97,108,108,32,53,10,49,32,115,116,111,112,10,50,32,101,110,116,101,114,32,97,10,51,32,114,101,97,100,32,97,46,120,10,52,32,114,101,116,117,114,110,32,97,10,53,32,101,110,116,101,114,32,115,10,54,32,114,101,97,100,32,115,46,110,32,114,48,10,55,32,114,101,97,100,32,115,46,116,32,114,49,10,56,32,109,97,110,121,32,115,46,108,32,50,10,57,32,115,101,108,101,99,116,32,115,46,99,10,49,48,32,99,97,115,101,32,50,45,50,32,50,10,49,49,32,114,101,116,117,114,110,32,115]⟩:=by decide +kernel
theorem rows_given {α:Type} {w:World} {b n:Nat} {T:TypeId} {E:World→List Value→α→Prop} (css:List (List Value)) (l:List α) (hn0:0 < n) (h:w.heap[b]?=some (.cells css.flatten.toArray T (0,0))) (hn:∀ cs∈css,cs.length=n) (hl:l.length=css.length) (hb:l.length≤1048576) (hE:∀ (k:Nat) cs x,css[k]?=some cs→l[k]?=some x→E w cs x):SliceOf w n E (.slice (some ⟨b,0,none⟩) l.length l.length) l:=by
 refine ⟨_,_,rfl,Nat.le_refl _,by omega,fun _=>⟨b,0,rfl,fun k x hx=>?_⟩⟩
 obtain ⟨cs,hcs⟩:=getElem?_lt (l:=css) (k:=k) (by have:=(List.getElem?_eq_some_iff.1 hx).1;omega)
 refine ⟨cs,hn cs (List.mem_of_getElem? hcs),fun j u hu=>?_,hE k cs x hcs hx⟩
 rw [(cells_of_heap h).1]
 have hj:j < n:=by have:=(List.getElem?_eq_some_iff.1 hu).1;rw [hn cs (List.mem_of_getElem? hcs)] at this;exact this
 have key:∀ (css:List (List Value)) (k:Nat),(∀ cs∈css,cs.length=n)→css[k]?=some cs→css.flatten[k*n+j]?=some u:=by
  intro css
  induction css with
  | nil=>intro k _ h;cases h
  | cons c css ih =>
   intro k hn h
   have hc:=hn c (List.mem_cons_self ..)
   cases k with
   | zero =>
    injection h with h
    subst h
    rw [List.flatten_cons,Nat.zero_mul,Nat.zero_add,List.getElem?_append_left (by omega)]
    exact hu
   | succ k =>
    rw [List.flatten_cons,List.getElem?_append_right (by rw [hc,Nat.succ_mul];omega),hc,show (k+1)*n+j - n=k*n+j by rw [Nat.succ_mul];omega]
    exact ih k (fun cs hm=>hn cs (List.mem_cons_of_mem _ hm)) h
 have:=key css k hn hcs
 simpa using this
theorem given18_ret (w0:World):Ret Pg 30 #[] w0 fun r w'=>DefVal w' r gv18∧Ext w0 w':=by
 refine n20s (R:=retR _) ?_;unfold n20
 simp (disch:=try exact DI) only [↓PR,QR,simprocAttr]
 generalize hn:w0.heap.size=n
 refine ⟨⟨_,rfl,?_⟩,ee⟩
 subst hn
 have r1:∀ (f:FieldD) (k:Nat) (cs:List Value) (x:FieldD) (w:World),f.terms=[]→f.cases=[]→[fieldCells f (.slice none 0 0) (.slice none 0 0)][k]?=some cs→[f][k]?=some x→EField w cs x:=fun f k cs x w ht hc h1 h2=>by
  match k with
  | 0=>injection h1 with h1;injection h2 with h2;subst h1 h2;exact ⟨_,_,rfl,by rw [ht];exact SliceOf.nil _ _ _,by rw [hc];exact SliceOf.nil _ _ _⟩
 refine rows_given (T:=53) [msgCells xA (.slice (some ⟨w0.heap.size+1,0,none⟩) 1 1),msgCells xB (.slice (some ⟨w0.heap.size+3,0,none⟩) 1 1),msgCells xS (.slice (some ⟨w0.heap.size+7,0,none⟩) 4 4)] gv18.msgs (by decide) (by simp (disch:=try exact DI) only [↓PR,QR,simprocAttr];rfl) (by simp [msgCells]) rfl (by decide) fun k cs x h1 h2=>?_
 match k with
 | 0 =>
  injection h1 with h1;injection h2 with h2;subst h1 h2
  exact ⟨_,rfl,rows_given [fieldCells fAx (.slice none 0 0) (.slice none 0 0)] [fAx] (by decide) (by simp (disch:=try exact DI) only [↓PR,QR,simprocAttr];rfl) (by simp [fieldCells]) rfl (by decide) fun k cs x h1 h2=>r1 fAx k cs x _ rfl rfl h1 h2⟩
 | 1 =>
  injection h1 with h1;injection h2 with h2;subst h1 h2
  exact ⟨_,rfl,rows_given [fieldCells fBz (.slice none 0 0) (.slice none 0 0)] [fBz] (by decide) (by simp (disch:=try exact DI) only [↓PR,QR,simprocAttr];rfl) (by simp [fieldCells]) rfl (by decide) fun k cs x h1 h2=>r1 fBz k cs x _ rfl rfl h1 h2⟩
 | 2 =>
  injection h1 with h1;injection h2 with h2;subst h1 h2
  refine ⟨_,rfl,rows_given [fieldCells fSn (.slice none 0 0) (.slice none 0 0),fieldCells fSt (.slice none 0 0) (.slice none 0 0),fieldCells fSl (.slice (some ⟨w0.heap.size+5,0,none⟩) 1 1) (.slice none 0 0),fieldCells fSc (.slice none 0 0) (.slice (some ⟨w0.heap.size+6,0,none⟩) 1 1)] xS.fields (by decide) (by simp (disch:=try exact DI) only [↓PR,QR,simprocAttr];rfl) (by simp [fieldCells]) rfl (by decide) fun k cs x h1 h2=>?_⟩
  match k with
  | 0=>injection h1 with h1;injection h2 with h2;subst h1 h2;exact ⟨_,_,rfl,SliceOf.nil _ _ _,SliceOf.nil _ _ _⟩
  | 1=>injection h1 with h1;injection h2 with h2;subst h1 h2;exact ⟨_,_,rfl,SliceOf.nil _ _ _,SliceOf.nil _ _ _⟩
  | 2 =>
   injection h1 with h1;injection h2 with h2;subst h1 h2
   refine ⟨_,_,rfl,?_,SliceOf.nil _ _ _⟩
   exact rows_given (T:=113) [termCells ⟨⟨#[110]⟩,1⟩] fSl.terms (by decide) (by simp (disch:=try exact DI) only [↓PR,QR,simprocAttr];rfl) (by simp [termCells]) rfl (by decide) fun k cs x h1 h2=>by
    match k with
    | 0=>injection h1 with h1;injection h2 with h2;subst h1 h2;rfl
  | 3 =>
   injection h1 with h1;injection h2 with h2;subst h1 h2
   refine ⟨_,_,rfl,SliceOf.nil _ _ _,?_⟩
   exact rows_given (T:=85) [caseCells ⟨2,2,⟨#[97]⟩⟩] fSc.cases (by decide) (by simp (disch:=try exact DI) only [↓PR,QR,simprocAttr];rfl) (by simp [caseCells]) rfl (by decide) fun k cs x h1 h2=>by
    match k with
    | 0=>injection h1 with h1;injection h2 with h2;subst h1 h2;rfl
theorem known18_ret (w0:World) (hT:TabOK w0):Ret Pg 9 #[] w0 fun r w'=>r = .bool true∧Ext w0 w':=by
 have hz:sizeP gv18≤100000:=small_size gv_small
 have hcv:=aligned_valid gv_ok
 refine n21s (R:=retR _) ?_;unfold n21
 refine callK_ret (given18_ret w0) ?_
 rintro gv w1 ⟨hD,e1⟩
 refine callK_ret (Compile_ret w1 _ gv18 hD (small_calm gv_small) (small_tame gv_small) hz) ?_
 rintro _ w2 ⟨hr,e2⟩
 rw [gv_ok,if_neg (by decide)] at hr
 obtain ⟨pb,rfl,hP⟩:=hr
 have E2:=e1.trans e2
 simp (disch:=try exact DI) only [↓PR,QR,simprocAttr,↓n21c15]
 refine zcr (num_ret _ _) fun w3 e3=>?_
 have P3:=hP.ext e3
 simp (disch:=try exact DI) only [↓PR,QR,simprocAttr,↓n21c14]
 rw [op_eqNilP Tryz.underlying27]
 simp only [Option.isNone_some]
 simp (disch:=try exact DI) only [↓PR,QR,simprocAttr,↓n21c13]
 refine zcr (Routine_ret P3 ⟨#[115]⟩) fun w4 e4=>?_
 rw [gv_rs]
 have P4:=P3.ext e4
 simp (disch:=try exact DI) only [↓PR,QR,simprocAttr,↓n21c12,Option.getD_some,Option.isSome_some]
 refine zcr (Registers_ret P4 ⟨#[115]⟩) fun w5 e5=>?_
 rw [gv_gs]
 have P5:=P4.ext e5
 simp (disch:=try exact DI) only [↓PR,QR,simprocAttr,↓n21c11,Option.getD_some,Option.isSome_some]
 refine zcr (Registers_ret P5 ⟨#[97]⟩) fun w6 e6=>?_
 rw [gv_ga]
 have P6:=P5.ext e6
 simp (disch:=try exact DI) only [↓PR,QR,simprocAttr,↓n21c10,Option.getD_some,Option.isSome_some]
 refine zcr (Routine_ret P6 ⟨#[98]⟩) fun w7 e7=>?_
 rw [gv_rb]
 have P7:=P6.ext e7
 simp (disch:=try exact DI) only [↓PR,QR,simprocAttr,↓n21c9,Option.getD_none,Option.isSome_none]
 refine zcr (Len_ret P7) fun w8 e8=>?_
 rw [gv_size]
 have P8:=P7.ext e8
 simp (disch:=try exact DI) only [↓PR,QR,simprocAttr,↓n21c8,↓n21c7,↓n21c6,↓n21c5]
 simp only [Option.isSome_some,Option.isSome_none,Bool.false_eq_true,if_true,if_false]
 refine zcr (num_ret _ _) fun w9 e9=>?_
 refine zcr (num_ret _ _) fun w10 e10=>?_
 have a10:IntKind.i64.wrap ((0:Int)+0)=0:=by decide
 simp (disch:=try exact DI) only [↓PR,QR,simprocAttr,↓n21c4,a10]
 refine zcr (num_ret _ _) fun w11 e11=>?_
 simp (disch:=try exact DI) only [↓PR,QR,simprocAttr,a10,↓n21c3]
 refine zcr (num_ret _ _) fun w12 e12=>?_
 have e812:=e9.trans (e10.trans (e11.trans e12))
 have E12:=(E2.trans (e3.trans (e4.trans (e5.trans (e6.trans (e7.trans e8)))))).trans e812
 simp (disch:=try exact DI) only [↓PR,QR,simprocAttr,↓n21c2]
 refine zcr (Text_ret (P8.ext e812) (hT.ext E12) (small_names gv_small) hcv hz) fun w13 e13=>?_
 rw [gv_size,gv_text]
 simp (disch:=try exact DI) only [↓PR,QR,simprocAttr,↓n21c1]
 exact ⟨by trivial,E12.trans e13⟩
def n19c1 (t79 t83:Value) (R:RT) (w:World):Prop :=
 pickK t79 t83 (.bool false) fun t84 =>
 joinK (fun (t86:Value) (w:World) =>
 pickK t84 t86 (.bool false) fun t87 =>
 R (.returned t87) w) fun K7 =>
 guardP t84 true (
 callK Pg 9 #[] (panK R) w fun t86 w =>
 K7 t86 w) (
 K7 undef w)
def n19c2 (t33 t68 t73 t78:Value) (R:RT) (w:World):Prop :=
 pickK t73 t78 (.bool false) fun t79 =>
 joinK (fun (t83:Value) (w:World) =>
 n19c1 t79 t83 R w) fun K6 =>
 guardP t79 true (
 callK Pg 18 #[t68,t33,(.int .i64 99999)] (panK R) w fun t83 w =>
 K6 t83 w) (
 K6 undef w)
def n19c3 (t2 t33 t68 t70:Value) (R:RT) (w:World):Prop :=
 opV Pg (Builtin.len_ #[32] 3 #[t33]) (panK R) w fun t72 w =>
 opV Pg (binS .eql 3 false t70 t72) (panK R) w fun t73 w =>
 joinK (fun (t78:Value) (w:World) =>
 n19c2 t33 t68 t73 t78 R w) fun K5 =>
 guardP t73 true (
 callK Pg 18 #[t68,t33,t2] (panK R) w fun t78 w =>
 K5 t78 w) (
 K5 undef w)
def n19c4 (t1 t10 t33 t39:Value) (C9:World→Prop) (K4:World→Prop) (R:RT) (w:World):Prop :=
 qV Pg C9 (Instr.loadAt 36 t10) fun t56 =>
 qV Pg C9 (Instr.indexAt 32 t33 t1) fun t59 =>
 qV Pg C9 (Instr.loadAt 36 t59) fun t60 =>
 qV Pg C9 (binS .neq 36 false t56 t60) fun t61 =>
 joinK (fun (t65:Value) (w:World) =>
 pickK t61 (.bool true) t65 fun t66 =>
 condP t66 (
 R (.returned (.bool false)) w) (
 K4 w)) fun K10 =>
 guardP t61 false (
 callK Pg 15 #[t39] (panK R) w fun t64 w =>
 C9 w∧(
 qV Pg C9 (binS .neq 3 true t64 (.int .i64 0)) fun t65 =>
 K10 t65 w)) (
 K10 undef w)
def n19c5 (t10 t39:Value) (K4:World→Prop) (R:RT) (w:World):Prop :=
 opV Pg (Instr.loadAt 36 t10) (panK R) w fun t48 w =>
 opV Pg (Instr.build 36 #[]) (panK R) w fun t49 w =>
 opV Pg (binS .neq 36 false t48 t49) (panK R) w fun t50 w =>
 joinK (fun (t54:Value) (w:World) =>
 pickK t50 (.bool true) t54 fun t55 =>
 condP t55 (
 R (.returned (.bool false)) w) (
 K4 w)) fun K8 =>
 guardP t50 false (
 callK Pg 15 #[t39] (panK R) w fun t53 w =>
 opV Pg (binS .neq 3 true t53 (.int .i64 3)) (panK R) w fun t54 w =>
 K8 t54 w) (
 K8 undef w)
def n19c6 (t1 t2 t10 t20 t33 t39 t41 t46:Value) (R:RT) (w:World):Prop :=
 pickK t41 (.bool true) t46 fun t47 =>
 joinK (fun (w:World) =>
 callK Pg 16 #[t20] (panK R) w fun t68 w =>
 callK Pg 17 #[t20] (panK R) w fun t70 w =>
 n19c3 t2 t33 t68 t70 R w) fun K4 =>
 condP t47 (
 n19c5 t10 t39 K4 R w) (
 drawK w fun C9 w =>
 n19c4 t1 t10 t33 t39 C9 K4 R w)
def n19c7 (t1 t2 t20 t33 t37:Value) (R:RT) (w:World):Prop :=
 opV Pg (Instr.extract t37 0) (panK R) w fun t38 w =>
 opV Pg (Instr.extract t37 1) (panK R) w fun t39 w =>
 opV Pg (Instr.alloc 36 true (.tuple #[])) (panK R) w fun t10 w =>
 opU Pg (Instr.storeAt 36 t10 t38) (panK R) w fun w =>
 opV Pg (binS .lss 3 true t1 (.int .i64 0)) (panK R) w fun t41 w =>
 joinK (fun (t46:Value) (w:World) =>
 n19c6 t1 t2 t10 t20 t33 t39 t41 t46 R w) fun K3 =>
 guardP t41 false (
 opV Pg (Builtin.len_ #[32] 3 #[t33]) (panK R) w fun t45 w =>
 opV Pg (binS .geq 3 false t1 t45) (panK R) w fun t46 w =>
 K3 t46 w) (
 K3 undef w)
def n19c8 (t21:Value) (R:RT) (w:World):Prop :=
 joinK (fun (t30:Value) (w:World) =>
 pickK t21 t30 (.bool false) fun t31 =>
 R (.returned t31) w) fun K2 =>
 guardP t21 true (
 callK Pg 9 #[] (panK R) w fun t30 w =>
 K2 t30 w) (
 K2 undef w)
def n19c9 (t1 t2 t3 t20:Value) (R:RT) (w:World):Prop :=
 opV Pg (Instr.loadAt 24 t3) (panK R) w fun t32 w =>
 callK Pg 13 #[t32] (panK R) w fun t33 w =>
 callK Pg 14 #[t20,t1] (panK R) w fun t37 w =>
 n19c7 t1 t2 t20 t33 t37 R w
def n19c10 (t1 t2 t3 t19:Value) (R:RT) (w:World):Prop :=
 opV Pg (Instr.extract t19 0) (panK R) w fun t20 w =>
 opV Pg (Instr.extract t19 1) (panK R) w fun t21 w =>
 opV Pg (binS .eql 27 true t20 (Value.pointer none)) (panK R) w fun t23 w =>
 joinK (fun (t26:Value) (w:World) =>
 pickK t23 (.bool true) t26 fun t27 =>
 condP t27 (
 n19c8 t21 R w) (
 n19c9 t1 t2 t3 t20 R w)) fun K1 =>
 guardP t23 false (
 opV Pg (Op.unary .not t21) (panK R) w fun t26 w =>
 K1 t26 w) (
 K1 undef w)
def n19c11 (t1 t2 t3 t14:Value) (R:RT) (w:World):Prop :=
 opV Pg (Op.unary .not t14) (panK R) w fun t15 w =>
 condP t15 (
 callK Pg 9 #[] (panK R) w fun t16 w =>
 R (.returned t16) w) (
 opV Pg (Instr.loadAt 24 t3) (panK R) w fun t18 w =>
 callK Pg 10 #[t18] (panK R) w fun t19 w =>
 n19c10 t1 t2 t3 t19 R w)
def n19 (t0 t1 t2:Value) (R:RT) (w:World):Prop :=
 opV Pg (Instr.box 24 t0) (panK R) w fun t3 w =>
 opV Pg (Instr.loadAt 24 t3) (panK R) w fun t13 w =>
 callK Pg 8 #[t13] (panK R) w fun t14 w =>
 n19c11 t1 t2 t3 t14 R w
set_option maxHeartbeats 40000000 in
theorem n19s {t0 t1 t2:Value} {R:RT} {w:World} (h:n19 t0 t1 t2 R w):Calls Pg 4 #[t0,t1,t2] w R:=by
 refine yD Tryz.func4 ?_
 refine zs<|zr<|yv h fun _ w h=>zm<|zn<|zk<|zs<|zs<|zr<|yv h fun _ w h=>yc h c8 fun _ w h=>yv h fun _ w h=>zn<|zk<|yC h (fun h=>zs<|zr<|yc h c9 fun _ w h=>zm<|zn<|zk<|sim_ret<|sim_then_ret<|body_ret1 rfl rfl h) fun h=>?_
 refine sim_skip<|zk<|zs<|zr<|yv h fun _ w h=>yc h c10 fun _ w h=>zm<|yv h fun _ w h=>yv h fun _ w h=>zm<|zm<|zn<|zk<|zs<|zs ?_
 refine sim_regionG<|yG 3<|zm<|yb h fun _ w h=>zm<|zn<|yg1 2 2 false [25,26] 26 h (fun _ T hT h=>?_) fun σ w h=>?_
 · refine zm<|yv h fun _ w h=>zn ?_
   exact zt hT h
 refine yG 1<|yp h fun _ h=>zn<|sim_end<|zk<|yC h (fun h=>?_) fun h=>?_
 · refine zs<|sim_regionG<|yG 2<|zm<|zm<|zn<|yg1 1 1 true [30] 30 h (fun _ T hT h=>?_) fun σ w h=>?_
   · refine yc h c9 fun _ w h=>zn ?_
     exact zt hT h
   exact yG 2<|yp h fun _ h=>zm<|zn<|sim_end<|zk<|sim_ret<|sim_then_ret<|body_ret1 rfl rfl h
 refine sim_skip<|zk<|zs<|zr<|yv h fun _ w h=>yc h c13 fun _ w h=>zm<|zn<|zk<|zs<|zr<|zm<|zm<|yc h c14 fun _ w h=>zm ?_
 refine yv h fun _ w h=>yv h fun _ w h=>yv h fun _ w h=>yu h fun w h=>zm<|zn<|zk<|zs<|zs<|sim_regionG<|yG 3<|zm<|yb h fun _ w h=>zm<|zn ?_
 refine yg1 4 2 false [43,44,45,46] 46 h (fun _ T hT h=>?_) fun σ w h=>?_
 · refine zm<|zm<|yx h fun _ w h=>yb h fun _ w h=>zn ?_
   exact zt hT h
 refine yG 1<|yp h fun _ h=>zn<|sim_end<|zk<|yJ0 [6,48,49,50,51,52,53,54,55,56,57,58,59,60,61,62,63,64,65,66] h (fun _ _ hkK4 h=>?_) fun σ w h=>?_
 · refine yC h (fun h=>?_) fun h=>?_
   · refine zs<|sim_regionG<|yG 4<|yv h fun _ w h=>yB h fun _ w h=>yb h fun _ w h=>zm<|zn<|yg1 3 3 false [52,53,54] 54 h (fun _ T hT h=>?_) fun σ w h=>?_
     · refine zm<|yc h c15 fun _ w h=>yb h fun _ w h=>zn ?_
       exact zt hT h
     refine yG 1<|yp h fun _ h=>zn<|sim_end<|zk<|yC h (fun h=>zs<|zr<|zm<|zn<|zk<|sim_ret<|sim_then_ret<|sim_then_ret<|body_ret1 rfl rfl h) fun h=>sim_skip<|zk ?_
     exact zt hkK4 h
   refine zs<|yh [56,57,58,59,60,61,62,63,64,65,66] h fun C hC h=>ye 0 hC h fun _ h=>?_
   refine yw 1 hC ?_
   refine yw 2 hC ?_
   refine ye 3 hC h fun _ h=>?_
   refine ye 4 hC h fun _ h=>?_
   refine ye 5 hC h fun _ h=>?_
   refine yw 6 hC ?_
   refine yj1 1 [9,8,7,6,5,4,3,2,1,0] [63,64,65] 65 h (fun _ hT hb h=>?_) (fun _ hT hb h=>?_) fun σ w hC h=>?_
   · refine yw 7 hC ?_
     refine yo 8 ?_
     refine yc h c15 fun _ w h=>zn ?_
     obtain ⟨hC,h⟩:=h
     refine ⟨hC,?_⟩
     refine ye 9 hC h fun _ h=>?_
     exact yt hT hC h
   · refine yi 7 hC ?_
     refine yi 8 hC ?_
     refine yi 9 hC ?_
     exact yt hT hC h
   refine yP 10 hC h fun _ h=>?_
   refine yz<|zk<|yC h (fun h=>zs<|zr<|zm<|zn<|zk<|sim_ret<|sim_then_ret<|sim_then_ret<|body_ret1 rfl rfl h) fun h=>sim_skip<|zk ?_
   exact zt hkK4 h
 refine zk<|zs<|zr<|zm<|yc h c16 fun _ w h=>zm<|zn<|zk<|zs<|sim_regionG<|yG 6<|zm<|yc h c17 fun _ w h=>zm<|yx h fun _ w h=>?_
 refine yb h fun _ w h=>zm<|zn<|yg1 4 5 true [75,76,77,78] 78 h (fun _ T hT h=>?_) fun σ w h=>?_
 · refine zm<|zm<|zm<|yc h c18 fun _ w h=>zn ?_
   exact zt hT h
 refine yG 2<|yp h fun _ h=>zm<|zn<|yg1 3 11 true [81,82,83] 83 h (fun _ T hT h=>?_) fun σ w h=>?_
 · refine zm<|zm<|yc h c18 fun _ w h=>zn ?_
   exact zt hT h
 refine yG 2<|yp h fun _ h=>zm<|zn<|yg1 1 16 true [86] 86 h (fun _ T hT h=>?_) fun σ w h=>?_
 · refine yc h c9 fun _ w h=>zn ?_
   exact zt hT h
 exact yG 2<|yp h fun _ h=>zm<|zn<|sim_end<|zk<|sim_ret<|body_ret1 rfl rfl h
theorem over_ret (w0:World) (e:Nat) (v sv:Value) (l:List InsD) (many:Int) (hI:InsAt e v l w0) (hS:SliceOf w0 6 EIns sv l) (hl:l.length≤100000):Ret Pg 18 #[.func (.func 38) #[] #[.pointer (some ⟨e,0,none⟩)],sv,.int .i64 many] w0 fun r w'=>r = .bool true∧Ext w0 w':=by
 have hs1:=SliceOf.oneCell hS
 obtain ⟨A,c,rfl,_,_,_,_⟩:=SliceOf.open hS
 refine n25s (R:=retR _) ?_;unfold n25
 dsimp only
 simp (disch:=try exact DI) only [↓PR,QR,simprocAttr]
 generalize hV:World.alloc (World.alloc (World.alloc w0 _) _) _=V
 have eV:Ext w0 V:=by rw [← hV];exact ee
 have o4:V.heap[w0.heap.size]?=some (.cells #[.slice A l.length c] 32 (0,0)):=by rw [← hV];simp (disch:=try exact DI) only [↓PR,QR,simprocAttr]
 have o5:V.heap[w0.heap.size+1]?=some (.cells #[.int .i64 many] 3 (0,0)):=by rw [← hV];simp (disch:=try exact DI) only [↓PR,QR,simprocAttr]
 have o6:V.heap[w0.heap.size+1+1]?=some (.cells #[.bool false] 4 (0,0)):=by rw [← hV];simp (disch:=try exact DI) only [↓PR,QR,simprocAttr]
 clear hV
 have s6:=(Array.getElem?_eq_some_iff.1 o6).1
 unfold n25c7
 simp (disch:=try exact DI) only [↓PR,QR,simprocAttr]
 generalize hV:World.alloc V _=U
 have eU:Ext V U:=by rw [← hV];exact ee
 have o7:U.heap[V.heap.size]?=some (.cells #[.int .i64 0] 3 (0,0)):=by rw [← hV];exact heap_new _ _ _
 clear hV
 have s7:=(Array.getElem?_eq_some_iff.1 o7).1
 have EU:=eV.trans eU
 have x4:=eU.obj o4
 have x5:=eU.obj o5
 have x6:=eU.obj o6
 generalize hp4:w0.heap.size=p4 at *
 generalize hp5:p4+1=p5 at *
 generalize hp6:p5+1=p6 at *
 generalize hp7:V.heap.size=p7 at *
 let St:Nat→World→Prop:=fun k w=>Save p7 (p7+1) U w∧w.heap[p7]?=some (.cells #[.int .i64 (k:Int)] 3 (0,0))
 have hSt:∀ k,Lasts2 U.heap.size (St k):=fun k=>(lasts2_sv (Nat.le_refl _)).and (Lasts2.low (by omega) _)
 let I:Nat→World→Prop:=fun k w=>k≤l.length∧(0 < k→(k:Int) < many)∧St k w
 let Ix:Nat→World→Prop:=fun cc w=>cc=1∧∃ k:Nat,1≤k∧k≤l.length∧many≤k∧(k=1∨((k:Int) - 1) < many)∧St k w
 have hat:∀ w',Save p7 (p7+1) U w'→Ext w0 w':=fun w' hs=>hs.to_ext EU (by omega)
 have hLI:∀ k,Lasts2 U.heap.size (I k):=fun k=>(Lasts2.const _ _).and ((Lasts2.const _ _).and (hSt k))
 have hLX:∀ cc,Lasts2 U.heap.size (Ix cc):=fun cc=>(Lasts2.const _ _).and (.ex fun k=>(Lasts2.const _ _).and ((Lasts2.const _ _).and ((Lasts2.const _ _).and ((Lasts2.const _ _).and (hSt k)))))
 have fin:∀ (k:Nat) (w:World) (B:Nat),B=U.heap.size→St k w→MarkAt B w→((k:Int) == if (if many > 1 then many else 1) < (l.length:Int) then if many > 1 then many else 1 else (l.length:Int))=true→n25c5 (.pointer (some ⟨p4,0,none⟩)) (.pointer (some ⟨p5,0,none⟩)) (.pointer (some ⟨p6,0,none⟩)) (.pointer (some ⟨p7,0,none⟩)) (Sw.mark B::[]) (retR fun r w'=>r = .bool true∧Ext w0 w') w:=by
  intro k w B hB hst hmk hk
  have c4:=cells_of_heap (hst.1.obj x4 (.inl (by omega)))
  have c5:=cells_of_heap (hst.1.obj x5 (.inl (by omega)))
  have q6:=hst.1.obj x6 (.inl (by omega))
  have c6:=cells_of_heap q6
  have c7:=cells_of_heap hst.2
  unfold n25c5
  simp (disch:=try exact DI) only [↓PR,QR,simprocAttr,c4.1,c5.1,c7.1,c6.1,c6.2,hk]
  have hm2:MarkAt B (w.setCell ⟨p6,0,none⟩ (.bool true)):=hmk.setCell _ _
  refine outX_mark hm2 ?_
  have z6:((w.setCell ⟨p6,0,none⟩ (.bool true)).putObj B (.deferred none)).heap[p6]?=some (.cells #[.bool true] 4 (0,0)):=by
   rw [World.putObj_heap_other (by omega)]
   simpa using heap_set (o:=0) q6 (.bool true)
  simp (disch:=try exact DI) only [↓PR,QR,simprocAttr,outX_nil,retV,resOne,(cells_of_heap z6).1]
  exact ⟨trivial,((hat w hst.1).setCell (p:=⟨p6,0,none⟩) (by show w0.heap.size≤p6;omega) _).putObj (by have:=EU.size;omega) _⟩
 refine ⟨_,_,l.length,(fun k => .int .i64 k),(fun k=>insVal ((l[k]?).getD zeroI)),InsAt e v l,I,Ix,fun _ _=>False,rfl,c38,(Each_seq e v l hl).to2,⟨Nat.zero_le _,fun h=>absurd h (Nat.lt_irrefl 0),Save.refl _ _ _,o7⟩,fun k w h=>hI.ext (hat w h.2.2.1),hLI,hLX,fun _=>Lasts2.const _ _,?_,?_,?_,?_⟩
 · intro Rk hRk j w3 hj hI3 hR3 hlt hready
   obtain ⟨x,hx⟩:=getElem?_lt hj
   have hgx:insVal ((l[j]?).getD zeroI)=insVal x:=by rw [hx];rfl
   dsimp only
   rw [hgx]
   unfold n25c4
   have eA:Ext w3 (w3.alloc (.cells (insCells x).toArray TI)):=ee
   have oA:=heap_new w3 (insCells x).toArray TI
   have hR4:=hRk _ _ (KR.of eA) hR3
   have hI4:=(hLI j).ext hI3 eA
   have hrd:ReadyAt (U.heap.size+1) (w3.alloc (.cells (insCells x).toArray TI)):=by obtain ⟨r,h1,h2⟩:=hready;exact ⟨r,eA.obj h1,h2⟩
   simp (disch:=try exact DI) only [↓PR,QR,simprocAttr]
   generalize (w3.alloc (.cells (insCells x).toArray TI))=w4 at oA hR4 hI4 hrd ⊢
   have hq2:U.heap.size≤w3.heap.size:=hI3.2.2.1.size
   generalize w3.heap.size=q at oA hq2 ⊢
   refine ⟨hrd,fun w5 hbz=>?_⟩
   have hR5:=hRk _ _ (KR.busied hbz) hR4
   have hI5:=(hLI j).busied hbz (Nat.le_succ _) hI4
   have oq:w5.heap[q]?=some (.cells (insCells x).toArray TI (0,0)):=by
    obtain ⟨r,hr,rfl⟩:=hbz
    rw [World.putObj_heap_other (by rintro rfl;rw [oA] at hr;cases hr)]
    exact oA
   have eD:Ext w5 (Sw.drew w5):=(Ext.refl w5).drew
   have hR6:=hRk _ _ (KR.of eD) hR5
   obtain ⟨hjl,hjm,hs6,y7⟩:=(hLI j).ext hI5 eD
   have yq:=cells_of_heap (eD.obj oq)
   refine drawK_intro ?_
   generalize (Sw.drew w5)=w6 at hR6 hs6 y7 yq ⊢
   have y4:=cells_of_heap (hs6.obj x4 (.inl (by omega)))
   have y5:=cells_of_heap (hs6.obj x5 (.inl (by omega)))
   have c7:=cells_of_heap y7
   obtain ⟨A',c',hv,_,_,_,hel⟩:=SliceOf.open (SliceOf.ext keptIns hS (hat _ hs6))
   injection hv with hv1 _ hv2
   subst hv1 hv2
   obtain ⟨b,o,cs,rfl,_,hA,rfl⟩:=hel j x hx
   have d1:((j:Int) != (j:Int))=false:=by simp
   have d2:decide ((j:Int)≥(l.length:Int))=false:=decide_eq_false (by omega)
   unfold n25c3
   simp (disch:=try exact DI) only [↓PR,QR,simprocAttr,c7.1,y4.1,d1,d2,↓n25c2,yq.1,hA.c6 (Ext.refl _)]
   have hwj:IntKind.i64.wrap ((j:Int)+1)=((j+1:Nat):Int):=by rw [wrap_ok (by omega) (by omega)];omega
   have z7:(w6.setCell ⟨p7,0,none⟩ (.int .i64 ((j+1:Nat):Int))).heap[p7]?=some (.cells #[.int .i64 ((j+1:Nat):Int)] 3 (0,0)):=by simpa using heap_set (o:=0) y7 (.int .i64 ((j+1:Nat):Int))
   have hsz:=hs6.setCell (o:=0) (Nat.le_refl p7) (Nat.lt_succ_self p7) (.int .i64 ((j+1:Nat):Int))
   have hRz:=hRk _ _ (KR.setCell (KR.refl _ w6) p7 0 (.int .i64 ((j+1:Nat):Int)) (.inl (by omega))) hR6
   have n57:p5≠p7:=by omega
   unfold n25c1
   by_cases hmn:((j+1:Nat):Int)≥many
   · have d3:decide (((j+1:Nat):Int)≥many)=true:=decide_eq_true hmn
     simp (disch:=try exact DI) only [↓PR,QR,simprocAttr,c7.1,c7.2,hwj,y5.1,d3]
     refine ⟨hRz,rfl,j+1,by omega,by omega,hmn,?_,hsz,z7⟩
     by_cases h0:j=0
     · exact .inl (by omega)
     · have:=hjm (by omega)
       exact .inr (by omega)
   · have d3:decide (((j+1:Nat):Int)≥many)=false:=decide_eq_false hmn
     simp (disch:=try exact DI) only [↓PR,QR,simprocAttr,c7.1,c7.2,hwj,y5.1,d3]
     exact ⟨hRz,by omega,fun _=>by omega,hsz,z7⟩
 · rintro w3 ⟨_,hm,hst⟩ hmk
   refine fin l.length w3 _ rfl hst hmk ?_
   rw [beq_iff_eq]
   by_cases h1:many > 1
   · rw [if_pos h1]
     split<;>omega
   · rw [if_neg h1]
     split<;>omega
 · rintro cc w3 ⟨rfl,k,h1,h2,h3,h4,hst⟩ hmk
   show n25c6 _ _ _ _ _ _ _
   refine fin k w3 _ rfl hst hmk ?_
   rw [beq_iff_eq]
   by_cases h1:many > 1
   · rw [if_pos h1]
     split<;>omega
   · rw [if_neg h1]
     split<;>omega
 · rintro ch w3 hf
   exact hf.elim
theorem ProgramCodes_ret (w0:World) (v:Value) (d:DefD) (i many:Int) (hd:DefVal w0 v d) (_hs:DefSm d) (hT:TabOK w0):Ret Pg 4 #[v,.int .i64 i,.int .i64 many] w0 fun r w'=>r = .bool true∧Ext w0 w':=by
 obtain ⟨mv,rfl,hM⟩:=hd
 have hm1:=SliceOf.oneCell hM
 refine n19s (R:=retR _) ?_;unfold n19
 rw [op_boxA]
 have o1:=heap_new w0 (defCells d mv).toArray 24
 have eW:Ext w0 (w0.alloc (.cells (defCells d mv).toArray 24)):=ee
 generalize (w0.alloc (.cells (defCells d mv).toArray 24))=W at o1 eW ⊢
 generalize hp1:w0.heap.size=p1 at o1 ⊢
 simp (disch:=try exact DI) only [↓PR,QR,simprocAttr,(cells_of_heap o1).1]
 have dv:∀ w,Ext W w→DefVal w (.agg (defCells d mv).toArray) d:=fun w e=>⟨mv,rfl,hM.ext (eW.trans e)⟩
 have tb:∀ w,Ext W w→TabOK w:=fun w e=>hT.ext (eW.trans e)
 refine callK_ret (lsmall_ret W _ d (dv _ (Ext.refl _))) ?_
 rintro _ w1 ⟨b,rfl,hsm,e1⟩
 unfold n19c11
 cases b with
 | false =>
  simp (disch:=try exact DI) only [↓PR,QR,simprocAttr]
  refine zcr (known18_ret w1 (tb _ e1)) fun w2 e2=>?_
  exact ⟨_,rfl,rfl,eW.trans (e1.trans e2)⟩
 | true =>
 have hsm:=hsm rfl
 have ht:=small_calm hsm
 have htm:=small_tame hsm
 have hz:=small_size hsm
 simp (disch:=try exact DI) only [↓PR,QR,simprocAttr,(cells_of_heap (e1.obj o1)).1]
 refine callK_ret (made_ret w1 _ d (dv _ e1) ht htm hz) ?_
 rintro _ w2 ⟨hr,e2⟩
 have E2:=e1.trans e2
 cases hfl:flawedA d with
 | true =>
  rw [hfl,if_pos rfl] at hr
  subst hr
  simp (disch:=try exact DI) only [↓PR,QR,simprocAttr,↓n19c10]
  rw [op_eqNilP Tryz.underlying27]
  simp only [Option.isNone_none]
  simp (disch:=try exact DI) only [↓PR,QR,simprocAttr,↓n19c8]
  refine zcr (known18_ret w2 (tb _ E2)) fun w3 e3=>?_
  simp (disch:=try exact DI) only [↓PR,QR,simprocAttr]
  exact ⟨by trivial,eW.trans (E2.trans e3)⟩
 | false =>
  rw [hfl,if_neg (by decide)] at hr
  obtain ⟨pb,rfl,hP⟩:=hr
  have hcv:=aligned_valid hfl
  have hlen:=codeP_len d
  have hpos:=sizeP_pos d
  simp (disch:=try exact DI) only [↓PR,QR,simprocAttr,↓n19c10]
  rw [op_eqNilP Tryz.underlying27]
  simp only [Option.isNone_some]
  simp (disch:=try exact DI) only [↓PR,QR,simprocAttr,↓n19c9,(cells_of_heap (E2.obj o1)).1]
  refine callK_ret (rCode_ret w2 _ d (dv _ E2) ht htm hcv hz) ?_
  rintro cv w3 ⟨hO,e3⟩
  have P3:=hP.ext e3
  have E3:=E2.trans e3
  have hS3:SliceOf w3 6 EIns cv (codeP d):=hO.slice (fun _=>rfl) (fun _ _=>rfl)
  obtain ⟨g,cap,rfl,_,_,_,_,hE⟩:=OwnE.row hO (fun _=>rfl) (by omega)
  refine zcr (At_ret P3 i hz) fun w4 e4=>?_
  have P4:=P3.ext e4
  have E4:=E3.trans e4
  rw [hlen] at hS3 ⊢
  have tail:∀ u,Ext w4 u→callK Pg 16 #[.pointer (some ⟨pb,0,none⟩)] (panK (retR fun r w'=>r = .bool true∧Ext w0 w')) u fun t68 w=>callK Pg 17 #[.pointer (some ⟨pb,0,none⟩)] (panK (retR fun r w'=>r = .bool true∧Ext w0 w')) w fun t70 w=>n19c3 (.int .i64 many) (.slice (some ⟨g,0,none⟩) (sizeP d) cap) t68 t70 (retR fun r w'=>r = .bool true∧Ext w0 w') w:=by
   intro u eu
   refine callK_ret (Each_ret (P4.ext eu) hz) ?_
   rintro _ u1 ⟨⟨e,v,rfl,_,hI⟩,f1⟩
   refine zcr (Len_ret ((P4.ext eu).ext f1)) fun u2 f2=>?_
   have g2:=e4.trans (eu.trans (f1.trans f2))
   have dz:((sizeP d:Int) == (sizeP d:Int))=true:=by simp
   simp (disch:=try exact DI) only [↓PR,QR,simprocAttr,↓n19c3,dz]
   refine zcr (over_ret u2 e v _ (codeP d) many ((ins_at hI).ext f2) (SliceOf.ext keptIns hS3 g2) (by omega)) fun u3 f3=>?_
   simp (disch:=try exact DI) only [↓PR,QR,simprocAttr,dz,↓n19c2]
   refine zcr (over_ret u3 e v _ (codeP d) 99999 ((ins_at hI).ext (f2.trans f3)) (SliceOf.ext keptIns hS3 (g2.trans f3)) (by omega)) fun u4 f4=>?_
   simp (disch:=try exact DI) only [↓PR,QR,simprocAttr,dz,↓n19c1]
   refine zcr (known18_ret u4 (tb _ (E3.trans (g2.trans (f3.trans f4))))) fun u5 f5=>?_
   simp (disch:=try exact DI) only [↓PR,QR,simprocAttr]
   exact ⟨by trivial,eW.trans (E3.trans (g2.trans (f3.trans (f4.trans f5))))⟩
  by_cases hin:0≤i∧i < sizeP d
  · have d1:decide (i < 0)=false:=decide_eq_false (by omega)
    have d2:decide (i≥(sizeP d:Int))=false:=decide_eq_false (by omega)
    obtain ⟨k,rfl⟩:∃ k:Nat,i=k:=⟨i.toNat,by omega⟩
    obtain ⟨x,hx⟩:=getElem?_lt (l:=codeP d) (k:=k) (by rw [hlen];omega)
    have hat:atI d k=x:=by unfold atI;rw [if_pos hin,Int.toNat_natCast,hx];rfl
    have her:errI d k=0:=by unfold errI;rw [if_pos hin]
    have hk2:k < sizeP d:=by omega
    rw [hat,her]
    simp (disch:=try exact DI) only [↓PR,QR,simprocAttr,↓n19c7,d1,d2,↓n19c6]
    have o10:=heap_new w4 (insCells x).toArray TI
    have e5:Ext w4 (w4.alloc (.cells (insCells x).toArray TI)):=(Ext.refl w4).alloc _
    generalize (w4.alloc (.cells (insCells x).toArray TI))=w5 at o10 e5 ⊢
    generalize hp10:w4.heap.size=p10 at o10 ⊢
    refine drawK_intro ?_
    have eD:Ext w5 (Sw.drew w5):=(Ext.refl w5).drew
    have q10:=cells_of_heap (eD.obj o10)
    have f5:=e5.trans eD
    generalize (Sw.drew w5)=w6 at q10 f5 ⊢
    have hA:=(hE k x hx)
    unfold n19c4
    simp (disch:=try exact DI) only [↓PR,QR,simprocAttr,q10.1,hA.c6 (e4.trans f5)]
    refine zcr (num_ret _ _) fun w7 e7=>?_
    refine ⟨e7,?_⟩
    simp (disch:=try exact DI) only [↓PR,QR,simprocAttr]
    exact tail w7 (f5.trans e7)
  · have hat:atI d i=zeroI:=by unfold atI;rw [if_neg hin]
    have her:errI d i=3:=by unfold errI;rw [if_neg hin]
    rw [hat,her]
    have oz:∀ u,Ext w4 u→u.heap[w4.heap.size]?=some (.cells (insCells zeroI).toArray TI (0,0))→n19c5 (.pointer (some ⟨w4.heap.size,0,none⟩)) (.int .i64 3) (fun w=>callK Pg 16 #[.pointer (some ⟨pb,0,none⟩)] (panK (retR fun r w'=>r = .bool true∧Ext w0 w')) w fun t68 w=>callK Pg 17 #[.pointer (some ⟨pb,0,none⟩)] (panK (retR fun r w'=>r = .bool true∧Ext w0 w')) w fun t70 w=>n19c3 (.int .i64 many) (.slice (some ⟨g,0,none⟩) (sizeP d) cap) t68 t70 (retR fun r w'=>r = .bool true∧Ext w0 w') w) (retR fun r w'=>r = .bool true∧Ext w0 w') u:=by
     intro u eu o10
     unfold n19c5
     simp (disch:=try exact DI) only [↓PR,QR,simprocAttr,(cells_of_heap o10).1]
     refine zcr (num_ret _ _) fun u2 f2=>?_
     simp (disch:=try exact DI) only [↓PR,QR,simprocAttr]
     exact tail u2 (eu.trans f2)
    by_cases h0:i < 0
    · have d1:decide (i < 0)=true:=decide_eq_true h0
      simp (disch:=try exact DI) only [↓PR,QR,simprocAttr,↓n19c7,d1,↓n19c6]
      exact oz _ ((Ext.refl w4).alloc _) (heap_new w4 _ _)
    · have d1:decide (i < 0)=false:=decide_eq_false h0
      have d2:decide (i≥(sizeP d:Int))=true:=decide_eq_true (by omega)
      simp (disch:=try exact DI) only [↓PR,QR,simprocAttr,↓n19c7,d1,d2,↓n19c6]
      exact oz _ ((Ext.refl w4).alloc _) (heap_new w4 _ _)
end Go.Proofs.YtfdecdnmooaegaaGreatDoor
namespace Go.Proofs.YtfdecdnmooaegaaGreatDoor
open Sw
open Go.ChangeShapes Go.WideShapes Go.RowKit Go.ChangeAt Go.Deep
def pcodes_laid:List (String×DataW Unit):=[("math/bits.deBruijn32tab", Rows.laid_math_bits_deBruijn32tab),("math/bits.deBruijn64tab", Rows.laid_math_bits_deBruijn64tab),("internal/strconv.uint64pow10", Rows.laid_internal_strconv_uint64pow10)]
theorem pcodes_own:ownKnob Pg.godebug=none:=by kernel_rfl
theorem pcodes_laidOut:laidOutB Pg=true:=by kernel_rfl
theorem pcodes_met (os:Os) (args:Array Value):laidMetH Pg pcodes_laid ((World.doorLaid Pg 400 os).forCall (fun _ _=>0) ⟨#[],args,[]⟩).memory:=laidMetH_of_parts3 (fuel:=8) (laidMet_of_run' 8 (by kernel_rfl) (by kernel_rfl)) (by kernel_rfl) (by kernel_rfl)
theorem pcodes_tab {W:World} (h:laidMetH Pg pcodes_laid W):TabOK W:=by
 rw [MakeChecks.laidMetH_plain _ _ _ (by kernel_rfl)] at h
 have h3:=laidMet.tail (laidMet.tail h)
 have he:(Rows.laid_internal_strconv_uint64pow10:DataW Unit)=Go.Lib.tabData .u64 Go.Lib.pow10Tab:=by kernel_rfl
 rw [he] at h3
 obtain ⟨g,hg⟩:=Option.isSome_iff_exists.1 gPow
 have hty:(Pg.globals[g]?).map (·.type)=some 196:=by
  have h1:(Pg.globalNamed "internal/strconv.uint64pow10").bind (fun g=>(Pg.globals[g]?).map (·.type))=some 196:=by kernel_rfl
  rw [hg] at h1
  exact h1
 exact Go.Lib.tabIs_of_head hg hty Tryz.underlying196 Tryz.underlying185 (by kernel_rfl) (by kernel_rfl) h3
theorem pcodes_lifted (os:Os) (started:os.Started) (H:Type) (enc:TypeId×Value→H) :
 ReturnsInHanded {} Tryz.checked os 4 .any (fun w args=>(Rows.programCodesSpec.pre enc Pg Tryz.f4 Rows.programCodesRow.domain false w args∧laidMetH Pg pcodes_laid w)∧sizedMet enc Pg Tryz.f4 (OpenSpec.ofChange Rows.programCodesSpec) false w args) (Rows.programCodesSpec.post enc Pg Tryz.f4 false true false false):=by
 refine returnsInHanded_of_change_and (C:=Tryz.checked) (X:=fun w _=>laidMetH Pg pcodes_laid w) (fun _ _ _ hh h=>h.of_heap hh) pcodes_own started (by kernel_rfl) Tryz.func4
  (ChangeSpec.witness_shaped (enc:=enc) (C:=Tryz.checked) (os:=os) (X:=fun w _=>laidMetH Pg pcodes_laid w) false (World.doorLaid Pg 400 os) #[.agg #[.string ByteArray.empty,.slice none 0 0,.string ByteArray.empty],.int .i64 0,.int .i64 0] 8 rfl (World.shaped_of_RefB (by kernel_rfl) (by kernel_rfl)) (by kernel_rfl) (by kernel_rfl) (by kernel_rfl) (pcodes_met os _)) ?_
 intro W base args ds gs before hval hW _ hsz hL _
 have hW':=hW
 obtain ⟨p,q,hA0,hV,rfl,_,_⟩:=hW
 have hA:DataW.TrodAll enc Pg W 0 (fun _=>true) true Tryz.f4.params.toList args.toList ds p:=hA0
 rw [Tryz.params4] at hA hval hsz
 obtain ⟨v0,vs0,d0,ds0,p0,q0,ha0,rfl,rfl,h0,r0⟩:=trodAll_cons hA
 obtain ⟨v1,vs1,d1,ds1,p1,q1,ha1,rfl,rfl,h1,r1⟩:=trodAll_cons r0
 obtain ⟨v2,vs2,d2,ds2,p2,q2,ha2,rfl,rfl,h2,r2⟩:=trodAll_cons r1
 obtain ⟨rfl,rfl,rfl⟩:=trodAll_nil r2
 subst ha2 ha1
 obtain rfl:args = #[v0,v1,v2]:=by cases args;simp_all
 obtain ⟨f0,hf0,hs0⟩:=def_val (hval 0 _ v0 rfl rfl) h0 (reached_of (j:=0) hsz rfl rfl)
 obtain ⟨n1,rfl,_,_,hw1⟩:=open_int Tryz.underlying3 (hval 1 _ v1 rfl rfl) h1
 obtain ⟨n2,rfl,_,_,hw2⟩:=open_int Tryz.underlying3 (hval 2 _ v2 rfl rfl) h2
 refine Calls.mono (ProgramCodes_ret W v0 f0 n1 n2 hf0 hs0 (pcodes_tab hL)) fun e W' ⟨v,he,hv,hx⟩=>?_
 subst he hv
 exact ⟨_,rfl,law_post pcodes_laidOut (by decide +kernel) rfl hW' hx rfl Tryz.underlying4 rfl rfl rfl⟩
theorem pcodes_holds:Rows.ProgramCodesSaid :=
 OpenClaim.holds_of_wide 4 Tryz.f4 rfl rfl rfl rfl rfl rfl rfl ⟨rfl,rfl,rfl,rfl,rfl⟩ rfl rfl rfl rfl rfl (by kernel_rfl) Tryz.func4 (by kernel_rfl)
  (of_decide_eq_true (by kernel_rfl)) (by unfold Func.isWrapper;first | (rw [if_pos (by decide +kernel)];kernel_rfl) | (rw [if_neg (by decide +kernel)];exact ⟨rfl,rfl⟩))
  (fun os started H enc _=>pcodes_lifted os started H enc)
theorem pcodes_card:Rows.ProgramCodesCardSaid :=
 Claim7.holds_tied_plain_at .later [] [.data,.data,.data] true (true, "098e99f67870c94ed070b7e90f46c62b88197afeac646b9f27e4aa6966b563e4") true
  pcodes_holds (fun _ h=>by cases h) (by kernel_rfl) (fun _ h=>by cases h) programCodes_row_tie rfl ⟨rfl,rfl⟩ (by kernel_rfl) rfl
  (fun f fn hf hfn=>by
   obtain rfl:f=4:=Option.some.inj ((show Pg.funcNamed "phrasebook/phrasebooklaw18.ProgramCodes" = some 4 by kernel_rfl).symm.trans hf) |>.symm
   obtain rfl:fn=Tryz.f4:=(Option.some.inj (Tryz.func4.symm.trans hfn)).symm
   exact ⟨by kernel_rfl,fun j t ht=>by
    rw [Tryz.params4] at ht
    have hm:t∈[24,3,3]:=by simpa using Array.mem_of_getElem? ht
    have hall:([24,3,3].all fun u=>!Pg.wantsStandIn u)=true:=by kernel_rfl
    exact (show Pg.wantsStandIn t=false by simpa using List.all_eq_true.1 hall t hm)⟩)
  (by kernel_rfl)
end Go.Proofs.YtfdecdnmooaegaaGreatDoor
