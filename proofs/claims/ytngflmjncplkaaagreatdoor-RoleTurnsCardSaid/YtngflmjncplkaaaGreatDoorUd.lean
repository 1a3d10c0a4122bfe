/-
  phrasebooklaw28.RoleTurns returns true for every role and every name, and leaves its arguments as they were; no condition is asked but that the tables of the library lie as the program lays them (the card ties them).
-/
import Derived.Test.YtngflmjncplkaaaGreatDoorUd4
set_option linter.all false
set_option maxHeartbeats 4000000
set_option maxRecDepth 100000
namespace Go.Proofs.YtngflmjncplkaaaGreatDoor
open Sw
def n16c1 (t8 t9 t62:Value) (C3:World→Prop) (next2:KV) (R:RT) (w:World):Prop :=
 qV Pg C3 (Instr.fieldAt 26 t8 1) fun t63 =>
 opU Pg (Instr.storeAt 22 t63 t62) (panK R) w fun w =>
 turnK w fun C4 w =>
 opV Pg (binS .add 3 true t9 (.int .i64 1)) (panK R) w fun t45 w =>
 next2 t45 w
def n16c2 (t2 t8 t9:Value) (C3:World→Prop) (next2:KV) (R:RT) (w:World):Prop :=
 qV Pg C3 (Instr.fieldAt 26 t8 1) fun t46 =>
 qV Pg C3 (Instr.loadAt 22 t46) fun t47 =>
 qV Pg C3 (Instr.fieldAt 26 t2 1) fun t48 =>
 qV Pg C3 (Instr.loadAt 22 t48) fun t49 =>
 qV Pg C3 (Instr.indexAt 22 t49 t9) fun t51 =>
 qV Pg C3 (Instr.fieldAt 50 t51 0) fun t52 =>
 qV Pg C3 (Instr.loadAt 9 t52) fun t53 =>
 qV Pg C3 (Instr.fieldAt 26 t2 1) fun t54 =>
 qV Pg C3 (Instr.loadAt 22 t54) fun t55 =>
 qV Pg C3 (Instr.indexAt 22 t55 t9) fun t57 =>
 qV Pg C3 (Instr.fieldAt 50 t57 1) fun t58 =>
 qV Pg C3 (Instr.loadAt 4 t58) fun t59 =>
 qV Pg C3 (Instr.build 50 #[(0,t53),(1,t59)]) fun t60 =>
 opV Pg (Instr.buildSlice 22 1 #[(0,t60)]) (panK R) w fun t61 w =>
 C3 w∧(
 opV Pg (Builtin.append_ #[22,22] 22 #[t47,t61]) (panK R) w fun t62 w =>
 C3 w∧(
 n16c1 t8 t9 t62 C3 next2 R w))
def n16c3 (t8 t11 t12 t13:Value) (C9:World→Prop) (next8:KW) (R:RT) (w:World):Prop :=
 joinK (fun (t112:Value) (w:World) =>
 pickK t12 (.bool true) t112 fun t113 =>
 opV Pg (binS .add 3 true t13 (.int .i64 1)) (panK R) w fun t103 w =>
 next8 t113 t103 w) fun K10 =>
 guardP t12 false (
 qV Pg C9 (Instr.fieldAt 26 t8 3) fun t106 =>
 qV Pg C9 (Instr.loadAt 24 t106) fun t107 =>
 qV Pg C9 (Instr.indexAt 24 t107 t13) fun t109 =>
 qV Pg C9 (Instr.loadAt 71 t109) fun t110 =>
 qV Pg C9 (Instr.loadAt 71 t11) fun t111 =>
 qV Pg C9 (binS .eql 71 false t110 t111) fun t112 =>
 K10 t112 w) (
 K10 undef w)
def n16c4 (t8 t11:Value) (K11:World→Prop) (R:RT) (w:World):Prop :=
 opV Pg (Instr.fieldAt 26 t8 3) (panK R) w fun t116 w =>
 opV Pg (Instr.loadAt 24 t116) (panK R) w fun t117 w =>
 opV Pg (Instr.loadAt 71 t11) (panK R) w fun t118 w =>
 opV Pg (Instr.buildSlice 24 1 #[(0,t118)]) (panK R) w fun t119 w =>
 opV Pg (Builtin.append_ #[24,24] 24 #[t117,t119]) (panK R) w fun t120 w =>
 opV Pg (Instr.fieldAt 26 t8 3) (panK R) w fun t121 w =>
 opU Pg (Instr.storeAt 24 t121 t120) (panK R) w fun w =>
 K11 w
def n16c5 (t8 t10 t11 t12:Value) (next5:KV) (R:RT) (w:World):Prop :=
 opV Pg (Op.unary .not t12) (panK R) w fun t115 w =>
 joinK (fun (w:World) =>
 opV Pg (binS .add 3 true t10 (.int .i64 1)) (panK R) w fun t70 w =>
 next5 t70 w) fun K11 =>
 condP t115 (
 n16c4 t8 t11 K11 R w) (
 K11 w)
def n16c6 (t8 t10 t11 t12 t13:Value) (next5:KV) (next8:KW) (R:RT) (w:World):Prop :=
 opV Pg (Instr.fieldAt 26 t8 3) (panK R) w fun t98 w =>
 opV Pg (Instr.loadAt 24 t98) (panK R) w fun t99 w =>
 opV Pg (Builtin.len_ #[24] 3 #[t99]) (panK R) w fun t100 w =>
 opV Pg (binS .lss 3 false t13 t100) (panK R) w fun t101 w =>
 condP t101 (
 drawK w fun C9 w =>
 n16c3 t8 t11 t12 t13 C9 next8 R w) (
 n16c5 t8 t10 t11 t12 next5 R w)
def n16c7 (t11 t90 t93:Value) (C12:World→Prop) (K7:World→Prop) (R:RT) (w:World):Prop :=
 qV Pg C12 (binS .sub 69 true (.int .i64 3) t90) fun t91 =>
 qV Pg C12 (Instr.fieldAt 71 t11 2) fun t94 =>
 opU Pg (Instr.storeAt 69 t94 t91) (panK R) w fun w =>
 C12 w∧(
 qV Pg C12 (Instr.fieldAt 71 t11 4) fun t95 =>
 opU Pg (Instr.storeAt 9 t95 t93) (panK R) w fun w =>
 turnK w fun C13 w =>
 K7 w)
def n16c8 (t2 t11:Value) (C12:World→Prop) (K7:World→Prop) (R:RT) (w:World):Prop :=
 qV Pg C12 (Instr.fieldAt 71 t11 2) fun t89 =>
 qV Pg C12 (Instr.fieldAt 26 t2 0) fun t92 =>
 qV Pg C12 (Instr.loadAt 9 t92) fun t93 =>
 opV Pg (Instr.loadAt 69 t89) (panK R) w fun t90 w =>
 C12 w∧(
 n16c7 t11 t90 t93 C12 K7 R w)
def n16c9 (t4:Value) (R:RT) (w:World):Prop :=
 opV Pg (Instr.build 26 #[]) (panK R) w fun t85 w =>
 opU Pg (Instr.storeAt 26 t4 t85) (panK R) w fun w =>
 qW Pg 26 t4 w fun r0 =>
 R (.returned (.tuple #[r0,(.int .i64 2)])) w
def n16c10 (t2 t8 t10 t11:Value) (next5:KV) (R:RT) (w:World):Prop :=
 opV Pg (Instr.fieldAt 71 t11 2) (panK R) w fun t86 w =>
 opV Pg (Instr.loadAt 69 t86) (panK R) w fun t87 w =>
 opV Pg (binS .leq 69 true t87 (.int .i64 2)) (panK R) w fun t88 w =>
 joinK (fun (w:World) =>
 loop2 (fun t12 t13 w next8 =>
 n16c6 t8 t10 t11 t12 t13 next5 next8 R w) (.bool false) (.int .i64 0) w) fun K7 =>
 condP t88 (
 drawK w fun C12 w =>
 n16c8 t2 t11 C12 K7 R w) (
 opV Pg (Instr.fieldAt 71 t11 2) (panK R) w fun t96 w =>
 opU Pg (Instr.storeAt 69 t96 (.int .i64 4)) (panK R) w fun w =>
 K7 w)
def n16c11 (t4 t8:Value) (R:RT) (w:World):Prop :=
 opV Pg (Instr.loadAt 26 t8) (panK R) w fun t122 w =>
 opU Pg (Instr.storeAt 26 t4 t122) (panK R) w fun w =>
 qW Pg 26 t4 w fun r0 =>
 R (.returned (.tuple #[r0,(.int .i64 0)])) w
def n16c12 (t1 t2 t4 t8 t10:Value) (next5:KV) (R:RT) (w:World):Prop :=
 opV Pg (Instr.fieldAt 26 t2 3) (panK R) w fun t71 w =>
 opV Pg (Instr.loadAt 24 t71) (panK R) w fun t72 w =>
 opV Pg (Instr.indexAt 24 t72 t10) (panK R) w fun t74 w =>
 opV Pg (Instr.loadAt 71 t74) (panK R) w fun t75 w =>
 opV Pg (Instr.alloc 71 true (.tuple #[])) (panK R) w fun t11 w =>
 opU Pg (Instr.storeAt 71 t11 t75) (panK R) w fun w =>
 opV Pg (Instr.fieldAt 71 t11 2) (panK R) w fun t76 w =>
 opV Pg (Instr.loadAt 69 t76) (panK R) w fun t77 w =>
 opV Pg (binS .leq 69 true t77 (.int .i64 2)) (panK R) w fun t78 w =>
 joinK (fun (t83:Value) (w:World) =>
 pickK t78 t83 (.bool false) fun t84 =>
 condP t84 (
 n16c9 t4 R w) (
 n16c10 t2 t8 t10 t11 next5 R w)) fun K6 =>
 guardP t78 true (
 opV Pg (Instr.fieldAt 71 t11 4) (panK R) w fun t80 w =>
 opV Pg (Instr.loadAt 9 t80) (panK R) w fun t81 w =>
 opV Pg (binS .neq 9 false t81 t1) (panK R) w fun t83 w =>
 K6 t83 w) (
 K6 undef w)
def n16c13 (t1 t2 t4 t8 t10:Value) (next5:KV) (R:RT) (w:World):Prop :=
 opV Pg (Instr.fieldAt 26 t2 3) (panK R) w fun t65 w =>
 opV Pg (Instr.loadAt 24 t65) (panK R) w fun t66 w =>
 opV Pg (Builtin.len_ #[24] 3 #[t66]) (panK R) w fun t67 w =>
 opV Pg (binS .lss 3 false t10 t67) (panK R) w fun t68 w =>
 condP t68 (
 n16c12 t1 t2 t4 t8 t10 next5 R w) (
 n16c11 t4 t8 R w)
def n16c14 (t1 t2 t4 t8 t9:Value) (next2:KV) (R:RT) (w:World):Prop :=
 opV Pg (Instr.fieldAt 26 t2 1) (panK R) w fun t40 w =>
 opV Pg (Instr.loadAt 22 t40) (panK R) w fun t41 w =>
 opV Pg (Builtin.len_ #[22] 3 #[t41]) (panK R) w fun t42 w =>
 opV Pg (binS .lss 3 false t9 t42) (panK R) w fun t43 w =>
 condP t43 (
 drawK w fun C3 w =>
 n16c2 t2 t8 t9 C3 next2 R w) (
 loop1 (fun t10 w next5 =>
 n16c13 t1 t2 t4 t8 t10 next5 R w) (.int .i64 0) w)
def n16c15 (t4:Value) (R:RT) (w:World):Prop :=
 opV Pg (Instr.build 26 #[]) (panK R) w fun t32 w =>
 opU Pg (Instr.storeAt 26 t4 t32) (panK R) w fun w =>
 qW Pg 26 t4 w fun r0 =>
 R (.returned (.tuple #[r0,(.int .i64 2)])) w
def n16c16 (t1 t2 t4:Value) (R:RT) (w:World):Prop :=
 opV Pg (Instr.buildSlice 23 0 #[]) (panK R) w fun t34 w =>
 opV Pg (Instr.fieldAt 26 t2 2) (panK R) w fun t35 w =>
 opV Pg (Instr.loadAt 23 t35) (panK R) w fun t36 w =>
 opV Pg (Builtin.append_ #[23,23] 23 #[t34,t36]) (panK R) w fun t37 w =>
 opV Pg (Instr.build 26 #[(0,t1),(2,t37)]) (panK R) w fun t38 w =>
 opV Pg (Instr.alloc 26 true (.tuple #[])) (panK R) w fun t8 w =>
 opU Pg (Instr.storeAt 26 t8 t38) (panK R) w fun w =>
 loop1 (fun t9 w next2 =>
 n16c14 t1 t2 t4 t8 t9 next2 R w) (.int .i64 0) w
def n16c17 (t1 t2 t4 t24:Value) (R:RT) (w:World):Prop :=
 opV Pg (Op.unary .not t24) (panK R) w fun t25 w =>
 joinK (fun (t30:Value) (w:World) =>
 pickK t25 (.bool true) t30 fun t31 =>
 condP t31 (
 n16c15 t4 R w) (
 n16c16 t1 t2 t4 R w)) fun K1 =>
 guardP t25 false (
 opV Pg (Instr.fieldAt 26 t2 0) (panK R) w fun t28 w =>
 opV Pg (Instr.loadAt 9 t28) (panK R) w fun t29 w =>
 opV Pg (binS .eql 9 false t1 t29) (panK R) w fun t30 w =>
 K1 t30 w) (
 K1 undef w)
def n16c18 (t1 t2 t4 t16:Value) (R:RT) (w:World):Prop :=
 opV Pg (Instr.extract t16 0) (panK R) w fun t17 w =>
 opV Pg (Instr.extract t16 1) (panK R) w fun t18 w =>
 opV Pg (binS .neq 3 true t18 (.int .i64 0)) (panK R) w fun t20 w =>
 condP t20 (
 opV Pg (Instr.build 26 #[]) (panK R) w fun t21 w =>
 opU Pg (Instr.storeAt 26 t4 t21) (panK R) w fun w =>
 qW Pg 26 t4 w fun r0 =>
 R (.returned (.tuple #[r0,t18])) w) (
 callK Pg 18 #[t1] (panK R) w fun t24 w =>
 n16c17 t1 t2 t4 t24 R w)
def n16 (t0 t1:Value) (R:RT) (w:World):Prop :=
 opV Pg (Instr.box 26 t0) (panK R) w fun t2 w =>
 opV Pg (Instr.alloc 26 true (.tuple #[])) (panK R) w fun t4 w =>
 opV Pg (Instr.loadAt 26 t2) (panK R) w fun t15 w =>
 callK Pg 13 #[t15] (panK R) w fun t16 w =>
 n16c18 t1 t2 t4 t16 R w
set_option maxHeartbeats 40000000 in
theorem n16s {t0 t1:Value} {R:RT} {w:World} (h:n16 t0 t1 R w):Calls Pg 24 #[t0,t1] w R:=by
 refine yD Tryz.func24 ?_
 refine zs<|zr<|yv h fun _ w h=>yv h fun _ w h=>zm<|zn<|zk<|zs<|zs<|zr<|yv h fun _ w h=>yc h c13 fun _ w h=>zm<|yv h fun _ w h=>yv h fun _ w h=>?_
 refine zm<|zm<|zn<|zk<|zs<|zr<|zm<|yb h fun _ w h=>zn<|zk<|yC h (fun h=>zs<|zr<|yB h fun _ w h=>zm<|yu h fun w h=>zm<|zn<|zk<|sim_ret<|sim_then_ret<|body_retCT rfl rfl rfl h) fun h=>sim_skip<|zk<|zs ?_
 refine zs<|sim_regionG<|yG 4<|zm<|yc h c18 fun _ w h=>yv h fun _ w h=>zm<|zn<|yg1 4 3 false [27,28,29,30] 30 h (fun _ T hT h=>?_) fun σ w h=>?_
 · refine zm<|yv h fun _ w h=>yv h fun _ w h=>yb h fun _ w h=>zn ?_
   exact zt hT h
 refine yG 1<|yp h fun _ h=>zn<|sim_end<|zk<|yC h (fun h=>zs<|zr<|yB h fun _ w h=>yu h fun w h=>zm<|zn<|zk<|sim_ret<|sim_then_ret<|body_retCT rfl rfl rfl h) fun h=>sim_skip<|zk<|zs<|zr<|zm<|yS h fun _ w h=>yv h fun _ w h=>yv h fun _ w h=>?_
 refine yx h fun _ w h=>yB h fun _ w h=>yv h fun _ w h=>yu h fun w h=>zn<|zk<|zs<|zs<|zr<|zm<|zn<|zk<|sim_block<|yl1 [9,39,40,41,42,43,44,45,46,47,48,49,50,51,52,53,54,55,56,57,58,59,60,61,62,63] 9 h fun σ w next h=>zs ?_
 refine zs<|zr<|zm<|yv h fun _ w h=>yv h fun _ w h=>yx h fun _ w h=>yb h fun _ w h=>zn<|zk<|yC h (fun h=>?_) fun h=>?_
 · refine sim_skip<|zk<|zs<|sim_block<|yh [46,47,48,49,50,51,52,53,54,55,56,57,58,59,60,61,62,63] h fun C hC h=>ye 0 hC h fun _ h=>?_
   refine ye 1 hC h fun _ h=>?_
   refine ye 2 hC h fun _ h=>?_
   refine ye 3 hC h fun _ h=>?_
   refine yw 4 hC ?_
   refine ye 5 hC h fun _ h=>?_
   refine ye 6 hC h fun _ h=>?_
   refine ye 7 hC h fun _ h=>?_
   refine ye 8 hC h fun _ h=>?_
   refine ye 9 hC h fun _ h=>?_
   refine yw 10 hC ?_
   refine ye 11 hC h fun _ h=>?_
   refine ye 12 hC h fun _ h=>?_
   refine ye 13 hC h fun _ h=>?_
   refine ye 14 hC h fun _ h=>?_
   refine yo 15 ?_
   refine yS h fun _ w h=>zn ?_
   obtain ⟨hC,h⟩:=h
   refine ⟨hC,?_⟩
   refine yo 16 ?_
   refine yx h fun _ w h=>zn ?_
   obtain ⟨hC,h⟩:=h
   refine ⟨hC,?_⟩
   refine ye 17 hC h fun _ h=>?_
   refine yq 18 1 ?_
   refine yu h fun w h=>zn ?_
   obtain ⟨C4,hC,h⟩:=h
   refine ⟨C4,hC,?_⟩
   exact yz<|sim_block_normal<|zk<|zr<|zm<|yb h fun _ w h=>zm<|zn<|zk<|⟨rfl,h⟩
 refine sim_exit<|sim_then_exit<|sim_then_exit<|sim_block_hit<|zk<|zs<|zs<|zr<|zm<|zn<|zk<|sim_block<|yl1 [5,10,11,12,13,64,65,66,67,68,69,70,71,72,73,74,75,76,77,78,79,80,81,82,83,84,85,86,87,88,89,90,91,92,93,94,95,96,97,98,99,100,101,102,103,104,105,106,107,108,109,110,111,112,113,114,115,116,117,118,119,120,121] 10 h fun σ w next h=>zs<|zs ?_
 refine zr<|zm<|yv h fun _ w h=>yv h fun _ w h=>yx h fun _ w h=>yb h fun _ w h=>zn<|zk<|yC h (fun h=>?_) fun h=>?_
 · refine sim_skip<|zk<|zs<|sim_block<|zs<|zr<|yv h fun _ w h=>yv h fun _ w h=>zm<|yv h fun _ w h=>yv h fun _ w h=>yv h fun _ w h=>yu h fun w h=>zn<|zk ?_
   refine zs<|zs<|sim_regionG<|yG 4<|yv h fun _ w h=>yv h fun _ w h=>yb h fun _ w h=>zm<|zn<|yg1 4 3 true [80,81,82,83] 83 h (fun _ T hT h=>?_) fun σ w h=>?_
   · refine yv h fun _ w h=>yv h fun _ w h=>zm<|yb h fun _ w h=>zn ?_
     exact zt hT h
   refine yG 1<|yp h fun _ h=>zn<|sim_end<|zk<|yC h (fun h=>zs<|zr<|yB h fun _ w h=>yu h fun w h=>zm<|zn<|zk<|sim_ret<|sim_then_ret<|sim_block_ret<|sim_then_ret<|sim_then_ret<|sim_block_ret<|sim_then_ret<|body_retCT rfl rfl rfl h) fun h=>sim_skip<|zk<|zs<|zs<|zr<|yv h fun _ w h=>yv h fun _ w h=>yb h fun _ w h=>?_
   refine zn<|zk<|yJ0 [89,90,91,92,93,94,95,96] h (fun _ _ hkK7 h=>?_) fun σ w h=>?_
   · refine yC h (fun h=>?_) fun h=>?_
     · refine yh [89,90,91,92,93,94,95] h fun C hC h=>ye 0 hC h fun _ h=>?_
       refine ye 3 hC h fun _ h=>?_
       refine ye 4 hC h fun _ h=>?_
       refine yo 1 ?_
       refine yv h fun _ w h=>zn ?_
       obtain ⟨hC,h⟩:=h
       refine ⟨hC,?_⟩
       refine ye 2 hC h fun _ h=>?_
       refine ye 5 hC h fun _ h=>?_
       refine yo 6 ?_
       refine yu h fun w h=>zn ?_
       obtain ⟨hC,h⟩:=h
       refine ⟨hC,?_⟩
       refine ye 7 hC h fun _ h=>?_
       refine yq 8 1 ?_
       refine yu h fun w h=>zn ?_
       obtain ⟨C13,hC,h⟩:=h
       refine ⟨C13,hC,?_⟩
       refine yz<|zk ?_
       exact zt hkK7 h
     refine zr<|yv h fun _ w h=>yu h fun w h=>zn<|zk ?_
     exact zt hkK7 h
   refine zk<|zs<|zr<|zm<|zn<|zk<|zs<|zs<|zr<|zm<|zn<|zk<|sim_block<|yl2 [12,13,97,98,99,100,101,102,103,104,105,106,107,108,109,110,111,112,113] 12 13 h fun σ w next h=>zs ?_
   refine zs<|zr<|zm<|yv h fun _ w h=>yv h fun _ w h=>yx h fun _ w h=>yb h fun _ w h=>zn<|zk<|yC h (fun h=>?_) fun h=>?_
   · refine sim_skip<|zk<|zs<|sim_block<|yh [12,104,105,106,107,108,109,110,111,112,113] h fun C hC h=>yw 0 hC ?_
     refine yw 1 hC ?_
     refine yj1 2 [8,7,6,5,4,3,2,1,0] [106,107,108,109,110,111,112] 112 h (fun _ hT hb h=>?_) (fun _ hT hb h=>?_) fun σ w hC h=>?_
     · refine ye 2 hC h fun _ h=>?_
       refine ye 3 hC h fun _ h=>?_
       refine yw 4 hC ?_
       refine ye 5 hC h fun _ h=>?_
       refine ye 6 hC h fun _ h=>?_
       refine ye 7 hC h fun _ h=>?_
       refine ye 8 hC h fun _ h=>?_
       exact yt hT hC h
     · refine yi 2 hC ?_
       refine yi 3 hC ?_
       refine yi 4 hC ?_
       refine yi 5 hC ?_
       refine yi 6 hC ?_
       refine yi 7 hC ?_
       refine yi 8 hC ?_
       exact yt hT hC h
     refine yP 9 hC h fun _ h=>?_
     refine yw 10 hC ?_
     exact yz<|sim_block_normal<|zk<|zr<|zm<|yb h fun _ w h=>zm<|zn<|zk<|⟨rfl,h⟩
   refine sim_exit<|sim_then_exit<|sim_then_exit<|sim_block_hit<|zk<|zs<|zr<|zm<|yv h fun _ w h=>zn<|zk<|yJ0 [116,117,118,119,120,121] h (fun _ _ hkK11 h=>?_) fun σ w h=>?_
   · refine yC h (fun h=>?_) fun h=>?_
     · refine zr<|yv h fun _ w h=>yv h fun _ w h=>yv h fun _ w h=>yS h fun _ w h=>yx h fun _ w h=>yv h fun _ w h=>yu h fun w h=>zn<|zk ?_
       exact zt hkK11 h
     refine sim_skip<|zk ?_
     exact zt hkK11 h
   exact sim_block_normal<|zk<|zr<|zm<|yb h fun _ w h=>zm<|zn<|zk<|⟨rfl,h⟩
 exact sim_exit<|sim_then_exit<|sim_then_exit<|sim_block_hit<|zk<|zs<|zr<|yv h fun _ w h=>yu h fun w h=>zm<|zn<|zk<|sim_ret<|body_retCT rfl rfl rfl h
open Go.RowKit (intOf Below)
structure LT (w0 w:World) (base p2 p5 B1 B2:Nat) (r:RolD) (sv cv tv:Value):Prop where
 e:Ext w0 w
 h2:w.heap[p2]?=some (.cells zR TRol (0,0))
 h5:w.heap[p5]?=some (.cells (rolCells r sv cv tv).toArray TRol (0,0))
 oc:OwnE w base 52 2 cntCells cv r.counters
 lc:∀ b,cv.ownBlock=some b→b < B1
 os:OwnE w B1 50 3 staCells sv r.states
 ls:∀ b,sv.ownBlock=some b→b < B2
 ot:OwnE w B2 71 9 stpCells tv r.steps
 bb:base≤B1
 b12:B1≤B2
 b2:B2≤w.heap.size
 p2b:p2 < base
 p5b:p5 < B1
 p5c:∀ b,cv.ownBlock=some b→b≠p5
 ne:p2≠p5
 l2:w0.heap.size≤p2
 l5:w0.heap.size≤p5
theorem LT.ext {w0 w w':World} {base p2 p5 B1 B2:Nat} {r:RolD} {sv cv tv:Value} (h:LT w0 w base p2 p5 B1 B2 r sv cv tv) (e:Ext w w'):LT w0 w' base p2 p5 B1 B2 r sv cv tv :=
 { h with e:=h.e.trans e,h2:=e.obj h.h2,h5:=e.obj h.h5,oc:=h.oc.ext e,os:=h.os.ext e,ot:=h.ot.ext e,b2:=Nat.le_trans h.b2 e.size }
theorem LT.row_ne {w0 w:World} {base p2 p5 B1 B2:Nat} {r:RolD} {sv cv tv:Value} (h:LT w0 w base p2 p5 B1 B2 r sv cv tv) (x:Nat) (hx:x < B1):sv.ownBlock≠some x∧tv.ownBlock≠some x:=by
 have:=h.bb
 have:=h.b12
 refine ⟨fun e=>?_,fun e=>?_⟩
 · have:=(World.ownsRow.lt h.os x e).1;omega
 · have:=(World.ownsRow.lt h.ot x e).1;omega
section
variable {w0 w:World} {base p2 p5 B1 B2 i p:Nat} {r:RolD} {sv cv tv wv:Value}
theorem LT.pushS {w':World} {x:StaD} (h:LT w0 w base p2 p5 B1 B2 r sv cv (.slice none 0 0)) (ht:r.steps=[]) {v':Value} (hO:OwnE w' B1 50 3 staCells v' (r.states++[x])) (hg:w.grownBy w' sv.ownBlock) :
 LT w0 (w'.setCell ⟨p5,1,none⟩ v') base p2 p5 B1 w'.heap.size { r with states:=r.states++[x] } v' cv (.slice none 0 0):=by
 have hz:=hg.size
 have g1:=h.p2b
 have g2:=h.p5b
 have g3:=h.bb
 have g4:=h.b12
 have g5:=h.b2
 have n2:=(h.row_ne p2 (by omega)).1
 have n5:=(h.row_ne p5 g2).1
 have l2:=h.l2
 refine ⟨(h.e.grown hg fun b hb=>by have:=(World.ownsRow.lt h.os b hb).1;omega).setCell (p:=⟨p5,1,none⟩) h.l5 _,?_,?_,?_,h.lc,?_,?_,?_,g3,by omega,by rw [World.size_setCell];exact Nat.le_refl _,g1,g2,h.p5c,h.ne,h.l2,h.l5⟩
 · rw [Only.setCell _ p5 _ _ p2 h.ne]
   exact (hg.block p2 (by omega) fun e=>n2 e.symm).trans h.h2
 · exact heap_set ((hg.block p5 (by omega) fun e=>n5 e.symm).trans h.h5) _
 · refine OwnE.keep h.oc fun b hb=>?_
   have a1:=(World.ownsRow.lt h.oc b hb).1
   have a2:=h.lc b hb
   rw [Only.setCell _ p5 _ _ b (h.p5c b hb)]
   exact hg.block b (by omega) fun e=>by have:=(World.ownsRow.lt h.os b e.symm).1;omega
 · exact OwnE.keep hO fun b hb=>Only.setCell _ p5 _ _ b (by have:=(World.ownsRow.lt hO b hb).1;omega)
 · exact fun b hb=>(World.ownsRow.lt hO b hb).2
 · show OwnE _ _ _ _ _ _ r.steps
   rw [ht]
   exact OwnE.nil _ _ _ _ _
theorem LT.pushT {w':World} {x:StpD} (h:LT w0 w base p2 p5 B1 B2 r sv cv tv) {v':Value} (hO:OwnE w' B2 71 9 stpCells v' (r.steps++[x])) (hg:w.grownBy w' tv.ownBlock) :
 LT w0 (w'.setCell ⟨p5,3,none⟩ v') base p2 p5 B1 B2 { r with steps:=r.steps++[x] } sv cv v':=by
 have hz:=hg.size
 have g1:=h.p2b
 have g2:=h.p5b
 have g3:=h.bb
 have g4:=h.b12
 have g5:=h.b2
 have n2:=(h.row_ne p2 (by omega)).2
 have n5:=(h.row_ne p5 g2).2
 have l2:=h.l2
 refine ⟨(h.e.grown hg fun b hb=>by have:=(World.ownsRow.lt h.ot b hb).1;omega).setCell (p:=⟨p5,3,none⟩) h.l5 _,?_,?_,?_,h.lc,?_,h.ls,?_,g3,g4,by rw [World.size_setCell];omega,g1,g2,h.p5c,h.ne,h.l2,h.l5⟩
 · rw [Only.setCell _ p5 _ _ p2 h.ne]
   exact (hg.block p2 (by omega) fun e=>n2 e.symm).trans h.h2
 · exact heap_set ((hg.block p5 (by omega) fun e=>n5 e.symm).trans h.h5) _
 · refine OwnE.keep h.oc fun b hb=>?_
   have a1:=(World.ownsRow.lt h.oc b hb).1
   have a2:=h.lc b hb
   rw [Only.setCell _ p5 _ _ b (h.p5c b hb)]
   exact hg.block b (by omega) fun e=>by have:=(World.ownsRow.lt h.ot b e.symm).1;omega
 · refine OwnE.keep h.os fun b hb=>?_
   have a1:=(World.ownsRow.lt h.os b hb).1
   have a2:=h.ls b hb
   rw [Only.setCell _ p5 _ _ b (by omega)]
   exact hg.block b (by omega) fun e=>by have:=(World.ownsRow.lt h.ot b e.symm).1;omega
 · exact OwnE.keep hO fun b hb=>Only.setCell _ p5 _ _ b (by have:=(World.ownsRow.lt hO b hb).1;omega)
end
section
variable {w0 w w':World} {base p0 p2 p5 B1 B2:Nat} {r q:RolD} {sv cv tv sv0 cv0 tv0 v':Value} {peer:ByteArray}
abbrev FinT (w0:World) (r:RolD) (peer:ByteArray) (cs:List Value) (n:Int) (V:World):Prop:=(∃ x,Value.tuple #[.agg cs.toArray,.int .i64 n] = .tuple #[x,.int .i64 (turnP r peer).2]∧RolOwn V w0.heap.size x (turnP r peer).1)∧Ext w0 V
theorem trn_fin {n:Int} (l2:w0.heap.size≤p2) (e:Ext w0 w) (hp:p2 < base) (hs:OwnE w base 50 3 staCells sv q.states) (hc:OwnE w base 52 2 cntCells cv q.counters) (ht:OwnE w base 71 9 stpCells tv q.steps) (hR:turnP r peer=(q,n)) :
 FinT w0 r peer (rolCells q sv cv tv) n (setCells w p2 0 (rolCells q sv cv tv)):=by
 have eV:Ext w0 (setCells w p2 0 (rolCells q sv cv tv)):=setCells_ext _ _ _ _ e l2
 have hk:∀ b,base≤b→(setCells w p2 0 (rolCells q sv cv tv)).heap[b]?=w.heap[b]?:=fun b hb=>setCells_only _ _ _ b (by omega)
 have hb:w0.heap.size≤base:=by omega
 generalize setCells w p2 0 (rolCells q sv cv tv)=V at eV hk ⊢
 refine ⟨⟨_,by rw [hR],sv,cv,tv,by rw [hR],?_,?_,?_⟩,eV⟩<;>rw [hR]
 · exact (OwnE.keep hs fun b hb=>hk b (World.ownsRow.lt hs b hb).1).base hb
 · exact (OwnE.keep hc fun b hb=>hk b (World.ownsRow.lt hc b hb).1).base hb
 · exact (OwnE.keep ht fun b hb=>hk b (World.ownsRow.lt ht b hb).1).base hb
theorem trn_zero {n:Int} (l2:w0.heap.size≤p2) (e:Ext w0 w) (hR:turnP r peer=(zeroR,n)):FinT w0 r peer (rolCells zeroR (.slice none 0 0) (.slice none 0 0) (.slice none 0 0)) n (setCells w p2 0 (rolCells zeroR (.slice none 0 0) (.slice none 0 0) (.slice none 0 0))) :=
 trn_fin (q:=zeroR) (base:=p2+1) l2 e (by omega) (OwnE.nil _ _ _ _ _) (OwnE.nil _ _ _ _ _) (OwnE.nil _ _ _ _ _) hR
theorem LT.oldT (h:LT w0 w base p2 p5 B1 B2 q sv cv tv) (hg:w.grownBy w' tv.ownBlock) {b:Nat} (hb:b < base) (h5:b≠p5):(w'.setCell ⟨p5,3,none⟩ v').heap[b]?=w.heap[b]?:=by
 rw [Only.setCell _ p5 _ _ b h5]
 exact hg.block b (by have:=h.bb;have:=h.b12;have:=h.b2;omega) fun e=>(h.row_ne b (by have:=h.bb;omega)).2 e.symm
theorem rt_states (h:LT w0 w base p2 p5 B1 B2 ⟨peer,[],r.counters,[]⟩ (.slice none 0 0) cv (.slice none 0 0)) (h0:w.heap[p0]?=some (.cells (rolCells r sv0 cv0 tv0).toArray TRol (0,0))) (hp0:p0 < base) (h05:p0≠p5) (hS:StasOf w0 sv0 r.states) (hl:r.states.length≤100000)
 (hk:∀ w' sv' B1' B2',LT w0 w' base p2 p5 B1' B2' ⟨peer,r.states.map still,r.counters,[]⟩ sv' cv (.slice none 0 0)→w'.heap[p0]?=some (.cells (rolCells r sv0 cv0 tv0).toArray TRol (0,0))→loop1 (fun t10 w next5=>n16c13 (.string peer) (.pointer (some ⟨p0,0,none⟩)) (.pointer (some ⟨p2,0,none⟩)) (.pointer (some ⟨p5,0,none⟩)) t10 next5 (TurR w0 r peer) w) (.int .i64 0) w') :
 loop1 (fun t9 w next2=>n16c14 (.string peer) (.pointer (some ⟨p0,0,none⟩)) (.pointer (some ⟨p2,0,none⟩)) (.pointer (some ⟨p5,0,none⟩)) t9 next2 (TurR w0 r peer) w) (.int .i64 0) w:=by
 obtain ⟨SA,sc,rfl,_,_,hlm,hel⟩:=SliceOf.open hS
 refine loop1_intro (fun a w=>∃ (k:Nat) (sv:Value) (B1 B2:Nat),a = .int .i64 (k:Int)∧k≤r.states.length∧LT w0 w base p2 p5 B1 B2 ⟨peer,(r.states.take k).map still,r.counters,[]⟩ sv cv (.slice none 0 0)∧w.heap[p0]?=some (.cells (rolCells r (.slice SA r.states.length sc) cv0 tv0).toArray TRol (0,0))) (fun a _=>r.states.length - (intOf a).toNat) ⟨0,_,_,_,rfl,by omega,h,h0⟩ ?_
 rintro _ w ⟨k,sv,B1,B2,rfl,hk',h,h0⟩
 unfold n16c14
 by_cases hlt:k < r.states.length
 case neg =>
  obtain rfl:k=r.states.length:=by omega
  have d1:decide ((r.states.length:Int) < (r.states.length:Int))=false:=decide_eq_false (by omega)
  rw [List.take_length] at h
  simp (disch:=try exact DI) only [↓PR,QR,simprocAttr,(cells_of_heap h0).1,d1]
  exact hk _ _ _ _ h h0
 obtain ⟨x,hx⟩:=getElem?_lt hlt
 obtain ⟨b,o,cs,rfl,_,hA,rfl⟩:=hel k x hx
 have dk:(k:Int) < (r.states.length:Int):=by omega
 have d1:decide ((k:Int) < (r.states.length:Int))=true:=decide_eq_true dk
 have hw:IntKind.i64.wrap ((k:Int)+1)=((k+1:Nat):Int):=by rw [wrap_ok (by omega) (by omega)];omega
 have hlo:∀ g,sv.ownBlock=some g→B1≤g∧g < w.heap.size:=fun g hg=>World.ownsRow.lt h.os g hg
 have p2b:=h.p2b
 have p5b:=h.p5b
 have bb:=h.bb
 have b12:=h.b12
 have b2:=h.b2
 have l2:=h.l2
 have l5:=h.l5
 obtain ⟨q,hq⟩:∃ q,q=sv.ownBlock.getD w.heap.size:=⟨_,rfl⟩
 have qB:B1≤q:=by
  rw [hq]
  cases hc:sv.ownBlock with
  | none=>simp only [Option.getD_none];omega
  | some g=>simp only [Option.getD_some];exact (hlo g hc).1
 have hbw:b < w0.heap.size:=by
  have:=hA 0 _ rfl
  rcases Nat.lt_or_ge b w0.heap.size with h' | h'
  · exact h'
  · simp [World.cell?,Array.getElem?_eq_none h'] at this
 have q5:p5≠q:=by omega
 have q0:p0≠q:=by omega
 have qb:b≠q:=by omega
 simp (disch:=try exact DI) only [↓PR,QR,simprocAttr,(cells_of_heap h0).1,d1]
 refine drawK_introB q q (w1:=w) (fun _ _ _ _=>rfl) ?_
 have eD:Ext w (Sw.drew w):=(Ext.refl w).drew
 have sD:(Sw.drew w).heap=w.heap:=rfl
 generalize Sw.drew w=D at eD sD ⊢
 have c5:=(cells_of_heap h.h5).1
 have c0:=(cells_of_heap h0).1
 have hD:=h.ext eD
 have hAw:=hA.c3 h.e
 unfold n16c2
 simp (disch:=try exact DI) only [↓PR,QR,simprocAttr,c5,c0,hAw]
 have oY:(D.alloc (.cells (staCells (still x)).toArray 50)).heap[D.heap.size]?=some (.cells (staCells (still x)).toArray 50 (0,0)):=heap_new _ _ _
 have eY:Ext D (D.alloc (.cells (staCells (still x)).toArray 50)):=ee
 have go:∀ (Y:World),Ext D Y→Y.heap[D.heap.size]?=some (.cells (staCells (still x)).toArray 50 (0,0))→KB w q q Y∧opV Pg (Builtin.append_ #[22,22] 22 #[sv,.slice (some ⟨D.heap.size,0,none⟩) 1 1]) (panK (TurR w0 r peer)) Y fun t62 w_1=>KB w q q w_1∧n16c1 (.pointer (some ⟨p5,0,none⟩)) (.int .i64 (k:Int)) t62 (KB w q q) (fun a0' w'=>(∃ (k:Nat) (sv:Value) (B1 B2:Nat),a0' = .int .i64 (k:Int)∧k≤r.states.length∧LT w0 w' base p2 p5 B1 B2 ⟨peer,(r.states.take k).map still,r.counters,[]⟩ sv cv (.slice none 0 0)∧w'.heap[p0]?=some (.cells (rolCells r (.slice (some ⟨b,o,none⟩) r.states.length sc) cv0 tv0).toArray TRol (0,0)))∧r.states.length - (intOf a0').toNat < r.states.length - (intOf (.int .i64 (k:Int))).toNat) (TurR w0 r peer) w_1:=by
  intro Y eY oY
  have hKY:KB w q q Y:=fun y hy _ _=>(eY.block y (by rw [sD];exact hy)).trans (by rw [sD])
  refine ⟨hKY,?_⟩
  have hY:=hD.ext eY
  refine append1_sta (still x) hY.os oY (by have:=hY.b12;have:=hY.b2;omega) (by rw [List.length_map,List.length_take];omega) ?_
  intro v' w' hO hgr
  have sY:w.heap.size≤Y.heap.size:=by have:=eD.size;have:=eY.size;omega
  have hKw:KB w q q w':=fun y hy h1 h2=>(hgr.block y (by omega) (by
   intro e
   rw [hq,← e] at h1
   exact h1 rfl)).trans (hKY y hy h1 h2)
  refine ⟨hKw,?_⟩
  have h5':w'.heap[p5]?=some (.cells (rolCells ⟨peer,(r.states.take k).map still,r.counters,[]⟩ sv cv (.slice none 0 0)).toArray TRol (0,0)):=(hKw p5 (by omega) q5 q5).trans h.h5
  have hL:=hY.pushS rfl hO hgr
  have ov:=own_one hO fun _=>rfl
  unfold n16c1
  simp (disch:=try exact DI) only [↓PR,QR,simprocAttr,(cells_of_heap h5').1,(cells_of_heap h5').2]
  refine turnK_intro ?_
  simp (disch:=try exact DI) only [↓PR,QR,simprocAttr,hw]
  have ht:(r.states.take (k+1)).map still=(r.states.take k).map still++[still x]:=by rw [List.take_add_one,hx];simp
  exact ⟨⟨k+1,v',_,_,rfl,by omega,by rw [ht];exact hL,(hKw p0 (by omega) q0 q0).trans h0⟩,meas_lt (kd := .i64) hlt⟩
 exact go _ eY oY
end
def flipR (nm:ByteArray) (s:StpD):StpD:=if s.kind≤2 then { s with kind:=3 - s.kind,peer:=nm } else { s with kind:=4 }
theorem flip_ref {nm:ByteArray} {s:StpD} (h:1≤s.kind∧s.kind≤4):flipS nm s=flipR nm s:=by
 unfold flipS flipR speaksB
 rcases (by omega:s.kind=1∨s.kind=2∨s.kind=3∨s.kind=4) with h | h | h | h<;>simp [h]
 cases s
 simp_all
theorem speaks_le {s:StpD} (h:1≤s.kind∧s.kind≤4):speaksB s.kind=decide (s.kind≤2):=by
 unfold speaksB
 rcases (by omega:s.kind=1∨s.kind=2∨s.kind=3∨s.kind=4) with h | h | h | h<;>simp [h]
section
variable {w0 w w':World} {base p0 p2 p5 pt B1 B2:Nat} {r q:RolD} {sv cv tv sv0 cv0 tv0 v':Value} {peer:ByteArray}
theorem any_sym (l:List StpD) (y:StpD):l.any (fun x=>decide (y=x))=l.any (fun x=>decide (x=y)):=by
 congr 1
 funext x
 rw [decide_eq_decide]
 exact ⟨Eq.symm,Eq.symm⟩
theorem rt_known {y:StpD} {k:Nat} {next5:Value→World→Prop} (h:LT w0 w base p2 p5 B1 B2 q sv cv tv) (ht:w.heap[pt]?=some (.cells (stpCells y).toArray 71 (0,0))) (hpt:B2≤pt) (htv:∀ b,tv.ownBlock=some b→b < pt) (h0:w.heap[p0]?=some (.cells (rolCells r sv0 cv0 tv0).toArray TRol (0,0))) (hp0:p0 < base) (h05:p0≠p5) (hl:q.steps.length≤100000) (hk:k≤100000)
 (hn:∀ w' tv',LT w0 w' base p2 p5 B1 B2 { q with steps:=addS q.steps y } sv cv tv'→w'.heap[p0]?=some (.cells (rolCells r sv0 cv0 tv0).toArray TRol (0,0))→next5 (.int .i64 ((k+1:Nat):Int)) w') :
 loop2 (fun t12 t13 w next8=>n16c6 (.pointer (some ⟨p5,0,none⟩)) (.int .i64 (k:Int)) (.pointer (some ⟨pt,0,none⟩)) t12 t13 next5 next8 (TurR w0 r peer) w) (.bool false) (.int .i64 0) w:=by
 have hT:StpsOf w tv q.steps:=OwnE.slice h.ot (fun _=>rfl) (fun _ _=>rfl)
 obtain ⟨A,tc,rfl,_,_,hlm,hel⟩:=SliceOf.open hT
 have hwk:IntKind.i64.wrap ((k:Int)+1)=((k+1:Nat):Int):=by rw [wrap_ok (by omega) (by omega)];omega
 refine loop2_intro (fun a b w'=>∃ j:Nat,a = .bool ((q.steps.take j).any fun x=>decide (x=y))∧b = .int .i64 (j:Int)∧j≤q.steps.length∧Ext w w') (fun _ b _=>q.steps.length - (intOf b).toNat) ⟨0,by simp,rfl,by omega,Ext.refl _⟩ ?_
 rintro _ _ w1 ⟨j,rfl,rfl,hj,e1⟩
 have h1:=h.ext e1
 have ht1:=e1.obj ht
 have h01:=e1.obj h0
 unfold n16c6
 by_cases hlt:j < q.steps.length
 · obtain ⟨x,hx⟩:=getElem?_lt hlt
   obtain ⟨b,o,cs,rfl,_,hA,rfl⟩:=hel j x hx
   have dj:(j:Int) < (q.steps.length:Int):=by omega
   have d1:decide ((j:Int) < (q.steps.length:Int))=true:=decide_eq_true dj
   have hw:IntKind.i64.wrap ((j:Int)+1)=((j+1:Nat):Int):=by rw [wrap_ok (by omega) (by omega)];omega
   have htk:(q.steps.take (j+1)).any (fun x=>decide (x=y))=((q.steps.take j).any (fun x=>decide (x=y))||decide (x=y)):=by rw [List.take_add_one,hx,List.any_append];simp
   simp (disch:=try exact DI) only [↓PR,QR,simprocAttr,(cells_of_heap h1.h5).1,d1]
   refine drawK_intro ?_
   have eD:Ext w1 (Sw.drew w1):=(Ext.refl w1).drew
   generalize Sw.drew w1=D at eD ⊢
   have c5:=(cells_of_heap (eD.obj h1.h5)).1
   have ct:=(cells_of_heap (eD.obj ht1)).1
   have hAD:=hA.c9 (e1.trans eD)
   unfold n16c3
   cases hb:(q.steps.take j).any (fun x=>decide (x=y)) with
   | true =>
    rw [hb,Bool.true_or] at htk
    simp (disch:=try exact DI) only [↓PR,QR,simprocAttr,hw]
    exact ⟨⟨j+1,by rw [htk],rfl,by omega,e1.trans eD⟩,meas_lt (kd := .i64) hlt⟩
   | false =>
    rw [hb,Bool.false_or] at htk
    simp (disch:=try exact DI) only [↓PR,QR,simprocAttr,c5,ct,hAD,stp_eq,hw]
    exact ⟨⟨j+1,by rw [htk],rfl,by omega,e1.trans eD⟩,meas_lt (kd := .i64) hlt⟩
 · obtain rfl:j=q.steps.length:=by omega
   have d1:decide ((q.steps.length:Int) < (q.steps.length:Int))=false:=decide_eq_false (by omega)
   rw [List.take_length]
   cases hb:q.steps.any (fun x=>decide (x=y)) with
   | true =>
    have ha:addS q.steps y=q.steps:=by unfold addS;rw [any_sym,hb,if_pos rfl]
    simp (disch:=try exact DI) only [↓PR,QR,simprocAttr,(cells_of_heap h1.h5).1,d1,↓n16c5,hwk]
    refine hn _ (.slice A q.steps.length tc) ?_ h01
    rw [ha]
    exact h1
   | false =>
    have ha:addS q.steps y=q.steps++[y]:=by unfold addS;rw [any_sym,hb,if_neg (by simp)]
    simp (disch:=try exact DI) only [↓PR,QR,simprocAttr,(cells_of_heap h1.h5).1,d1,↓n16c5,↓n16c4,(cells_of_heap ht1).1]
    generalize hY:World.alloc w1 _=Y
    have eY:Ext w1 Y:=by rw [← hY];exact (Ext.refl w1).alloc _
    have oY:Y.heap[w1.heap.size]?=some (.cells (stpCells y).toArray 71 (0,0)):=by rw [← hY];exact heap_new _ _ _
    clear hY
    have hYL:=h1.ext eY
    refine append1_stp y hYL.ot oY (by have:=hYL.b2;omega) (by omega) ?_
    intro v' w' hO hgr
    have h5':w'.heap[p5]?=some (.cells (rolCells q sv cv (.slice A q.steps.length tc)).toArray TRol (0,0)):=(hgr.block p5 (by have:=hYL.p5b;have:=hYL.bb;have:=hYL.b12;have:=hYL.b2;omega) fun e=>(hYL.row_ne p5 hYL.p5b).2 e.symm).trans hYL.h5
    have ov:=own_one hO fun _=>rfl
    have hL:=hYL.pushT hO hgr
    have h0':(w'.setCell ⟨p5,3,none⟩ v').heap[p0]?=some (.cells (rolCells r sv0 cv0 tv0).toArray TRol (0,0)):=(hYL.oldT hgr hp0 h05).trans (eY.obj h01)
    simp (disch:=try exact DI) only [↓PR,QR,simprocAttr,(cells_of_heap h5').1,(cells_of_heap h5').2,hwk]
    refine hn _ v' ?_ h0'
    rw [ha]
    exact hL
end
section
variable {w0 w w':World} {base p0 p2 p5 pt B1 B2:Nat} {r q:RolD} {sv cv tv sv0 cv0 tv0 v':Value} {peer:ByteArray}
theorem turn_no {k:Nat} {x:StpD} {acc:List StpD} (hx:r.steps[k]?=some x) (hI:turnL r.name peer [] r.steps=turnL r.name peer acc (r.steps.drop k)) (h:(speaksB x.kind&&decide (x.peer≠peer))=true):turnL r.name peer [] r.steps=none:=by
 rw [hI,List.drop_eq_getElem_cons (List.getElem?_eq_some_iff.1 hx).1,(List.getElem?_eq_some_iff.1 hx).2,turnL,if_pos h]
theorem turn_go {k:Nat} {x:StpD} {acc:List StpD} (hx:r.steps[k]?=some x) (hI:turnL r.name peer [] r.steps=turnL r.name peer acc (r.steps.drop k)) (h:(speaksB x.kind&&decide (x.peer≠peer))=false):turnL r.name peer [] r.steps=turnL r.name peer (addS acc (flipS r.name x)) (r.steps.drop (k+1)):=by
 rw [hI,List.drop_eq_getElem_cons (List.getElem?_eq_some_iff.1 hx).1,(List.getElem?_eq_some_iff.1 hx).2,turnL,if_neg (by rw [h];simp)]
theorem LT.setAt (h:LT w0 w base p2 p5 B1 B2 q sv cv tv) (hpt:B2≤pt) (htv:∀ b,tv.ownBlock=some b→b < pt) (o:Nat) (v:Value):LT w0 (w.setCell ⟨pt,o,none⟩ v) base p2 p5 B1 B2 q sv cv tv:=by
 have g1:=h.p2b
 have g2:=h.p5b
 have g3:=h.bb
 have g4:=h.b12
 have l2:=h.l2
 refine { h with e:=h.e.setCell (p:=⟨pt,o,none⟩) (by show w0.heap.size≤pt;omega) v,h2:=?_,h5:=?_,oc:=?_,os:=?_,ot:=?_,b2:=by rw [World.size_setCell];exact h.b2 }
 · rw [Only.setCell _ pt _ _ p2 (by omega)]
   exact h.h2
 · rw [Only.setCell _ pt _ _ p5 (by omega)]
   exact h.h5
 · exact OwnE.keep h.oc fun b hb=>Only.setCell _ pt _ _ b (by have:=h.lc b hb;omega)
 · exact OwnE.keep h.os fun b hb=>Only.setCell _ pt _ _ b (by have:=h.ls b hb;omega)
 · exact OwnE.keep h.ot fun b hb=>Only.setCell _ pt _ _ b (by have:=htv b hb;omega)
theorem rt_steps {ss:List StaD} {cs:List CntD} (h:LT w0 w base p2 p5 B1 B2 ⟨peer,ss,cs,[]⟩ sv cv tv) (h0:w.heap[p0]?=some (.cells (rolCells r sv0 cv0 tv0).toArray TRol (0,0))) (hp0:p0 < base) (h05:p0≠p5) (hT:StpsOf w0 tv0 r.steps) (hl:r.steps.length≤100000) (hkd:∀ x∈r.steps,1≤x.kind∧x.kind≤4)
 (hP:turnP r peer=match turnL r.name peer [] r.steps with
  | none=>(zeroR,2)
  | some l=>(⟨peer,ss,cs,l⟩,0)) :
 loop1 (fun t10 w next5=>n16c13 (.string peer) (.pointer (some ⟨p0,0,none⟩)) (.pointer (some ⟨p2,0,none⟩)) (.pointer (some ⟨p5,0,none⟩)) t10 next5 (TurR w0 r peer) w) (.int .i64 0) w:=by
 obtain ⟨A,tc,rfl,_,_,hlm,hel⟩:=SliceOf.open hT
 refine loop1_intro (fun a w=>∃ (k:Nat) (acc:List StpD) (tv:Value),a = .int .i64 (k:Int)∧k≤r.steps.length∧acc.length≤k∧LT w0 w base p2 p5 B1 B2 ⟨peer,ss,cs,acc⟩ sv cv tv∧w.heap[p0]?=some (.cells (rolCells r sv0 cv0 (.slice A r.steps.length tc)).toArray TRol (0,0))∧turnL r.name peer [] r.steps=turnL r.name peer acc (r.steps.drop k)) (fun a _=>r.steps.length - (intOf a).toNat) ⟨0,[],tv,rfl,by omega,by simp,h,h0,rfl⟩ ?_
 rintro _ w ⟨k,acc,tv,rfl,hk,hacc,h,h0,hI⟩
 unfold n16c13
 by_cases hlt:k < r.steps.length
 case neg =>
  obtain rfl:k=r.steps.length:=by omega
  have d1:decide ((r.steps.length:Int) < (r.steps.length:Int))=false:=decide_eq_false (by omega)
  rw [List.drop_length,turnL] at hI
  rw [hI] at hP
  have o1:=own_one h.os fun _=>rfl
  have o2:=own_one h.oc fun _=>rfl
  have o3:=own_one h.ot fun _=>rfl
  simp (disch:=try exact DI) only [↓PR,QR,simprocAttr,(cells_of_heap h0).1,d1,↓n16c11,(cells_of_heap h.h5).1,(cells_of_heap h.h2).1,(cells_of_heap h.h2).2]
  exact trn_fin h.l2 h.e h.p2b (h.os.base h.bb) h.oc (h.ot.base (Nat.le_trans h.bb h.b12)) hP
 obtain ⟨x,hx⟩:=getElem?_lt hlt
 obtain ⟨b,o,cs1,rfl,_,hA,rfl⟩:=hel k x hx
 have hkx:=hkd x (List.mem_of_getElem? hx)
 have dk:(k:Int) < (r.steps.length:Int):=by omega
 have d1:decide ((k:Int) < (r.steps.length:Int))=true:=decide_eq_true dk
 have hAw:=hA.c9 h.e
 have p2b:=h.p2b
 have p5b:=h.p5b
 have bb:=h.bb
 have b12:=h.b12
 have b2:=h.b2
 have l2:=h.l2
 simp (disch:=try exact DI) only [↓PR,QR,simprocAttr,(cells_of_heap h0).1,d1,↓n16c12,hAw]
 have hcc:(speaksB x.kind&&decide (x.peer≠peer))=(decide (x.kind≤2)&&!decide (x.peer=peer)):=by rw [speaks_le hkx];simp
 have oY:(w.alloc (.cells (stpCells x).toArray 71)).heap[w.heap.size]?=some (.cells (stpCells x).toArray 71 (0,0)):=heap_new _ _ _
 have eY:Ext w (w.alloc (.cells (stpCells x).toArray 71)):=ee
 change condP _ (n16c9 _ _ (w.alloc (.cells (stpCells x).toArray 71))) (n16c10 _ _ _ _ _ _ (w.alloc (.cells (stpCells x).toArray 71)))
 have sY:(w.alloc (.cells (stpCells x).toArray 71)).heap.size=w.heap.size+1:=Array.size_push ..
 generalize (w.alloc (.cells (stpCells x).toArray 71))=Y at oY eY sY ⊢
 have hY:=h.ext eY
 have h0Y:=eY.obj h0
 have ltv:∀ g,tv.ownBlock=some g→g < w.heap.size:=fun g hg=>(World.ownsRow.lt h.ot g hg).2
 generalize hpt:w.heap.size=pt at oY sY ltv ⊢
 cases hcv:(decide (x.kind≤2)&&!decide (x.peer=peer)) with
 | true =>
  rw [turn_no hx hI (hcc.trans hcv)] at hP
  simp (disch:=try exact DI) only [↓PR,QR,simprocAttr,↓n16c9,(cells_of_heap hY.h2).1,(cells_of_heap hY.h2).2]
  exact trn_zero h.l2 hY.e hP
 | false =>
 have hI2:=turn_go hx hI (hcc.trans hcv)
 rw [flip_ref hkx] at hI2
 have fin:∀ (X:World),LT w0 X base p2 p5 B1 B2 ⟨peer,ss,cs,acc⟩ sv cv tv→X.heap[pt]?=some (.cells (stpCells (flipR r.name x)).toArray 71 (0,0))→X.heap[p0]?=some (.cells (rolCells r sv0 cv0 (.slice (some ⟨b,o,none⟩) r.steps.length tc)).toArray TRol (0,0))→loop2 (fun t12 t13 w next8=>n16c6 (.pointer (some ⟨p5,0,none⟩)) (.int .i64 (k:Int)) (.pointer (some ⟨pt,0,none⟩)) t12 t13 (fun a0' w'=>(∃ (k:Nat) (acc:List StpD) (tv:Value),a0' = .int .i64 (k:Int)∧k≤r.steps.length∧acc.length≤k∧LT w0 w' base p2 p5 B1 B2 ⟨peer,ss,cs,acc⟩ sv cv tv∧w'.heap[p0]?=some (.cells (rolCells r sv0 cv0 (.slice (some ⟨b,o,none⟩) r.steps.length tc)).toArray TRol (0,0))∧turnL r.name peer [] r.steps=turnL r.name peer acc (r.steps.drop k))∧r.steps.length - (intOf a0').toNat < r.steps.length - (intOf (.int .i64 (k:Int))).toNat) next8 (TurR w0 r peer) w) (.bool false) (.int .i64 0) X:=by
  intro X hX htX h0X
  refine rt_known hX htX (by omega) ltv h0X hp0 h05 (by show acc.length≤100000;omega) (by omega) ?_
  intro w' tv' hL h0'
  refine ⟨⟨k+1,_,tv',rfl,by omega,?_,hL,h0',hI2⟩,meas_lt (kd := .i64) hlt⟩
  show (addS acc (flipR r.name x)).length≤k+1
  have:=addS_len acc (flipR r.name x)
  omega
 by_cases h2:x.kind≤2
 · have d2:decide (x.kind≤2)=true:=decide_eq_true h2
   have hfl:flipR r.name x={ x with kind:=3 - x.kind,peer:=r.name }:=by unfold flipR;rw [if_pos h2]
   have hwk:IntKind.i64.wrap (3 - x.kind)=3 - x.kind:=wrap_ok (by omega) (by omega)
   simp (disch:=try exact DI) only [↓PR,QR,simprocAttr,↓n16c10,(cells_of_heap oY).1,d2]
   refine drawK_introB pt pt (w1:=Y) (fun _ _ _ _=>rfl) ?_
   have eD:Ext Y (Sw.drew Y):=(Ext.refl Y).drew
   have sD:(Sw.drew Y).heap=Y.heap:=rfl
   generalize Sw.drew Y=D at eD sD ⊢
   have q0:p0≠pt:=by omega
   have c0:=(cells_of_heap h0Y).1
   have oD:=eD.obj oY
   have hKD:KB Y pt pt D:=fun y hy _ _=>by rw [sD]
   unfold n16c8
   simp (disch:=try exact DI) only [↓PR,QR,simprocAttr,c0,(cells_of_heap oD).1]
   refine ⟨hKD,?_⟩
   unfold n16c7
   simp (disch:=try exact DI) only [↓PR,QR,simprocAttr,hwk,(cells_of_heap oD).1,(cells_of_heap oD).2]
   have hDL:=hY.ext eD
   have hX2:=(hDL.setAt (pt:=pt) (by omega) ltv 2 (.int .i64 (3 - x.kind))).setAt (pt:=pt) (by omega) ltv 4 (.string r.name)
   have oX:((D.setCell ⟨pt,2,none⟩ (.int .i64 (3 - x.kind))).setCell ⟨pt,4,none⟩ (.string r.name)).heap[pt]?=some (.cells (stpCells (flipR r.name x)).toArray 71 (0,0)):=by
    rw [hfl]
    exact heap_set (heap_set oD _) _
   have h0X:((D.setCell ⟨pt,2,none⟩ (.int .i64 (3 - x.kind))).setCell ⟨pt,4,none⟩ (.string r.name)).heap[p0]?=some (.cells (rolCells r sv0 cv0 (.slice (some ⟨b,o,none⟩) r.steps.length tc)).toArray TRol (0,0)):=by
    rw [Only.setCell _ pt _ _ p0 q0,Only.setCell _ pt _ _ p0 q0]
    exact eD.obj h0Y
   refine ⟨fun y hy h1 h2=>(Only.setCell D pt 2 _ y h1).trans (hKD y hy h1 h2),?_⟩
   refine turnK_intro ?_
   exact fin _ hX2 oX h0X
 · have d2:decide (x.kind≤2)=false:=decide_eq_false h2
   have hfl:flipR r.name x={ x with kind:=4 }:=by unfold flipR;rw [if_neg h2]
   rw [hfl] at fin
   simp (disch:=try exact DI) only [↓PR,QR,simprocAttr,↓n16c10,(cells_of_heap oY).1,(cells_of_heap oY).2,d2]
   have hX2:=hY.setAt (pt:=pt) (by omega) ltv 2 (.int .i64 4)
   have oX:(Y.setCell ⟨pt,2,none⟩ (.int .i64 4)).heap[pt]?=some (.cells (stpCells { x with kind:=4 }).toArray 71 (0,0)):=heap_set oY _
   have h0X:(Y.setCell ⟨pt,2,none⟩ (.int .i64 4)).heap[p0]?=some (.cells (rolCells r sv0 cv0 (.slice (some ⟨b,o,none⟩) r.steps.length tc)).toArray TRol (0,0)):=by
    rw [Only.setCell _ pt _ _ p0 (by omega)]
    exact h0Y
   exact fin _ hX2 oX h0X
end
def n11c1 (t1 t10 t14:Value) (C3:World→Prop) (K2:World→Prop) (R:RT) (w:World):Prop :=
 qV Pg C3 (Instr.fieldAt 26 t1 1) fun t16 =>
 opU Pg (Instr.storeAt 22 t16 t10) (panK R) w fun w =>
 turnK w fun C4 w =>
 qV Pg C4 (Instr.fieldAt 26 t1 3) fun t17 =>
 opU Pg (Instr.storeAt 24 t17 t14) (panK R) w fun w =>
 turnK w fun C5 w =>
 K2 w
def n11c2 (t1 t6 t10 t11 t13 t15:Value) (C1:World→Prop) (K2:World→Prop) (R:RT) (w:World):Prop :=
 opV Pg (Builtin.append_ #[24,24] 24 #[t11,t13]) (panK R) w fun t14 w =>
 C1 w∧(
 opU Pg (Instr.storeAt 23 t15 t6) (panK R) w fun w =>
 turnK w fun C3 w =>
 n11c1 t1 t10 t14 C3 K2 R w)
def n11c3 (t1 t10 t14:Value) (C6:World→Prop) (K2:World→Prop) (R:RT) (w:World):Prop :=
 qV Pg C6 (Instr.fieldAt 26 t1 1) fun t16 =>
 opU Pg (Instr.storeAt 22 t16 t10) (panK R) w fun w =>
 turnK w fun C7 w =>
 qV Pg C7 (Instr.fieldAt 26 t1 3) fun t17 =>
 opU Pg (Instr.storeAt 24 t17 t14) (panK R) w fun w =>
 turnK w fun C8 w =>
 K2 w
def n11c4 (t1 t6 t10 t11 t13 t15:Value) (C1:World→Prop) (K2:World→Prop) (R:RT) (w:World):Prop :=
 opV Pg (Builtin.append_ #[24,24] 24 #[t11,t13]) (panK R) w fun t14 w =>
 C1 w∧(
 opU Pg (Instr.storeAt 23 t15 t6) (panK R) w fun w =>
 turnK w fun C6 w =>
 n11c3 t1 t10 t14 C6 K2 R w)
def n11c5 (t1 t6 t7 t9 t13 t15:Value) (C1:World→Prop) (K2:World→Prop) (R:RT) (w:World):Prop :=
 (
 opV Pg (Builtin.append_ #[22,22] 22 #[t7,t9]) (panK R) w fun t10 w =>
 C1 w∧(
 opV Pg (Instr.buildSlice 24 0 #[]) (panK R) w fun t11 w =>
 C1 w∧(
 n11c2 t1 t6 t10 t11 t13 t15 C1 K2 R w)))∧(
 opV Pg (Instr.buildSlice 24 0 #[]) (panK R) w fun t11 w =>
 C1 w∧(
 opV Pg (Builtin.append_ #[22,22] 22 #[t7,t9]) (panK R) w fun t10 w =>
 C1 w∧(
 n11c4 t1 t6 t10 t11 t13 t15 C1 K2 R w)))
def n11c6 (t1 t10 t14:Value) (C9:World→Prop) (K2:World→Prop) (R:RT) (w:World):Prop :=
 qV Pg C9 (Instr.fieldAt 26 t1 1) fun t16 =>
 opU Pg (Instr.storeAt 22 t16 t10) (panK R) w fun w =>
 turnK w fun C10 w =>
 qV Pg C10 (Instr.fieldAt 26 t1 3) fun t17 =>
 opU Pg (Instr.storeAt 24 t17 t14) (panK R) w fun w =>
 turnK w fun C11 w =>
 K2 w
def n11c7 (t1 t6 t10 t11 t13 t15:Value) (C1:World→Prop) (K2:World→Prop) (R:RT) (w:World):Prop :=
 opV Pg (Builtin.append_ #[24,24] 24 #[t11,t13]) (panK R) w fun t14 w =>
 C1 w∧(
 opU Pg (Instr.storeAt 23 t15 t6) (panK R) w fun w =>
 turnK w fun C9 w =>
 n11c6 t1 t10 t14 C9 K2 R w)
def n11c8 (t1 t6 t9 t11 t13 t15:Value) (C1:World→Prop) (K2:World→Prop) (R:RT) (w:World):Prop :=
 opV Pg (Instr.buildSlice 22 0 #[]) (panK R) w fun t7 w =>
 C1 w∧(
 opV Pg (Builtin.append_ #[22,22] 22 #[t7,t9]) (panK R) w fun t10 w =>
 C1 w∧(
 n11c7 t1 t6 t10 t11 t13 t15 C1 K2 R w))
def n11c9 (t1 t6 t9 t13:Value) (C1:World→Prop) (K2:World→Prop) (R:RT) (w:World):Prop :=
 qV Pg C1 (Instr.fieldAt 26 t1 2) fun t15 =>
 (
 opV Pg (Instr.buildSlice 22 0 #[]) (panK R) w fun t7 w =>
 C1 w∧(
 n11c5 t1 t6 t7 t9 t13 t15 C1 K2 R w))∧(
 opV Pg (Instr.buildSlice 24 0 #[]) (panK R) w fun t11 w =>
 C1 w∧(
 n11c8 t1 t6 t9 t11 t13 t15 C1 K2 R w))
def n11c10 (t1 t10 t14:Value) (C12:World→Prop) (K2:World→Prop) (R:RT) (w:World):Prop :=
 qV Pg C12 (Instr.fieldAt 26 t1 1) fun t16 =>
 opU Pg (Instr.storeAt 22 t16 t10) (panK R) w fun w =>
 turnK w fun C13 w =>
 qV Pg C13 (Instr.fieldAt 26 t1 3) fun t17 =>
 opU Pg (Instr.storeAt 24 t17 t14) (panK R) w fun w =>
 turnK w fun C14 w =>
 K2 w
def n11c11 (t1 t6 t10 t11 t13 t15:Value) (C1:World→Prop) (K2:World→Prop) (R:RT) (w:World):Prop :=
 opV Pg (Builtin.append_ #[24,24] 24 #[t11,t13]) (panK R) w fun t14 w =>
 C1 w∧(
 opU Pg (Instr.storeAt 23 t15 t6) (panK R) w fun w =>
 turnK w fun C12 w =>
 n11c10 t1 t10 t14 C12 K2 R w)
def n11c12 (t1 t10 t14:Value) (C15:World→Prop) (K2:World→Prop) (R:RT) (w:World):Prop :=
 qV Pg C15 (Instr.fieldAt 26 t1 1) fun t16 =>
 opU Pg (Instr.storeAt 22 t16 t10) (panK R) w fun w =>
 turnK w fun C16 w =>
 qV Pg C16 (Instr.fieldAt 26 t1 3) fun t17 =>
 opU Pg (Instr.storeAt 24 t17 t14) (panK R) w fun w =>
 turnK w fun C17 w =>
 K2 w
def n11c13 (t1 t6 t10 t11 t13 t15:Value) (C1:World→Prop) (K2:World→Prop) (R:RT) (w:World):Prop :=
 opV Pg (Builtin.append_ #[24,24] 24 #[t11,t13]) (panK R) w fun t14 w =>
 C1 w∧(
 opU Pg (Instr.storeAt 23 t15 t6) (panK R) w fun w =>
 turnK w fun C15 w =>
 n11c12 t1 t10 t14 C15 K2 R w)
def n11c14 (t1 t6 t7 t9 t13:Value) (C1:World→Prop) (K2:World→Prop) (R:RT) (w:World):Prop :=
 qV Pg C1 (Instr.fieldAt 26 t1 2) fun t15 =>
 (
 opV Pg (Builtin.append_ #[22,22] 22 #[t7,t9]) (panK R) w fun t10 w =>
 C1 w∧(
 opV Pg (Instr.buildSlice 24 0 #[]) (panK R) w fun t11 w =>
 C1 w∧(
 n11c11 t1 t6 t10 t11 t13 t15 C1 K2 R w)))∧(
 opV Pg (Instr.buildSlice 24 0 #[]) (panK R) w fun t11 w =>
 C1 w∧(
 opV Pg (Builtin.append_ #[22,22] 22 #[t7,t9]) (panK R) w fun t10 w =>
 C1 w∧(
 n11c13 t1 t6 t10 t11 t13 t15 C1 K2 R w)))
def n11c15 (t1 t10 t14:Value) (C18:World→Prop) (K2:World→Prop) (R:RT) (w:World):Prop :=
 qV Pg C18 (Instr.fieldAt 26 t1 1) fun t16 =>
 opU Pg (Instr.storeAt 22 t16 t10) (panK R) w fun w =>
 turnK w fun C19 w =>
 qV Pg C19 (Instr.fieldAt 26 t1 3) fun t17 =>
 opU Pg (Instr.storeAt 24 t17 t14) (panK R) w fun w =>
 turnK w fun C20 w =>
 K2 w
def n11c16 (t1 t6 t10 t11 t13 t15:Value) (C1:World→Prop) (K2:World→Prop) (R:RT) (w:World):Prop :=
 opV Pg (Builtin.append_ #[24,24] 24 #[t11,t13]) (panK R) w fun t14 w =>
 C1 w∧(
 opU Pg (Instr.storeAt 23 t15 t6) (panK R) w fun w =>
 turnK w fun C18 w =>
 n11c15 t1 t10 t14 C18 K2 R w)
def n11c17 (t1 t6 t7 t9 t11 t13:Value) (C1:World→Prop) (K2:World→Prop) (R:RT) (w:World):Prop :=
 qV Pg C1 (Instr.fieldAt 26 t1 2) fun t15 =>
 opV Pg (Builtin.append_ #[22,22] 22 #[t7,t9]) (panK R) w fun t10 w =>
 C1 w∧(
 n11c16 t1 t6 t10 t11 t13 t15 C1 K2 R w)
def n11c18 (t1 t3 t5 t7 t9 t13:Value) (C1:World→Prop) (K2:World→Prop) (R:RT) (w:World):Prop :=
 (
 opV Pg (Builtin.append_ #[23,23] 23 #[t3,t5]) (panK R) w fun t6 w =>
 C1 w∧(
 n11c14 t1 t6 t7 t9 t13 C1 K2 R w))∧(
 opV Pg (Instr.buildSlice 24 0 #[]) (panK R) w fun t11 w =>
 C1 w∧(
 opV Pg (Builtin.append_ #[23,23] 23 #[t3,t5]) (panK R) w fun t6 w =>
 C1 w∧(
 n11c17 t1 t6 t7 t9 t11 t13 C1 K2 R w)))
def n11c19 (t1 t10 t14:Value) (C21:World→Prop) (K2:World→Prop) (R:RT) (w:World):Prop :=
 qV Pg C21 (Instr.fieldAt 26 t1 1) fun t16 =>
 opU Pg (Instr.storeAt 22 t16 t10) (panK R) w fun w =>
 turnK w fun C22 w =>
 qV Pg C22 (Instr.fieldAt 26 t1 3) fun t17 =>
 opU Pg (Instr.storeAt 24 t17 t14) (panK R) w fun w =>
 turnK w fun C23 w =>
 K2 w
def n11c20 (t1 t6 t10 t11 t13 t15:Value) (C1:World→Prop) (K2:World→Prop) (R:RT) (w:World):Prop :=
 opV Pg (Builtin.append_ #[24,24] 24 #[t11,t13]) (panK R) w fun t14 w =>
 C1 w∧(
 opU Pg (Instr.storeAt 23 t15 t6) (panK R) w fun w =>
 turnK w fun C21 w =>
 n11c19 t1 t10 t14 C21 K2 R w)
def n11c21 (t1 t6 t9 t11 t13:Value) (C1:World→Prop) (K2:World→Prop) (R:RT) (w:World):Prop :=
 qV Pg C1 (Instr.fieldAt 26 t1 2) fun t15 =>
 opV Pg (Instr.buildSlice 22 0 #[]) (panK R) w fun t7 w =>
 C1 w∧(
 opV Pg (Builtin.append_ #[22,22] 22 #[t7,t9]) (panK R) w fun t10 w =>
 C1 w∧(
 n11c20 t1 t6 t10 t11 t13 t15 C1 K2 R w))
def n11c22 (t1 t10 t14:Value) (C24:World→Prop) (K2:World→Prop) (R:RT) (w:World):Prop :=
 qV Pg C24 (Instr.fieldAt 26 t1 1) fun t16 =>
 opU Pg (Instr.storeAt 22 t16 t10) (panK R) w fun w =>
 turnK w fun C25 w =>
 qV Pg C25 (Instr.fieldAt 26 t1 3) fun t17 =>
 opU Pg (Instr.storeAt 24 t17 t14) (panK R) w fun w =>
 turnK w fun C26 w =>
 K2 w
def n11c23 (t1 t6 t10 t11 t13 t15:Value) (C1:World→Prop) (K2:World→Prop) (R:RT) (w:World):Prop :=
 opV Pg (Builtin.append_ #[24,24] 24 #[t11,t13]) (panK R) w fun t14 w =>
 C1 w∧(
 opU Pg (Instr.storeAt 23 t15 t6) (panK R) w fun w =>
 turnK w fun C24 w =>
 n11c22 t1 t10 t14 C24 K2 R w)
def n11c24 (t1 t6 t7 t9 t11 t13:Value) (C1:World→Prop) (K2:World→Prop) (R:RT) (w:World):Prop :=
 qV Pg C1 (Instr.fieldAt 26 t1 2) fun t15 =>
 opV Pg (Builtin.append_ #[22,22] 22 #[t7,t9]) (panK R) w fun t10 w =>
 C1 w∧(
 n11c23 t1 t6 t10 t11 t13 t15 C1 K2 R w)
def n11c25 (t1 t3 t5 t9 t11 t13:Value) (C1:World→Prop) (K2:World→Prop) (R:RT) (w:World):Prop :=
 (
 opV Pg (Builtin.append_ #[23,23] 23 #[t3,t5]) (panK R) w fun t6 w =>
 C1 w∧(
 n11c21 t1 t6 t9 t11 t13 C1 K2 R w))∧(
 opV Pg (Instr.buildSlice 22 0 #[]) (panK R) w fun t7 w =>
 C1 w∧(
 opV Pg (Builtin.append_ #[23,23] 23 #[t3,t5]) (panK R) w fun t6 w =>
 C1 w∧(
 n11c24 t1 t6 t7 t9 t11 t13 C1 K2 R w)))
def n11c26 (t1 t3 t5 t9 t13:Value) (C1:World→Prop) (K2:World→Prop) (R:RT) (w:World):Prop :=
 (
 opV Pg (Builtin.append_ #[23,23] 23 #[t3,t5]) (panK R) w fun t6 w =>
 C1 w∧(
 n11c9 t1 t6 t9 t13 C1 K2 R w))∧(
 opV Pg (Instr.buildSlice 22 0 #[]) (panK R) w fun t7 w =>
 C1 w∧(
 n11c18 t1 t3 t5 t7 t9 t13 C1 K2 R w))∧(
 opV Pg (Instr.buildSlice 24 0 #[]) (panK R) w fun t11 w =>
 C1 w∧(
 n11c25 t1 t3 t5 t9 t11 t13 C1 K2 R w))
def n11c27 (t1 t10 t14:Value) (C27:World→Prop) (K2:World→Prop) (R:RT) (w:World):Prop :=
 qV Pg C27 (Instr.fieldAt 26 t1 1) fun t16 =>
 opU Pg (Instr.storeAt 22 t16 t10) (panK R) w fun w =>
 turnK w fun C28 w =>
 qV Pg C28 (Instr.fieldAt 26 t1 3) fun t17 =>
 opU Pg (Instr.storeAt 24 t17 t14) (panK R) w fun w =>
 turnK w fun C29 w =>
 K2 w
def n11c28 (t1 t6 t10 t11 t13 t15:Value) (C1:World→Prop) (K2:World→Prop) (R:RT) (w:World):Prop :=
 opV Pg (Builtin.append_ #[24,24] 24 #[t11,t13]) (panK R) w fun t14 w =>
 C1 w∧(
 opU Pg (Instr.storeAt 23 t15 t6) (panK R) w fun w =>
 turnK w fun C27 w =>
 n11c27 t1 t10 t14 C27 K2 R w)
def n11c29 (t1 t10 t14:Value) (C30:World→Prop) (K2:World→Prop) (R:RT) (w:World):Prop :=
 qV Pg C30 (Instr.fieldAt 26 t1 1) fun t16 =>
 opU Pg (Instr.storeAt 22 t16 t10) (panK R) w fun w =>
 turnK w fun C31 w =>
 qV Pg C31 (Instr.fieldAt 26 t1 3) fun t17 =>
 opU Pg (Instr.storeAt 24 t17 t14) (panK R) w fun w =>
 turnK w fun C32 w =>
 K2 w
def n11c30 (t1 t6 t10 t11 t13 t15:Value) (C1:World→Prop) (K2:World→Prop) (R:RT) (w:World):Prop :=
 opV Pg (Builtin.append_ #[24,24] 24 #[t11,t13]) (panK R) w fun t14 w =>
 C1 w∧(
 opU Pg (Instr.storeAt 23 t15 t6) (panK R) w fun w =>
 turnK w fun C30 w =>
 n11c29 t1 t10 t14 C30 K2 R w)
def n11c31 (t1 t6 t7 t9 t13:Value) (C1:World→Prop) (K2:World→Prop) (R:RT) (w:World):Prop :=
 qV Pg C1 (Instr.fieldAt 26 t1 2) fun t15 =>
 (
 opV Pg (Builtin.append_ #[22,22] 22 #[t7,t9]) (panK R) w fun t10 w =>
 C1 w∧(
 opV Pg (Instr.buildSlice 24 0 #[]) (panK R) w fun t11 w =>
 C1 w∧(
 n11c28 t1 t6 t10 t11 t13 t15 C1 K2 R w)))∧(
 opV Pg (Instr.buildSlice 24 0 #[]) (panK R) w fun t11 w =>
 C1 w∧(
 opV Pg (Builtin.append_ #[22,22] 22 #[t7,t9]) (panK R) w fun t10 w =>
 C1 w∧(
 n11c30 t1 t6 t10 t11 t13 t15 C1 K2 R w)))
def n11c32 (t1 t10 t14:Value) (C33:World→Prop) (K2:World→Prop) (R:RT) (w:World):Prop :=
 qV Pg C33 (Instr.fieldAt 26 t1 1) fun t16 =>
 opU Pg (Instr.storeAt 22 t16 t10) (panK R) w fun w =>
 turnK w fun C34 w =>
 qV Pg C34 (Instr.fieldAt 26 t1 3) fun t17 =>
 opU Pg (Instr.storeAt 24 t17 t14) (panK R) w fun w =>
 turnK w fun C35 w =>
 K2 w
def n11c33 (t1 t6 t10 t11 t13 t15:Value) (C1:World→Prop) (K2:World→Prop) (R:RT) (w:World):Prop :=
 opV Pg (Builtin.append_ #[24,24] 24 #[t11,t13]) (panK R) w fun t14 w =>
 C1 w∧(
 opU Pg (Instr.storeAt 23 t15 t6) (panK R) w fun w =>
 turnK w fun C33 w =>
 n11c32 t1 t10 t14 C33 K2 R w)
def n11c34 (t1 t6 t7 t9 t11 t13:Value) (C1:World→Prop) (K2:World→Prop) (R:RT) (w:World):Prop :=
 qV Pg C1 (Instr.fieldAt 26 t1 2) fun t15 =>
 opV Pg (Builtin.append_ #[22,22] 22 #[t7,t9]) (panK R) w fun t10 w =>
 C1 w∧(
 n11c33 t1 t6 t10 t11 t13 t15 C1 K2 R w)
def n11c35 (t1 t3 t5 t7 t9 t13:Value) (C1:World→Prop) (K2:World→Prop) (R:RT) (w:World):Prop :=
 (
 opV Pg (Builtin.append_ #[23,23] 23 #[t3,t5]) (panK R) w fun t6 w =>
 C1 w∧(
 n11c31 t1 t6 t7 t9 t13 C1 K2 R w))∧(
 opV Pg (Instr.buildSlice 24 0 #[]) (panK R) w fun t11 w =>
 C1 w∧(
 opV Pg (Builtin.append_ #[23,23] 23 #[t3,t5]) (panK R) w fun t6 w =>
 C1 w∧(
 n11c34 t1 t6 t7 t9 t11 t13 C1 K2 R w)))
def n11c36 (t1 t10 t14:Value) (C36:World→Prop) (K2:World→Prop) (R:RT) (w:World):Prop :=
 qV Pg C36 (Instr.fieldAt 26 t1 1) fun t16 =>
 opU Pg (Instr.storeAt 22 t16 t10) (panK R) w fun w =>
 turnK w fun C37 w =>
 qV Pg C37 (Instr.fieldAt 26 t1 3) fun t17 =>
 opU Pg (Instr.storeAt 24 t17 t14) (panK R) w fun w =>
 turnK w fun C38 w =>
 K2 w
def n11c37 (t1 t6 t10 t11 t13 t15:Value) (C1:World→Prop) (K2:World→Prop) (R:RT) (w:World):Prop :=
 opV Pg (Builtin.append_ #[24,24] 24 #[t11,t13]) (panK R) w fun t14 w =>
 C1 w∧(
 opU Pg (Instr.storeAt 23 t15 t6) (panK R) w fun w =>
 turnK w fun C36 w =>
 n11c36 t1 t10 t14 C36 K2 R w)
def n11c38 (t1 t6 t7 t9 t11 t13:Value) (C1:World→Prop) (K2:World→Prop) (R:RT) (w:World):Prop :=
 qV Pg C1 (Instr.fieldAt 26 t1 2) fun t15 =>
 opV Pg (Builtin.append_ #[22,22] 22 #[t7,t9]) (panK R) w fun t10 w =>
 C1 w∧(
 n11c37 t1 t6 t10 t11 t13 t15 C1 K2 R w)
def n11c39 (t1 t5 t7 t9 t11 t13:Value) (C1:World→Prop) (K2:World→Prop) (R:RT) (w:World):Prop :=
 opV Pg (Instr.buildSlice 23 0 #[]) (panK R) w fun t3 w =>
 C1 w∧(
 opV Pg (Builtin.append_ #[23,23] 23 #[t3,t5]) (panK R) w fun t6 w =>
 C1 w∧(
 n11c38 t1 t6 t7 t9 t11 t13 C1 K2 R w))
def n11c40 (t1 t5 t7 t9 t13:Value) (C1:World→Prop) (K2:World→Prop) (R:RT) (w:World):Prop :=
 (
 opV Pg (Instr.buildSlice 23 0 #[]) (panK R) w fun t3 w =>
 C1 w∧(
 n11c35 t1 t3 t5 t7 t9 t13 C1 K2 R w))∧(
 opV Pg (Instr.buildSlice 24 0 #[]) (panK R) w fun t11 w =>
 C1 w∧(
 n11c39 t1 t5 t7 t9 t11 t13 C1 K2 R w))
def n11c41 (t1 t10 t14:Value) (C39:World→Prop) (K2:World→Prop) (R:RT) (w:World):Prop :=
 qV Pg C39 (Instr.fieldAt 26 t1 1) fun t16 =>
 opU Pg (Instr.storeAt 22 t16 t10) (panK R) w fun w =>
 turnK w fun C40 w =>
 qV Pg C40 (Instr.fieldAt 26 t1 3) fun t17 =>
 opU Pg (Instr.storeAt 24 t17 t14) (panK R) w fun w =>
 turnK w fun C41 w =>
 K2 w
def n11c42 (t1 t6 t10 t11 t13 t15:Value) (C1:World→Prop) (K2:World→Prop) (R:RT) (w:World):Prop :=
 opV Pg (Builtin.append_ #[24,24] 24 #[t11,t13]) (panK R) w fun t14 w =>
 C1 w∧(
 opU Pg (Instr.storeAt 23 t15 t6) (panK R) w fun w =>
 turnK w fun C39 w =>
 n11c41 t1 t10 t14 C39 K2 R w)
def n11c43 (t1 t6 t9 t11 t13:Value) (C1:World→Prop) (K2:World→Prop) (R:RT) (w:World):Prop :=
 qV Pg C1 (Instr.fieldAt 26 t1 2) fun t15 =>
 opV Pg (Instr.buildSlice 22 0 #[]) (panK R) w fun t7 w =>
 C1 w∧(
 opV Pg (Builtin.append_ #[22,22] 22 #[t7,t9]) (panK R) w fun t10 w =>
 C1 w∧(
 n11c42 t1 t6 t10 t11 t13 t15 C1 K2 R w))
def n11c44 (t1 t10 t14:Value) (C42:World→Prop) (K2:World→Prop) (R:RT) (w:World):Prop :=
 qV Pg C42 (Instr.fieldAt 26 t1 1) fun t16 =>
 opU Pg (Instr.storeAt 22 t16 t10) (panK R) w fun w =>
 turnK w fun C43 w =>
 qV Pg C43 (Instr.fieldAt 26 t1 3) fun t17 =>
 opU Pg (Instr.storeAt 24 t17 t14) (panK R) w fun w =>
 turnK w fun C44 w =>
 K2 w
def n11c45 (t1 t6 t10 t11 t13 t15:Value) (C1:World→Prop) (K2:World→Prop) (R:RT) (w:World):Prop :=
 opV Pg (Builtin.append_ #[24,24] 24 #[t11,t13]) (panK R) w fun t14 w =>
 C1 w∧(
 opU Pg (Instr.storeAt 23 t15 t6) (panK R) w fun w =>
 turnK w fun C42 w =>
 n11c44 t1 t10 t14 C42 K2 R w)
def n11c46 (t1 t6 t7 t9 t11 t13:Value) (C1:World→Prop) (K2:World→Prop) (R:RT) (w:World):Prop :=
 qV Pg C1 (Instr.fieldAt 26 t1 2) fun t15 =>
 opV Pg (Builtin.append_ #[22,22] 22 #[t7,t9]) (panK R) w fun t10 w =>
 C1 w∧(
 n11c45 t1 t6 t10 t11 t13 t15 C1 K2 R w)
def n11c47 (t1 t3 t5 t9 t11 t13:Value) (C1:World→Prop) (K2:World→Prop) (R:RT) (w:World):Prop :=
 (
 opV Pg (Builtin.append_ #[23,23] 23 #[t3,t5]) (panK R) w fun t6 w =>
 C1 w∧(
 n11c43 t1 t6 t9 t11 t13 C1 K2 R w))∧(
 opV Pg (Instr.buildSlice 22 0 #[]) (panK R) w fun t7 w =>
 C1 w∧(
 opV Pg (Builtin.append_ #[23,23] 23 #[t3,t5]) (panK R) w fun t6 w =>
 C1 w∧(
 n11c46 t1 t6 t7 t9 t11 t13 C1 K2 R w)))
def n11c48 (t1 t10 t14:Value) (C45:World→Prop) (K2:World→Prop) (R:RT) (w:World):Prop :=
 qV Pg C45 (Instr.fieldAt 26 t1 1) fun t16 =>
 opU Pg (Instr.storeAt 22 t16 t10) (panK R) w fun w =>
 turnK w fun C46 w =>
 qV Pg C46 (Instr.fieldAt 26 t1 3) fun t17 =>
 opU Pg (Instr.storeAt 24 t17 t14) (panK R) w fun w =>
 turnK w fun C47 w =>
 K2 w
def n11c49 (t1 t6 t10 t11 t13 t15:Value) (C1:World→Prop) (K2:World→Prop) (R:RT) (w:World):Prop :=
 opV Pg (Builtin.append_ #[24,24] 24 #[t11,t13]) (panK R) w fun t14 w =>
 C1 w∧(
 opU Pg (Instr.storeAt 23 t15 t6) (panK R) w fun w =>
 turnK w fun C45 w =>
 n11c48 t1 t10 t14 C45 K2 R w)
def n11c50 (t1 t6 t7 t9 t11 t13:Value) (C1:World→Prop) (K2:World→Prop) (R:RT) (w:World):Prop :=
 qV Pg C1 (Instr.fieldAt 26 t1 2) fun t15 =>
 opV Pg (Builtin.append_ #[22,22] 22 #[t7,t9]) (panK R) w fun t10 w =>
 C1 w∧(
 n11c49 t1 t6 t10 t11 t13 t15 C1 K2 R w)
def n11c51 (t1 t5 t7 t9 t11 t13:Value) (C1:World→Prop) (K2:World→Prop) (R:RT) (w:World):Prop :=
 opV Pg (Instr.buildSlice 23 0 #[]) (panK R) w fun t3 w =>
 C1 w∧(
 opV Pg (Builtin.append_ #[23,23] 23 #[t3,t5]) (panK R) w fun t6 w =>
 C1 w∧(
 n11c50 t1 t6 t7 t9 t11 t13 C1 K2 R w))
def n11c52 (t1 t5 t9 t11 t13:Value) (C1:World→Prop) (K2:World→Prop) (R:RT) (w:World):Prop :=
 (
 opV Pg (Instr.buildSlice 23 0 #[]) (panK R) w fun t3 w =>
 C1 w∧(
 n11c47 t1 t3 t5 t9 t11 t13 C1 K2 R w))∧(
 opV Pg (Instr.buildSlice 22 0 #[]) (panK R) w fun t7 w =>
 C1 w∧(
 n11c51 t1 t5 t7 t9 t11 t13 C1 K2 R w))
def n11c53 (t1 t2:Value) (C1:World→Prop) (R:RT) (w:World):Prop :=
 qV Pg C1 (Instr.fieldAt 26 t1 2) fun t4 =>
 qV Pg C1 (Instr.loadAt 23 t4) fun t5 =>
 qV Pg C1 (Instr.fieldAt 26 t1 1) fun t8 =>
 qV Pg C1 (Instr.loadAt 22 t8) fun t9 =>
 qV Pg C1 (Instr.fieldAt 26 t1 3) fun t12 =>
 qV Pg C1 (Instr.loadAt 24 t12) fun t13 =>
 joinK (fun (w:World) =>
 opV Pg (Instr.loadAt 26 t1) (panK R) w fun t18 w =>
 opU Pg (Instr.storeAt 26 t2 t18) (panK R) w fun w =>
 qW Pg 26 t2 w fun r0 =>
 R (.returned r0) w) fun K2 =>
 (
 opV Pg (Instr.buildSlice 23 0 #[]) (panK R) w fun t3 w =>
 C1 w∧(
 n11c26 t1 t3 t5 t9 t13 C1 K2 R w))∧(
 opV Pg (Instr.buildSlice 22 0 #[]) (panK R) w fun t7 w =>
 C1 w∧(
 n11c40 t1 t5 t7 t9 t13 C1 K2 R w))∧(
 opV Pg (Instr.buildSlice 24 0 #[]) (panK R) w fun t11 w =>
 C1 w∧(
 n11c52 t1 t5 t9 t11 t13 C1 K2 R w))
def n11 (t0:Value) (R:RT) (w:World):Prop :=
 opV Pg (Instr.box 26 t0) (panK R) w fun t1 w =>
 opV Pg (Instr.alloc 26 true (.tuple #[])) (panK R) w fun t2 w =>
 drawK w fun C1 w =>
 n11c53 t1 t2 C1 R w
set_option maxHeartbeats 40000000 in
theorem n11s {t0:Value} {R:RT} {w:World} (h:n11 t0 R w):Calls Pg 22 #[t0] w R:=by
 refine yD Tryz.func22 ?_
 refine zs<|zr<|yv h fun _ w h=>yv h fun _ w h=>zn<|zk<|zs<|yh [3,4,5,6,7,8,9,10,11,12,13,14,15,16,17] h fun C hC h=>ye 1 hC h fun _ h=>?_
 refine ye 2 hC h fun _ h=>?_
 refine ye 5 hC h fun _ h=>?_
 refine ye 6 hC h fun _ h=>?_
 refine ye 9 hC h fun _ h=>?_
 refine ye 10 hC h fun _ h=>?_
 refine joinK_elim h (fun K2 hK h=>?_)
 refine sim_dmeet [3,6,7,10,11,14,15,16,17] (fun ρ w=>K2 w) (fun T hT=>?_) (fun σ w h=>?_)
 · obtain ⟨h0,h1,h2⟩:=h
   refine sim_dloud3 0 4 8 rfl rfl rfl (by kernel_rfl) (fun _ _=>rfl) (fun _ _=>rfl) (fun _ _=>rfl) ?_ ?_ ?_
   · have h:=h0
     refine yS h fun _ w h=>zn ?_
     obtain ⟨hC,h⟩:=h
     refine ⟨_,fun _ h=>h,hC,?_⟩
     obtain ⟨h0,h1,h2⟩:=h
     refine sim_dloud3 3 4 8 rfl rfl rfl (by kernel_rfl) (fun _ _=>rfl) (fun _ _=>rfl) (fun _ _=>rfl) ?_ ?_ ?_
     · have h:=h0
       refine yx h fun _ w h=>zn ?_
       obtain ⟨hC,h⟩:=h
       refine ⟨_,fun _ h=>h,hC,?_⟩
       refine ye 12 hC h fun _ h=>?_
       obtain ⟨h0,h1⟩:=h
       refine sim_dloud2 4 8 rfl rfl (by kernel_rfl) (fun _ _=>rfl) (fun _ _=>rfl) ?_ ?_
       · have h:=h0
         refine yS h fun _ w h=>zn ?_
         obtain ⟨hC,h⟩:=h
         refine ⟨_,fun _ h=>h,hC,?_⟩
         obtain ⟨h0,h1⟩:=h
         refine sim_dloud2 7 8 rfl rfl (by kernel_rfl) (fun _ _=>rfl) (fun _ _=>rfl) ?_ ?_
         · have h:=h0
           refine yx h fun _ w h=>zn ?_
           obtain ⟨hC,h⟩:=h
           refine ⟨_,fun _ h=>h,hC,?_⟩
           refine yo 8 ?_
           refine yS h fun _ w h=>zn ?_
           obtain ⟨hC,h⟩:=h
           refine ⟨hC,?_⟩
           refine yo 11 ?_
           refine yx h fun _ w h=>zn ?_
           obtain ⟨hC,h⟩:=h
           refine ⟨hC,?_⟩
           refine yq 13 3 ?_
           refine yu h fun w h=>zn ?_
           obtain ⟨C3,hC,h⟩:=h
           refine ⟨C3,hC,?_⟩
           refine ye 14 hC h fun _ h=>?_
           refine yq 15 3 ?_
           refine yu h fun w h=>zn ?_
           obtain ⟨C4,hC,h⟩:=h
           refine ⟨C4,hC,?_⟩
           refine ye 16 hC h fun _ h=>?_
           refine yq 17 1 ?_
           refine yu h fun w h=>zn ?_
           obtain ⟨C5,hC,h⟩:=h
           refine ⟨C5,hC,?_⟩
           refine yz ?_
           exact zt hT h
         have h:=h1
         refine yS h fun _ w h=>zn ?_
         obtain ⟨hC,h⟩:=h
         refine ⟨_,fun _ h=>h,hC,?_⟩
         refine yo 7 ?_
         refine yx h fun _ w h=>zn ?_
         obtain ⟨hC,h⟩:=h
         refine ⟨hC,?_⟩
         refine yo 11 ?_
         refine yx h fun _ w h=>zn ?_
         obtain ⟨hC,h⟩:=h
         refine ⟨hC,?_⟩
         refine yq 13 3 ?_
         refine yu h fun w h=>zn ?_
         obtain ⟨C6,hC,h⟩:=h
         refine ⟨C6,hC,?_⟩
         refine ye 14 hC h fun _ h=>?_
         refine yq 15 3 ?_
         refine yu h fun w h=>zn ?_
         obtain ⟨C7,hC,h⟩:=h
         refine ⟨C7,hC,?_⟩
         refine ye 16 hC h fun _ h=>?_
         refine yq 17 1 ?_
         refine yu h fun w h=>zn ?_
         obtain ⟨C8,hC,h⟩:=h
         refine ⟨C8,hC,?_⟩
         refine yz ?_
         exact zt hT h
       have h:=h1
       refine yS h fun _ w h=>zn ?_
       obtain ⟨hC,h⟩:=h
       refine ⟨_,fun _ h=>h,hC,?_⟩
       refine yo 4 ?_
       refine yS h fun _ w h=>zn ?_
       obtain ⟨hC,h⟩:=h
       refine ⟨hC,?_⟩
       refine yo 7 ?_
       refine yx h fun _ w h=>zn ?_
       obtain ⟨hC,h⟩:=h
       refine ⟨hC,?_⟩
       refine yo 11 ?_
       refine yx h fun _ w h=>zn ?_
       obtain ⟨hC,h⟩:=h
       refine ⟨hC,?_⟩
       refine yq 13 3 ?_
       refine yu h fun w h=>zn ?_
       obtain ⟨C9,hC,h⟩:=h
       refine ⟨C9,hC,?_⟩
       refine ye 14 hC h fun _ h=>?_
       refine yq 15 3 ?_
       refine yu h fun w h=>zn ?_
       obtain ⟨C10,hC,h⟩:=h
       refine ⟨C10,hC,?_⟩
       refine ye 16 hC h fun _ h=>?_
       refine yq 17 1 ?_
       refine yu h fun w h=>zn ?_
       obtain ⟨C11,hC,h⟩:=h
       refine ⟨C11,hC,?_⟩
       refine yz ?_
       exact zt hT h
     · have h:=h1
       refine yS h fun _ w h=>zn ?_
       obtain ⟨hC,h⟩:=h
       refine ⟨_,fun _ h=>h,hC,?_⟩
       obtain ⟨h0,h1⟩:=h
       refine sim_dloud2 3 8 rfl rfl (by kernel_rfl) (fun _ _=>rfl) (fun _ _=>rfl) ?_ ?_
       · have h:=h0
         refine yx h fun _ w h=>zn ?_
         obtain ⟨hC,h⟩:=h
         refine ⟨_,fun _ h=>h,hC,?_⟩
         refine ye 12 hC h fun _ h=>?_
         obtain ⟨h0,h1⟩:=h
         refine sim_dloud2 7 8 rfl rfl (by kernel_rfl) (fun _ _=>rfl) (fun _ _=>rfl) ?_ ?_
         · have h:=h0
           refine yx h fun _ w h=>zn ?_
           obtain ⟨hC,h⟩:=h
           refine ⟨_,fun _ h=>h,hC,?_⟩
           refine yo 8 ?_
           refine yS h fun _ w h=>zn ?_
           obtain ⟨hC,h⟩:=h
           refine ⟨hC,?_⟩
           refine yo 11 ?_
           refine yx h fun _ w h=>zn ?_
           obtain ⟨hC,h⟩:=h
           refine ⟨hC,?_⟩
           refine yq 13 3 ?_
           refine yu h fun w h=>zn ?_
           obtain ⟨C12,hC,h⟩:=h
           refine ⟨C12,hC,?_⟩
           refine ye 14 hC h fun _ h=>?_
           refine yq 15 3 ?_
           refine yu h fun w h=>zn ?_
           obtain ⟨C13,hC,h⟩:=h
           refine ⟨C13,hC,?_⟩
           refine ye 16 hC h fun _ h=>?_
           refine yq 17 1 ?_
           refine yu h fun w h=>zn ?_
           obtain ⟨C14,hC,h⟩:=h
           refine ⟨C14,hC,?_⟩
           refine yz ?_
           exact zt hT h
         have h:=h1
         refine yS h fun _ w h=>zn ?_
         obtain ⟨hC,h⟩:=h
         refine ⟨_,fun _ h=>h,hC,?_⟩
         refine yo 7 ?_
         refine yx h fun _ w h=>zn ?_
         obtain ⟨hC,h⟩:=h
         refine ⟨hC,?_⟩
         refine yo 11 ?_
         refine yx h fun _ w h=>zn ?_
         obtain ⟨hC,h⟩:=h
         refine ⟨hC,?_⟩
         refine yq 13 3 ?_
         refine yu h fun w h=>zn ?_
         obtain ⟨C15,hC,h⟩:=h
         refine ⟨C15,hC,?_⟩
         refine ye 14 hC h fun _ h=>?_
         refine yq 15 3 ?_
         refine yu h fun w h=>zn ?_
         obtain ⟨C16,hC,h⟩:=h
         refine ⟨C16,hC,?_⟩
         refine ye 16 hC h fun _ h=>?_
         refine yq 17 1 ?_
         refine yu h fun w h=>zn ?_
         obtain ⟨C17,hC,h⟩:=h
         refine ⟨C17,hC,?_⟩
         refine yz ?_
         exact zt hT h
       have h:=h1
       refine yS h fun _ w h=>zn ?_
       obtain ⟨hC,h⟩:=h
       refine ⟨_,fun _ h=>h,hC,?_⟩
       refine yo 3 ?_
       refine yx h fun _ w h=>zn ?_
       obtain ⟨hC,h⟩:=h
       refine ⟨hC,?_⟩
       refine ye 12 hC h fun _ h=>?_
       refine yo 7 ?_
       refine yx h fun _ w h=>zn ?_
       obtain ⟨hC,h⟩:=h
       refine ⟨hC,?_⟩
       refine yo 11 ?_
       refine yx h fun _ w h=>zn ?_
       obtain ⟨hC,h⟩:=h
       refine ⟨hC,?_⟩
       refine yq 13 3 ?_
       refine yu h fun w h=>zn ?_
       obtain ⟨C18,hC,h⟩:=h
       refine ⟨C18,hC,?_⟩
       refine ye 14 hC h fun _ h=>?_
       refine yq 15 3 ?_
       refine yu h fun w h=>zn ?_
       obtain ⟨C19,hC,h⟩:=h
       refine ⟨C19,hC,?_⟩
       refine ye 16 hC h fun _ h=>?_
       refine yq 17 1 ?_
       refine yu h fun w h=>zn ?_
       obtain ⟨C20,hC,h⟩:=h
       refine ⟨C20,hC,?_⟩
       refine yz ?_
       exact zt hT h
     have h:=h2
     refine yS h fun _ w h=>zn ?_
     obtain ⟨hC,h⟩:=h
     refine ⟨_,fun _ h=>h,hC,?_⟩
     obtain ⟨h0,h1⟩:=h
     refine sim_dloud2 3 4 rfl rfl (by kernel_rfl) (fun _ _=>rfl) (fun _ _=>rfl) ?_ ?_
     · have h:=h0
       refine yx h fun _ w h=>zn ?_
       obtain ⟨hC,h⟩:=h
       refine ⟨_,fun _ h=>h,hC,?_⟩
       refine ye 12 hC h fun _ h=>?_
       refine yo 4 ?_
       refine yS h fun _ w h=>zn ?_
       obtain ⟨hC,h⟩:=h
       refine ⟨hC,?_⟩
       refine yo 7 ?_
       refine yx h fun _ w h=>zn ?_
       obtain ⟨hC,h⟩:=h
       refine ⟨hC,?_⟩
       refine yo 11 ?_
       refine yx h fun _ w h=>zn ?_
       obtain ⟨hC,h⟩:=h
       refine ⟨hC,?_⟩
       refine yq 13 3 ?_
       refine yu h fun w h=>zn ?_
       obtain ⟨C21,hC,h⟩:=h
       refine ⟨C21,hC,?_⟩
       refine ye 14 hC h fun _ h=>?_
       refine yq 15 3 ?_
       refine yu h fun w h=>zn ?_
       obtain ⟨C22,hC,h⟩:=h
       refine ⟨C22,hC,?_⟩
       refine ye 16 hC h fun _ h=>?_
       refine yq 17 1 ?_
       refine yu h fun w h=>zn ?_
       obtain ⟨C23,hC,h⟩:=h
       refine ⟨C23,hC,?_⟩
       refine yz ?_
       exact zt hT h
     have h:=h1
     refine yS h fun _ w h=>zn ?_
     obtain ⟨hC,h⟩:=h
     refine ⟨_,fun _ h=>h,hC,?_⟩
     refine yo 3 ?_
     refine yx h fun _ w h=>zn ?_
     obtain ⟨hC,h⟩:=h
     refine ⟨hC,?_⟩
     refine ye 12 hC h fun _ h=>?_
     refine yo 7 ?_
     refine yx h fun _ w h=>zn ?_
     obtain ⟨hC,h⟩:=h
     refine ⟨hC,?_⟩
     refine yo 11 ?_
     refine yx h fun _ w h=>zn ?_
     obtain ⟨hC,h⟩:=h
     refine ⟨hC,?_⟩
     refine yq 13 3 ?_
     refine yu h fun w h=>zn ?_
     obtain ⟨C24,hC,h⟩:=h
     refine ⟨C24,hC,?_⟩
     refine ye 14 hC h fun _ h=>?_
     refine yq 15 3 ?_
     refine yu h fun w h=>zn ?_
     obtain ⟨C25,hC,h⟩:=h
     refine ⟨C25,hC,?_⟩
     refine ye 16 hC h fun _ h=>?_
     refine yq 17 1 ?_
     refine yu h fun w h=>zn ?_
     obtain ⟨C26,hC,h⟩:=h
     refine ⟨C26,hC,?_⟩
     refine yz ?_
     exact zt hT h
   · have h:=h1
     refine yS h fun _ w h=>zn ?_
     obtain ⟨hC,h⟩:=h
     refine ⟨_,fun _ h=>h,hC,?_⟩
     obtain ⟨h0,h1⟩:=h
     refine sim_dloud2 0 8 rfl rfl (by kernel_rfl) (fun _ _=>rfl) (fun _ _=>rfl) ?_ ?_
     · have h:=h0
       refine yS h fun _ w h=>zn ?_
       obtain ⟨hC,h⟩:=h
       refine ⟨_,fun _ h=>h,hC,?_⟩
       obtain ⟨h0,h1⟩:=h
       refine sim_dloud2 3 8 rfl rfl (by kernel_rfl) (fun _ _=>rfl) (fun _ _=>rfl) ?_ ?_
       · have h:=h0
         refine yx h fun _ w h=>zn ?_
         obtain ⟨hC,h⟩:=h
         refine ⟨_,fun _ h=>h,hC,?_⟩
         refine ye 12 hC h fun _ h=>?_
         obtain ⟨h0,h1⟩:=h
         refine sim_dloud2 7 8 rfl rfl (by kernel_rfl) (fun _ _=>rfl) (fun _ _=>rfl) ?_ ?_
         · have h:=h0
           refine yx h fun _ w h=>zn ?_
           obtain ⟨hC,h⟩:=h
           refine ⟨_,fun _ h=>h,hC,?_⟩
           refine yo 8 ?_
           refine yS h fun _ w h=>zn ?_
           obtain ⟨hC,h⟩:=h
           refine ⟨hC,?_⟩
           refine yo 11 ?_
           refine yx h fun _ w h=>zn ?_
           obtain ⟨hC,h⟩:=h
           refine ⟨hC,?_⟩
           refine yq 13 3 ?_
           refine yu h fun w h=>zn ?_
           obtain ⟨C27,hC,h⟩:=h
           refine ⟨C27,hC,?_⟩
           refine ye 14 hC h fun _ h=>?_
           refine yq 15 3 ?_
           refine yu h fun w h=>zn ?_
           obtain ⟨C28,hC,h⟩:=h
           refine ⟨C28,hC,?_⟩
           refine ye 16 hC h fun _ h=>?_
           refine yq 17 1 ?_
           refine yu h fun w h=>zn ?_
           obtain ⟨C29,hC,h⟩:=h
           refine ⟨C29,hC,?_⟩
           refine yz ?_
           exact zt hT h
         have h:=h1
         refine yS h fun _ w h=>zn ?_
         obtain ⟨hC,h⟩:=h
         refine ⟨_,fun _ h=>h,hC,?_⟩
         refine yo 7 ?_
         refine yx h fun _ w h=>zn ?_
         obtain ⟨hC,h⟩:=h
         refine ⟨hC,?_⟩
         refine yo 11 ?_
         refine yx h fun _ w h=>zn ?_
         obtain ⟨hC,h⟩:=h
         refine ⟨hC,?_⟩
         refine yq 13 3 ?_
         refine yu h fun w h=>zn ?_
         obtain ⟨C30,hC,h⟩:=h
         refine ⟨C30,hC,?_⟩
         refine ye 14 hC h fun _ h=>?_
         refine yq 15 3 ?_
         refine yu h fun w h=>zn ?_
         obtain ⟨C31,hC,h⟩:=h
         refine ⟨C31,hC,?_⟩
         refine ye 16 hC h fun _ h=>?_
         refine yq 17 1 ?_
         refine yu h fun w h=>zn ?_
         obtain ⟨C32,hC,h⟩:=h
         refine ⟨C32,hC,?_⟩
         refine yz ?_
         exact zt hT h
       have h:=h1
       refine yS h fun _ w h=>zn ?_
       obtain ⟨hC,h⟩:=h
       refine ⟨_,fun _ h=>h,hC,?_⟩
       refine yo 3 ?_
       refine yx h fun _ w h=>zn ?_
       obtain ⟨hC,h⟩:=h
       refine ⟨hC,?_⟩
       refine ye 12 hC h fun _ h=>?_
       refine yo 7 ?_
       refine yx h fun _ w h=>zn ?_
       obtain ⟨hC,h⟩:=h
       refine ⟨hC,?_⟩
       refine yo 11 ?_
       refine yx h fun _ w h=>zn ?_
       obtain ⟨hC,h⟩:=h
       refine ⟨hC,?_⟩
       refine yq 13 3 ?_
       refine yu h fun w h=>zn ?_
       obtain ⟨C33,hC,h⟩:=h
       refine ⟨C33,hC,?_⟩
       refine ye 14 hC h fun _ h=>?_
       refine yq 15 3 ?_
       refine yu h fun w h=>zn ?_
       obtain ⟨C34,hC,h⟩:=h
       refine ⟨C34,hC,?_⟩
       refine ye 16 hC h fun _ h=>?_
       refine yq 17 1 ?_
       refine yu h fun w h=>zn ?_
       obtain ⟨C35,hC,h⟩:=h
       refine ⟨C35,hC,?_⟩
       refine yz ?_
       exact zt hT h
     have h:=h1
     refine yS h fun _ w h=>zn ?_
     obtain ⟨hC,h⟩:=h
     refine ⟨_,fun _ h=>h,hC,?_⟩
     refine yo 0 ?_
     refine yS h fun _ w h=>zn ?_
     obtain ⟨hC,h⟩:=h
     refine ⟨hC,?_⟩
     refine yo 3 ?_
     refine yx h fun _ w h=>zn ?_
     obtain ⟨hC,h⟩:=h
     refine ⟨hC,?_⟩
     refine ye 12 hC h fun _ h=>?_
     refine yo 7 ?_
     refine yx h fun _ w h=>zn ?_
     obtain ⟨hC,h⟩:=h
     refine ⟨hC,?_⟩
     refine yo 11 ?_
     refine yx h fun _ w h=>zn ?_
     obtain ⟨hC,h⟩:=h
     refine ⟨hC,?_⟩
     refine yq 13 3 ?_
     refine yu h fun w h=>zn ?_
     obtain ⟨C36,hC,h⟩:=h
     refine ⟨C36,hC,?_⟩
     refine ye 14 hC h fun _ h=>?_
     refine yq 15 3 ?_
     refine yu h fun w h=>zn ?_
     obtain ⟨C37,hC,h⟩:=h
     refine ⟨C37,hC,?_⟩
     refine ye 16 hC h fun _ h=>?_
     refine yq 17 1 ?_
     refine yu h fun w h=>zn ?_
     obtain ⟨C38,hC,h⟩:=h
     refine ⟨C38,hC,?_⟩
     refine yz ?_
     exact zt hT h
   have h:=h2
   refine yS h fun _ w h=>zn ?_
   obtain ⟨hC,h⟩:=h
   refine ⟨_,fun _ h=>h,hC,?_⟩
   obtain ⟨h0,h1⟩:=h
   refine sim_dloud2 0 4 rfl rfl (by kernel_rfl) (fun _ _=>rfl) (fun _ _=>rfl) ?_ ?_
   · have h:=h0
     refine yS h fun _ w h=>zn ?_
     obtain ⟨hC,h⟩:=h
     refine ⟨_,fun _ h=>h,hC,?_⟩
     obtain ⟨h0,h1⟩:=h
     refine sim_dloud2 3 4 rfl rfl (by kernel_rfl) (fun _ _=>rfl) (fun _ _=>rfl) ?_ ?_
     · have h:=h0
       refine yx h fun _ w h=>zn ?_
       obtain ⟨hC,h⟩:=h
       refine ⟨_,fun _ h=>h,hC,?_⟩
       refine ye 12 hC h fun _ h=>?_
       refine yo 4 ?_
       refine yS h fun _ w h=>zn ?_
       obtain ⟨hC,h⟩:=h
       refine ⟨hC,?_⟩
       refine yo 7 ?_
       refine yx h fun _ w h=>zn ?_
       obtain ⟨hC,h⟩:=h
       refine ⟨hC,?_⟩
       refine yo 11 ?_
       refine yx h fun _ w h=>zn ?_
       obtain ⟨hC,h⟩:=h
       refine ⟨hC,?_⟩
       refine yq 13 3 ?_
       refine yu h fun w h=>zn ?_
       obtain ⟨C39,hC,h⟩:=h
       refine ⟨C39,hC,?_⟩
       refine ye 14 hC h fun _ h=>?_
       refine yq 15 3 ?_
       refine yu h fun w h=>zn ?_
       obtain ⟨C40,hC,h⟩:=h
       refine ⟨C40,hC,?_⟩
       refine ye 16 hC h fun _ h=>?_
       refine yq 17 1 ?_
       refine yu h fun w h=>zn ?_
       obtain ⟨C41,hC,h⟩:=h
       refine ⟨C41,hC,?_⟩
       refine yz ?_
       exact zt hT h
     have h:=h1
     refine yS h fun _ w h=>zn ?_
     obtain ⟨hC,h⟩:=h
     refine ⟨_,fun _ h=>h,hC,?_⟩
     refine yo 3 ?_
     refine yx h fun _ w h=>zn ?_
     obtain ⟨hC,h⟩:=h
     refine ⟨hC,?_⟩
     refine ye 12 hC h fun _ h=>?_
     refine yo 7 ?_
     refine yx h fun _ w h=>zn ?_
     obtain ⟨hC,h⟩:=h
     refine ⟨hC,?_⟩
     refine yo 11 ?_
     refine yx h fun _ w h=>zn ?_
     obtain ⟨hC,h⟩:=h
     refine ⟨hC,?_⟩
     refine yq 13 3 ?_
     refine yu h fun w h=>zn ?_
     obtain ⟨C42,hC,h⟩:=h
     refine ⟨C42,hC,?_⟩
     refine ye 14 hC h fun _ h=>?_
     refine yq 15 3 ?_
     refine yu h fun w h=>zn ?_
     obtain ⟨C43,hC,h⟩:=h
     refine ⟨C43,hC,?_⟩
     refine ye 16 hC h fun _ h=>?_
     refine yq 17 1 ?_
     refine yu h fun w h=>zn ?_
     obtain ⟨C44,hC,h⟩:=h
     refine ⟨C44,hC,?_⟩
     refine yz ?_
     exact zt hT h
   have h:=h1
   refine yS h fun _ w h=>zn ?_
   obtain ⟨hC,h⟩:=h
   refine ⟨_,fun _ h=>h,hC,?_⟩
   refine yo 0 ?_
   refine yS h fun _ w h=>zn ?_
   obtain ⟨hC,h⟩:=h
   refine ⟨hC,?_⟩
   refine yo 3 ?_
   refine yx h fun _ w h=>zn ?_
   obtain ⟨hC,h⟩:=h
   refine ⟨hC,?_⟩
   refine ye 12 hC h fun _ h=>?_
   refine yo 7 ?_
   refine yx h fun _ w h=>zn ?_
   obtain ⟨hC,h⟩:=h
   refine ⟨hC,?_⟩
   refine yo 11 ?_
   refine yx h fun _ w h=>zn ?_
   obtain ⟨hC,h⟩:=h
   refine ⟨hC,?_⟩
   refine yq 13 3 ?_
   refine yu h fun w h=>zn ?_
   obtain ⟨C45,hC,h⟩:=h
   refine ⟨C45,hC,?_⟩
   refine ye 14 hC h fun _ h=>?_
   refine yq 15 3 ?_
   refine yu h fun w h=>zn ?_
   obtain ⟨C46,hC,h⟩:=h
   refine ⟨C46,hC,?_⟩
   refine ye 16 hC h fun _ h=>?_
   refine yq 17 1 ?_
   refine yu h fun w h=>zn ?_
   obtain ⟨C47,hC,h⟩:=h
   refine ⟨C47,hC,?_⟩
   refine yz ?_
   exact zt hT h
 subst hK
 exact zk<|zs<|zr<|yv h fun _ w h=>yu h fun w h=>zn<|zk<|sim_ret<|body_retC rfl rfl h
theorem own_q2 {C:World→Prop} [ClassNe C] {k:Value→Prop} (p:Nat):qV Pg C (Instr.fieldAt 26 (.pointer (some ⟨p,0,none⟩)) 2) k=k (.pointer (some ⟨p,2,none⟩)):=qV_of fun QP w kk=>by simp (disch:=try exact DI) only [↓PR,QR,simprocAttr]
theorem own_q1 {C:World→Prop} [ClassNe C] {k:Value→Prop} (p:Nat):qV Pg C (Instr.fieldAt 26 (.pointer (some ⟨p,0,none⟩)) 1) k=k (.pointer (some ⟨p,1,none⟩)):=qV_of fun QP w kk=>by simp (disch:=try exact DI) only [↓PR,QR,simprocAttr]
theorem own_q3 {C:World→Prop} [ClassNe C] {k:Value→Prop} (p:Nat):qV Pg C (Instr.fieldAt 26 (.pointer (some ⟨p,0,none⟩)) 3) k=k (.pointer (some ⟨p,3,none⟩)):=qV_of fun QP w kk=>by simp (disch:=try exact DI) only [↓PR,QR,simprocAttr]
theorem own_build_c {w:World} {QP:List PanicEntry→World→Prop} {k:Value→World→Prop} {base:Nat} (hb:base≤w.heap.size) (hk:∀ g w',OwnE w' base 52 2 cntCells (.slice (some ⟨g,0,none⟩) 0 0) []→(g=w.heap.size∧w'.heap.size=g+1)→Ext w w'→k (.slice (some ⟨g,0,none⟩) 0 0) w'):opV Pg (Instr.buildSlice 23 0 #[]) QP w k:=by
 have hO:=OwnE.new w 52 2 cntCells [] (fun x=>rfl) (by simp)
 simp only [List.flatMap_nil,List.length_nil] at hO
 have eW:Ext w (w.alloc (.cells #[] 52)):=ee
 simp (disch:=try exact DI) only [↓PR,QR,simprocAttr]
 exact hk _ _ (hO.base hb) ⟨rfl,Array.size_push ..⟩ eW
theorem own_build_s {w:World} {QP:List PanicEntry→World→Prop} {k:Value→World→Prop} {base:Nat} (hb:base≤w.heap.size) (hk:∀ g w',OwnE w' base 50 3 staCells (.slice (some ⟨g,0,none⟩) 0 0) []→(g=w.heap.size∧w'.heap.size=g+1)→Ext w w'→k (.slice (some ⟨g,0,none⟩) 0 0) w'):opV Pg (Instr.buildSlice 22 0 #[]) QP w k:=by
 have hO:=OwnE.new w 50 3 staCells [] (fun x=>rfl) (by simp)
 simp only [List.flatMap_nil,List.length_nil] at hO
 have eW:Ext w (w.alloc (.cells #[] 50)):=ee
 simp (disch:=try exact DI) only [↓PR,QR,simprocAttr]
 exact hk _ _ (hO.base hb) ⟨rfl,Array.size_push ..⟩ eW
theorem own_build_t {w:World} {QP:List PanicEntry→World→Prop} {k:Value→World→Prop} {base:Nat} (hb:base≤w.heap.size) (hk:∀ g w',OwnE w' base 71 9 stpCells (.slice (some ⟨g,0,none⟩) 0 0) []→(g=w.heap.size∧w'.heap.size=g+1)→Ext w w'→k (.slice (some ⟨g,0,none⟩) 0 0) w'):opV Pg (Instr.buildSlice 24 0 #[]) QP w k:=by
 have hO:=OwnE.new w 71 9 stpCells [] (fun x=>rfl) (by simp)
 simp only [List.flatMap_nil,List.length_nil] at hO
 have eW:Ext w (w.alloc (.cells #[] 71)):=ee
 simp (disch:=try exact DI) only [↓PR,QR,simprocAttr]
 exact hk _ _ (hO.base hb) ⟨rfl,Array.size_push ..⟩ eW
section
variable {w0 D W:World} {r:RolD} {p q:Nat} {sv cv tv vs vc vt:Value}
abbrev OwnR' (w0:World) (r:RolD):Ending→World→Prop:=retR fun u w'=>RolOwn w' w0.heap.size u r∧Ext w0 w'
theorem own_leaf {QP Q1 Q2 Q3 Q4:List PanicEntry→World→Prop} (eD:Ext w0 D) (eW:Ext D W) (h1:D.heap[p]?=some (.cells (rolCells r sv cv tv).toArray TRol (0,0))) (h2:D.heap[q]?=some (.cells zR TRol (0,0))) (l2:w0.heap.size≤q) (l1:w0.heap.size≤p) (hpD:p < D.heap.size) (hqD:q < D.heap.size) (hpq:p≠q) {B:Nat} (hB:D.heap.size≤B)
 (oc:OwnE W w0.heap.size 52 2 cntCells vc r.counters) (os:OwnE W w0.heap.size 50 3 staCells vs r.states) (ot:OwnE W w0.heap.size 71 9 stpCells vt r.steps) (bc:∀ b,vc.ownBlock=some b→D.heap.size≤b) (bs:∀ b,vs.ownBlock=some b→D.heap.size≤b) (bt:∀ b,vt.ownBlock=some b→D.heap.size≤b) :
 opU Pg (Instr.storeAt 23 (.pointer (some ⟨p,2,none⟩)) vc) QP W fun w=>turnK w fun C3 w=>qV Pg C3 (Instr.fieldAt 26 (.pointer (some ⟨p,0,none⟩)) 1) fun t16=>opU Pg (Instr.storeAt 22 t16 vs) Q1 w fun w=>turnK w fun C4 w=>qV Pg C4 (Instr.fieldAt 26 (.pointer (some ⟨p,0,none⟩)) 3) fun t17=>opU Pg (Instr.storeAt 24 t17 vt) Q2 w fun w=>turnK w fun C5 w=>opV Pg (Instr.loadAt 26 (.pointer (some ⟨p,0,none⟩))) Q3 w fun t18 w=>opU Pg (Instr.storeAt 26 (.pointer (some ⟨q,0,none⟩)) t18) Q4 w fun w=>qW Pg 26 (.pointer (some ⟨q,0,none⟩)) w fun r0=>OwnR' w0 r (.returned r0) w:=by
 have g1:=eW.obj h1
 have g2:=eW.obj h2
 have v1:=own_one oc fun _=>rfl
 have v2:=own_one os fun _=>rfl
 have v3:=own_one ot fun _=>rfl
 have k1:=heap_set (o:=2) g1 vc
 simp (disch:=try exact DI) only [↓PR,QR,simprocAttr,(cells_of_heap g1).1,(cells_of_heap g1).2]
 refine turnK_intro ?_
 simp (disch:=try exact DI) only [↓PR,QR,simprocAttr,(cells_of_heap k1).1,(cells_of_heap k1).2]
 refine turnK_intro ?_
 have k2:=heap_set (o:=1) k1 vs
 simp (disch:=try exact DI) only [↓PR,QR,simprocAttr,(cells_of_heap k2).1,(cells_of_heap k2).2]
 refine turnK_intro ?_
 have k3:(((W.setCell ⟨p,2,none⟩ vc).setCell ⟨p,1,none⟩ vs).setCell ⟨p,3,none⟩ vt).heap[p]?=some (.cells (rolCells r vs vc vt).toArray TRol (0,0)):=heap_set (o:=3) k2 vt
 have E3:Ext w0 (((W.setCell ⟨p,2,none⟩ vc).setCell ⟨p,1,none⟩ vs).setCell ⟨p,3,none⟩ vt):=(((eD.trans eW).setCell (p:=⟨p,2,none⟩) l1 _).setCell (p:=⟨p,1,none⟩) l1 _).setCell (p:=⟨p,3,none⟩) l1 _
 have k4:(((W.setCell ⟨p,2,none⟩ vc).setCell ⟨p,1,none⟩ vs).setCell ⟨p,3,none⟩ vt).heap[q]?=some (.cells zR TRol (0,0)):=by
  rw [Only.setCell _ p _ _ q (Ne.symm hpq),Only.setCell _ p _ _ q (Ne.symm hpq),Only.setCell _ p _ _ q (Ne.symm hpq)]
  exact g2
 have kk:∀ b,D.heap.size≤b→(((W.setCell ⟨p,2,none⟩ vc).setCell ⟨p,1,none⟩ vs).setCell ⟨p,3,none⟩ vt).heap[b]?=W.heap[b]?:=fun b hb=>by
  rw [Only.setCell _ p _ _ b (by omega),Only.setCell _ p _ _ b (by omega),Only.setCell _ p _ _ b (by omega)]
 generalize (((W.setCell ⟨p,2,none⟩ vc).setCell ⟨p,1,none⟩ vs).setCell ⟨p,3,none⟩ vt)=X at k3 E3 k4 kk ⊢
 simp (disch:=try exact DI) only [↓PR,QR,simprocAttr,(cells_of_heap k3).1,(cells_of_heap k4).1,(cells_of_heap k4).2]
 have eV:Ext w0 (setCells X q 0 (rolCells r vs vc vt)):=setCells_ext _ _ _ _ E3 l2
 have hk:∀ b,D.heap.size≤b→(setCells X q 0 (rolCells r vs vc vt)).heap[b]?=W.heap[b]?:=fun b hb=>(setCells_only _ _ _ b (by omega)).trans (kk b hb)
 exact ⟨⟨vs,vc,vt,rfl,OwnE.keep os fun b hb=>hk b (bs b hb),OwnE.keep oc fun b hb=>hk b (bc b hb),OwnE.keep ot fun b hb=>hk b (bt b hb)⟩,eV⟩
end
theorem own_ret (w0:World) (v:Value) (r:RolD) (hr:RolVal w0 v r) (hl:r.counters.length≤1000000∧r.states.length≤1000000∧r.steps.length≤1000000):Ret Pg 22 #[v] w0 fun u w'=>RolOwn w' w0.heap.size u r∧Ext w0 w':=by
 obtain ⟨sv,cv,tv,rfl,hS,hC,hT,o1,o2,o3⟩:=hr.op
 refine n11s (R:=retR _) ?_;unfold n11
 rw [op_boxA]
 have h1:(w0.alloc (.cells (rolCells r sv cv tv).toArray TRol)).heap[w0.heap.size]?=some (.cells (rolCells r sv cv tv).toArray TRol (0,0)):=heap_new _ _ _
 have e1:Ext w0 (w0.alloc (.cells (rolCells r sv cv tv).toArray TRol)):=ee
 have s1:(w0.alloc (.cells (rolCells r sv cv tv).toArray TRol)).heap.size=w0.heap.size+1:=Array.size_push ..
 generalize (w0.alloc (.cells (rolCells r sv cv tv).toArray TRol))=W at h1 e1 s1 ⊢
 simp (disch:=try exact DI) only [↓PR,QR,simprocAttr]
 have h2:(W.alloc (.cells zR TRol)).heap[W.heap.size]?=some (.cells zR TRol (0,0)):=heap_new _ _ _
 have e2:Ext W (W.alloc (.cells zR TRol)):=ee
 have s2:(W.alloc (.cells zR TRol)).heap.size=W.heap.size+1:=Array.size_push ..
 change drawK (W.alloc (.cells zR TRol)) _
 generalize (W.alloc (.cells zR TRol))=V at h2 e2 s2 ⊢
 replace h1:=e2.obj h1
 have eV:=e1.trans e2
 refine drawK_intro ?_
 have eX:Ext V (Sw.drew V):=(Ext.refl V).drew
 have sX:(Sw.drew V).heap.size=V.heap.size:=rfl
 generalize Sw.drew V=D at eX sX ⊢
 replace h1:=eX.obj h1
 replace h2:=eX.obj h2
 have eD:=eV.trans eX
 have hcc:=(cells_of_heap h1).1
 replace hS:=hS.ext eD
 replace hC:=hC.ext eD
 replace hT:=hT.ext eD
 have a1:∀ K:Value→Prop,qV Pg (EC D) (Instr.loadAt 23 (.pointer (some ⟨w0.heap.size,2,none⟩))) K=K cv:=fun K=>by simp (disch:=try exact DI) only [↓PR,QR,simprocAttr,hcc]
 have a2:∀ K:Value→Prop,qV Pg (EC D) (Instr.loadAt 22 (.pointer (some ⟨w0.heap.size,1,none⟩))) K=K sv:=fun K=>by simp (disch:=try exact DI) only [↓PR,QR,simprocAttr,hcc]
 have a3:∀ K:Value→Prop,qV Pg (EC D) (Instr.loadAt 24 (.pointer (some ⟨w0.heap.size,3,none⟩))) K=K tv:=fun K=>by simp (disch:=try exact DI) only [↓PR,QR,simprocAttr,hcc]
 have sW:D.heap.size≤D.heap.size:=Nat.le_refl _
 have eW:Ext D D:=Ext.refl _
 unfold n11c53
 rw [own_q2,a1,own_q1,a2,own_q3,a3,joinK_eq]
 refine ⟨?_,?_,?_⟩
 · refine own_build_c (base:=w0.heap.size) (by omega) ?_
   intro gc W1 hc zc e1
   have bc:gc < W1.heap.size:=by omega
   have lc:D.heap.size≤gc:=by omega
   replace eW:Ext D W1:=eW.trans e1
   have sW:D.heap.size≤W1.heap.size:=eW.size
   clear e1
   refine ⟨eW,?_⟩
   unfold n11c26
   refine ⟨?_,?_,?_⟩
   · refine appendL_cnt hc (hC.ext eW) (by omega) (by omega) eW lc bc ?_
     intro kc capc W1 oc dc bc' z1 e1 keep
     have lc':D.heap.size≤kc:=by omega
     replace eW:Ext D W1:=e1
     have sW:D.heap.size≤W1.heap.size:=eW.size
     clear e1 keep
     refine ⟨eW,?_⟩
     unfold n11c9
     rw [own_q2]
     refine ⟨?_,?_⟩
     · refine own_build_s (base:=w0.heap.size) (by omega) ?_
       intro gs W1 hs zs e1
       have bs:gs < W1.heap.size:=by omega
       have ls:D.heap.size≤gs:=by omega
       replace oc:=oc.ext e1
       have nsc:gs≠kc:=by omega
       replace bc':kc < W1.heap.size:=by omega
       replace eW:Ext D W1:=eW.trans e1
       have sW:D.heap.size≤W1.heap.size:=eW.size
       clear e1
       refine ⟨eW,?_⟩
       unfold n11c5
       refine ⟨?_,?_⟩
       · refine appendL_sta hs (hS.ext eW) (by omega) (by omega) eW ls bs ?_
         intro ks caps W1 os ds bs' z1 e1 keep
         have ls':D.heap.size≤ks:=by omega
         have msc:ks≠kc:=by omega
         replace oc:=OwnE.keep oc fun b hb=>(keep b (by have h:kc=b:=Option.some.inj hb;omega) (by have h:kc=b:=Option.some.inj hb;omega))
         replace bc':kc < W1.heap.size:=by omega
         replace eW:Ext D W1:=e1
         have sW:D.heap.size≤W1.heap.size:=eW.size
         clear e1 keep
         refine ⟨eW,?_⟩
         refine own_build_t (base:=w0.heap.size) (by omega) ?_
         intro gt W1 ht zt e1
         have bt:gt < W1.heap.size:=by omega
         have lt:D.heap.size≤gt:=by omega
         replace oc:=oc.ext e1
         have ntc:gt≠kc:=by omega
         replace bc':kc < W1.heap.size:=by omega
         replace os:=os.ext e1
         have nts:gt≠ks:=by omega
         replace bs':ks < W1.heap.size:=by omega
         replace eW:Ext D W1:=eW.trans e1
         have sW:D.heap.size≤W1.heap.size:=eW.size
         clear e1
         refine ⟨eW,?_⟩
         unfold n11c2
         refine appendL_stp ht (hT.ext eW) (by omega) (by omega) eW lt bt ?_
         intro kt capt W1 ot dt bt' z1 e1 keep
         have lt':D.heap.size≤kt:=by omega
         have mtc:kt≠kc:=by omega
         replace oc:=OwnE.keep oc fun b hb=>(keep b (by have h:kc=b:=Option.some.inj hb;omega) (by have h:kc=b:=Option.some.inj hb;omega))
         replace bc':kc < W1.heap.size:=by omega
         have mts:kt≠ks:=by omega
         replace os:=OwnE.keep os fun b hb=>(keep b (by have h:ks=b:=Option.some.inj hb;omega) (by have h:ks=b:=Option.some.inj hb;omega))
         replace bs':ks < W1.heap.size:=by omega
         replace eW:Ext D W1:=e1
         have sW:D.heap.size≤W1.heap.size:=eW.size
         clear e1 keep
         refine ⟨eW,?_⟩
         unfold n11c1
         exact own_leaf eD eW h1 h2 (by omega) (by omega) (by omega) (by omega) (by omega) (Nat.le_refl _) oc os ot (fun b hb=>by have h:kc=b:=Option.some.inj hb;omega) (fun b hb=>by have h:ks=b:=Option.some.inj hb;omega) (fun b hb=>by have h:kt=b:=Option.some.inj hb;omega)
       · refine own_build_t (base:=w0.heap.size) (by omega) ?_
         intro gt W1 ht zt e1
         have bt:gt < W1.heap.size:=by omega
         have lt:D.heap.size≤gt:=by omega
         replace oc:=oc.ext e1
         have ntc:gt≠kc:=by omega
         replace bc':kc < W1.heap.size:=by omega
         replace hs:=hs.ext e1
         have nts:gt≠gs:=by omega
         replace bs:gs < W1.heap.size:=by omega
         replace eW:Ext D W1:=eW.trans e1
         have sW:D.heap.size≤W1.heap.size:=eW.size
         clear e1
         refine ⟨eW,?_⟩
         refine appendL_sta hs (hS.ext eW) (by omega) (by omega) eW ls bs ?_
         intro ks caps W1 os ds bs' z1 e1 keep
         have ls':D.heap.size≤ks:=by omega
         have msc:ks≠kc:=by omega
         replace oc:=OwnE.keep oc fun b hb=>(keep b (by have h:kc=b:=Option.some.inj hb;omega) (by have h:kc=b:=Option.some.inj hb;omega))
         replace bc':kc < W1.heap.size:=by omega
         have mst:ks≠gt:=by omega
         replace ht:=OwnE.keep ht fun b hb=>(keep b (by have h:gt=b:=Option.some.inj hb;omega) (by have h:gt=b:=Option.some.inj hb;omega))
         replace bt:gt < W1.heap.size:=by omega
         replace eW:Ext D W1:=e1
         have sW:D.heap.size≤W1.heap.size:=eW.size
         clear e1 keep
         refine ⟨eW,?_⟩
         unfold n11c4
         refine appendL_stp ht (hT.ext eW) (by omega) (by omega) eW lt bt ?_
         intro kt capt W1 ot dt bt' z1 e1 keep
         have lt':D.heap.size≤kt:=by omega
         have mtc:kt≠kc:=by omega
         replace oc:=OwnE.keep oc fun b hb=>(keep b (by have h:kc=b:=Option.some.inj hb;omega) (by have h:kc=b:=Option.some.inj hb;omega))
         replace bc':kc < W1.heap.size:=by omega
         have mts:kt≠ks:=by omega
         replace os:=OwnE.keep os fun b hb=>(keep b (by have h:ks=b:=Option.some.inj hb;omega) (by have h:ks=b:=Option.some.inj hb;omega))
         replace bs':ks < W1.heap.size:=by omega
         replace eW:Ext D W1:=e1
         have sW:D.heap.size≤W1.heap.size:=eW.size
         clear e1 keep
         refine ⟨eW,?_⟩
         unfold n11c3
         exact own_leaf eD eW h1 h2 (by omega) (by omega) (by omega) (by omega) (by omega) (Nat.le_refl _) oc os ot (fun b hb=>by have h:kc=b:=Option.some.inj hb;omega) (fun b hb=>by have h:ks=b:=Option.some.inj hb;omega) (fun b hb=>by have h:kt=b:=Option.some.inj hb;omega)
     · refine own_build_t (base:=w0.heap.size) (by omega) ?_
       intro gt W1 ht zt e1
       have bt:gt < W1.heap.size:=by omega
       have lt:D.heap.size≤gt:=by omega
       replace oc:=oc.ext e1
       have ntc:gt≠kc:=by omega
       replace bc':kc < W1.heap.size:=by omega
       replace eW:Ext D W1:=eW.trans e1
       have sW:D.heap.size≤W1.heap.size:=eW.size
       clear e1
       refine ⟨eW,?_⟩
       unfold n11c8
       refine own_build_s (base:=w0.heap.size) (by omega) ?_
       intro gs W1 hs zs e1
       have bs:gs < W1.heap.size:=by omega
       have ls:D.heap.size≤gs:=by omega
       replace oc:=oc.ext e1
       have nsc:gs≠kc:=by omega
       replace bc':kc < W1.heap.size:=by omega
       replace ht:=ht.ext e1
       have nst:gs≠gt:=by omega
       replace bt:gt < W1.heap.size:=by omega
       replace eW:Ext D W1:=eW.trans e1
       have sW:D.heap.size≤W1.heap.size:=eW.size
       clear e1
       refine ⟨eW,?_⟩
       refine appendL_sta hs (hS.ext eW) (by omega) (by omega) eW ls bs ?_
       intro ks caps W1 os ds bs' z1 e1 keep
       have ls':D.heap.size≤ks:=by omega
       have msc:ks≠kc:=by omega
       replace oc:=OwnE.keep oc fun b hb=>(keep b (by have h:kc=b:=Option.some.inj hb;omega) (by have h:kc=b:=Option.some.inj hb;omega))
       replace bc':kc < W1.heap.size:=by omega
       have mst:ks≠gt:=by omega
       replace ht:=OwnE.keep ht fun b hb=>(keep b (by have h:gt=b:=Option.some.inj hb;omega) (by have h:gt=b:=Option.some.inj hb;omega))
       replace bt:gt < W1.heap.size:=by omega
       replace eW:Ext D W1:=e1
       have sW:D.heap.size≤W1.heap.size:=eW.size
       clear e1 keep
       refine ⟨eW,?_⟩
       unfold n11c7
       refine appendL_stp ht (hT.ext eW) (by omega) (by omega) eW lt bt ?_
       intro kt capt W1 ot dt bt' z1 e1 keep
       have lt':D.heap.size≤kt:=by omega
       have mtc:kt≠kc:=by omega
       replace oc:=OwnE.keep oc fun b hb=>(keep b (by have h:kc=b:=Option.some.inj hb;omega) (by have h:kc=b:=Option.some.inj hb;omega))
       replace bc':kc < W1.heap.size:=by omega
       have mts:kt≠ks:=by omega
       replace os:=OwnE.keep os fun b hb=>(keep b (by have h:ks=b:=Option.some.inj hb;omega) (by have h:ks=b:=Option.some.inj hb;omega))
       replace bs':ks < W1.heap.size:=by omega
       replace eW:Ext D W1:=e1
       have sW:D.heap.size≤W1.heap.size:=eW.size
       clear e1 keep
       refine ⟨eW,?_⟩
       unfold n11c6
       exact own_leaf eD eW h1 h2 (by omega) (by omega) (by omega) (by omega) (by omega) (Nat.le_refl _) oc os ot (fun b hb=>by have h:kc=b:=Option.some.inj hb;omega) (fun b hb=>by have h:ks=b:=Option.some.inj hb;omega) (fun b hb=>by have h:kt=b:=Option.some.inj hb;omega)
   · refine own_build_s (base:=w0.heap.size) (by omega) ?_
     intro gs W1 hs zs e1
     have bs:gs < W1.heap.size:=by omega
     have ls:D.heap.size≤gs:=by omega
     replace hc:=hc.ext e1
     have nsc:gs≠gc:=by omega
     replace bc:gc < W1.heap.size:=by omega
     replace eW:Ext D W1:=eW.trans e1
     have sW:D.heap.size≤W1.heap.size:=eW.size
     clear e1
     refine ⟨eW,?_⟩
     unfold n11c18
     refine ⟨?_,?_⟩
     · refine appendL_cnt hc (hC.ext eW) (by omega) (by omega) eW lc bc ?_
       intro kc capc W1 oc dc bc' z1 e1 keep
       have lc':D.heap.size≤kc:=by omega
       have mcs:kc≠gs:=by omega
       replace hs:=OwnE.keep hs fun b hb=>(keep b (by have h:gs=b:=Option.some.inj hb;omega) (by have h:gs=b:=Option.some.inj hb;omega))
       replace bs:gs < W1.heap.size:=by omega
       replace eW:Ext D W1:=e1
       have sW:D.heap.size≤W1.heap.size:=eW.size
       clear e1 keep
       refine ⟨eW,?_⟩
       unfold n11c14
       rw [own_q2]
       refine ⟨?_,?_⟩
       · refine appendL_sta hs (hS.ext eW) (by omega) (by omega) eW ls bs ?_
         intro ks caps W1 os ds bs' z1 e1 keep
         have ls':D.heap.size≤ks:=by omega
         have msc:ks≠kc:=by omega
         replace oc:=OwnE.keep oc fun b hb=>(keep b (by have h:kc=b:=Option.some.inj hb;omega) (by have h:kc=b:=Option.some.inj hb;omega))
         replace bc':kc < W1.heap.size:=by omega
         replace eW:Ext D W1:=e1
         have sW:D.heap.size≤W1.heap.size:=eW.size
         clear e1 keep
         refine ⟨eW,?_⟩
         refine own_build_t (base:=w0.heap.size) (by omega) ?_
         intro gt W1 ht zt e1
         have bt:gt < W1.heap.size:=by omega
         have lt:D.heap.size≤gt:=by omega
         replace oc:=oc.ext e1
         have ntc:gt≠kc:=by omega
         replace bc':kc < W1.heap.size:=by omega
         replace os:=os.ext e1
         have nts:gt≠ks:=by omega
         replace bs':ks < W1.heap.size:=by omega
         replace eW:Ext D W1:=eW.trans e1
         have sW:D.heap.size≤W1.heap.size:=eW.size
         clear e1
         refine ⟨eW,?_⟩
         unfold n11c11
         refine appendL_stp ht (hT.ext eW) (by omega) (by omega) eW lt bt ?_
         intro kt capt W1 ot dt bt' z1 e1 keep
         have lt':D.heap.size≤kt:=by omega
         have mtc:kt≠kc:=by omega
         replace oc:=OwnE.keep oc fun b hb=>(keep b (by have h:kc=b:=Option.some.inj hb;omega) (by have h:kc=b:=Option.some.inj hb;omega))
         replace bc':kc < W1.heap.size:=by omega
         have mts:kt≠ks:=by omega
         replace os:=OwnE.keep os fun b hb=>(keep b (by have h:ks=b:=Option.some.inj hb;omega) (by have h:ks=b:=Option.some.inj hb;omega))
         replace bs':ks < W1.heap.size:=by omega
         replace eW:Ext D W1:=e1
         have sW:D.heap.size≤W1.heap.size:=eW.size
         clear e1 keep
         refine ⟨eW,?_⟩
         unfold n11c10
         exact own_leaf eD eW h1 h2 (by omega) (by omega) (by omega) (by omega) (by omega) (Nat.le_refl _) oc os ot (fun b hb=>by have h:kc=b:=Option.some.inj hb;omega) (fun b hb=>by have h:ks=b:=Option.some.inj hb;omega) (fun b hb=>by have h:kt=b:=Option.some.inj hb;omega)
       · refine own_build_t (base:=w0.heap.size) (by omega) ?_
         intro gt W1 ht zt e1
         have bt:gt < W1.heap.size:=by omega
         have lt:D.heap.size≤gt:=by omega
         replace oc:=oc.ext e1
         have ntc:gt≠kc:=by omega
         replace bc':kc < W1.heap.size:=by omega
         replace hs:=hs.ext e1
         have nts:gt≠gs:=by omega
         replace bs:gs < W1.heap.size:=by omega
         replace eW:Ext D W1:=eW.trans e1
         have sW:D.heap.size≤W1.heap.size:=eW.size
         clear e1
         refine ⟨eW,?_⟩
         refine appendL_sta hs (hS.ext eW) (by omega) (by omega) eW ls bs ?_
         intro ks caps W1 os ds bs' z1 e1 keep
         have ls':D.heap.size≤ks:=by omega
         have msc:ks≠kc:=by omega
         replace oc:=OwnE.keep oc fun b hb=>(keep b (by have h:kc=b:=Option.some.inj hb;omega) (by have h:kc=b:=Option.some.inj hb;omega))
         replace bc':kc < W1.heap.size:=by omega
         have mst:ks≠gt:=by omega
         replace ht:=OwnE.keep ht fun b hb=>(keep b (by have h:gt=b:=Option.some.inj hb;omega) (by have h:gt=b:=Option.some.inj hb;omega))
         replace bt:gt < W1.heap.size:=by omega
         replace eW:Ext D W1:=e1
         have sW:D.heap.size≤W1.heap.size:=eW.size
         clear e1 keep
         refine ⟨eW,?_⟩
         unfold n11c13
         refine appendL_stp ht (hT.ext eW) (by omega) (by omega) eW lt bt ?_
         intro kt capt W1 ot dt bt' z1 e1 keep
         have lt':D.heap.size≤kt:=by omega
         have mtc:kt≠kc:=by omega
         replace oc:=OwnE.keep oc fun b hb=>(keep b (by have h:kc=b:=Option.some.inj hb;omega) (by have h:kc=b:=Option.some.inj hb;omega))
         replace bc':kc < W1.heap.size:=by omega
         have mts:kt≠ks:=by omega
         replace os:=OwnE.keep os fun b hb=>(keep b (by have h:ks=b:=Option.some.inj hb;omega) (by have h:ks=b:=Option.some.inj hb;omega))
         replace bs':ks < W1.heap.size:=by omega
         replace eW:Ext D W1:=e1
         have sW:D.heap.size≤W1.heap.size:=eW.size
         clear e1 keep
         refine ⟨eW,?_⟩
         unfold n11c12
         exact own_leaf eD eW h1 h2 (by omega) (by omega) (by omega) (by omega) (by omega) (Nat.le_refl _) oc os ot (fun b hb=>by have h:kc=b:=Option.some.inj hb;omega) (fun b hb=>by have h:ks=b:=Option.some.inj hb;omega) (fun b hb=>by have h:kt=b:=Option.some.inj hb;omega)
     · refine own_build_t (base:=w0.heap.size) (by omega) ?_
       intro gt W1 ht zt e1
       have bt:gt < W1.heap.size:=by omega
       have lt:D.heap.size≤gt:=by omega
       replace hc:=hc.ext e1
       have ntc:gt≠gc:=by omega
       replace bc:gc < W1.heap.size:=by omega
       replace hs:=hs.ext e1
       have nts:gt≠gs:=by omega
       replace bs:gs < W1.heap.size:=by omega
       replace eW:Ext D W1:=eW.trans e1
       have sW:D.heap.size≤W1.heap.size:=eW.size
       clear e1
       refine ⟨eW,?_⟩
       refine appendL_cnt hc (hC.ext eW) (by omega) (by omega) eW lc bc ?_
       intro kc capc W1 oc dc bc' z1 e1 keep
       have lc':D.heap.size≤kc:=by omega
       have mcs:kc≠gs:=by omega
       replace hs:=OwnE.keep hs fun b hb=>(keep b (by have h:gs=b:=Option.some.inj hb;omega) (by have h:gs=b:=Option.some.inj hb;omega))
       replace bs:gs < W1.heap.size:=by omega
       have mct:kc≠gt:=by omega
       replace ht:=OwnE.keep ht fun b hb=>(keep b (by have h:gt=b:=Option.some.inj hb;omega) (by have h:gt=b:=Option.some.inj hb;omega))
       replace bt:gt < W1.heap.size:=by omega
       replace eW:Ext D W1:=e1
       have sW:D.heap.size≤W1.heap.size:=eW.size
       clear e1 keep
       refine ⟨eW,?_⟩
       unfold n11c17
       rw [own_q2]
       refine appendL_sta hs (hS.ext eW) (by omega) (by omega) eW ls bs ?_
       intro ks caps W1 os ds bs' z1 e1 keep
       have ls':D.heap.size≤ks:=by omega
       have msc:ks≠kc:=by omega
       replace oc:=OwnE.keep oc fun b hb=>(keep b (by have h:kc=b:=Option.some.inj hb;omega) (by have h:kc=b:=Option.some.inj hb;omega))
       replace bc':kc < W1.heap.size:=by omega
       have mst:ks≠gt:=by omega
       replace ht:=OwnE.keep ht fun b hb=>(keep b (by have h:gt=b:=Option.some.inj hb;omega) (by have h:gt=b:=Option.some.inj hb;omega))
       replace bt:gt < W1.heap.size:=by omega
       replace eW:Ext D W1:=e1
       have sW:D.heap.size≤W1.heap.size:=eW.size
       clear e1 keep
       refine ⟨eW,?_⟩
       unfold n11c16
       refine appendL_stp ht (hT.ext eW) (by omega) (by omega) eW lt bt ?_
       intro kt capt W1 ot dt bt' z1 e1 keep
       have lt':D.heap.size≤kt:=by omega
       have mtc:kt≠kc:=by omega
       replace oc:=OwnE.keep oc fun b hb=>(keep b (by have h:kc=b:=Option.some.inj hb;omega) (by have h:kc=b:=Option.some.inj hb;omega))
       replace bc':kc < W1.heap.size:=by omega
       have mts:kt≠ks:=by omega
       replace os:=OwnE.keep os fun b hb=>(keep b (by have h:ks=b:=Option.some.inj hb;omega) (by have h:ks=b:=Option.some.inj hb;omega))
       replace bs':ks < W1.heap.size:=by omega
       replace eW:Ext D W1:=e1
       have sW:D.heap.size≤W1.heap.size:=eW.size
       clear e1 keep
       refine ⟨eW,?_⟩
       unfold n11c15
       exact own_leaf eD eW h1 h2 (by omega) (by omega) (by omega) (by omega) (by omega) (Nat.le_refl _) oc os ot (fun b hb=>by have h:kc=b:=Option.some.inj hb;omega) (fun b hb=>by have h:ks=b:=Option.some.inj hb;omega) (fun b hb=>by have h:kt=b:=Option.some.inj hb;omega)
   · refine own_build_t (base:=w0.heap.size) (by omega) ?_
     intro gt W1 ht zt e1
     have bt:gt < W1.heap.size:=by omega
     have lt:D.heap.size≤gt:=by omega
     replace hc:=hc.ext e1
     have ntc:gt≠gc:=by omega
     replace bc:gc < W1.heap.size:=by omega
     replace eW:Ext D W1:=eW.trans e1
     have sW:D.heap.size≤W1.heap.size:=eW.size
     clear e1
     refine ⟨eW,?_⟩
     unfold n11c25
     refine ⟨?_,?_⟩
     · refine appendL_cnt hc (hC.ext eW) (by omega) (by omega) eW lc bc ?_
       intro kc capc W1 oc dc bc' z1 e1 keep
       have lc':D.heap.size≤kc:=by omega
       have mct:kc≠gt:=by omega
       replace ht:=OwnE.keep ht fun b hb=>(keep b (by have h:gt=b:=Option.some.inj hb;omega) (by have h:gt=b:=Option.some.inj hb;omega))
       replace bt:gt < W1.heap.size:=by omega
       replace eW:Ext D W1:=e1
       have sW:D.heap.size≤W1.heap.size:=eW.size
       clear e1 keep
       refine ⟨eW,?_⟩
       unfold n11c21
       rw [own_q2]
       refine own_build_s (base:=w0.heap.size) (by omega) ?_
       intro gs W1 hs zs e1
       have bs:gs < W1.heap.size:=by omega
       have ls:D.heap.size≤gs:=by omega
       replace oc:=oc.ext e1
       have nsc:gs≠kc:=by omega
       replace bc':kc < W1.heap.size:=by omega
       replace ht:=ht.ext e1
       have nst:gs≠gt:=by omega
       replace bt:gt < W1.heap.size:=by omega
       replace eW:Ext D W1:=eW.trans e1
       have sW:D.heap.size≤W1.heap.size:=eW.size
       clear e1
       refine ⟨eW,?_⟩
       refine appendL_sta hs (hS.ext eW) (by omega) (by omega) eW ls bs ?_
       intro ks caps W1 os ds bs' z1 e1 keep
       have ls':D.heap.size≤ks:=by omega
       have msc:ks≠kc:=by omega
       replace oc:=OwnE.keep oc fun b hb=>(keep b (by have h:kc=b:=Option.some.inj hb;omega) (by have h:kc=b:=Option.some.inj hb;omega))
       replace bc':kc < W1.heap.size:=by omega
       have mst:ks≠gt:=by omega
       replace ht:=OwnE.keep ht fun b hb=>(keep b (by have h:gt=b:=Option.some.inj hb;omega) (by have h:gt=b:=Option.some.inj hb;omega))
       replace bt:gt < W1.heap.size:=by omega
       replace eW:Ext D W1:=e1
       have sW:D.heap.size≤W1.heap.size:=eW.size
       clear e1 keep
       refine ⟨eW,?_⟩
       unfold n11c20
       refine appendL_stp ht (hT.ext eW) (by omega) (by omega) eW lt bt ?_
       intro kt capt W1 ot dt bt' z1 e1 keep
       have lt':D.heap.size≤kt:=by omega
       have mtc:kt≠kc:=by omega
       replace oc:=OwnE.keep oc fun b hb=>(keep b (by have h:kc=b:=Option.some.inj hb;omega) (by have h:kc=b:=Option.some.inj hb;omega))
       replace bc':kc < W1.heap.size:=by omega
       have mts:kt≠ks:=by omega
       replace os:=OwnE.keep os fun b hb=>(keep b (by have h:ks=b:=Option.some.inj hb;omega) (by have h:ks=b:=Option.some.inj hb;omega))
       replace bs':ks < W1.heap.size:=by omega
       replace eW:Ext D W1:=e1
       have sW:D.heap.size≤W1.heap.size:=eW.size
       clear e1 keep
       refine ⟨eW,?_⟩
       unfold n11c19
       exact own_leaf eD eW h1 h2 (by omega) (by omega) (by omega) (by omega) (by omega) (Nat.le_refl _) oc os ot (fun b hb=>by have h:kc=b:=Option.some.inj hb;omega) (fun b hb=>by have h:ks=b:=Option.some.inj hb;omega) (fun b hb=>by have h:kt=b:=Option.some.inj hb;omega)
     · refine own_build_s (base:=w0.heap.size) (by omega) ?_
       intro gs W1 hs zs e1
       have bs:gs < W1.heap.size:=by omega
       have ls:D.heap.size≤gs:=by omega
       replace hc:=hc.ext e1
       have nsc:gs≠gc:=by omega
       replace bc:gc < W1.heap.size:=by omega
       replace ht:=ht.ext e1
       have nst:gs≠gt:=by omega
       replace bt:gt < W1.heap.size:=by omega
       replace eW:Ext D W1:=eW.trans e1
       have sW:D.heap.size≤W1.heap.size:=eW.size
       clear e1
       refine ⟨eW,?_⟩
       refine appendL_cnt hc (hC.ext eW) (by omega) (by omega) eW lc bc ?_
       intro kc capc W1 oc dc bc' z1 e1 keep
       have lc':D.heap.size≤kc:=by omega
       have mct:kc≠gt:=by omega
       replace ht:=OwnE.keep ht fun b hb=>(keep b (by have h:gt=b:=Option.some.inj hb;omega) (by have h:gt=b:=Option.some.inj hb;omega))
       replace bt:gt < W1.heap.size:=by omega
       have mcs:kc≠gs:=by omega
       replace hs:=OwnE.keep hs fun b hb=>(keep b (by have h:gs=b:=Option.some.inj hb;omega) (by have h:gs=b:=Option.some.inj hb;omega))
       replace bs:gs < W1.heap.size:=by omega
       replace eW:Ext D W1:=e1
       have sW:D.heap.size≤W1.heap.size:=eW.size
       clear e1 keep
       refine ⟨eW,?_⟩
       unfold n11c24
       rw [own_q2]
       refine appendL_sta hs (hS.ext eW) (by omega) (by omega) eW ls bs ?_
       intro ks caps W1 os ds bs' z1 e1 keep
       have ls':D.heap.size≤ks:=by omega
       have msc:ks≠kc:=by omega
       replace oc:=OwnE.keep oc fun b hb=>(keep b (by have h:kc=b:=Option.some.inj hb;omega) (by have h:kc=b:=Option.some.inj hb;omega))
       replace bc':kc < W1.heap.size:=by omega
       have mst:ks≠gt:=by omega
       replace ht:=OwnE.keep ht fun b hb=>(keep b (by have h:gt=b:=Option.some.inj hb;omega) (by have h:gt=b:=Option.some.inj hb;omega))
       replace bt:gt < W1.heap.size:=by omega
       replace eW:Ext D W1:=e1
       have sW:D.heap.size≤W1.heap.size:=eW.size
       clear e1 keep
       refine ⟨eW,?_⟩
       unfold n11c23
       refine appendL_stp ht (hT.ext eW) (by omega) (by omega) eW lt bt ?_
       intro kt capt W1 ot dt bt' z1 e1 keep
       have lt':D.heap.size≤kt:=by omega
       have mtc:kt≠kc:=by omega
       replace oc:=OwnE.keep oc fun b hb=>(keep b (by have h:kc=b:=Option.some.inj hb;omega) (by have h:kc=b:=Option.some.inj hb;omega))
       replace bc':kc < W1.heap.size:=by omega
       have mts:kt≠ks:=by omega
       replace os:=OwnE.keep os fun b hb=>(keep b (by have h:ks=b:=Option.some.inj hb;omega) (by have h:ks=b:=Option.some.inj hb;omega))
       replace bs':ks < W1.heap.size:=by omega
       replace eW:Ext D W1:=e1
       have sW:D.heap.size≤W1.heap.size:=eW.size
       clear e1 keep
       refine ⟨eW,?_⟩
       unfold n11c22
       exact own_leaf eD eW h1 h2 (by omega) (by omega) (by omega) (by omega) (by omega) (Nat.le_refl _) oc os ot (fun b hb=>by have h:kc=b:=Option.some.inj hb;omega) (fun b hb=>by have h:ks=b:=Option.some.inj hb;omega) (fun b hb=>by have h:kt=b:=Option.some.inj hb;omega)
 · refine own_build_s (base:=w0.heap.size) (by omega) ?_
   intro gs W1 hs zs e1
   have bs:gs < W1.heap.size:=by omega
   have ls:D.heap.size≤gs:=by omega
   replace eW:Ext D W1:=eW.trans e1
   have sW:D.heap.size≤W1.heap.size:=eW.size
   clear e1
   refine ⟨eW,?_⟩
   unfold n11c40
   refine ⟨?_,?_⟩
   · refine own_build_c (base:=w0.heap.size) (by omega) ?_
     intro gc W1 hc zc e1
     have bc:gc < W1.heap.size:=by omega
     have lc:D.heap.size≤gc:=by omega
     replace hs:=hs.ext e1
     have ncs:gc≠gs:=by omega
     replace bs:gs < W1.heap.size:=by omega
     replace eW:Ext D W1:=eW.trans e1
     have sW:D.heap.size≤W1.heap.size:=eW.size
     clear e1
     refine ⟨eW,?_⟩
     unfold n11c35
     refine ⟨?_,?_⟩
     · refine appendL_cnt hc (hC.ext eW) (by omega) (by omega) eW lc bc ?_
       intro kc capc W1 oc dc bc' z1 e1 keep
       have lc':D.heap.size≤kc:=by omega
       have mcs:kc≠gs:=by omega
       replace hs:=OwnE.keep hs fun b hb=>(keep b (by have h:gs=b:=Option.some.inj hb;omega) (by have h:gs=b:=Option.some.inj hb;omega))
       replace bs:gs < W1.heap.size:=by omega
       replace eW:Ext D W1:=e1
       have sW:D.heap.size≤W1.heap.size:=eW.size
       clear e1 keep
       refine ⟨eW,?_⟩
       unfold n11c31
       rw [own_q2]
       refine ⟨?_,?_⟩
       · refine appendL_sta hs (hS.ext eW) (by omega) (by omega) eW ls bs ?_
         intro ks caps W1 os ds bs' z1 e1 keep
         have ls':D.heap.size≤ks:=by omega
         have msc:ks≠kc:=by omega
         replace oc:=OwnE.keep oc fun b hb=>(keep b (by have h:kc=b:=Option.some.inj hb;omega) (by have h:kc=b:=Option.some.inj hb;omega))
         replace bc':kc < W1.heap.size:=by omega
         replace eW:Ext D W1:=e1
         have sW:D.heap.size≤W1.heap.size:=eW.size
         clear e1 keep
         refine ⟨eW,?_⟩
         refine own_build_t (base:=w0.heap.size) (by omega) ?_
         intro gt W1 ht zt e1
         have bt:gt < W1.heap.size:=by omega
         have lt:D.heap.size≤gt:=by omega
         replace os:=os.ext e1
         have nts:gt≠ks:=by omega
         replace bs':ks < W1.heap.size:=by omega
         replace oc:=oc.ext e1
         have ntc:gt≠kc:=by omega
         replace bc':kc < W1.heap.size:=by omega
         replace eW:Ext D W1:=eW.trans e1
         have sW:D.heap.size≤W1.heap.size:=eW.size
         clear e1
         refine ⟨eW,?_⟩
         unfold n11c28
         refine appendL_stp ht (hT.ext eW) (by omega) (by omega) eW lt bt ?_
         intro kt capt W1 ot dt bt' z1 e1 keep
         have lt':D.heap.size≤kt:=by omega
         have mts:kt≠ks:=by omega
         replace os:=OwnE.keep os fun b hb=>(keep b (by have h:ks=b:=Option.some.inj hb;omega) (by have h:ks=b:=Option.some.inj hb;omega))
         replace bs':ks < W1.heap.size:=by omega
         have mtc:kt≠kc:=by omega
         replace oc:=OwnE.keep oc fun b hb=>(keep b (by have h:kc=b:=Option.some.inj hb;omega) (by have h:kc=b:=Option.some.inj hb;omega))
         replace bc':kc < W1.heap.size:=by omega
         replace eW:Ext D W1:=e1
         have sW:D.heap.size≤W1.heap.size:=eW.size
         clear e1 keep
         refine ⟨eW,?_⟩
         unfold n11c27
         exact own_leaf eD eW h1 h2 (by omega) (by omega) (by omega) (by omega) (by omega) (Nat.le_refl _) oc os ot (fun b hb=>by have h:kc=b:=Option.some.inj hb;omega) (fun b hb=>by have h:ks=b:=Option.some.inj hb;omega) (fun b hb=>by have h:kt=b:=Option.some.inj hb;omega)
       · refine own_build_t (base:=w0.heap.size) (by omega) ?_
         intro gt W1 ht zt e1
         have bt:gt < W1.heap.size:=by omega
         have lt:D.heap.size≤gt:=by omega
         replace hs:=hs.ext e1
         have nts:gt≠gs:=by omega
         replace bs:gs < W1.heap.size:=by omega
         replace oc:=oc.ext e1
         have ntc:gt≠kc:=by omega
         replace bc':kc < W1.heap.size:=by omega
         replace eW:Ext D W1:=eW.trans e1
         have sW:D.heap.size≤W1.heap.size:=eW.size
         clear e1
         refine ⟨eW,?_⟩
         refine appendL_sta hs (hS.ext eW) (by omega) (by omega) eW ls bs ?_
         intro ks caps W1 os ds bs' z1 e1 keep
         have ls':D.heap.size≤ks:=by omega
         have msc:ks≠kc:=by omega
         replace oc:=OwnE.keep oc fun b hb=>(keep b (by have h:kc=b:=Option.some.inj hb;omega) (by have h:kc=b:=Option.some.inj hb;omega))
         replace bc':kc < W1.heap.size:=by omega
         have mst:ks≠gt:=by omega
         replace ht:=OwnE.keep ht fun b hb=>(keep b (by have h:gt=b:=Option.some.inj hb;omega) (by have h:gt=b:=Option.some.inj hb;omega))
         replace bt:gt < W1.heap.size:=by omega
         replace eW:Ext D W1:=e1
         have sW:D.heap.size≤W1.heap.size:=eW.size
         clear e1 keep
         refine ⟨eW,?_⟩
         unfold n11c30
         refine appendL_stp ht (hT.ext eW) (by omega) (by omega) eW lt bt ?_
         intro kt capt W1 ot dt bt' z1 e1 keep
         have lt':D.heap.size≤kt:=by omega
         have mts:kt≠ks:=by omega
         replace os:=OwnE.keep os fun b hb=>(keep b (by have h:ks=b:=Option.some.inj hb;omega) (by have h:ks=b:=Option.some.inj hb;omega))
         replace bs':ks < W1.heap.size:=by omega
         have mtc:kt≠kc:=by omega
         replace oc:=OwnE.keep oc fun b hb=>(keep b (by have h:kc=b:=Option.some.inj hb;omega) (by have h:kc=b:=Option.some.inj hb;omega))
         replace bc':kc < W1.heap.size:=by omega
         replace eW:Ext D W1:=e1
         have sW:D.heap.size≤W1.heap.size:=eW.size
         clear e1 keep
         refine ⟨eW,?_⟩
         unfold n11c29
         exact own_leaf eD eW h1 h2 (by omega) (by omega) (by omega) (by omega) (by omega) (Nat.le_refl _) oc os ot (fun b hb=>by have h:kc=b:=Option.some.inj hb;omega) (fun b hb=>by have h:ks=b:=Option.some.inj hb;omega) (fun b hb=>by have h:kt=b:=Option.some.inj hb;omega)
     · refine own_build_t (base:=w0.heap.size) (by omega) ?_
       intro gt W1 ht zt e1
       have bt:gt < W1.heap.size:=by omega
       have lt:D.heap.size≤gt:=by omega
       replace hs:=hs.ext e1
       have nts:gt≠gs:=by omega
       replace bs:gs < W1.heap.size:=by omega
       replace hc:=hc.ext e1
       have ntc:gt≠gc:=by omega
       replace bc:gc < W1.heap.size:=by omega
       replace eW:Ext D W1:=eW.trans e1
       have sW:D.heap.size≤W1.heap.size:=eW.size
       clear e1
       refine ⟨eW,?_⟩
       refine appendL_cnt hc (hC.ext eW) (by omega) (by omega) eW lc bc ?_
       intro kc capc W1 oc dc bc' z1 e1 keep
       have lc':D.heap.size≤kc:=by omega
       have mcs:kc≠gs:=by omega
       replace hs:=OwnE.keep hs fun b hb=>(keep b (by have h:gs=b:=Option.some.inj hb;omega) (by have h:gs=b:=Option.some.inj hb;omega))
       replace bs:gs < W1.heap.size:=by omega
       have mct:kc≠gt:=by omega
       replace ht:=OwnE.keep ht fun b hb=>(keep b (by have h:gt=b:=Option.some.inj hb;omega) (by have h:gt=b:=Option.some.inj hb;omega))
       replace bt:gt < W1.heap.size:=by omega
       replace eW:Ext D W1:=e1
       have sW:D.heap.size≤W1.heap.size:=eW.size
       clear e1 keep
       refine ⟨eW,?_⟩
       unfold n11c34
       rw [own_q2]
       refine appendL_sta hs (hS.ext eW) (by omega) (by omega) eW ls bs ?_
       intro ks caps W1 os ds bs' z1 e1 keep
       have ls':D.heap.size≤ks:=by omega
       have msc:ks≠kc:=by omega
       replace oc:=OwnE.keep oc fun b hb=>(keep b (by have h:kc=b:=Option.some.inj hb;omega) (by have h:kc=b:=Option.some.inj hb;omega))
       replace bc':kc < W1.heap.size:=by omega
       have mst:ks≠gt:=by omega
       replace ht:=OwnE.keep ht fun b hb=>(keep b (by have h:gt=b:=Option.some.inj hb;omega) (by have h:gt=b:=Option.some.inj hb;omega))
       replace bt:gt < W1.heap.size:=by omega
       replace eW:Ext D W1:=e1
       have sW:D.heap.size≤W1.heap.size:=eW.size
       clear e1 keep
       refine ⟨eW,?_⟩
       unfold n11c33
       refine appendL_stp ht (hT.ext eW) (by omega) (by omega) eW lt bt ?_
       intro kt capt W1 ot dt bt' z1 e1 keep
       have lt':D.heap.size≤kt:=by omega
       have mts:kt≠ks:=by omega
       replace os:=OwnE.keep os fun b hb=>(keep b (by have h:ks=b:=Option.some.inj hb;omega) (by have h:ks=b:=Option.some.inj hb;omega))
       replace bs':ks < W1.heap.size:=by omega
       have mtc:kt≠kc:=by omega
       replace oc:=OwnE.keep oc fun b hb=>(keep b (by have h:kc=b:=Option.some.inj hb;omega) (by have h:kc=b:=Option.some.inj hb;omega))
       replace bc':kc < W1.heap.size:=by omega
       replace eW:Ext D W1:=e1
       have sW:D.heap.size≤W1.heap.size:=eW.size
       clear e1 keep
       refine ⟨eW,?_⟩
       unfold n11c32
       exact own_leaf eD eW h1 h2 (by omega) (by omega) (by omega) (by omega) (by omega) (Nat.le_refl _) oc os ot (fun b hb=>by have h:kc=b:=Option.some.inj hb;omega) (fun b hb=>by have h:ks=b:=Option.some.inj hb;omega) (fun b hb=>by have h:kt=b:=Option.some.inj hb;omega)
   · refine own_build_t (base:=w0.heap.size) (by omega) ?_
     intro gt W1 ht zt e1
     have bt:gt < W1.heap.size:=by omega
     have lt:D.heap.size≤gt:=by omega
     replace hs:=hs.ext e1
     have nts:gt≠gs:=by omega
     replace bs:gs < W1.heap.size:=by omega
     replace eW:Ext D W1:=eW.trans e1
     have sW:D.heap.size≤W1.heap.size:=eW.size
     clear e1
     refine ⟨eW,?_⟩
     unfold n11c39
     refine own_build_c (base:=w0.heap.size) (by omega) ?_
     intro gc W1 hc zc e1
     have bc:gc < W1.heap.size:=by omega
     have lc:D.heap.size≤gc:=by omega
     replace hs:=hs.ext e1
     have ncs:gc≠gs:=by omega
     replace bs:gs < W1.heap.size:=by omega
     replace ht:=ht.ext e1
     have nct:gc≠gt:=by omega
     replace bt:gt < W1.heap.size:=by omega
     replace eW:Ext D W1:=eW.trans e1
     have sW:D.heap.size≤W1.heap.size:=eW.size
     clear e1
     refine ⟨eW,?_⟩
     refine appendL_cnt hc (hC.ext eW) (by omega) (by omega) eW lc bc ?_
     intro kc capc W1 oc dc bc' z1 e1 keep
     have lc':D.heap.size≤kc:=by omega
     have mcs:kc≠gs:=by omega
     replace hs:=OwnE.keep hs fun b hb=>(keep b (by have h:gs=b:=Option.some.inj hb;omega) (by have h:gs=b:=Option.some.inj hb;omega))
     replace bs:gs < W1.heap.size:=by omega
     have mct:kc≠gt:=by omega
     replace ht:=OwnE.keep ht fun b hb=>(keep b (by have h:gt=b:=Option.some.inj hb;omega) (by have h:gt=b:=Option.some.inj hb;omega))
     replace bt:gt < W1.heap.size:=by omega
     replace eW:Ext D W1:=e1
     have sW:D.heap.size≤W1.heap.size:=eW.size
     clear e1 keep
     refine ⟨eW,?_⟩
     unfold n11c38
     rw [own_q2]
     refine appendL_sta hs (hS.ext eW) (by omega) (by omega) eW ls bs ?_
     intro ks caps W1 os ds bs' z1 e1 keep
     have ls':D.heap.size≤ks:=by omega
     have mst:ks≠gt:=by omega
     replace ht:=OwnE.keep ht fun b hb=>(keep b (by have h:gt=b:=Option.some.inj hb;omega) (by have h:gt=b:=Option.some.inj hb;omega))
     replace bt:gt < W1.heap.size:=by omega
     have msc:ks≠kc:=by omega
     replace oc:=OwnE.keep oc fun b hb=>(keep b (by have h:kc=b:=Option.some.inj hb;omega) (by have h:kc=b:=Option.some.inj hb;omega))
     replace bc':kc < W1.heap.size:=by omega
     replace eW:Ext D W1:=e1
     have sW:D.heap.size≤W1.heap.size:=eW.size
     clear e1 keep
     refine ⟨eW,?_⟩
     unfold n11c37
     refine appendL_stp ht (hT.ext eW) (by omega) (by omega) eW lt bt ?_
     intro kt capt W1 ot dt bt' z1 e1 keep
     have lt':D.heap.size≤kt:=by omega
     have mts:kt≠ks:=by omega
     replace os:=OwnE.keep os fun b hb=>(keep b (by have h:ks=b:=Option.some.inj hb;omega) (by have h:ks=b:=Option.some.inj hb;omega))
     replace bs':ks < W1.heap.size:=by omega
     have mtc:kt≠kc:=by omega
     replace oc:=OwnE.keep oc fun b hb=>(keep b (by have h:kc=b:=Option.some.inj hb;omega) (by have h:kc=b:=Option.some.inj hb;omega))
     replace bc':kc < W1.heap.size:=by omega
     replace eW:Ext D W1:=e1
     have sW:D.heap.size≤W1.heap.size:=eW.size
     clear e1 keep
     refine ⟨eW,?_⟩
     unfold n11c36
     exact own_leaf eD eW h1 h2 (by omega) (by omega) (by omega) (by omega) (by omega) (Nat.le_refl _) oc os ot (fun b hb=>by have h:kc=b:=Option.some.inj hb;omega) (fun b hb=>by have h:ks=b:=Option.some.inj hb;omega) (fun b hb=>by have h:kt=b:=Option.some.inj hb;omega)
 · refine own_build_t (base:=w0.heap.size) (by omega) ?_
   intro gt W1 ht zt e1
   have bt:gt < W1.heap.size:=by omega
   have lt:D.heap.size≤gt:=by omega
   replace eW:Ext D W1:=eW.trans e1
   have sW:D.heap.size≤W1.heap.size:=eW.size
   clear e1
   refine ⟨eW,?_⟩
   unfold n11c52
   refine ⟨?_,?_⟩
   · refine own_build_c (base:=w0.heap.size) (by omega) ?_
     intro gc W1 hc zc e1
     have bc:gc < W1.heap.size:=by omega
     have lc:D.heap.size≤gc:=by omega
     replace ht:=ht.ext e1
     have nct:gc≠gt:=by omega
     replace bt:gt < W1.heap.size:=by omega
     replace eW:Ext D W1:=eW.trans e1
     have sW:D.heap.size≤W1.heap.size:=eW.size
     clear e1
     refine ⟨eW,?_⟩
     unfold n11c47
     refine ⟨?_,?_⟩
     · refine appendL_cnt hc (hC.ext eW) (by omega) (by omega) eW lc bc ?_
       intro kc capc W1 oc dc bc' z1 e1 keep
       have lc':D.heap.size≤kc:=by omega
       have mct:kc≠gt:=by omega
       replace ht:=OwnE.keep ht fun b hb=>(keep b (by have h:gt=b:=Option.some.inj hb;omega) (by have h:gt=b:=Option.some.inj hb;omega))
       replace bt:gt < W1.heap.size:=by omega
       replace eW:Ext D W1:=e1
       have sW:D.heap.size≤W1.heap.size:=eW.size
       clear e1 keep
       refine ⟨eW,?_⟩
       unfold n11c43
       rw [own_q2]
       refine own_build_s (base:=w0.heap.size) (by omega) ?_
       intro gs W1 hs zs e1
       have bs:gs < W1.heap.size:=by omega
       have ls:D.heap.size≤gs:=by omega
       replace ht:=ht.ext e1
       have nst:gs≠gt:=by omega
       replace bt:gt < W1.heap.size:=by omega
       replace oc:=oc.ext e1
       have nsc:gs≠kc:=by omega
       replace bc':kc < W1.heap.size:=by omega
       replace eW:Ext D W1:=eW.trans e1
       have sW:D.heap.size≤W1.heap.size:=eW.size
       clear e1
       refine ⟨eW,?_⟩
       refine appendL_sta hs (hS.ext eW) (by omega) (by omega) eW ls bs ?_
       intro ks caps W1 os ds bs' z1 e1 keep
       have ls':D.heap.size≤ks:=by omega
       have mst:ks≠gt:=by omega
       replace ht:=OwnE.keep ht fun b hb=>(keep b (by have h:gt=b:=Option.some.inj hb;omega) (by have h:gt=b:=Option.some.inj hb;omega))
       replace bt:gt < W1.heap.size:=by omega
       have msc:ks≠kc:=by omega
       replace oc:=OwnE.keep oc fun b hb=>(keep b (by have h:kc=b:=Option.some.inj hb;omega) (by have h:kc=b:=Option.some.inj hb;omega))
       replace bc':kc < W1.heap.size:=by omega
       replace eW:Ext D W1:=e1
       have sW:D.heap.size≤W1.heap.size:=eW.size
       clear e1 keep
       refine ⟨eW,?_⟩
       unfold n11c42
       refine appendL_stp ht (hT.ext eW) (by omega) (by omega) eW lt bt ?_
       intro kt capt W1 ot dt bt' z1 e1 keep
       have lt':D.heap.size≤kt:=by omega
       have mtc:kt≠kc:=by omega
       replace oc:=OwnE.keep oc fun b hb=>(keep b (by have h:kc=b:=Option.some.inj hb;omega) (by have h:kc=b:=Option.some.inj hb;omega))
       replace bc':kc < W1.heap.size:=by omega
       have mts:kt≠ks:=by omega
       replace os:=OwnE.keep os fun b hb=>(keep b (by have h:ks=b:=Option.some.inj hb;omega) (by have h:ks=b:=Option.some.inj hb;omega))
       replace bs':ks < W1.heap.size:=by omega
       replace eW:Ext D W1:=e1
       have sW:D.heap.size≤W1.heap.size:=eW.size
       clear e1 keep
       refine ⟨eW,?_⟩
       unfold n11c41
       exact own_leaf eD eW h1 h2 (by omega) (by omega) (by omega) (by omega) (by omega) (Nat.le_refl _) oc os ot (fun b hb=>by have h:kc=b:=Option.some.inj hb;omega) (fun b hb=>by have h:ks=b:=Option.some.inj hb;omega) (fun b hb=>by have h:kt=b:=Option.some.inj hb;omega)
     · refine own_build_s (base:=w0.heap.size) (by omega) ?_
       intro gs W1 hs zs e1
       have bs:gs < W1.heap.size:=by omega
       have ls:D.heap.size≤gs:=by omega
       replace ht:=ht.ext e1
       have nst:gs≠gt:=by omega
       replace bt:gt < W1.heap.size:=by omega
       replace hc:=hc.ext e1
       have nsc:gs≠gc:=by omega
       replace bc:gc < W1.heap.size:=by omega
       replace eW:Ext D W1:=eW.trans e1
       have sW:D.heap.size≤W1.heap.size:=eW.size
       clear e1
       refine ⟨eW,?_⟩
       refine appendL_cnt hc (hC.ext eW) (by omega) (by omega) eW lc bc ?_
       intro kc capc W1 oc dc bc' z1 e1 keep
       have lc':D.heap.size≤kc:=by omega
       have mct:kc≠gt:=by omega
       replace ht:=OwnE.keep ht fun b hb=>(keep b (by have h:gt=b:=Option.some.inj hb;omega) (by have h:gt=b:=Option.some.inj hb;omega))
       replace bt:gt < W1.heap.size:=by omega
       have mcs:kc≠gs:=by omega
       replace hs:=OwnE.keep hs fun b hb=>(keep b (by have h:gs=b:=Option.some.inj hb;omega) (by have h:gs=b:=Option.some.inj hb;omega))
       replace bs:gs < W1.heap.size:=by omega
       replace eW:Ext D W1:=e1
       have sW:D.heap.size≤W1.heap.size:=eW.size
       clear e1 keep
       refine ⟨eW,?_⟩
       unfold n11c46
       rw [own_q2]
       refine appendL_sta hs (hS.ext eW) (by omega) (by omega) eW ls bs ?_
       intro ks caps W1 os ds bs' z1 e1 keep
       have ls':D.heap.size≤ks:=by omega
       have mst:ks≠gt:=by omega
       replace ht:=OwnE.keep ht fun b hb=>(keep b (by have h:gt=b:=Option.some.inj hb;omega) (by have h:gt=b:=Option.some.inj hb;omega))
       replace bt:gt < W1.heap.size:=by omega
       have msc:ks≠kc:=by omega
       replace oc:=OwnE.keep oc fun b hb=>(keep b (by have h:kc=b:=Option.some.inj hb;omega) (by have h:kc=b:=Option.some.inj hb;omega))
       replace bc':kc < W1.heap.size:=by omega
       replace eW:Ext D W1:=e1
       have sW:D.heap.size≤W1.heap.size:=eW.size
       clear e1 keep
       refine ⟨eW,?_⟩
       unfold n11c45
       refine appendL_stp ht (hT.ext eW) (by omega) (by omega) eW lt bt ?_
       intro kt capt W1 ot dt bt' z1 e1 keep
       have lt':D.heap.size≤kt:=by omega
       have mtc:kt≠kc:=by omega
       replace oc:=OwnE.keep oc fun b hb=>(keep b (by have h:kc=b:=Option.some.inj hb;omega) (by have h:kc=b:=Option.some.inj hb;omega))
       replace bc':kc < W1.heap.size:=by omega
       have mts:kt≠ks:=by omega
       replace os:=OwnE.keep os fun b hb=>(keep b (by have h:ks=b:=Option.some.inj hb;omega) (by have h:ks=b:=Option.some.inj hb;omega))
       replace bs':ks < W1.heap.size:=by omega
       replace eW:Ext D W1:=e1
       have sW:D.heap.size≤W1.heap.size:=eW.size
       clear e1 keep
       refine ⟨eW,?_⟩
       unfold n11c44
       exact own_leaf eD eW h1 h2 (by omega) (by omega) (by omega) (by omega) (by omega) (Nat.le_refl _) oc os ot (fun b hb=>by have h:kc=b:=Option.some.inj hb;omega) (fun b hb=>by have h:ks=b:=Option.some.inj hb;omega) (fun b hb=>by have h:kt=b:=Option.some.inj hb;omega)
   · refine own_build_s (base:=w0.heap.size) (by omega) ?_
     intro gs W1 hs zs e1
     have bs:gs < W1.heap.size:=by omega
     have ls:D.heap.size≤gs:=by omega
     replace ht:=ht.ext e1
     have nst:gs≠gt:=by omega
     replace bt:gt < W1.heap.size:=by omega
     replace eW:Ext D W1:=eW.trans e1
     have sW:D.heap.size≤W1.heap.size:=eW.size
     clear e1
     refine ⟨eW,?_⟩
     unfold n11c51
     refine own_build_c (base:=w0.heap.size) (by omega) ?_
     intro gc W1 hc zc e1
     have bc:gc < W1.heap.size:=by omega
     have lc:D.heap.size≤gc:=by omega
     replace ht:=ht.ext e1
     have nct:gc≠gt:=by omega
     replace bt:gt < W1.heap.size:=by omega
     replace hs:=hs.ext e1
     have ncs:gc≠gs:=by omega
     replace bs:gs < W1.heap.size:=by omega
     replace eW:Ext D W1:=eW.trans e1
     have sW:D.heap.size≤W1.heap.size:=eW.size
     clear e1
     refine ⟨eW,?_⟩
     refine appendL_cnt hc (hC.ext eW) (by omega) (by omega) eW lc bc ?_
     intro kc capc W1 oc dc bc' z1 e1 keep
     have lc':D.heap.size≤kc:=by omega
     have mct:kc≠gt:=by omega
     replace ht:=OwnE.keep ht fun b hb=>(keep b (by have h:gt=b:=Option.some.inj hb;omega) (by have h:gt=b:=Option.some.inj hb;omega))
     replace bt:gt < W1.heap.size:=by omega
     have mcs:kc≠gs:=by omega
     replace hs:=OwnE.keep hs fun b hb=>(keep b (by have h:gs=b:=Option.some.inj hb;omega) (by have h:gs=b:=Option.some.inj hb;omega))
     replace bs:gs < W1.heap.size:=by omega
     replace eW:Ext D W1:=e1
     have sW:D.heap.size≤W1.heap.size:=eW.size
     clear e1 keep
     refine ⟨eW,?_⟩
     unfold n11c50
     rw [own_q2]
     refine appendL_sta hs (hS.ext eW) (by omega) (by omega) eW ls bs ?_
     intro ks caps W1 os ds bs' z1 e1 keep
     have ls':D.heap.size≤ks:=by omega
     have mst:ks≠gt:=by omega
     replace ht:=OwnE.keep ht fun b hb=>(keep b (by have h:gt=b:=Option.some.inj hb;omega) (by have h:gt=b:=Option.some.inj hb;omega))
     replace bt:gt < W1.heap.size:=by omega
     have msc:ks≠kc:=by omega
     replace oc:=OwnE.keep oc fun b hb=>(keep b (by have h:kc=b:=Option.some.inj hb;omega) (by have h:kc=b:=Option.some.inj hb;omega))
     replace bc':kc < W1.heap.size:=by omega
     replace eW:Ext D W1:=e1
     have sW:D.heap.size≤W1.heap.size:=eW.size
     clear e1 keep
     refine ⟨eW,?_⟩
     unfold n11c49
     refine appendL_stp ht (hT.ext eW) (by omega) (by omega) eW lt bt ?_
     intro kt capt W1 ot dt bt' z1 e1 keep
     have lt':D.heap.size≤kt:=by omega
     have mts:kt≠ks:=by omega
     replace os:=OwnE.keep os fun b hb=>(keep b (by have h:ks=b:=Option.some.inj hb;omega) (by have h:ks=b:=Option.some.inj hb;omega))
     replace bs':ks < W1.heap.size:=by omega
     have mtc:kt≠kc:=by omega
     replace oc:=OwnE.keep oc fun b hb=>(keep b (by have h:kc=b:=Option.some.inj hb;omega) (by have h:kc=b:=Option.some.inj hb;omega))
     replace bc':kc < W1.heap.size:=by omega
     replace eW:Ext D W1:=e1
     have sW:D.heap.size≤W1.heap.size:=eW.size
     clear e1 keep
     refine ⟨eW,?_⟩
     unfold n11c48
     exact own_leaf eD eW h1 h2 (by omega) (by omega) (by omega) (by omega) (by omega) (Nat.le_refl _) oc os ot (fun b hb=>by have h:kc=b:=Option.some.inj hb;omega) (fun b hb=>by have h:ks=b:=Option.some.inj hb;omega) (fun b hb=>by have h:kt=b:=Option.some.inj hb;omega)
theorem rTurn_ret (w0:World) (v:Value) (r:RolD) (peer:ByteArray) (hr:RolVal w0 v r) (hl:r.counters.length≤100000∧r.states.length≤100000∧r.steps.length≤100000):Ret Pg 24 #[v,.string peer] w0 fun u w'=>(∃ x,u = .tuple #[x,.int .i64 (turnP r peer).2]∧RolOwn w' w0.heap.size x (turnP r peer).1)∧Ext w0 w':=by
 obtain ⟨sv,cv,tv,rfl,hS,hC,hT,o1,o2,o3⟩:=hr.op
 refine n16s (R:=retR _) ?_;unfold n16
 rw [op_boxA]
 have h0:(w0.alloc (.cells (rolCells r sv cv tv).toArray TRol)).heap[w0.heap.size]?=some (.cells (rolCells r sv cv tv).toArray TRol (0,0)):=heap_new _ _ _
 have e1:Ext w0 (w0.alloc (.cells (rolCells r sv cv tv).toArray TRol)):=ee
 have s1:(w0.alloc (.cells (rolCells r sv cv tv).toArray TRol)).heap.size=w0.heap.size+1:=Array.size_push ..
 generalize (w0.alloc (.cells (rolCells r sv cv tv).toArray TRol))=W at h0 e1 s1 ⊢
 have h2:(W.alloc (.cells zR TRol)).heap[W.heap.size]?=some (.cells zR TRol (0,0)):=heap_new _ _ _
 have e2:Ext W (W.alloc (.cells zR TRol)):=ee
 have s2:(W.alloc (.cells zR TRol)).heap.size=W.heap.size+1:=Array.size_push ..
 have c0:=(cells_of_heap (e2.obj h0)).1
 simp (disch:=try exact DI) only [↓PR,QR,simprocAttr,c0]
 change callK _ _ _ _ (W.alloc (.cells zR TRol)) _
 generalize (W.alloc (.cells zR TRol))=V at h2 e2 s2 c0 ⊢
 have eV:=e1.trans e2
 refine zcr (rCheck_ret V _ r ⟨_,_,_,rfl,hS.ext eV,hC.ext eV,hT.ext eV⟩ ⟨by omega,by omega,by omega⟩) fun w1 e3=>?_
 have E1:=eV.trans e3
 have s3:=e3.size
 replace h0:=e3.obj (e2.obj h0)
 replace h2:=e3.obj h2
 by_cases hc:(checkR r).2=0
 case neg =>
  have d1:((checkR r).2 != 0)=true:=by simp [hc]
  have hP:turnP r peer=(zeroR,(checkR r).2):=by unfold turnP;rw [if_neg hc]
  simp (disch:=try exact DI) only [↓PR,QR,simprocAttr,↓n16c18,d1,(cells_of_heap h2).1,(cells_of_heap h2).2]
  exact trn_zero (by omega) E1 hP
 have d1:((checkR r).2 != 0)=false:=by simp [hc]
 simp (disch:=try exact DI) only [↓PR,QR,simprocAttr,↓n16c18,d1]
 refine zcr (rName_ret w1 peer) fun w2 e4=>?_
 have E2:=E1.trans e4
 have s4:=e4.size
 replace h0:=e4.obj h0
 replace h2:=e4.obj h2
 have bad:(nameB peer&&decide (peer≠r.name))=false→FinT w0 r peer (rolCells zeroR (.slice none 0 0) (.slice none 0 0) (.slice none 0 0)) 2 (setCells w2 W.heap.size 0 (rolCells zeroR (.slice none 0 0) (.slice none 0 0) (.slice none 0 0))):=fun hb=>trn_zero (by omega) E2 (by unfold turnP;rw [if_pos hc,hb];rfl)
 cases hn:nameB peer with
 | false =>
  simp (disch:=try exact DI) only [↓PR,QR,simprocAttr,↓n16c17,↓n16c15,(cells_of_heap h2).1,(cells_of_heap h2).2]
  exact bad (by rw [hn];rfl)
 | true =>
 by_cases hpn:peer=r.name
 · have q1:decide (peer=r.name)=true:=decide_eq_true hpn
   simp (disch:=try exact DI) only [↓PR,QR,simprocAttr,↓n16c17,(cells_of_heap h0).1,q1,↓n16c15,(cells_of_heap h2).1,(cells_of_heap h2).2]
   exact bad (by simp [hpn])
 have q1:decide (peer=r.name)=false:=decide_eq_false hpn
 have hP:turnP r peer=match turnL r.name peer [] r.steps with
  | none=>(zeroR,2)
  | some l=>(⟨peer,r.states.map still,r.counters,l⟩,0):=by
  unfold turnP
  rw [if_pos hc,if_pos (by simp [hn,hpn])]
  cases turnL r.name peer [] r.steps<;>rfl
 simp (disch:=try exact DI) only [↓PR,QR,simprocAttr,↓n16c17,(cells_of_heap h0).1,q1]
 unfold n16c16
 refine own_build_c (base:=w2.heap.size) (Nat.le_refl _) ?_
 intro g X hg zg eX
 replace h0:=eX.obj h0
 replace h2:=eX.obj h2
 have E3:=E2.trans eX
 simp (disch:=try exact DI) only [↓PR,QR,simprocAttr,(cells_of_heap h0).1]
 refine appendL_cnt (a:=w2) hg (hC.ext E3) (by omega) (by omega) eX (by omega) (by omega) ?_
 intro k cap Y oc hk bk zy eY keep
 have E4:=E2.trans eY
 have h0Y:=(keep _ (by omega) (by omega)).trans h0
 have h2Y:=(keep _ (by omega) (by omega)).trans h2
 simp (disch:=try exact DI) only [↓PR,QR,simprocAttr]
 have eZ:Ext Y (Y.alloc (.cells (rolCells ⟨peer,[],r.counters,[]⟩ (.slice none 0 0) (.slice (some ⟨k,0,none⟩) r.counters.length cap) (.slice none 0 0)).toArray TRol)):=ee
 have h5:(Y.alloc (.cells (rolCells ⟨peer,[],r.counters,[]⟩ (.slice none 0 0) (.slice (some ⟨k,0,none⟩) r.counters.length cap) (.slice none 0 0)).toArray TRol)).heap[Y.heap.size]?=some (.cells (rolCells ⟨peer,[],r.counters,[]⟩ (.slice none 0 0) (.slice (some ⟨k,0,none⟩) r.counters.length cap) (.slice none 0 0)).toArray TRol (0,0)):=heap_new _ _ _
 have sZ:(Y.alloc (.cells (rolCells ⟨peer,[],r.counters,[]⟩ (.slice none 0 0) (.slice (some ⟨k,0,none⟩) r.counters.length cap) (.slice none 0 0)).toArray TRol)).heap.size=Y.heap.size+1:=Array.size_push ..
 change loop1 _ _ (Y.alloc (.cells (rolCells ⟨peer,[],r.counters,[]⟩ (.slice none 0 0) (.slice (some ⟨k,0,none⟩) r.counters.length cap) (.slice none 0 0)).toArray TRol))
 generalize (Y.alloc (.cells (rolCells ⟨peer,[],r.counters,[]⟩ (.slice none 0 0) (.slice (some ⟨k,0,none⟩) r.counters.length cap) (.slice none 0 0)).toArray TRol))=Z at eZ h5 sZ ⊢
 have hLT:LT w0 Z w2.heap.size W.heap.size Y.heap.size Z.heap.size Z.heap.size ⟨peer,[],r.counters,[]⟩ (.slice none 0 0) (.slice (some ⟨k,0,none⟩) r.counters.length cap) (.slice none 0 0) :=
  ⟨E4.trans eZ,eZ.obj h2Y,h5,oc.ext eZ,fun b hb=>(by have h:k=b:=Option.some.inj hb;omega),OwnE.nil _ _ _ _ _,fun b hb=>(by cases hb),OwnE.nil _ _ _ _ _,by omega,Nat.le_refl _,Nat.le_refl _,by omega,by omega,fun b hb=>(by have h:k=b:=Option.some.inj hb;omega),by omega,by omega,by omega⟩
 refine rt_states hLT (eZ.obj h0Y) (by omega) (by omega) hS hl.2.1 ?_
 intro w' sv' B1' B2' hL h0'
 exact rt_steps hL h0' (by omega) (by omega) hT hl.2.2 (fun x hx=>(check_rd hc).ts x hx |>.2.2.1) hP
theorem Few.sm {r:RolD} (h:Few r):∀ x∈r.steps,StpSm x:=fun x hx=>by
 obtain ⟨h1,h2,h3,h4,h5⟩:=h.ts x hx
 exact ⟨by omega,by omega,by omega,by omega,by omega⟩
def RowS (w:World) (lo n:Nat) (T:TypeId) (v:Value) (len:Nat):Prop:=(v = .slice none 0 0∧len=0)∨∃ g cap cur,v = .slice (some ⟨g,0,none⟩) len cap∧lo≤g∧w.heap[g]?=some (.cells cur T (0,0))∧len≤cap∧cur.size=cap*n
theorem RowS.of {α:Type} {w:World} {lo n:Nat} {T:TypeId} {enc:α→List Value} {v:Value} {l:List α} (h:OwnE w lo T n enc v l):RowS w lo n T v l.length:=by
 rcases h.2 with ⟨a,b⟩ | ⟨g,cap,cur,a,b,c,d,_,e,_⟩
 · exact .inl ⟨a,b⟩
 · exact .inr ⟨g,cap,cur,a,b,c,d,e⟩
theorem RowS.other {w w':World} {lo n:Nat} {T:TypeId} {v:Value} {len:Nat} (h:RowS w lo n T v len) (hk:∀ g cur,w.heap[g]?=some (.cells cur T (0,0))→lo≤g→w'.heap[g]?=some (.cells cur T (0,0))):RowS w' lo n T v len:=by
 rcases h with h | ⟨g,cap,cur,a,b,c,d,e⟩
 · exact .inl h
 · exact .inr ⟨g,cap,cur,a,b,hk g cur c b,d,e⟩
section
variable {A w:World} {p2 p5 p6 lo:Nat} {q:RolD} {sv cv tv:Value} {R:RT}
theorem tl_counters (eA:Ext A w) (hlo:A.heap.size≤lo) (h6:w.heap[p6]?=some (.cells (rolCells q sv cv tv).toArray TRol (0,0))) (h6l:A.heap.size≤p6) (hr:RowS w lo 2 52 cv q.counters.length) (hl:q.counters.length≤1000000)
 (hk:∀ w',Ext A w'→n7c2 (.pointer (some ⟨p2,0,none⟩)) (.pointer (some ⟨p5,0,none⟩)) R w') :
 loop1 (fun t11 w next5=>n7c4 (.pointer (some ⟨p2,0,none⟩)) (.pointer (some ⟨p5,0,none⟩)) (.pointer (some ⟨p6,0,none⟩)) t11 next5 R w) (.int .i64 0) w:=by
 refine loop1_intro (fun a w=>∃ k:Nat,a = .int .i64 (k:Int)∧k≤q.counters.length∧Ext A w∧w.heap[p6]?=some (.cells (rolCells q sv cv tv).toArray TRol (0,0))∧RowS w lo 2 52 cv q.counters.length) (fun a _=>q.counters.length - (intOf a).toNat) ⟨0,rfl,by omega,eA,h6,hr⟩ ?_
 rintro _ w ⟨k,rfl,hk',eA,h6,hr⟩
 unfold n7c4
 rcases hr with ⟨hv,hn⟩ | ⟨g,cap,cur,hv,hg0,hg,hcap,hcs⟩
 · have hk0:k=0:=by omega
   subst hk0 hv
   have d1:decide (((0:Nat):Int) < ((0:Nat):Int))=false:=rfl
   simp (disch:=try exact DI) only [↓PR,QR,simprocAttr,(cells_of_heap h6).1,d1]
   exact hk _ eA
 subst hv
 by_cases hlt:k < q.counters.length
 case neg =>
  obtain rfl:k=q.counters.length:=by omega
  have d1:decide ((q.counters.length:Int) < (q.counters.length:Int))=false:=decide_eq_false (by omega)
  simp (disch:=try exact DI) only [↓PR,QR,simprocAttr,(cells_of_heap h6).1,d1]
  exact hk _ eA
 have dk:(k:Int) < (q.counters.length:Int):=by omega
 have d1:decide ((k:Int) < (q.counters.length:Int))=true:=decide_eq_true dk
 have hw:IntKind.i64.wrap ((k:Int)+1)=((k+1:Nat):Int):=by rw [wrap_ok (by omega) (by omega)];omega
 have hne:g≠p6:=fun e=>by rw [e,h6] at hg;cases hg
 obtain ⟨u,hu⟩:∃ u,cur[k*2+1]?=some u:=⟨_,Array.getElem?_eq_getElem (by rw [hcs];omega)⟩
 have cu:w.cell? ⟨g,k*2+1,none⟩=some u:=by rw [(cells_of_heap hg).1];exact hu
 have fu:w.frozen? ⟨g,k*2+1,none⟩=false:=(cells_of_heap hg).2 _
 simp (disch:=try exact DI) only [↓PR,QR,simprocAttr,(cells_of_heap h6).1,d1,↓n7c3,Nat.zero_add,Nat.add_zero,cu,fu,hw]
 exact ⟨⟨k+1,rfl,by omega,eA.setCell (p:=⟨g,k*2+1,none⟩) (by show A.heap.size≤g;omega) _,h6,.inr ⟨g,cap,_,rfl,hg0,heap_set hg _,hcap,by simp [hcs]⟩⟩,meas_lt (kd := .i64) hlt⟩
theorem tl_states (eA:Ext A w) (hlo:A.heap.size≤lo) (h6:w.heap[p6]?=some (.cells (rolCells q sv cv tv).toArray TRol (0,0))) (h6l:A.heap.size≤p6) (hr:RowS w lo 3 50 sv q.states.length) (hc:RowS w lo 2 52 cv q.counters.length) (hl:q.states.length≤1000000)
 (hk:∀ w',Ext A w'→w'.heap[p6]?=some (.cells (rolCells q sv cv tv).toArray TRol (0,0))→RowS w' lo 2 52 cv q.counters.length→loop1 (fun t11 w next5=>n7c4 (.pointer (some ⟨p2,0,none⟩)) (.pointer (some ⟨p5,0,none⟩)) (.pointer (some ⟨p6,0,none⟩)) t11 next5 R w) (.int .i64 0) w') :
 loop1 (fun t10 w next4=>n7c6 (.pointer (some ⟨p2,0,none⟩)) (.pointer (some ⟨p5,0,none⟩)) (.pointer (some ⟨p6,0,none⟩)) t10 next4 R w) (.int .i64 0) w:=by
 refine loop1_intro (fun a w=>∃ k:Nat,a = .int .i64 (k:Int)∧k≤q.states.length∧Ext A w∧w.heap[p6]?=some (.cells (rolCells q sv cv tv).toArray TRol (0,0))∧RowS w lo 3 50 sv q.states.length∧RowS w lo 2 52 cv q.counters.length) (fun a _=>q.states.length - (intOf a).toNat) ⟨0,rfl,by omega,eA,h6,hr,hc⟩ ?_
 rintro _ w ⟨k,rfl,hk',eA,h6,hr,hc⟩
 unfold n7c6
 rcases hr with ⟨hv,hn⟩ | ⟨g,cap,cur,hv,hg0,hg,hcap,hcs⟩
 · have hk0:k=0:=by omega
   subst hk0 hv
   have d1:decide (((0:Nat):Int) < ((0:Nat):Int))=false:=rfl
   simp (disch:=try exact DI) only [↓PR,QR,simprocAttr,(cells_of_heap h6).1,d1]
   exact hk _ eA h6 hc
 subst hv
 by_cases hlt:k < q.states.length
 case neg =>
  obtain rfl:k=q.states.length:=by omega
  have d1:decide ((q.states.length:Int) < (q.states.length:Int))=false:=decide_eq_false (by omega)
  simp (disch:=try exact DI) only [↓PR,QR,simprocAttr,(cells_of_heap h6).1,d1]
  exact hk _ eA h6 hc
 have dk:(k:Int) < (q.states.length:Int):=by omega
 have d1:decide ((k:Int) < (q.states.length:Int))=true:=decide_eq_true dk
 have hw:IntKind.i64.wrap ((k:Int)+1)=((k+1:Nat):Int):=by rw [wrap_ok (by omega) (by omega)];omega
 have hne:g≠p6:=fun e=>by rw [e,h6] at hg;cases hg
 obtain ⟨u,hu⟩:∃ u,cur[k*3]?=some u:=⟨_,Array.getElem?_eq_getElem (by rw [hcs];omega)⟩
 have cu:w.cell? ⟨g,k*3,none⟩=some u:=by rw [(cells_of_heap hg).1];exact hu
 have fu:w.frozen? ⟨g,0+k*3,none⟩=false:=(cells_of_heap hg).2 _
 have fu2:w.frozen? ⟨g,k*3,none⟩=false:=(cells_of_heap hg).2 _
 simp (disch:=try exact DI) only [↓PR,QR,simprocAttr,(cells_of_heap h6).1,d1,↓n7c5,Nat.add_zero,cu,fu,fu2,hw]
 exact ⟨⟨k+1,rfl,by omega,eA.setCell (p:=⟨g,k*3,none⟩) (by show A.heap.size≤g;omega) _,h6,.inr ⟨g,cap,_,rfl,hg0,heap_set hg _,hcap,by simp [hcs]⟩,hc.other fun g' cur' h' _=>by rw [Only.setCell _ g _ _ g' (fun e=>by rw [e,hg] at h';cases h')];exact h'⟩,meas_lt (kd := .i64) hlt⟩
end
theorem RoleTurns_ret (w0:World) (v:Value) (r:RolD) (peer:ByteArray) (hr:RolVal w0 v r) (hi:RolIn r) (hE:EnvOK w0):Ret Pg 6 #[v,.string peer] w0 fun u w'=>u = .bool true∧Ext w0 w':=by
 obtain ⟨sv,cv,tv,rfl,hS,hC,hT,o1,o2,o3⟩:=hr.op
 refine n7s (R:=retR _) ?_;unfold n7
 rw [op_boxA]
 have hBW:=ElemAt.new (w:=w0) (rolCells r sv cv tv) (26)
 have eW:Ext w0 (w0.alloc (Obj.cells (List.toArray (rolCells r sv cv tv)) (26))):=(Ext.refl _).alloc _
 generalize (w0.alloc (Obj.cells (List.toArray (rolCells r sv cv tv)) (26)))=W at hBW eW ⊢
 generalize w0.heap.size=p at *
 have hV:∀ w,Ext W w→RolVal w (.agg (rolCells r sv cv tv).toArray) r:=fun w e=>⟨_,_,_,rfl,hS.ext (eW.trans e),hC.ext (eW.trans e),hT.ext (eW.trans e)⟩
 have E0:=Ext.refl W
 simp (disch:=try exact DI) only [↓PR,QR,simprocAttr,hBW.c4 E0]
 refine callK_ret (large_ret W _ r (hV W E0)) ?_
 rintro _ w1 ⟨e1,lb,rfl,hb⟩
 have kn:∀ w,Ext W w→callK Pg 11 #[] (panK (LawR w0)) w fun t w'=>LawR w0 (.returned t) w':=fun w e=>by
  refine callK_ret (known_ret w (hE.ext (eW.trans e))) ?_
  rintro _ w2' ⟨rfl,e2⟩
  exact ⟨_,rfl,rfl,(eW.trans e).trans e2⟩
 cases lb with
 | true =>
  simp (disch:=try exact DI) only [↓PR,QR,simprocAttr,↓n7c13,↓n7c12]
  exact kn _ e1
 | false =>
 have hF:=hb rfl
 have f1:=hF.nc
 have f2:=hF.ns
 have f3:=hF.nt
 by_cases hp:60 < peer.size
 · have d1:decide ((peer.size:Int) > 60)=true:=decide_eq_true (by omega)
   simp (disch:=try exact DI) only [↓PR,QR,simprocAttr,d1,↓n7c13,↓n7c12]
   exact kn _ e1
 have d1:decide ((peer.size:Int) > 60)=false:=decide_eq_false (by omega)
 simp (disch:=try exact DI) only [↓PR,QR,simprocAttr,d1,↓n7c13,↓n7c12,hBW.c4 e1]
 refine callK_ret (own_ret w1 _ r (hV w1 e1) ⟨by omega,by omega,by omega⟩) ?_
 rintro _ w2 ⟨⟨xs,xc,xt,rfl,a1,a2,a3⟩,e2⟩
 have b1:=own_one a1 fun _=>rfl
 have b2:=own_one a2 fun _=>rfl
 have b3:=own_one a3 fun _=>rfl
 have E2:=e1.trans e2
 have eX:Ext w2 (w2.alloc (.cells (rolCells r xs xc xt).toArray TRol)):=ee
 have hX:(w2.alloc (.cells (rolCells r xs xc xt).toArray TRol)).heap[w2.heap.size]?=some (.cells (rolCells r xs xc xt).toArray TRol (0,0)):=heap_new _ _ _
 simp (disch:=try exact DI) only [↓PR,QR,simprocAttr,↓n7c11]
 change callK _ _ _ _ (w2.alloc (.cells (rolCells r xs xc xt).toArray TRol)) _
 generalize (w2.alloc (.cells (rolCells r xs xc xt).toArray TRol))=X at eX hX ⊢
 generalize w2.heap.size=p5 at hX ⊢
 have EX:=E2.trans eX
 have xV:∀ w,Ext X w→RolVal w (.agg (rolCells r xs xc xt).toArray) r:=fun w e=>RolOwn.val (base:=w1.heap.size) ⟨xs,xc,xt,rfl,a1.ext (eX.trans e),a2.ext (eX.trans e),a3.ext (eX.trans e)⟩
 refine callK_ret (Turn_ret X _ r peer (xV X (Ext.refl _)) hF.sm ⟨by omega,by omega,by omega⟩) ?_
 rintro _ w3 ⟨⟨x,rfl,ts,tc,tt,rfl,c1,c2,c3⟩,e3⟩
 have g1:=own_one c1 fun _=>rfl
 have g2:=own_one c2 fun _=>rfl
 have g3:=own_one c3 fun _=>rfl
 have eY:Ext w3 (w3.alloc (.cells (rolCells (turnP r peer).1 ts tc tt).toArray TRol)):=ee
 have hY:(w3.alloc (.cells (rolCells (turnP r peer).1 ts tc tt).toArray TRol)).heap[w3.heap.size]?=some (.cells (rolCells (turnP r peer).1 ts tc tt).toArray TRol (0,0)):=heap_new _ _ _
 have E3:=(EX.trans e3).trans eY
 simp (disch:=try exact DI) only [↓PR,QR,simprocAttr,↓n7c10,hBW.c4 E3]
 change callK _ _ _ _ (w3.alloc (.cells (rolCells (turnP r peer).1 ts tc tt).toArray TRol)) _
 have s3:=e3.size
 generalize (w3.alloc (.cells (rolCells (turnP r peer).1 ts tc tt).toArray TRol))=Y at eY hY E3 ⊢
 generalize w3.heap.size=p6 at hY s3 ⊢
 refine callK_ret (rTurn_ret Y _ r peer (hV Y E3) ⟨by omega,by omega,by omega⟩) ?_
 rintro _ w4 ⟨⟨x,rfl,us,uc,ut,rfl,u1,u2,u3⟩,e4⟩
 have g4:=own_one u1 fun _=>rfl
 have g5:=own_one u2 fun _=>rfl
 have g6:=own_one u3 fun _=>rfl
 have eZ:Ext w4 (w4.alloc (.cells (rolCells (turnP r peer).1 us uc ut).toArray TRol)):=ee
 have hZ:(w4.alloc (.cells (rolCells (turnP r peer).1 us uc ut).toArray TRol)).heap[w4.heap.size]?=some (.cells (rolCells (turnP r peer).1 us uc ut).toArray TRol (0,0)):=heap_new _ _ _
 have hYZ:=eZ.obj (e4.obj hY)
 simp (disch:=try exact DI) only [↓PR,QR,simprocAttr,↓n7c9,(cells_of_heap hYZ).1,(cells_of_heap hZ).1]
 change callK _ _ _ _ (w4.alloc (.cells (rolCells (turnP r peer).1 us uc ut).toArray TRol)) _
 generalize (w4.alloc (.cells (rolCells (turnP r peer).1 us uc ut).toArray TRol))=Z at eZ hZ hYZ ⊢
 have eXZ:Ext X Z:=((e3.trans eY).trans e4).trans eZ
 have e3Z:Ext w3 Z:=(eY.trans e4).trans eZ
 refine zcr (rSame_ret Z _ _ (turnP r peer).1 (turnP r peer).1 (RolOwn.val (base:=0) ⟨ts,tc,tt,rfl,(c1.ext e3Z).base (Nat.zero_le _),(c2.ext e3Z).base (Nat.zero_le _),(c3.ext e3Z).base (Nat.zero_le _)⟩) (RolOwn.val (base:=0) ⟨us,uc,ut,rfl,(u1.ext eZ).base (Nat.zero_le _),(u2.ext eZ).base (Nat.zero_le _),(u3.ext eZ).base (Nat.zero_le _)⟩)) fun w5 e5=>?_
 have q1:decide ((turnP r peer).1=(turnP r peer).1)=true:=decide_eq_true rfl
 have q2:((turnP r peer).2 != (turnP r peer).2)=false:=by simp
 simp (disch:=try exact DI) only [↓PR,QR,simprocAttr,q1,↓n7c8]
 refine callK_ret (num_ret w5 _) ?_
 rintro _ w5' ⟨rfl,hw5⟩
 rw [hw5]
 clear hw5 w5'
 have eX5:=eXZ.trans e5
 have E5:=EX.trans eX5
 have c5:=(cells_of_heap (eX5.obj hX)).1
 simp (disch:=try exact DI) only [↓PR,QR,simprocAttr,q1,q2,↓n7c7,c5,hBW.c4 E5]
 refine zcr (rSame_ret w5 _ _ r r (xV w5 eX5) (hV w5 E5)) fun w6 e6=>?_
 have q3:decide (r=r)=true:=decide_eq_true rfl
 simp (disch:=try exact DI) only [↓PR,QR,simprocAttr,q1,q2,q3]
 have eX6:=eX5.trans e6
 have e36:=(e3Z.trans e5).trans e6
 have hY6:=e6.obj (e5.obj hYZ)
 have n2:(turnP r peer).1.counters.length≤1000000:=by
  unfold turnP
  split
  · split
    · split
      · exact Nat.zero_le _
      · show r.counters.length≤_;omega
    · exact Nat.zero_le _
  · exact Nat.zero_le _
 have n1:(turnP r peer).1.states.length≤1000000:=by
  unfold turnP
  split
  · split
    · split
      · exact Nat.zero_le _
      · show (r.states.map still).length≤_;rw [List.length_map];omega
    · exact Nat.zero_le _
  · exact Nat.zero_le _
 refine tl_states (A:=X) (lo:=X.heap.size) (q:=(turnP r peer).1) (sv:=ts) (cv:=tc) (tv:=tt) eX6 (Nat.le_refl _) hY6 s3 (RowS.of (c1.ext e36)) (RowS.of (c2.ext e36)) n1 ?_
 intro w7 e7 h67 hc7
 refine tl_counters (A:=X) (lo:=X.heap.size) (q:=(turnP r peer).1) (sv:=ts) (cv:=tc) (tv:=tt) e7 (Nat.le_refl _) h67 s3 hc7 n2 ?_
 intro w8 e8
 have c8:=(cells_of_heap (e8.obj hX)).1
 unfold n7c2
 simp (disch:=try exact DI) only [↓PR,QR,simprocAttr,c8,hBW.c4 (EX.trans e8)]
 refine zcr (rSame_ret w8 _ _ r r (xV w8 e8) (hV w8 (EX.trans e8))) fun w9 e9=>?_
 simp (disch:=try exact DI) only [↓PR,QR,simprocAttr,q3,↓n7c1]
 refine zcr (known_ret w9 (hE.ext (eW.trans ((EX.trans e8).trans e9)))) fun w10 e10=>?_
 simp (disch:=try exact DI) only [↓PR,QR,simprocAttr,q3]
 exact ⟨by trivial,(eW.trans ((EX.trans e8).trans e9)).trans e10⟩
end Go.Proofs.YtngflmjncplkaaaGreatDoor
namespace Go.Proofs.YtngflmjncplkaaaGreatDoor
open Sw
open Go.RowKit Go.Deep
def role_laid:List (String×DataW Unit):=[("math/bits.deBruijn32tab", Rows.laid_math_bits_deBruijn32tab),("math/bits.deBruijn64tab", Rows.laid_math_bits_deBruijn64tab),("internal/strconv.uint64pow10", Rows.laid_internal_strconv_uint64pow10),("unicode/utf8.acceptRanges", Rows.laid_unicode_utf8_acceptRanges),("strconv.ErrRange", Rows.laid_strconv_ErrRange),("strconv.ErrSyntax", Rows.laid_strconv_ErrSyntax),("unicode/utf8.first", Rows.laid_unicode_utf8_first)]
theorem role_own:ownKnob Pg.godebug=none:=by kernel_rfl
theorem role_laidOut:laidOutB Pg=true:=by kernel_rfl
theorem role_met (os:Os) (args:Array Value):laidMetH Pg role_laid ((World.laidAll Pg os role_laid).forCall (fun _ _=>0) ⟨#[],args,[]⟩).memory:=by
 rw [MakeChecks.laidMetH_plain _ _ _ (by kernel_rfl)]
 exact laidMet_laidAll _ (by kernel_rfl) (by kernel_rfl)
theorem role_tab {W:World} (h:laidMetH Pg role_laid W):TabOK W:=by
 rw [MakeChecks.laidMetH_plain _ _ _ (by kernel_rfl)] at h
 have h3:=laidMet.tail (laidMet.tail h)
 have he:(Rows.laid_internal_strconv_uint64pow10:DataW Unit)=Go.Lib.tabData .u64 Go.Lib.pow10Tab:=by kernel_rfl
 rw [he] at h3
 obtain ⟨g,hg⟩:=Option.isSome_iff_exists.1 gPow
 have hty:(Pg.globals[g]?).map (·.type)=some 197:=by
  have h1:(Pg.globalNamed "internal/strconv.uint64pow10").bind (fun g=>(Pg.globals[g]?).map (·.type))=some 197:=by kernel_rfl
  rw [hg] at h1
  exact h1
 exact Go.Lib.tabIs_of_head hg hty Tryz.underlying197 Tryz.underlying161 (by kernel_rfl) (by kernel_rfl) h3
theorem role_star : "*" ++ "errors.errorString" = "*errors.errorString" := by decide
theorem role_rowErr (u:TypeId) (h:Pg.typeName? 3 u=some "*errors.errorString"):u=200 :=
 typeName_ptr_named (nm := "errors.errorString") (by rw [role_star];kernel_rfl) (by kernel_rfl) (by decide) u (by rw [role_star];exact h)
theorem role_env {W:World} (hs:W.ShapedOpen Pg) (h:laidMetH Pg role_laid W):EnvOK W:=by
 refine ⟨role_tab h,Go.Proofs.cell_of_shapedOpen_int (k := .i64) hs (of_decide_eq_true (by kernel_rfl)) (zero := #[.int .i64 0]) (t:=3) (by kernel_rfl) rfl (by kernel_rfl) (by kernel_rfl) Tryz.underlying3,?_,?_⟩
 · rw [MakeChecks.laidMetH_plain _ _ _ (by kernel_rfl)] at h
   have h5:=h.tail.tail.tail.tail.tail
   obtain ⟨a,s,hv,_⟩:=laid_sentinel (g:=1) h5 (by kernel_rfl) (by kernel_rfl) Tryz.underlying130 role_rowErr Tryz.underlying200 Tryz.underlying202 rfl rfl Tryz.underlying9 (by kernel_rfl) (by kernel_rfl)
   refine ⟨_,by rw [World.var?_cell (show Pg.globalNamed "strconv.ErrSyntax" = some 1 by kernel_rfl) hv 0];rfl,.inr ⟨_,_,rfl⟩⟩
 · rw [MakeChecks.laidMetH_plain _ _ _ (by kernel_rfl)] at h
   have h5:=h.tail.tail.tail.tail
   obtain ⟨a,s,hv,_⟩:=laid_sentinel (g:=2) h5 (by kernel_rfl) (by kernel_rfl) Tryz.underlying130 role_rowErr Tryz.underlying200 Tryz.underlying202 rfl rfl Tryz.underlying9 (by kernel_rfl) (by kernel_rfl)
   refine ⟨_,by rw [World.var?_cell (show Pg.globalNamed "strconv.ErrRange" = some 2 by kernel_rfl) hv 0];rfl,.inr ⟨_,_,rfl⟩⟩
theorem handed_and {H:Type} {enc:TypeId×Value→H} {a:Assume} {C:Checked} {os:Os} {f:FuncId} {fn:Func} {s:ChangeSpec} {conds:List PathCond} {apart fresh handsOn again:Bool} {X:World→Array Value→Prop}
 (hX:∀ (w w':World) (args:Array Value),w.heap=w'.heap→X w args→X w' args)
 (own:ownKnob C.prog.godebug=none) (started:os.Started) (noInit:C.prog.inits.idxOf? f=none) (hfn:C.prog.funcs[f]?=some fn)
 (witness:∃ (w:World) (tape:Tape) (i:Input),w.os=os∧(w.forCall tape i).Shaped C.prog∧i.vars=[]∧Input.okWide C.prog (w.forCall tape i) .any w.heap.size f i ∧
  ((s.pre enc C.prog fn conds apart (w.forCall tape i).memory i.args∧X (w.forCall tape i).memory i.args)∧sizedMet enc C.prog fn (OpenSpec.ofChange s) apart (w.forCall tape i).memory i.args)∧a.holds C.prog (lone (Frame.enter C.prog f i.args .normal) [] (w.forCall tape i)))
 (contract:∀ (W:World) (base:Nat) (args:Array Value) (ds gs:List (DataW H)) (before:List MemPlace),
  (∀ (j:Nat) t v,fn.params[j]?=some t→args[j]?=some v→Value.okWide C.prog W .any base t v) →
  DataW.Whole enc C.prog fn.params.toList s.vars apart W args.toList ds gs before →
  conds.all (PathCond.test C.prog ⟨fn.params.toList,ds,s.plain.varTypes C.prog,gs⟩)=true →
  (DataW.weightsEach C.prog (fn.params.toList++s.plain.varTypes C.prog) (ds++gs)).all (· ≤ reachBytes)=true→X W args→W.ShapedOpen C.prog →
  a.holds C.prog (lone (Frame.enter C.prog f args .normal) [] W) →
  Calls C.prog f args W fun e W'=>∃ v,e = .returned v∧s.post enc C.prog fn apart fresh handsOn again W args v W') :
 ReturnsInHanded a C os f .any (fun w args=>(s.pre enc C.prog fn conds apart w args∧X w args)∧sizedMet enc C.prog fn (OpenSpec.ofChange s) apart w args) (s.post enc C.prog fn apart fresh handsOn again):=by
 refine returnsInHanded_of_calls own started noInit witness ?_
 intro w tape i _ hsh _ hok hpre hholds
 obtain ⟨_,_,_,fn',hfn',_,_,_,_,hval⟩:=hok
 have e:fn'=fn:=Option.some.inj (hfn'.symm.trans hfn)
 subst e
 obtain ⟨⟨⟨ds,gs,before,hw,hc⟩,hx⟩,hz⟩:=hpre
 have hw':=DataW.Whole.of_heap (w':=w.forCall tape i) (by rfl) hw
 refine (contract (w.forCall tape i) w.heap.size i.args ds gs before hval hw' hc (hz.weights hw) (hX _ _ _ (by rfl) hx) hsh hholds).mono fun e W' ⟨v,he,hp⟩=>?_
 subst he
 exact ChangeSpec.post_blind hp
end Go.Proofs.YtngflmjncplkaaaGreatDoor
namespace Go.Proofs.YtngflmjncplkaaaGreatDoor
open Sw
open Go.ChangeShapes Go.WideShapes Go.RowKit Go.ChangeAt Go.Deep
theorem rturns_lifted (os:Os) (started:os.Started) (H:Type) (enc:TypeId×Value→H) :
 ReturnsInHanded {} Tryz.checked os 6 .any (fun w args=>(Rows.roleTurnsSpec.pre enc Pg Tryz.f6 Rows.roleTurnsRow.domain false w args∧laidMetH Pg role_laid w)∧sizedMet enc Pg Tryz.f6 (OpenSpec.ofChange Rows.roleTurnsSpec) false w args) (Rows.roleTurnsSpec.post enc Pg Tryz.f6 false true false false):=by
 refine handed_and (C:=Tryz.checked) (X:=fun w _=>laidMetH Pg role_laid w) (fun _ _ _ hh h=>h.of_heap hh) role_own started (by kernel_rfl) Tryz.func6
  (ChangeSpec.witness_shaped (enc:=enc) (C:=Tryz.checked) (os:=os) (X:=fun w _=>laidMetH Pg role_laid w) false (World.laidAll Pg os role_laid) #[.agg #[.string ByteArray.empty,.slice none 0 0,.slice none 0 0,.slice none 0 0],.string ByteArray.empty] 8 (World.laidAll_os _ _ _) (World.shaped_of_ZipB (by kernel_rfl) (by kernel_rfl)) (by kernel_rfl) (by kernel_rfl) (by kernel_rfl) (role_met os _)) ?_
 intro W base args ds gs before hval hW _ hsz hL hsh _
 have hW':=hW
 obtain ⟨p,q,hA0,hV,rfl,_,_⟩:=hW
 have hA:DataW.TrodAll enc Pg W 0 (fun _=>true) true Tryz.f6.params.toList args.toList ds p:=hA0
 rw [Tryz.params6] at hA hval hsz
 obtain ⟨v0,vs0,d0,ds0,p0,q0,ha0,rfl,rfl,h0,r0⟩:=trodAll_cons hA
 obtain ⟨v1,vs1,d1,ds1,p1,q1,ha1,rfl,rfl,h1,r1⟩:=trodAll_cons r0
 obtain ⟨rfl,rfl,rfl⟩:=trodAll_nil r1
 subst ha1
 obtain rfl:args = #[v0,v1]:=by cases args;simp_all
 obtain ⟨f0,hf0,hs0⟩:=rol_val (hval 0 _ v0 rfl rfl) h0 (reached_of (j:=0) hsz rfl rfl)
 obtain ⟨s1,rfl,_⟩:=open_str Tryz.underlying9 (hval 1 _ v1 rfl rfl) h1
 refine Calls.mono (RoleTurns_ret W v0 f0 s1 hf0 hs0 (role_env hsh hL)) fun e W' ⟨v,he,hv,hx⟩=>?_
 subst he hv
 exact ⟨_,rfl,law_post role_laidOut (by decide +kernel) rfl hW' hx rfl Tryz.underlying4 rfl rfl rfl⟩
theorem rturns_holds:Rows.RoleTurnsSaid :=
 OpenClaim.holds_of_wide 6 Tryz.f6 rfl rfl rfl rfl rfl rfl rfl ⟨rfl,rfl,rfl,rfl,rfl⟩ rfl rfl rfl rfl rfl (by kernel_rfl) Tryz.func6 (by kernel_rfl)
  (of_decide_eq_true (by kernel_rfl)) (by unfold Func.isWrapper;first | (rw [if_pos (by decide +kernel)];kernel_rfl) | (rw [if_neg (by decide +kernel)];exact ⟨rfl,rfl⟩))
  (fun os started H enc _=>rturns_lifted os started H enc)
theorem rturns_card:Rows.RoleTurnsCardSaid :=
 Claim7.holds_tied_plain_at .later [] [.data,.data,.data,.data,.sentinel,.sentinel,.pinned] true (true, "805d62ceadf1c0eaaccbbc96f2703f3718560c4f9884483faf4dfcc0b7041b30") true
  rturns_holds (fun _ h=>by cases h) (by kernel_rfl) (fun _ h=>by cases h) roleTurns_row_tie rfl ⟨rfl,rfl⟩ (by kernel_rfl) rfl
  (fun f fn hf hfn=>by
   obtain rfl:f=6:=Option.some.inj ((show Pg.funcNamed "phrasebook/phrasebooklaw28.RoleTurns" = some 6 by kernel_rfl).symm.trans hf) |>.symm
   obtain rfl:fn=Tryz.f6:=(Option.some.inj (Tryz.func6.symm.trans hfn)).symm
   exact ⟨by kernel_rfl,fun j t ht=>by
    rw [Tryz.params6] at ht
    have hm:t∈[26,9]:=by simpa using Array.mem_of_getElem? ht
    have hall:([26,9].all fun u=>!Pg.wantsStandIn u)=true:=by kernel_rfl
    exact (show Pg.wantsStandIn t=false by simpa using List.all_eq_true.1 hall t hm)⟩)
  (by kernel_rfl)
end Go.Proofs.YtngflmjncplkaaaGreatDoor
