/-
  phrasebooklaw28.RoleParses returns true for every text, and leaves its arguments as they were; no condition is asked but that the tables of the library lie as the program lays them (the card ties them).
-/
import Derived.Test.YtngflmjncplkaaaGreatDoorUc4
set_option linter.all false
set_option maxHeartbeats 4000000
set_option maxRecDepth 100000
namespace Go.Proofs.YtngflmjncplkaaaGreatDoor
open Sw
def n22c1 (t2 t4 t5:Value) (R:RT) (w:World):Prop :=
 opV Pg (Instr.loadAt 50 t4) (panK R) w fun t62 w =>
 opV Pg (Builtin.len_ #[73] 3 #[t5]) (panK R) w fun t64 w =>
 opV Pg (binS .eql 3 true t64 (.int .i64 0)) (panK R) w fun t65 w =>
 opU Pg (Instr.storeAt 50 t2 t62) (panK R) w fun w =>
 qW Pg 50 t2 w fun r0 =>
 R (.returned (.tuple #[r0,t65])) w
def n22c2 (t2 t4 t5 t54 t59:Value) (R:RT) (w:World):Prop :=
 pickK t54 t59 (.bool false) fun t60 =>
 joinK (fun (t5:Value) (w:World) =>
 n22c1 t2 t4 t5 R w) fun K5 =>
 condP t60 (
 opV Pg (Instr.fieldAt 50 t4 1) (panK R) w fun t61 w =>
 opU Pg (Instr.storeAt 4 t61 (.bool true)) (panK R) w fun w =>
 K5 (Value.slice none 0 0) w) (
 K5 t5 w)
def n22c3 (t2 t4 t5:Value) (R:RT) (w:World):Prop :=
 opV Pg (Builtin.len_ #[73] 3 #[t5]) (panK R) w fun t53 w =>
 opV Pg (binS .eql 3 true t53 (.int .i64 1)) (panK R) w fun t54 w =>
 joinK (fun (t59:Value) (w:World) =>
 n22c2 t2 t4 t5 t54 t59 R w) fun K4 =>
 guardP t54 true (
 opV Pg (Instr.indexAt 73 t5 (.int .i64 0)) (panK R) w fun t57 w =>
 opV Pg (Instr.loadAt 9 t57) (panK R) w fun t58 w =>
 opV Pg (binS .eql 9 true t58 (.string { data := #[102,105,110,97,108] })) (panK R) w fun t59 w =>
 K4 t59 w) (
 K4 undef w)
def n22c4 (t4 t24 t39:Value) (C7:World→Prop) (K3:KV) (R:RT) (w:World):Prop :=
 qV Pg C7 (Instr.sliceAt 73 t24 (some (.int .i64 2)) none none) fun t50 =>
 qV Pg C7 (Instr.fieldAt 50 t4 2) fun t51 =>
 opU Pg (Instr.storeAt 3 t51 t39) (panK R) w fun w =>
 C7 w∧(
 K3 t50 w)
def n22c5 (t2:Value) (R:RT) (w:World):Prop :=
 opV Pg (Instr.build 50 #[]) (panK R) w fun t47 w =>
 opU Pg (Instr.storeAt 50 t2 t47) (panK R) w fun w =>
 qW Pg 50 t2 w fun r0 =>
 R (.returned (.tuple #[r0,(.bool false)])) w
def n22c6 (t2 t4 t24 t38:Value) (K3:KV) (R:RT) (w:World):Prop :=
 opV Pg (Instr.extract t38 0) (panK R) w fun t39 w =>
 opV Pg (Instr.extract t38 1) (panK R) w fun t40 w =>
 opV Pg (Op.unary .not t40) (panK R) w fun t42 w =>
 joinK (fun (t45:Value) (w:World) =>
 pickK t42 (.bool true) t45 fun t46 =>
 condP t46 (
 n22c5 t2 R w) (
 drawK w fun C7 w =>
 n22c4 t4 t24 t39 C7 K3 R w)) fun K6 =>
 guardP t42 false (
 opV Pg (binS .eql 3 true t39 (.int .i64 0)) (panK R) w fun t45 w =>
 K6 t45 w) (
 K6 undef w)
def n22c7 (t2 t4 t24:Value) (K3:KV) (R:RT) (w:World):Prop :=
 opV Pg (Instr.indexAt 73 t24 (.int .i64 1)) (panK R) w fun t36 w =>
 opV Pg (Instr.loadAt 9 t36) (panK R) w fun t37 w =>
 callK Pg 72 #[t37] (panK R) w fun t38 w =>
 n22c6 t2 t4 t24 t38 K3 R w
def n22c8 (t2 t4 t24 t27 t32:Value) (R:RT) (w:World):Prop :=
 pickK t27 t32 (.bool false) fun t33 =>
 joinK (fun (t5:Value) (w:World) =>
 n22c3 t2 t4 t5 R w) fun K3 =>
 condP t33 (
 n22c7 t2 t4 t24 K3 R w) (
 K3 t24 w)
def n22c9 (t2:Value) (R:RT) (w:World):Prop :=
 opV Pg (Instr.build 50 #[]) (panK R) w fun t18 w =>
 opU Pg (Instr.storeAt 50 t2 t18) (panK R) w fun w =>
 qW Pg 50 t2 w fun r0 =>
 R (.returned (.tuple #[r0,(.bool false)])) w
def n22c10 (t0 t2:Value) (R:RT) (w:World):Prop :=
 opV Pg (Instr.indexAt 73 t0 (.int .i64 1)) (panK R) w fun t20 w =>
 opV Pg (Instr.loadAt 9 t20) (panK R) w fun t21 w =>
 opV Pg (Instr.build 50 #[(0,t21)]) (panK R) w fun t22 w =>
 opV Pg (Instr.alloc 50 true (.tuple #[])) (panK R) w fun t4 w =>
 opU Pg (Instr.storeAt 50 t4 t22) (panK R) w fun w =>
 opV Pg (Instr.sliceAt 73 t0 (some (.int .i64 2)) none none) (panK R) w fun t24 w =>
 opV Pg (Builtin.len_ #[73] 3 #[t24]) (panK R) w fun t26 w =>
 opV Pg (binS .geq 3 true t26 (.int .i64 2)) (panK R) w fun t27 w =>
 joinK (fun (t32:Value) (w:World) =>
 n22c8 t2 t4 t24 t27 t32 R w) fun K2 =>
 guardP t27 true (
 opV Pg (Instr.indexAt 73 t24 (.int .i64 0)) (panK R) w fun t30 w =>
 opV Pg (Instr.loadAt 9 t30) (panK R) w fun t31 w =>
 opV Pg (binS .eql 9 true t31 (.string { data := #[119,97,105,116] })) (panK R) w fun t32 w =>
 K2 t32 w) (
 K2 undef w)
def n22 (t0:Value) (R:RT) (w:World):Prop :=
 opV Pg (Instr.alloc 50 true (.tuple #[])) (panK R) w fun t2 w =>
 opV Pg (Builtin.len_ #[73] 3 #[t0]) (panK R) w fun t9 w =>
 opV Pg (binS .lss 3 true t9 (.int .i64 2)) (panK R) w fun t10 w =>
 joinK (fun (t16:Value) (w:World) =>
 pickK t10 (.bool true) t16 fun t17 =>
 condP t17 (
 n22c9 t2 R w) (
 n22c10 t0 t2 R w)) fun K1 =>
 guardP t10 false (
 opV Pg (Instr.indexAt 73 t0 (.int .i64 1)) (panK R) w fun t13 w =>
 opV Pg (Instr.loadAt 9 t13) (panK R) w fun t14 w =>
 callK Pg 18 #[t14] (panK R) w fun t15 w =>
 opV Pg (Op.unary .not t15) (panK R) w fun t16 w =>
 K1 t16 w) (
 K1 undef w)
set_option maxHeartbeats 40000000 in
theorem n22s {t0:Value} {R:RT} {w:World} (h:n22 t0 R w):Calls Pg 92 #[t0] w R:=by
 refine yD Tryz.func92 ?_
 refine zs<|zr<|yv h fun _ w h=>zm<|zn<|zk<|zs<|zs<|sim_regionG<|yG 4<|zm<|yx h fun _ w h=>yb h fun _ w h=>zm<|zn ?_
 refine yg1 5 3 false [12,13,14,15,16] 16 h (fun _ T hT h=>?_) fun σ w h=>?_
 · refine zm<|yv h fun _ w h=>yv h fun _ w h=>yc h c18 fun _ w h=>yv h fun _ w h=>zn ?_
   exact zt hT h
 refine yG 1<|yp h fun _ h=>zn<|sim_end<|zk<|yC h (fun h=>zs<|zr<|yB h fun _ w h=>yu h fun w h=>zm<|zn<|zk<|sim_ret<|sim_then_ret<|body_retCT rfl rfl rfl h) fun h=>sim_skip<|zk<|zs<|zr<|zm<|yv h fun _ w h=>yv h fun _ w h=>yB h fun _ w h=>?_
 refine yv h fun _ w h=>yu h fun w h=>zn<|zk<|zs<|zr<|zm<|yv h fun _ w h=>zm<|zn<|zk<|zs<|zs<|sim_regionG<|yG 4 ?_
 refine zm<|yx h fun _ w h=>yb h fun _ w h=>zm<|zn<|yg1 4 3 true [29,30,31,32] 32 h (fun _ T hT h=>?_) fun σ w h=>?_
 · refine zm<|yv h fun _ w h=>yv h fun _ w h=>yb h fun _ w h=>zn ?_
   exact zt hT h
 refine yG 1<|yp h fun _ h=>zn<|sim_end<|zk<|yJ1 [3,5,6,7,34,35,36,37,38,39,40,41,42,43,44,45,46,47,48,49,50,51] 5 h (fun _ _ hkK3 h=>?_) fun σ w h=>?_
 · refine yC h (fun h=>?_) fun h=>?_
   · refine zs<|zr<|zm<|yv h fun _ w h=>yv h fun _ w h=>yc h c72 fun _ w h=>zm<|yv h fun _ w h=>yv h fun _ w h=>zm<|zm<|zn<|zk<|zs<|zs ?_
     refine sim_regionG<|yG 3<|zm<|yv h fun _ w h=>zm<|zn<|yg1 2 2 false [44,45] 45 h (fun _ T hT h=>?_) fun σ w h=>?_
     · refine zm<|yb h fun _ w h=>zn ?_
       exact zt hT h
     refine yG 1<|yp h fun _ h=>zn<|sim_end<|zk<|yC h (fun h=>zs<|zr<|yB h fun _ w h=>yu h fun w h=>zm<|zn<|zk<|sim_ret<|sim_then_ret<|sim_then_ret<|sim_then_ret<|body_retCT rfl rfl rfl h) fun h=>sim_skip<|zk<|yh [5,48,49,50,51] h fun C hC h=>yw 0 hC ?_
     refine yw 1 hC ?_
     refine ye 2 hC h fun _ h=>?_
     refine ye 3 hC h fun _ h=>?_
     refine yo 4 ?_
     refine yu h fun w h=>zn ?_
     obtain ⟨hC,h⟩:=h
     refine ⟨hC,?_⟩
     refine yw 5 hC ?_
     refine yz<|zk ?_
     exact zt hkK3 h
   refine sim_skip<|zk ?_
   exact zt hkK3 h
 refine zk<|zs<|zs<|sim_regionG<|yG 4<|zm<|yx h fun _ w h=>yb h fun _ w h=>zm<|zn<|yg1 4 3 true [56,57,58,59] 59 h (fun _ T hT h=>?_) fun σ w h=>?_
 · refine zm<|yv h fun _ w h=>yv h fun _ w h=>yb h fun _ w h=>zn ?_
   exact zt hT h
 refine yG 1<|yp h fun _ h=>zn<|sim_end<|zk<|yJ1 [5,61] 5 h (fun _ _ hkK5 h=>?_) fun σ w h=>?_
 · refine yC h (fun h=>?_) fun h=>?_
   · refine zr<|yv h fun _ w h=>yu h fun w h=>zm<|zn<|zk ?_
     exact zt hkK5 h
   refine sim_skip<|zk ?_
   exact zt hkK5 h
 exact zk<|zs<|zr<|yv h fun _ w h=>zm<|yx h fun _ w h=>yb h fun _ w h=>yu h fun w h=>zm<|zn<|zk<|sim_ret<|body_retCT rfl rfl rfl h
def n23c1 (t4 t6 t46 t47:Value) (C7:World→Prop) (next5:KV) (R:RT) (w:World):Prop :=
 qV Pg C7 (Instr.indexAt 73 t47 t6) fun t49 =>
 qV Pg C7 (Instr.loadAt 9 t49) fun t50 =>
 qV Pg C7 (binS .eql 9 false t46 t50) fun t51 =>
 joinK (fun (w:World) =>
 opV Pg (binS .add 3 true t6 (.int .i64 1)) (panK R) w fun t43 w =>
 next5 t43 w) fun K8 =>
 condP t51 (
 opV Pg (Instr.fieldAt 71 t4 2) (panK R) w fun t53 w =>
 opU Pg (Instr.storeAt 69 t53 t6) (panK R) w fun w =>
 K8 w) (
 K8 w)
def n23c2 (t0 t4 t6:Value) (C6:World→Prop) (next5:KV) (R:RT) (w:World):Prop :=
 qV Pg C6 (Instr.indexAt 73 t0 (.int .i64 3)) fun t45 =>
 qV Pg C6 (Instr.loadAt 9 t45) fun t46 =>
 opV Pg (Instr.buildSlice 73 5 #[(0,(.string { data := #[] })),(1,(.string { data := #[115,101,110,100] })),(2,(.string { data := #[114,101,99,101,105,118,101] })),(3,(.string { data := #[116,105,109,101,111,117,116] })),(4,(.string { data := #[115,105,108,101,110,116] }))]) (panK R) w fun t47 w =>
 narrowK C6 w fun C7 w =>
 n23c1 t4 t6 t46 t47 C7 next5 R w
def n23c3 (t2 t116 t130 t141 t144:Value) (R:RT) (w:World):Prop :=
 pickK t116 t144 (.bool false) fun t145 =>
 joinK (fun (t147:Value) (w:World) =>
 pickK t145 t147 (.bool false) fun t148 =>
 opU Pg (Instr.storeAt 71 t2 t141) (panK R) w fun w =>
 qW Pg 71 t2 w fun r0 =>
 R (.returned (.tuple #[r0,t148])) w) fun K13 =>
 guardP t145 true (
 K13 t130 w) (
 K13 undef w)
def n23c4 (t2 t4 t5 t115 t116 t122 t123 t128:Value) (R:RT) (w:World):Prop :=
 opV Pg (Instr.extract t128 0) (panK R) w fun t129 w =>
 opV Pg (Instr.extract t128 1) (panK R) w fun t130 w =>
 opV Pg (Instr.indexAt 73 t5 (.int .i64 1)) (panK R) w fun t132 w =>
 opV Pg (Instr.loadAt 9 t132) (panK R) w fun t133 w =>
 opV Pg (Instr.fieldAt 71 t4 5) (panK R) w fun t137 w =>
 opU Pg (Instr.storeAt 9 t137 t133) (panK R) w fun w =>
 opV Pg (Instr.fieldAt 71 t4 6) (panK R) w fun t138 w =>
 opU Pg (Instr.storeAt 3 t138 t115) (panK R) w fun w =>
 opV Pg (Instr.fieldAt 71 t4 7) (panK R) w fun t139 w =>
 opU Pg (Instr.storeAt 3 t139 t122) (panK R) w fun w =>
 opV Pg (Instr.fieldAt 71 t4 8) (panK R) w fun t140 w =>
 opU Pg (Instr.storeAt 3 t140 t129) (panK R) w fun w =>
 opV Pg (Instr.loadAt 71 t4) (panK R) w fun t141 w =>
 joinK (fun (t144:Value) (w:World) =>
 n23c3 t2 t116 t130 t141 t144 R w) fun K12 =>
 guardP t116 true (
 K12 t123 w) (
 K12 undef w)
def n23c5 (t2 t4 t5 t115 t116 t121:Value) (R:RT) (w:World):Prop :=
 opV Pg (Instr.extract t121 0) (panK R) w fun t122 w =>
 opV Pg (Instr.extract t121 1) (panK R) w fun t123 w =>
 opV Pg (Instr.indexAt 73 t5 (.int .i64 4)) (panK R) w fun t126 w =>
 opV Pg (Instr.loadAt 9 t126) (panK R) w fun t127 w =>
 callK Pg 72 #[t127] (panK R) w fun t128 w =>
 n23c4 t2 t4 t5 t115 t116 t122 t123 t128 R w
def n23c6 (t2 t4 t5 t114:Value) (R:RT) (w:World):Prop :=
 opV Pg (Instr.extract t114 0) (panK R) w fun t115 w =>
 opV Pg (Instr.extract t114 1) (panK R) w fun t116 w =>
 opV Pg (Instr.indexAt 73 t5 (.int .i64 3)) (panK R) w fun t119 w =>
 opV Pg (Instr.loadAt 9 t119) (panK R) w fun t120 w =>
 callK Pg 72 #[t120] (panK R) w fun t121 w =>
 n23c5 t2 t4 t5 t115 t116 t121 R w
def n23c7 (t2:Value) (R:RT) (w:World):Prop :=
 opV Pg (Instr.build 71 #[]) (panK R) w fun t109 w =>
 opU Pg (Instr.storeAt 71 t2 t109) (panK R) w fun w =>
 qW Pg 71 t2 w fun r0 =>
 R (.returned (.tuple #[r0,(.bool false)])) w
def n23c8 (t2 t4 t5:Value) (R:RT) (w:World):Prop :=
 opV Pg (Instr.indexAt 73 t5 (.int .i64 2)) (panK R) w fun t112 w =>
 opV Pg (Instr.loadAt 9 t112) (panK R) w fun t113 w =>
 callK Pg 72 #[t113] (panK R) w fun t114 w =>
 n23c6 t2 t4 t5 t114 R w
def n23c9 (t2 t4 t5 t95 t100:Value) (R:RT) (w:World):Prop :=
 pickK t95 (.bool true) t100 fun t101 =>
 joinK (fun (t107:Value) (w:World) =>
 pickK t101 (.bool true) t107 fun t108 =>
 condP t108 (
 n23c7 t2 R w) (
 n23c8 t2 t4 t5 R w)) fun K11 =>
 guardP t101 false (
 opV Pg (Instr.indexAt 73 t5 (.int .i64 1)) (panK R) w fun t104 w =>
 opV Pg (Instr.loadAt 9 t104) (panK R) w fun t105 w =>
 callK Pg 18 #[t105] (panK R) w fun t106 w =>
 opV Pg (Op.unary .not t106) (panK R) w fun t107 w =>
 K11 t107 w) (
 K11 undef w)
def n23c10 (t2 t4:Value) (R:RT) (w:World):Prop :=
 opV Pg (Instr.loadAt 71 t4) (panK R) w fun t92 w =>
 opU Pg (Instr.storeAt 71 t2 t92) (panK R) w fun w =>
 qW Pg 71 t2 w fun r0 =>
 R (.returned (.tuple #[r0,(.bool true)])) w
def n23c11 (t2 t4 t5:Value) (R:RT) (w:World):Prop :=
 opV Pg (Builtin.len_ #[73] 3 #[t5]) (panK R) w fun t94 w =>
 opV Pg (binS .neq 3 true t94 (.int .i64 5)) (panK R) w fun t95 w =>
 joinK (fun (t100:Value) (w:World) =>
 n23c9 t2 t4 t5 t95 t100 R w) fun K10 =>
 guardP t95 false (
 opV Pg (Instr.indexAt 73 t5 (.int .i64 0)) (panK R) w fun t98 w =>
 opV Pg (Instr.loadAt 9 t98) (panK R) w fun t99 w =>
 opV Pg (binS .neq 9 true t99 (.string { data := #[119,104,101,110] })) (panK R) w fun t100 w =>
 K10 t100 w) (
 K10 undef w)
def n23c12 (t2 t4 t5:Value) (R:RT) (w:World):Prop :=
 opV Pg (Builtin.len_ #[73] 3 #[t5]) (panK R) w fun t90 w =>
 opV Pg (binS .eql 3 true t90 (.int .i64 0)) (panK R) w fun t91 w =>
 condP t91 (
 n23c10 t2 t4 R w) (
 n23c11 t2 t4 t5 R w)
def n23c13 (t4 t39:Value) (C16:World→Prop) (K9:KV) (R:RT) (w:World):Prop :=
 qV Pg C16 (Instr.indexAt 73 t39 (.int .i64 0)) fun t80 =>
 qV Pg C16 (Instr.loadAt 9 t80) fun t81 =>
 qV Pg C16 (Instr.indexAt 73 t39 (.int .i64 1)) fun t83 =>
 qV Pg C16 (Instr.loadAt 9 t83) fun t84 =>
 qV Pg C16 (Instr.sliceAt 73 t39 (some (.int .i64 2)) none none) fun t86 =>
 qV Pg C16 (Instr.fieldAt 71 t4 3) fun t87 =>
 opU Pg (Instr.storeAt 9 t87 t81) (panK R) w fun w =>
 C16 w∧(
 qV Pg C16 (Instr.fieldAt 71 t4 4) fun t88 =>
 opU Pg (Instr.storeAt 9 t88 t84) (panK R) w fun w =>
 C16 w∧(
 K9 t86 w))
def n23c14 (t2:Value) (R:RT) (w:World):Prop :=
 opV Pg (Instr.build 71 #[]) (panK R) w fun t78 w =>
 opU Pg (Instr.storeAt 71 t2 t78) (panK R) w fun w =>
 qW Pg 71 t2 w fun r0 =>
 R (.returned (.tuple #[r0,(.bool false)])) w
def n23c15 (t2 t4 t39 t63 t69:Value) (K9:KV) (R:RT) (w:World):Prop :=
 pickK t63 (.bool true) t69 fun t70 =>
 joinK (fun (t76:Value) (w:World) =>
 pickK t70 (.bool true) t76 fun t77 =>
 condP t77 (
 n23c14 t2 R w) (
 drawK w fun C16 w =>
 n23c13 t4 t39 C16 K9 R w)) fun K15 =>
 guardP t70 false (
 opV Pg (Instr.indexAt 73 t39 (.int .i64 1)) (panK R) w fun t73 w =>
 opV Pg (Instr.loadAt 9 t73) (panK R) w fun t74 w =>
 callK Pg 18 #[t74] (panK R) w fun t75 w =>
 opV Pg (Op.unary .not t75) (panK R) w fun t76 w =>
 K15 t76 w) (
 K15 undef w)
def n23c16 (t2 t4 t39:Value) (K9:KV) (R:RT) (w:World):Prop :=
 opV Pg (Builtin.len_ #[73] 3 #[t39]) (panK R) w fun t62 w =>
 opV Pg (binS .lss 3 true t62 (.int .i64 2)) (panK R) w fun t63 w =>
 joinK (fun (t69:Value) (w:World) =>
 n23c15 t2 t4 t39 t63 t69 K9 R w) fun K14 =>
 guardP t63 false (
 opV Pg (Instr.indexAt 73 t39 (.int .i64 0)) (panK R) w fun t66 w =>
 opV Pg (Instr.loadAt 9 t66) (panK R) w fun t67 w =>
 callK Pg 18 #[t67] (panK R) w fun t68 w =>
 opV Pg (Op.unary .not t68) (panK R) w fun t69 w =>
 K14 t69 w) (
 K14 undef w)
def n23c17 (t2:Value) (R:RT) (w:World):Prop :=
 opV Pg (Instr.build 71 #[]) (panK R) w fun t57 w =>
 opU Pg (Instr.storeAt 71 t2 t57) (panK R) w fun w =>
 qW Pg 71 t2 w fun r0 =>
 R (.returned (.tuple #[r0,(.bool false)])) w
def n23c18 (t2 t4 t39:Value) (R:RT) (w:World):Prop :=
 opV Pg (Instr.fieldAt 71 t4 2) (panK R) w fun t58 w =>
 opV Pg (Instr.loadAt 69 t58) (panK R) w fun t59 w =>
 opV Pg (binS .leq 69 true t59 (.int .i64 2)) (panK R) w fun t60 w =>
 joinK (fun (t5:Value) (w:World) =>
 n23c12 t2 t4 t5 R w) fun K9 =>
 condP t60 (
 n23c16 t2 t4 t39 K9 R w) (
 K9 t39 w)
def n23c19 (t2 t4 t39:Value) (R:RT) (w:World):Prop :=
 opV Pg (Instr.fieldAt 71 t4 2) (panK R) w fun t54 w =>
 opV Pg (Instr.loadAt 69 t54) (panK R) w fun t55 w =>
 opV Pg (binS .eql 69 true t55 (.int .i64 0)) (panK R) w fun t56 w =>
 condP t56 (
 n23c17 t2 R w) (
 n23c18 t2 t4 t39 R w)
def n23c20 (t0 t2 t4 t6 t39:Value) (next5:KV) (R:RT) (w:World):Prop :=
 opV Pg (binS .leq 3 true t6 (.int .i64 4)) (panK R) w fun t41 w =>
 condP t41 (
 drawK w fun C6 w =>
 n23c2 t0 t4 t6 C6 next5 R w) (
 n23c19 t2 t4 t39 R w)
def n23c21 (t0 t2 t4 t37:Value) (R:RT) (w:World):Prop :=
 opU Pg (Instr.storeAt 71 t4 t37) (panK R) w fun w =>
 turnK w fun C4 w =>
 opV Pg (Instr.sliceAt 73 t0 (some (.int .i64 4)) none none) (panK R) w fun t39 w =>
 loop1 (fun t6 w next5 =>
 n23c20 t0 t2 t4 t6 t39 next5 R w) (.int .i64 1) w
def n23c22 (t0 t2:Value) (C3:World→Prop) (R:RT) (w:World):Prop :=
 qV Pg C3 (Instr.indexAt 73 t0 (.int .i64 1)) fun t32 =>
 qV Pg C3 (Instr.loadAt 9 t32) fun t33 =>
 qV Pg C3 (Instr.indexAt 73 t0 (.int .i64 2)) fun t35 =>
 qV Pg C3 (Instr.loadAt 9 t35) fun t36 =>
 qV Pg C3 (Instr.build 71 #[(0,t33),(1,t36)]) fun t37 =>
 opV Pg (Instr.alloc 71 true (.tuple #[])) (panK R) w fun t4 w =>
 C3 w∧(
 n23c21 t0 t2 t4 t37 R w)
def n23c23 (t2:Value) (R:RT) (w:World):Prop :=
 opV Pg (Instr.build 71 #[]) (panK R) w fun t30 w =>
 opU Pg (Instr.storeAt 71 t2 t30) (panK R) w fun w =>
 qW Pg 71 t2 w fun r0 =>
 R (.returned (.tuple #[r0,(.bool false)])) w
def n23c24 (t0 t2 t15 t21:Value) (R:RT) (w:World):Prop :=
 pickK t15 (.bool true) t21 fun t22 =>
 joinK (fun (t28:Value) (w:World) =>
 pickK t22 (.bool true) t28 fun t29 =>
 condP t29 (
 n23c23 t2 R w) (
 drawK w fun C3 w =>
 n23c22 t0 t2 C3 R w)) fun K2 =>
 guardP t22 false (
 opV Pg (Instr.indexAt 73 t0 (.int .i64 2)) (panK R) w fun t25 w =>
 opV Pg (Instr.loadAt 9 t25) (panK R) w fun t26 w =>
 callK Pg 18 #[t26] (panK R) w fun t27 w =>
 opV Pg (Op.unary .not t27) (panK R) w fun t28 w =>
 K2 t28 w) (
 K2 undef w)
def n23 (t0:Value) (R:RT) (w:World):Prop :=
 opV Pg (Instr.alloc 71 true (.tuple #[])) (panK R) w fun t2 w =>
 opV Pg (Builtin.len_ #[73] 3 #[t0]) (panK R) w fun t14 w =>
 opV Pg (binS .lss 3 true t14 (.int .i64 4)) (panK R) w fun t15 w =>
 joinK (fun (t21:Value) (w:World) =>
 n23c24 t0 t2 t15 t21 R w) fun K1 =>
 guardP t15 false (
 opV Pg (Instr.indexAt 73 t0 (.int .i64 1)) (panK R) w fun t18 w =>
 opV Pg (Instr.loadAt 9 t18) (panK R) w fun t19 w =>
 callK Pg 18 #[t19] (panK R) w fun t20 w =>
 opV Pg (Op.unary .not t20) (panK R) w fun t21 w =>
 K1 t21 w) (
 K1 undef w)
set_option maxHeartbeats 40000000 in
theorem n23s {t0:Value} {R:RT} {w:World} (h:n23 t0 R w):Calls Pg 93 #[t0] w R:=by
 refine yD Tryz.func93 ?_
 refine zs<|zr<|yv h fun _ w h=>zm<|zn<|zk<|zs<|zs<|sim_regionG<|yG 4<|zm<|yx h fun _ w h=>yb h fun _ w h=>zm<|zn ?_
 refine yg1 5 3 false [17,18,19,20,21] 21 h (fun _ T hT h=>?_) fun σ w h=>?_
 · refine zm<|yv h fun _ w h=>yv h fun _ w h=>yc h c18 fun _ w h=>yv h fun _ w h=>zn ?_
   exact zt hT h
 refine yG 2<|yp h fun _ h=>zm<|zn<|yg1 5 10 false [24,25,26,27,28] 28 h (fun _ T hT h=>?_) fun σ w h=>?_
 · refine zm<|yv h fun _ w h=>yv h fun _ w h=>yc h c18 fun _ w h=>yv h fun _ w h=>zn ?_
   exact zt hT h
 refine yG 1<|yp h fun _ h=>zn<|sim_end<|zk<|yC h (fun h=>zs<|zr<|yB h fun _ w h=>yu h fun w h=>zm<|zn<|zk<|sim_ret<|sim_then_ret<|body_retCT rfl rfl rfl h) fun h=>sim_skip<|zk<|zs<|yh [4,31,32,33,34,35,36,37] h fun C hC h=>yw 0 hC ?_
 refine ye 1 hC h fun _ h=>?_
 refine ye 2 hC h fun _ h=>?_
 refine yw 3 hC ?_
 refine ye 4 hC h fun _ h=>?_
 refine ye 5 hC h fun _ h=>?_
 refine ye 6 hC h fun _ h=>?_
 refine yo 7 ?_
 refine yv h fun _ w h=>zn ?_
 obtain ⟨hC,h⟩:=h
 refine ⟨hC,?_⟩
 refine yq 8 1 ?_
 refine yu h fun w h=>zn ?_
 obtain ⟨C4,hC,h⟩:=h
 refine ⟨C4,hC,?_⟩
 refine yz<|zk<|zs<|zr<|zm<|yv h fun _ w h=>zm<|zn<|zk<|zs<|zs<|zr<|zm<|zn<|zk ?_
 refine sim_block<|yl1 [6,40,41,42,43,44,45,46,47,48,49,50,51,52,53] 6 h fun σ w next h=>zs<|zs<|zr<|zm<|yb h fun _ w h=>zn<|zk<|yC h (fun h=>?_) fun h=>?_
 · refine sim_skip<|zk<|zs<|sim_block<|zs<|yh [44,45,46,47,48,49,50,51] h fun C hC h=>yw 0 hC ?_
   refine ye 1 hC h fun _ h=>?_
   refine ye 2 hC h fun _ h=>?_
   refine yw 4 hC ?_
   refine yr 3 ?_
   refine yS h fun _ w h=>zn ?_
   obtain ⟨C7,hs,hC,h⟩:=h
   refine ⟨C7,hs,hC,?_⟩
   refine ye 5 hC h fun _ h=>?_
   refine ye 6 hC h fun _ h=>?_
   refine ye 7 hC h fun _ h=>?_
   refine yz<|zk<|yJ0 [52,53] h (fun _ _ hkK8 h=>?_) fun σ w h=>?_
   · refine yC h (fun h=>?_) fun h=>?_
     · refine zr<|zm<|yv h fun _ w h=>yu h fun w h=>zn<|zk ?_
       exact zt hkK8 h
     refine sim_skip<|zk ?_
     exact zt hkK8 h
   exact sim_block_normal<|zk<|zr<|zm<|yb h fun _ w h=>zm<|zn<|zk<|⟨rfl,h⟩
 refine sim_exit<|sim_then_exit<|sim_then_exit<|sim_block_hit<|zk<|zs<|zs<|zr<|yv h fun _ w h=>yv h fun _ w h=>yb h fun _ w h=>zn<|zk<|yC h (fun h=>zs<|zr<|yB h fun _ w h=>yu h fun w h=>zm<|zn<|zk<|sim_ret<|sim_then_ret<|body_retCT rfl rfl rfl h) fun h=>?_
 refine sim_skip<|zk<|zs<|zs<|zr<|yv h fun _ w h=>yv h fun _ w h=>yb h fun _ w h=>zn<|zk<|yJ1 [3,5,61,62,63,64,65,66,67,68,69,70,71,72,73,74,75,76,77,78,79,80,81,82,83,84,85,86,87,88] 5 h (fun _ _ hkK9 h=>?_) fun σ w h=>?_
 · refine yC h (fun h=>?_) fun h=>?_
   · refine zs<|zs<|sim_regionG<|yG 4<|zm<|yx h fun _ w h=>yb h fun _ w h=>zm<|zn<|yg1 5 3 false [65,66,67,68,69] 69 h (fun _ T hT h=>?_) fun σ w h=>?_
     · refine zm<|yv h fun _ w h=>yv h fun _ w h=>yc h c18 fun _ w h=>yv h fun _ w h=>zn ?_
       exact zt hT h
     refine yG 2<|yp h fun _ h=>zm<|zn<|yg1 5 10 false [72,73,74,75,76] 76 h (fun _ T hT h=>?_) fun σ w h=>?_
     · refine zm<|yv h fun _ w h=>yv h fun _ w h=>yc h c18 fun _ w h=>yv h fun _ w h=>zn ?_
       exact zt hT h
     refine yG 1<|yp h fun _ h=>zn<|sim_end<|zk<|yC h (fun h=>zs<|zr<|yB h fun _ w h=>yu h fun w h=>zm<|zn<|zk<|sim_ret<|sim_then_ret<|sim_then_ret<|sim_then_ret<|body_retCT rfl rfl rfl h) fun h=>sim_skip<|zk<|yh [5,79,80,81,82,83,84,85,86,87,88] h fun C hC h=>yw 0 hC ?_
     refine ye 1 hC h fun _ h=>?_
     refine ye 2 hC h fun _ h=>?_
     refine yw 3 hC ?_
     refine ye 4 hC h fun _ h=>?_
     refine ye 5 hC h fun _ h=>?_
     refine yw 6 hC ?_
     refine ye 7 hC h fun _ h=>?_
     refine ye 8 hC h fun _ h=>?_
     refine yo 9 ?_
     refine yu h fun w h=>zn ?_
     obtain ⟨hC,h⟩:=h
     refine ⟨hC,?_⟩
     refine ye 10 hC h fun _ h=>?_
     refine yo 11 ?_
     refine yu h fun w h=>zn ?_
     obtain ⟨hC,h⟩:=h
     refine ⟨hC,?_⟩
     refine yw 12 hC ?_
     refine yz<|zk ?_
     exact zt hkK9 h
   refine sim_skip<|zk ?_
   exact zt hkK9 h
 refine zk<|zs<|zs<|zr<|zm<|yx h fun _ w h=>yb h fun _ w h=>zn<|zk<|yC h (fun h=>zs<|zr<|yv h fun _ w h=>yu h fun w h=>zm<|zn<|zk<|sim_ret<|sim_then_ret<|body_retCT rfl rfl rfl h) fun h=>sim_skip<|zk<|zs<|zs ?_
 refine sim_regionG<|yG 4<|zm<|yx h fun _ w h=>yb h fun _ w h=>zm<|zn<|yg1 4 3 false [97,98,99,100] 100 h (fun _ T hT h=>?_) fun σ w h=>?_
 · refine zm<|yv h fun _ w h=>yv h fun _ w h=>yb h fun _ w h=>zn ?_
   exact zt hT h
 refine yG 2<|yp h fun _ h=>zm<|zn<|yg1 5 9 false [103,104,105,106,107] 107 h (fun _ T hT h=>?_) fun σ w h=>?_
 · refine zm<|yv h fun _ w h=>yv h fun _ w h=>yc h c18 fun _ w h=>yv h fun _ w h=>zn ?_
   exact zt hT h
 refine yG 1<|yp h fun _ h=>zn<|sim_end<|zk<|yC h (fun h=>zs<|zr<|yB h fun _ w h=>yu h fun w h=>zm<|zn<|zk<|sim_ret<|sim_then_ret<|body_retCT rfl rfl rfl h) fun h=>sim_skip<|zk<|zs<|zr<|zm<|yv h fun _ w h=>yv h fun _ w h=>yc h c72 fun _ w h=>?_
 refine zm<|yv h fun _ w h=>yv h fun _ w h=>zm<|zm<|zn<|zk<|zs<|zr<|zm<|yv h fun _ w h=>yv h fun _ w h=>yc h c72 fun _ w h=>zm<|yv h fun _ w h=>?_
 refine yv h fun _ w h=>zm<|zm<|zn<|zk<|zs<|zr<|zm<|yv h fun _ w h=>yv h fun _ w h=>yc h c72 fun _ w h=>zm<|yv h fun _ w h=>yv h fun _ w h=>zm ?_
 refine zm<|zn<|zk<|zs<|zr<|zm<|yv h fun _ w h=>yv h fun _ w h=>zm<|zm<|zm<|yv h fun _ w h=>yu h fun w h=>yv h fun _ w h=>yu h fun w h=>?_
 refine yv h fun _ w h=>yu h fun w h=>yv h fun _ w h=>yu h fun w h=>zn<|zk<|zs<|sim_regionG<|yG 3<|yv h fun _ w h=>zm<|zm<|zn<|yg1 1 2 true [144] 144 h (fun _ T hT h=>?_) fun σ w h=>?_
 · refine zm<|zn ?_
   exact zt hT h
 refine yG 2<|yp h fun _ h=>zm<|zn<|yg1 1 5 true [147] 147 h (fun _ T hT h=>?_) fun σ w h=>?_
 · refine zm<|zn ?_
   exact zt hT h
 exact yG 3<|yp h fun _ h=>yu h fun w h=>zm<|zn<|sim_end<|zk<|sim_ret<|body_retCT rfl rfl rfl h
open Go.RowKit (intOf Below)
abbrev StlR (w0:World) (ws:List ByteArray):Ending→World→Prop:=retR fun u w'=>(∃ x is,u = .tuple #[.agg (staCells x).toArray,.bool is]∧staP ws=if is then some x else none)∧Ext w0 w'
theorem stl_fin {w0 w:World} {p2 p4 len cap:Nat} {A:Option Addr} {full:List ByteArray} {y:StaD} {z0 z1 z2:Value} (h2:w.heap[p2]?=some (.cells #[z0,z1,z2] 50 (0,0))) (h4:w.heap[p4]?=some (.cells (staCells y).toArray 50 (0,0))) (l2:w0.heap.size≤p2) (e:Ext w0 w)
 (hR:staP full=if ((len:Int) == 0) then some y else none):n22c1 (.pointer (some ⟨p2,0,none⟩)) (.pointer (some ⟨p4,0,none⟩)) (.slice A len cap) (StlR w0 full) w:=by
 unfold n22c1
 simp (disch:=try exact DI) only [↓PR,QR,simprocAttr,(cells_of_heap h4).1,(cells_of_heap h2).1,(cells_of_heap h2).2]
 generalize hV:World.setCell _ _ _=V
 have h2':V.heap[p2]?=some (.cells (staCells y).toArray 50 (0,0)):=by rw [← hV];exact heap_set (heap_set (heap_set h2 _) _) _
 have eV:Ext w0 V:=by rw [← hV];exact ((e.setCell (p:=⟨p2,0,none⟩) l2 _).setCell (p:=⟨p2,0+1,none⟩) l2 _).setCell (p:=⟨p2,0+2,none⟩) l2 _
 clear hV
 exact ⟨⟨y,_,rfl,hR⟩,eV⟩
theorem stl_none {w0 w:World} {p2:Nat} {full:List ByteArray} {z0 z1 z2:Value} (h2:w.heap[p2]?=some (.cells #[z0,z1,z2] 50 (0,0))) (l2:w0.heap.size≤p2) (e:Ext w0 w) (hR:staP full=none):n22c5 (.pointer (some ⟨p2,0,none⟩)) (StlR w0 full) w:=by
 unfold n22c5
 simp (disch:=try exact DI) only [↓PR,QR,simprocAttr,(cells_of_heap h2).1,(cells_of_heap h2).2]
 generalize hV:World.setCell _ _ _=V
 have eV:Ext w0 V:=by rw [← hV];exact ((e.setCell (p:=⟨p2,0,none⟩) l2 _).setCell (p:=⟨p2,0+1,none⟩) l2 _).setCell (p:=⟨p2,0+2,none⟩) l2 _
 exact ⟨⟨⟨ByteArray.empty,false,0⟩,false,rfl,hR⟩,eV⟩
theorem stl_tail {w0 w:World} {p2 p4:Nat} {v:Value} {b o cap:Nat} {rest full:List ByteArray} {x1:ByteArray} {k:Int} {z0 z1 z2:Value} (h2:w.heap[p2]?=some (.cells #[z0,z1,z2] 50 (0,0))) (h4:w.heap[p4]?=some (.cells (staCells ⟨x1,false,k⟩).toArray 50 (0,0))) (hne:p2≠p4) (l2:w0.heap.size≤p2) (l4:w0.heap.size≤p4) (hW:WsC w v b o cap rest) (e:Ext w0 w)
 (hR:staP full=endP (⟨x1,skipB kFinal rest,k⟩:StaD) (tailIf (skipB kFinal rest) rest)):n22c3 (.pointer (some ⟨p2,0,none⟩)) (.pointer (some ⟨p4,0,none⟩)) v (StlR w0 full) w:=by
 obtain rfl:=hW.val
 unfold n22c3
 match rest,hW,hR with
 | [],hW,hR =>
  have d1:(((([]:List ByteArray).length:Nat):Int) == 1)=false:=rfl
  simp (disch:=try exact DI) only [↓PR,QR,simprocAttr,d1,↓n22c2]
  exact stl_fin h2 h4 l2 e hR
 | [f],hW,hR =>
  have d1:(((([f]:List ByteArray).length:Nat):Int) == 1)=true:=rfl
  have c0:w.cell? ⟨b,o,none⟩=some (.string f):=hW.at_ 0 f rfl
  have i0:0 < ([f]:List ByteArray).length:=by simp
  by_cases hf:f=kFinal
  · have q1:decide (f=⟨#[102,105,110,97,108]⟩)=true:=decide_eq_true hf
    have hs:skipB kFinal [f]=true:=by unfold skipB;simp [hf]
    rw [hs] at hR
    simp (disch:=try exact DI) only [↓PR,QR,simprocAttr,d1,op_ws0 b o _ cap i0,Nat.add_zero,c0,q1,↓n22c2,(cells_of_heap h4).1,(cells_of_heap h4).2]
    generalize hV:World.setCell _ _ _=V
    have h4':V.heap[p4]?=some (.cells (staCells ⟨x1,true,k⟩).toArray 50 (0,0)):=by rw [← hV];exact heap_set h4 _
    have h2':V.heap[p2]?=some (.cells #[z0,z1,z2] 50 (0,0)):=by rw [← hV,Only.setCell w p4 _ _ p2 hne];exact h2
    have eV:Ext w0 V:=by rw [← hV];exact e.setCell (p:=⟨p4,0+1,none⟩) l4 _
    clear hV
    exact stl_fin (A:=none) (cap:=0) (len:=0) h2' h4' l2 eV hR
  · have q1:decide (f=⟨#[102,105,110,97,108]⟩)=false:=decide_eq_false hf
    have hs:skipB kFinal [f]=false:=by unfold skipB;simp [hf]
    rw [hs] at hR
    simp (disch:=try exact DI) only [↓PR,QR,simprocAttr,d1,op_ws0 b o _ cap i0,Nat.add_zero,c0,q1,↓n22c2]
    exact stl_fin h2 h4 l2 e hR
 | f::g::r,hW,hR =>
  have d1:((((f::g::r).length:Nat):Int) == 1)=false:=by rw [beq_eq_false_iff_ne];simp only [List.length_cons];omega
  have d2:((((f::g::r).length:Nat):Int) == 0)=false:=by rw [beq_eq_false_iff_ne];simp only [List.length_cons];omega
  simp (disch:=try exact DI) only [↓PR,QR,simprocAttr,d1,↓n22c2]
  refine stl_fin h2 h4 l2 e ?_
  rw [hR,d2]
  unfold endP tailIf
  cases skipB kFinal (f::g::r)<;>simp
theorem rstate_line (w0:World) (v:Value) (ws:List ByteArray) (hs:SliceOf w0 1 EStr v ws) (hne:ws≠[]):Ret Pg 92 #[v] w0 fun u w'=>(∃ x is,u = .tuple #[.agg (staCells x).toArray,.bool is]∧staP ws.tail=if is then some x else none)∧Ext w0 w':=by
 obtain ⟨b,o,cap,hW⟩:=ws_of hs hne
 have hv:=hW.val
 have hle:=hW.le
 subst hv
 refine n22s (R:=retR _) ?_;unfold n22
 match ws,hne,hW,hle with
 | [a],_,hW,hle =>
  have d1:decide ((([a]:List ByteArray).length:Int) < 2)=true:=rfl
  simp (disch:=try exact DI) only [↓PR,QR,simprocAttr,d1,↓n22c9]
  exact ⟨⟨⟨ByteArray.empty,false,0⟩,false,rfl,rfl⟩,ee⟩
 | a::x1::rest,_,hW,hle =>
  have d1:decide (((a::x1::rest).length:Int) < 2)=false:=decide_eq_false (by simp only [List.length_cons];omega)
  have hL:(a::x1::rest).length=rest.length+2:=rfl
  have i1:1 < (a::x1::rest).length:=by omega
  simp (disch:=try exact DI) only [↓PR,QR,simprocAttr,d1]
  have h2:=heap_new w0 #[.string ByteArray.empty,.bool false,.int .i64 0] 50
  have eW:Ext w0 (w0.alloc (.cells #[.string ByteArray.empty,.bool false,.int .i64 0] 50)):=ee
  have sW:w0.heap.size < (w0.alloc (.cells #[.string ByteArray.empty,.bool false,.int .i64 0] 50)).heap.size:=by show _ < (w0.heap.push _).size;rw [Array.size_push];omega
  generalize (w0.alloc (.cells #[.string ByteArray.empty,.bool false,.int .i64 0] 50))=W at h2 eW sW ⊢
  have lp:w0.heap.size≤w0.heap.size:=Nat.le_refl _
  generalize hp2:w0.heap.size=p2 at h2 sW ⊢
  replace lp:w0.heap.size≤p2:=by omega
  have c1:=(hW.ext eW).at_ 1 x1 rfl
  simp (disch:=try exact DI) only [↓PR,QR,simprocAttr,op_ws1 b o _ cap i1,c1]
  refine zcr (rName_ret W x1) fun w1 e1=>?_
  have E1:=eW.trans e1
  have s1:=e1.size
  replace h2:=e1.obj h2
  cases hn:nameB x1 with
  | false =>
   simp (disch:=try exact DI) only [↓PR,QR,simprocAttr,d1,↓n22c9,(cells_of_heap h2).1,(cells_of_heap h2).2]
   generalize hV:World.setCell _ _ _=V
   have h2':V.heap[p2]?=some (.cells (staCells ⟨ByteArray.empty,false,0⟩).toArray 50 (0,0)):=by rw [← hV];exact heap_set (heap_set (heap_set h2 _) _) _
   have eV:Ext w0 V:=by rw [← hV];exact ((E1.setCell (p:=⟨p2,0,none⟩) lp _).setCell (p:=⟨p2,0+1,none⟩) lp _).setCell (p:=⟨p2,0+2,none⟩) lp _
   clear hV
   exact ⟨⟨⟨ByteArray.empty,false,0⟩,false,rfl,by simp [staP,nameP,hn]⟩,eV⟩
  | true =>
   have c1':=(hW.ext E1).at_ 1 x1 rfl
   simp (disch:=try exact DI) only [↓PR,QR,simprocAttr,d1,↓n22c10,op_ws1 b o _ cap i1,c1']
   have h4:=heap_new w1 #[.string x1,.bool false,.int .i64 0] 50
   have eV:Ext w1 (w1.alloc (.cells #[.string x1,.bool false,.int .i64 0] 50)):=ee
   have l4:=E1.size
   generalize (w1.alloc (.cells #[.string x1,.bool false,.int .i64 0] 50))=V at h4 eV ⊢
   have hne:p2≠w1.heap.size:=by omega
   replace l4:w0.heap.size≤w1.heap.size:=l4
   generalize w1.heap.size=p4 at h4 hne l4 ⊢
   replace h2:=eV.obj h2
   have E2:=E1.trans eV
   rw [op_drop2 b o _ cap (by omega) hle]
   have hD:=(hW.ext E2).drop 2 (by omega)
   have hval:dropV 2 b o (a::x1::rest).length cap = .slice (some ⟨b,if cap=2 then o else o+2,none⟩) rest.length (cap - 2):=rfl
   have hd2:(a::x1::rest).drop 2=rest:=rfl
   rw [hval,hd2] at hD
   rw [hval]
   clear hval hd2
   generalize (if cap=2 then o else o+2)=o2 at hD ⊢
   generalize cap - 2=cap2 at hD ⊢
   have hP:staP (x1::rest)=(waitP rest).bind fun b=>endP (⟨x1,skipB kFinal b.2,b.1⟩:StaD) (tailIf (skipB kFinal b.2) b.2):=by unfold staP;rw [nameP_eq,hn];rfl
   match rest,hD,hP with
   | [],hD,hP =>
    have dge:decide (((([]:List ByteArray).length:Nat):Int)≥2)=false:=rfl
    simp (disch:=try exact DI) only [↓PR,QR,simprocAttr,dge,↓n22c8]
    exact stl_tail h2 h4 hne lp l4 hD E2 hP
   | [y],hD,hP =>
    have dge:decide (((([y]:List ByteArray).length:Nat):Int)≥2)=false:=rfl
    simp (disch:=try exact DI) only [↓PR,QR,simprocAttr,dge,↓n22c8]
    refine stl_tail h2 h4 hne lp l4 hD E2 (hP.trans ?_)
    unfold waitP skipB
    by_cases hy:y=kWait
    · simp [hy,numP,tailIf,endP]
    · simp [hy]
   | y::z::r2,hD,hP =>
    have dge:decide ((((y::z::r2).length:Nat):Int)≥2)=true:=decide_eq_true (by simp only [List.length_cons];omega)
    have j0:0 < (y::z::r2).length:=by simp
    have j1:1 < (y::z::r2).length:=by simp
    have c0:V.cell? ⟨b,o2,none⟩=some (.string y):=hD.at_ 0 y rfl
    have c2:=hD.at_ 1 z rfl
    by_cases hy:y=kWait
    · have q1:decide (y=⟨#[119,97,105,116]⟩)=true:=decide_eq_true hy
      have hsk:skipB kWait (y::z::r2)=true:=by unfold skipB;simp [hy]
      simp (disch:=try exact DI) only [↓PR,QR,simprocAttr,dge,op_ws0 b o2 _ cap2 j0,Nat.add_zero,c0,q1,↓n22c8,↓n22c7,op_ws1 b o2 _ cap2 j1,c2]
      refine callK_ret (rnumber_ret V z) ?_
      rintro _ V' ⟨rfl,hV'⟩
      rw [hV']
      clear hV' V'
      have hP2:staP (x1::y::z::r2)=((numP (z::r2)).bind fun q=>if q.1=0 then none else some q).bind fun b=>endP (⟨x1,skipB kFinal b.2,b.1⟩:StaD) (tailIf (skipB kFinal b.2) b.2):=by rw [hP];unfold waitP;rw [hsk];rfl
      rw [numP_cons] at hP2
      cases hz:numB z with
      | none =>
       rw [hz] at hP2
       simp (disch:=try exact DI) only [↓PR,QR,simprocAttr,numT,↓n22c6]
       exact stl_none h2 lp E2 hP2
      | some n =>
       rw [hz] at hP2
       by_cases hn0:n=0
       · have q2:(n == 0)=true:=by simp [hn0]
         simp (disch:=try exact DI) only [↓PR,QR,simprocAttr,numT,↓n22c6,q2]
         refine stl_none h2 lp E2 (hP2.trans ?_)
         simp [hn0]
       · have q2:(n == 0)=false:=by simp [hn0]
         have hle2:=hD.le
         have hbl:b < w0.heap.size:=hW.lt (by simp)
         simp (disch:=try exact DI) only [↓PR,QR,simprocAttr,numT,↓n22c6,q2]
         refine drawK_introB p4 p4 (w1:=V) (fun _ _ _ _=>rfl) ?_
         have eD:Ext V (Sw.drew V):=(Ext.refl V).drew
         have hK:KB V p4 p4 (Sw.drew V):=fun _ _ _ _=>rfl
         generalize Sw.drew V=D at eD hK ⊢
         have h2D:=eD.obj h2
         have h4D:=eD.obj h4
         have E3:=E2.trans eD
         unfold n22c4
         rw [q_drop2 b o2 _ cap2 (by simp) hle2]
         simp (disch:=try exact DI) only [↓PR,QR,simprocAttr,(cells_of_heap h4D).1,(cells_of_heap h4D).2]
         have h2':(D.setCell ⟨p4,2,none⟩ (.int .i64 n)).heap[p2]?=some (.cells #[.string ByteArray.empty,.bool false,.int .i64 0] 50 (0,0)):=by rw [Only.setCell D p4 _ _ p2 hne];exact h2D
         have h4':(D.setCell ⟨p4,2,none⟩ (.int .i64 n)).heap[p4]?=some (.cells (staCells ⟨x1,false,n⟩).toArray 50 (0,0)):=heap_set h4D _
         have E4:Ext w0 (D.setCell ⟨p4,2,none⟩ (.int .i64 n)):=E3.setCell (p:=⟨p4,2,none⟩) l4 _
         have hK2:KB V p4 p4 (D.setCell ⟨p4,2,none⟩ (.int .i64 n)):=fun c hc h1 h2=>(Only.setCell D p4 2 _ c h1).trans (hK c hc h1 h2)
         have hD2:=((hD.ext eD).drop 2 (by simp)).other (w':=D.setCell ⟨p4,2,none⟩ (.int .i64 n)) (Only.setCell D p4 2 _ b (by omega))
         refine ⟨hK2,?_⟩
         exact stl_tail h2' h4' hne lp l4 hD2 E4 (hP2.trans (by simp [hn0]))
    · have q1:decide (y=⟨#[119,97,105,116]⟩)=false:=decide_eq_false hy
      have hsk:skipB kWait (y::z::r2)=false:=by unfold skipB;simp [hy]
      simp (disch:=try exact DI) only [↓PR,QR,simprocAttr,dge,op_ws0 b o2 _ cap2 j0,Nat.add_zero,c0,q1,↓n22c8]
      refine stl_tail h2 h4 hne lp l4 hD E2 (hP.trans ?_)
      unfold waitP
      rw [hsk]
      rfl
abbrev StplR (w0:World) (ws:List ByteArray):Ending→World→Prop:=retR fun u w'=>(∃ x is,u = .tuple #[.agg (stpCells x).toArray,.bool is]∧stpP ws=if is then some x else none)∧Ext w0 w'
def zeroS:StpD:=⟨ByteArray.empty,ByteArray.empty,0,ByteArray.empty,ByteArray.empty,ByteArray.empty,0,0,0⟩
theorem numT_eq (o:Option Int):numT o = .tuple #[.int .i64 (o.getD 0),.bool o.isSome]:=by cases o<;>rfl
theorem stp_ret {w0 w:World} {QP:List PanicEntry→World→Prop} {p2:Nat} {full:List ByteArray} {zs:Array Value} (h2:w.heap[p2]?=some (.cells zs 71 (0,0))) (hz:zs.size=9) (l2:w0.heap.size≤p2) (e:Ext w0 w) (y:StpD) {is:Bool} (hR:stpP full=if is then some y else none) :
 opU Pg (Instr.storeAt 71 (.pointer (some ⟨p2,0,none⟩)) (.agg (stpCells y).toArray)) QP w fun w=>qW Pg 71 (.pointer (some ⟨p2,0,none⟩)) w fun r0=>StplR w0 full (.returned (.tuple #[r0,.bool is])) w:=by
 rw [op_storeO ty71 h2 (vs:=stpCells y) rfl (by omega) (by intro v hv;simp only [List.mem_cons,List.not_mem_nil,or_false] at hv;rcases hv with rfl | rfl | rfl | rfl | rfl | rfl | rfl | rfl | rfl<;>rfl)]
 have h2':=setCells_heap (stpCells y) 0 h2
 rw [setA_all (by rw [hz];rfl)] at h2'
 have eV:Ext w0 (setCells w p2 0 (stpCells y)):=setCells_ext _ _ _ _ e l2
 generalize setCells w p2 0 (stpCells y)=V at h2' eV ⊢
 simp (disch:=try exact DI) only [↓PR,QR,simprocAttr,(cells_of_heap h2').1]
 exact ⟨⟨y,is,rfl,hR⟩,eV⟩
def whenR (y:StpD) (rest:List ByteArray):Option StpD:=(whenP rest).bind fun h=>endP ({ y with counter:=h.1.counter,low:=h.1.low,high:=h.1.high,add:=h.1.add }:StpD) h.2
theorem when_nil (y:StpD) (hy:y.counter=ByteArray.empty∧y.low=0∧y.high=0∧y.add=0):whenR y []=some y:=by
 obtain ⟨a,b,c,d⟩:=hy
 unfold whenR
 show some _=some _
 congr 1
 cases y
 simp_all
theorem numP_nil:numP []=none:=rfl
theorem when_len {y:StpD} {rest:List ByteArray} (h0:rest≠[]) (h5:rest.length≠5):whenR y rest=none:=by
 unfold whenR whenP
 cases hs:skipB kWhen rest with
 | false =>
  simp only [Bool.false_eq_true,if_false,Option.bind_some]
  unfold endP
  rw [if_neg h0]
 | true =>
  simp only [if_true]
  match rest,h0,h5 with
  | [k],_,_=>rfl
  | [k,a],_,_=>cases hn:nameB a<;>simp [nameP,hn,numP_nil]
  | [k,a,b],_,_=>cases hn:nameB a<;>cases hb:numB b<;>simp [nameP,hn,numP_cons,hb,numP_nil]
  | [k,a,b,c],_,_=>cases hn:nameB a<;>cases hb:numB b<;>cases hc:numB c<;>simp [nameP,hn,numP_cons,hb,hc,numP_nil]
  | [k,a,b,c,d],_,h5=>exact absurd rfl h5
  | k::a::b::c::d::f::r,_,_=>cases hn:nameB a<;>cases hb:numB b<;>cases hc:numB c<;>cases hd:numB d<;>simp [nameP,hn,numP_cons,hb,hc,hd,endP]
theorem when_five (y:StpD) (k a b c d:ByteArray):whenR y [k,a,b,c,d]=if k=kWhen∧nameB a=true∧(numB b).isSome=true∧(numB c).isSome=true∧(numB d).isSome=true then some { y with counter:=a,low:=(numB b).getD 0,high:=(numB c).getD 0,add:=(numB d).getD 0 } else none:=by
 unfold whenR whenP skipB
 by_cases hk:k=kWhen
 · cases hn:nameB a<;>cases hb:numB b<;>cases hc:numB c<;>cases hd:numB d<;>simp [hk,nameP,hn,numP_cons,hb,hc,hd,endP]
 · simp [hk,endP]
theorem stp_when {w0 w:World} {p2 p4:Nat} {v:Value} {b o cap:Nat} {rest full:List ByteArray} {y:StpD} {zs:Array Value} (h2:w.heap[p2]?=some (.cells zs 71 (0,0))) (hz:zs.size=9) (h4:w.heap[p4]?=some (.cells (stpCells y).toArray 71 (0,0))) (hne:p2≠p4) (l2:w0.heap.size≤p2) (l4:w0.heap.size≤p4) (hb:b < w0.heap.size) (hW:WsC w v b o cap rest) (e:Ext w0 w)
 (hy:y.counter=ByteArray.empty∧y.low=0∧y.high=0∧y.add=0) (hR:stpP full=whenR y rest):n23c12 (.pointer (some ⟨p2,0,none⟩)) (.pointer (some ⟨p4,0,none⟩)) v (StplR w0 full) w:=by
 obtain rfl:=hW.val
 unfold n23c12
 by_cases h0:rest=[]
 · subst h0
   have d1:(((([]:List ByteArray).length:Nat):Int) == 0)=true:=rfl
   rw [when_nil y hy] at hR
   simp (disch:=try exact DI) only [↓PR,QR,simprocAttr,d1,↓n23c10,(cells_of_heap h4).1]
   exact stp_ret h2 hz l2 e y (is:=true) hR
 have d1:(((rest.length:Nat):Int) == 0)=false:=by
  rw [beq_eq_false_iff_ne]
  have:rest.length≠0:=fun h=>h0 (List.eq_nil_of_length_eq_zero h)
  omega
 by_cases h5:rest.length=5
 case neg =>
  have d2:(((rest.length:Nat):Int) != 5)=true:=by simp only [bne_iff_ne,ne_eq];omega
  rw [when_len h0 h5] at hR
  simp (disch:=try exact DI) only [↓PR,QR,simprocAttr,d1,d2,↓n23c11,↓n23c9,↓n23c7]
  exact stp_ret h2 hz l2 e zeroS (is:=false) hR
 have d2:(((rest.length:Nat):Int) != 5)=false:=by rw [h5];rfl
 match rest,h5 with
 | [k,a,b1,c,d],_ =>
 have L5:([k,a,b1,c,d]:List ByteArray).length=5:=rfl
 have i0:0 < ([k,a,b1,c,d]:List ByteArray).length:=by simp
 have i1:1 < ([k,a,b1,c,d]:List ByteArray).length:=by simp
 have i2:2 < ([k,a,b1,c,d]:List ByteArray).length:=by simp
 have i3:3 < ([k,a,b1,c,d]:List ByteArray).length:=by simp
 have i4:4 < ([k,a,b1,c,d]:List ByteArray).length:=by simp
 have c0:w.cell? ⟨b,o,none⟩=some (.string k):=hW.at_ 0 k rfl
 have c1:=hW.at_ 1 a rfl
 rw [when_five] at hR
 by_cases hk:k=kWhen
 case neg =>
  have q1:(!decide (k=⟨#[119,104,101,110]⟩))=true:=by simp [hk]
  rw [if_neg (by simp [hk])] at hR
  simp (disch:=try exact DI) only [↓PR,QR,simprocAttr,d1,d2,op_ws0 b o _ cap i0,Nat.add_zero,c0,q1,↓n23c11,↓n23c9,↓n23c7]
  exact stp_ret h2 hz l2 e zeroS (is:=false) hR
 have q1:decide (k=⟨#[119,104,101,110]⟩)=true:=decide_eq_true hk
 simp (disch:=try exact DI) only [↓PR,QR,simprocAttr,d1,d2,op_ws0 b o _ cap i0,Nat.add_zero,c0,q1,Bool.not_true,↓n23c11,↓n23c9,op_ws1 b o _ cap i1,c1]
 refine zcr (rName_ret w a) fun w1 e1=>?_
 have E1:=e.trans e1
 replace h2:=e1.obj h2
 replace h4:=e1.obj h4
 replace hW:=hW.ext e1
 cases hn:nameB a with
 | false =>
  rw [if_neg (by simp [hn])] at hR
  simp (disch:=try exact DI) only [↓PR,QR,simprocAttr,d1,d2,q1,Bool.not_true,↓n23c7]
  exact stp_ret h2 hz l2 E1 zeroS (is:=false) hR
 | true =>
 have c1:=hW.at_ 1 a rfl
 have c2:=hW.at_ 2 b1 rfl
 have c3:=hW.at_ 3 c rfl
 have c4:=hW.at_ 4 d rfl
 simp (disch:=try exact DI) only [↓PR,QR,simprocAttr,d1,d2,q1,Bool.not_true,↓n23c8,op_ws2 b o _ cap i2,c2]
 refine callK_ret (rnumber_ret w1 b1) ?_
 rintro _ V' ⟨rfl,hV'⟩
 rw [hV',numT_eq]
 clear hV' V'
 simp (disch:=try exact DI) only [↓PR,QR,simprocAttr,↓n23c6,op_ws3 b o _ cap i3,c3]
 refine callK_ret (rnumber_ret w1 c) ?_
 rintro _ V' ⟨rfl,hV'⟩
 rw [hV',numT_eq]
 clear hV' V'
 simp (disch:=try exact DI) only [↓PR,QR,simprocAttr,↓n23c5,op_ws4 b o _ cap i4,c4]
 refine callK_ret (rnumber_ret w1 d) ?_
 rintro _ V' ⟨rfl,hV'⟩
 rw [hV',numT_eq]
 clear hV' V'
 simp (disch:=try exact DI) only [↓PR,QR,simprocAttr,↓n23c4,op_ws1 b o _ cap i1,c1,(cells_of_heap h4).1,(cells_of_heap h4).2]
 generalize hV:World.setCell _ _ _=V
 have h2V:V.heap[p2]?=some (.cells zs 71 (0,0)):=by
  rw [← hV,Only.setCell _ p4 _ _ p2 hne,Only.setCell _ p4 _ _ p2 hne,Only.setCell _ p4 _ _ p2 hne,Only.setCell _ p4 _ _ p2 hne]
  exact h2
 have eV:Ext w0 V:=by
  rw [← hV]
  exact (((E1.setCell (p:=⟨p4,5,none⟩) l4 _).setCell (p:=⟨p4,6,none⟩) l4 _).setCell (p:=⟨p4,7,none⟩) l4 _).setCell (p:=⟨p4,8,none⟩) l4 _
 clear hV
 cases s1:(numB b1).isSome with
 | false =>
  rw [if_neg (by simp [s1])] at hR
  simp (disch:=try exact DI) only [↓PR,QR,simprocAttr,↓n23c3]
  exact stp_ret h2V hz l2 eV { y with counter:=a,low:=(numB b1).getD 0,high:=(numB c).getD 0,add:=(numB d).getD 0 } (is:=false) hR
 | true =>
 cases s2:(numB c).isSome with
 | false =>
  rw [if_neg (by simp [s2])] at hR
  simp (disch:=try exact DI) only [↓PR,QR,simprocAttr,↓n23c3]
  exact stp_ret h2V hz l2 eV { y with counter:=a,low:=(numB b1).getD 0,high:=(numB c).getD 0,add:=(numB d).getD 0 } (is:=false) hR
 | true =>
 cases s3:(numB d).isSome with
 | false =>
  rw [if_neg (by simp [s3])] at hR
  simp (disch:=try exact DI) only [↓PR,QR,simprocAttr,↓n23c3]
  exact stp_ret h2V hz l2 eV { y with counter:=a,low:=(numB b1).getD 0,high:=(numB c).getD 0,add:=(numB d).getD 0 } (is:=false) hR
 | true =>
  rw [if_pos ⟨hk,hn,s1,s2,s3⟩] at hR
  simp (disch:=try exact DI) only [↓PR,QR,simprocAttr,↓n23c3]
  exact stp_ret h2V hz l2 eV { y with counter:=a,low:=(numB b1).getD 0,high:=(numB c).getD 0,add:=(numB d).getD 0 } (is:=true) hR
def msgR (y:StpD) (rest:List ByteArray):Option StpD:=(msgP y.kind rest).bind fun m=>whenR { y with message:=m.1.1,peer:=m.1.2 } m.2
structure Blank (y:StpD):Prop where
 m:y.message=ByteArray.empty
 p:y.peer=ByteArray.empty
 c:y.counter=ByteArray.empty
 l:y.low=0
 h:y.high=0
 a:y.add=0
theorem Blank.same {y:StpD} (h:Blank y):({ y with message:=ByteArray.empty,peer:=ByteArray.empty }:StpD)=y:=by
 obtain ⟨a,b,_⟩:=h
 cases y
 simp_all
theorem msgR_quiet {y:StpD} {rest:List ByteArray} (hb:Blank y) (hk:speaksB y.kind=false):msgR y rest=whenR y rest:=by
 unfold msgR msgP
 rw [hk]
 show whenR _ _=_
 rw [hb.same]
theorem msgR_two {y:StpD} {a b:ByteArray} {r:List ByteArray} (hk:speaksB y.kind=true):msgR y (a::b::r)=if nameB a=true∧nameB b=true then whenR { y with message:=a,peer:=b } r else none:=by
 unfold msgR msgP
 rw [hk]
 cases ha:nameB a<;>cases hb:nameB b<;>simp [nameP,ha,hb]
theorem msgR_few {y:StpD} {rest:List ByteArray} (hk:speaksB y.kind=true) (h:rest.length < 2):msgR y rest=none:=by
 unfold msgR msgP
 rw [hk]
 match rest,h with
 | [],_=>rfl
 | [a],_=>cases ha:nameB a<;>simp [nameP,ha]
theorem stp_msg {w0 w:World} {p2 p4:Nat} {v:Value} {b o cap:Nat} {rest full:List ByteArray} {y:StpD} {zs:Array Value} (h2:w.heap[p2]?=some (.cells zs 71 (0,0))) (hz:zs.size=9) (h4:w.heap[p4]?=some (.cells (stpCells y).toArray 71 (0,0))) (hne:p2≠p4) (l2:w0.heap.size≤p2) (l4:w0.heap.size≤p4) (hb:b < w0.heap.size) (hW:WsC w v b o cap rest) (e:Ext w0 w)
 (hy:Blank y) (hk:y.kind=0∨(1≤y.kind∧y.kind≤4)) (hR:stpP full=if y.kind=0 then none else msgR y rest):n23c19 (.pointer (some ⟨p2,0,none⟩)) (.pointer (some ⟨p4,0,none⟩)) v (StplR w0 full) w:=by
 have hv:=hW.val
 unfold n23c19
 by_cases h0:y.kind=0
 · have d1:(y.kind == 0)=true:=by simp [h0]
   rw [if_pos h0] at hR
   simp (disch:=try exact DI) only [↓PR,QR,simprocAttr,(cells_of_heap h4).1,d1,↓n23c17]
   exact stp_ret h2 hz l2 e zeroS (is:=false) hR
 have d1:(y.kind == 0)=false:=by simp [h0]
 rw [if_neg h0] at hR
 by_cases h3:y.kind≤2
 case neg =>
  have d2:decide (y.kind≤2)=false:=decide_eq_false h3
  have hs:speaksB y.kind=false:=by unfold speaksB;rw [decide_eq_false (by omega),decide_eq_false (by omega)];rfl
  rw [msgR_quiet hy hs] at hR
  simp (disch:=try exact DI) only [↓PR,QR,simprocAttr,(cells_of_heap h4).1,d1,d2,↓n23c18]
  exact stp_when h2 hz h4 hne l2 l4 hb hW e ⟨hy.c,hy.l,hy.h,hy.a⟩ hR
 have d2:decide (y.kind≤2)=true:=decide_eq_true h3
 have hs:speaksB y.kind=true:=by
  unfold speaksB
  rcases (by omega:y.kind=1∨y.kind=2) with h | h<;>simp [h]
 subst hv
 by_cases hl:rest.length < 2
 · have d3:decide ((rest.length:Int) < 2)=true:=decide_eq_true (by omega)
   rw [msgR_few hs hl] at hR
   simp (disch:=try exact DI) only [↓PR,QR,simprocAttr,(cells_of_heap h4).1,d1,d2,d3,↓n23c18,↓n23c16,↓n23c15,↓n23c14]
   exact stp_ret h2 hz l2 e zeroS (is:=false) hR
 match rest,hl with
 | [],hl=>exact absurd (by simp) hl
 | [_],hl=>exact absurd (by simp) hl
 | a::c::r,hl =>
 have d3:decide (((a::c::r).length:Int) < 2)=false:=decide_eq_false (by omega)
 have i0:0 < (a::c::r).length:=by simp
 have i1:1 < (a::c::r).length:=by simp
 have c0:w.cell? ⟨b,o,none⟩=some (.string a):=hW.at_ 0 a rfl
 rw [msgR_two hs] at hR
 simp (disch:=try exact DI) only [↓PR,QR,simprocAttr,(cells_of_heap h4).1,d1,d2,d3,↓n23c18,↓n23c16,op_ws0 b o _ cap i0,Nat.add_zero,c0]
 refine zcr (rName_ret w a) fun w1 e1=>?_
 have E1:=e.trans e1
 replace h2:=e1.obj h2
 replace h4:=e1.obj h4
 replace hW:=hW.ext e1
 cases ha:nameB a with
 | false =>
  rw [if_neg (by simp [ha])] at hR
  simp (disch:=try exact DI) only [↓PR,QR,simprocAttr,d3,↓n23c15,↓n23c14]
  exact stp_ret h2 hz l2 E1 zeroS (is:=false) hR
 | true =>
 have c1:=hW.at_ 1 c rfl
 simp (disch:=try exact DI) only [↓PR,QR,simprocAttr,d3,↓n23c15,op_ws1 b o _ cap i1,c1]
 refine zcr (rName_ret w1 c) fun w2 e2=>?_
 have E2:=E1.trans e2
 replace h2:=e2.obj h2
 replace h4:=e2.obj h4
 replace hW:=hW.ext e2
 cases hc:nameB c with
 | false =>
  rw [if_neg (by simp [hc])] at hR
  simp (disch:=try exact DI) only [↓PR,QR,simprocAttr,d3,↓n23c14]
  exact stp_ret h2 hz l2 E2 zeroS (is:=false) hR
 | true =>
 rw [if_pos ⟨ha,hc⟩] at hR
 simp (disch:=try exact DI) only [↓PR,QR,simprocAttr,d3]
 refine drawK_introB p4 p4 (w1:=w2) (fun _ _ _ _=>rfl) ?_
 have eD:Ext w2 (Sw.drew w2):=(Ext.refl w2).drew
 have hK:KB w2 p4 p4 (Sw.drew w2):=fun _ _ _ _=>rfl
 generalize Sw.drew w2=D at eD hK ⊢
 have h2D:=eD.obj h2
 have h4D:=eD.obj h4
 have hWD:=hW.ext eD
 have E3:=E2.trans eD
 have c0:w2.cell? ⟨b,o,none⟩=some (.string a):=hW.at_ 0 a rfl
 have c1:=hW.at_ 1 c rfl
 have hle:=hW.le
 have hb4:b≠p4:=by omega
 have hbs:b < w2.heap.size:=hW.lt (by simp)
 have hK1:KB w2 p4 p4 (D.setCell ⟨p4,3,none⟩ (.string a)):=fun x hx g1 g2=>(Only.setCell D p4 3 _ x g1).trans (hK x hx g1 g2)
 have hK2:KB w2 p4 p4 ((D.setCell ⟨p4,3,none⟩ (.string a)).setCell ⟨p4,4,none⟩ (.string c)):=fun x hx g1 g2=>(Only.setCell _ p4 4 _ x g1).trans (hK1 x hx g1 g2)
 have hq2:2≤(a::c::r).length:=by simp
 unfold n23c13
 simp (disch:=try exact DI) only [↓PR,QR,simprocAttr,q_ws0 b o _ cap i0,Nat.add_zero,q_ws1 b o _ cap i1,c0,c1,q_drop2 b o _ cap hq2 hle,(cells_of_heap h4D).1,(cells_of_heap h4D).2]
 refine ⟨hK1,hK2,?_⟩
 have h2V:((D.setCell ⟨p4,3,none⟩ (.string a)).setCell ⟨p4,4,none⟩ (.string c)).heap[p2]?=some (.cells zs 71 (0,0)):=by
  rw [Only.setCell _ p4 _ _ p2 hne,Only.setCell _ p4 _ _ p2 hne]
  exact h2D
 have h4V:((D.setCell ⟨p4,3,none⟩ (.string a)).setCell ⟨p4,4,none⟩ (.string c)).heap[p4]?=some (.cells (stpCells { y with message:=a,peer:=c }).toArray 71 (0,0)):=heap_set (heap_set h4D _) _
 have E4:Ext w0 ((D.setCell ⟨p4,3,none⟩ (.string a)).setCell ⟨p4,4,none⟩ (.string c)):=(E3.setCell (p:=⟨p4,3,none⟩) l4 _).setCell (p:=⟨p4,4,none⟩) l4 _
 have hWV:=(hWD.drop 2 (by simp)).other (w':=(D.setCell ⟨p4,3,none⟩ (.string a)).setCell ⟨p4,4,none⟩ (.string c)) (by rw [Only.setCell _ p4 _ _ b hb4,Only.setCell _ p4 _ _ b hb4])
 exact stp_when h2V hz h4V hne l2 l4 hb hWV E4 ⟨hy.c,hy.l,hy.h,hy.a⟩ hR
def kUp (s:ByteArray) (k:Int):Int:=if 1 < k∧s=kwB 1 then 1 else if 2 < k∧s=kwB 2 then 2 else if 3 < k∧s=kwB 3 then 3 else if 4 < k∧s=kwB 4 then 4 else 0
theorem kUp_one (s:ByteArray):kUp s 1=0:=by unfold kUp;simp
theorem kUp_five (s:ByteArray):kUp s 5=kindP s:=by unfold kUp kindP;simp
theorem kUp_hit1:kUp (kwB 1) 2=1:=by decide
theorem kUp_miss1 {s:ByteArray} (h:s≠kwB 1):kUp s 2=kUp s 1:=by unfold kUp;simp [h]
theorem kUp_hit2:kUp (kwB 2) 3=2:=by decide
theorem kUp_miss2 {s:ByteArray} (h:s≠kwB 2):kUp s 3=kUp s 2:=by unfold kUp;simp [h]
theorem kUp_hit3:kUp (kwB 3) 4=3:=by decide
theorem kUp_miss3 {s:ByteArray} (h:s≠kwB 3):kUp s 4=kUp s 3:=by unfold kUp;simp [h]
theorem kUp_hit4:kUp (kwB 4) 5=4:=by decide
theorem kUp_miss4 {s:ByteArray} (h:s≠kwB 4):kUp s 5=kUp s 4:=by unfold kUp;simp [h]
abbrev stpK (fr to:ByteArray) (k:Int):StpD:=⟨fr,to,k,ByteArray.empty,ByteArray.empty,ByteArray.empty,0,0,0⟩
theorem blankK (fr to:ByteArray) (k:Int):Blank (stpK fr to k):=⟨rfl,rfl,rfl,rfl,rfl,rfl⟩
structure KL (w0 w:World) (p2 p4:Nat) (zs:Array Value) (fr to s:ByteArray) (k:Int):Prop where
 e:Ext w0 w
 h2:w.heap[p2]?=some (.cells zs 71 (0,0))
 h4:w.heap[p4]?=some (.cells (stpCells (stpK fr to (kUp s k))).toArray 71 (0,0))
theorem step_kinds {w0 w:World} {p2 p4:Nat} {b o cap len:Nat} {fr to s:ByteArray} {rest full:List ByteArray} {v39:Value} {b' o' cap':Nat} {zs:Array Value} (hz:zs.size=9) (h:KL w0 w p2 p4 zs fr to s 1) (hne:p2≠p4) (l2:w0.heap.size≤p2) (l4:w0.heap.size≤p4) (hb:b < w0.heap.size) (hb':b' < w0.heap.size) (h3:3 < len) (c3:w0.cell? ⟨b,o+3,none⟩=some (.string s)) (hW:WsC w0 v39 b' o' cap' rest)
 (hR:stpP full=if kindP s=0 then none else msgR (stpK fr to (kindP s)) rest):loop1 (fun t6 w next5=>n23c20 (.slice (some ⟨b,o,none⟩) len cap) (.pointer (some ⟨p2,0,none⟩)) (.pointer (some ⟨p4,0,none⟩)) t6 v39 next5 (StplR w0 full) w) (.int .i64 1) w:=by
 refine loop1_intro (fun i w=>∃ k:Int,i = .int .i64 k∧1≤k∧k≤5∧KL w0 w p2 p4 zs fr to s k) (fun i _=>5 - (intOf i).toNat) ⟨1,rfl,by omega,by omega,h⟩ ?_
 rintro _ w ⟨k,rfl,k1,k5,h⟩
 unfold n23c20
 have hb4:b≠p4:=by omega
 rcases (by omega:k=1∨k=2∨k=3∨k=4∨k=5) with rfl | rfl | rfl | rfl | rfl
 · have d1:decide ((1:Int)≤4)=true:=by decide
   simp (disch:=try exact DI) only [↓PR,QR,simprocAttr,d1]
   refine drawK_intro ?_
   have eD:Ext w (Sw.drew w):=(Ext.refl w).drew
   generalize Sw.drew w=D at eD ⊢
   have ED:=h.e.trans eD
   have cD:=ED.cell c3
   unfold n23c2
   simp (disch:=try exact DI) only [↓PR,QR,simprocAttr,q_ws3 b o _ cap h3,cD]
   have oY:=heap_new D #[.string ⟨#[]⟩,.string ⟨#[115,101,110,100]⟩,.string ⟨#[114,101,99,101,105,118,101]⟩,.string ⟨#[116,105,109,101,111,117,116]⟩,.string ⟨#[115,105,108,101,110,116]⟩] 9
   have eY:Ext D (D.alloc (.cells #[.string ⟨#[]⟩,.string ⟨#[115,101,110,100]⟩,.string ⟨#[114,101,99,101,105,118,101]⟩,.string ⟨#[116,105,109,101,111,117,116]⟩,.string ⟨#[115,105,108,101,110,116]⟩] 9)):=ee
   generalize (D.alloc (.cells #[.string ⟨#[]⟩,.string ⟨#[115,101,110,100]⟩,.string ⟨#[114,101,99,101,105,118,101]⟩,.string ⟨#[116,105,109,101,111,117,116]⟩,.string ⟨#[115,105,108,101,110,116]⟩] 9))=Y at oY eY ⊢
   generalize D.heap.size=N at oY ⊢
   refine narrowK_EC eY ?_
   have cN:Y.cell? ⟨N,1,none⟩=some (.string ⟨#[115,101,110,100]⟩):=(cells_of_heap oY).1 1
   have h2Y:=eY.obj (eD.obj h.h2)
   have h4Y:=eY.obj (eD.obj h.h4)
   have EY:=ED.trans eY
   unfold n23c1
   by_cases hs:s=kwB 1
   · have q1:decide (s=⟨#[115,101,110,100]⟩)=true:=decide_eq_true hs
     have hw:IntKind.i64.wrap ((1:Int)+1)=2:=by decide
     simp (disch:=try exact DI) only [↓PR,QR,simprocAttr,q_ws1 N 0 5 5 (by decide),Nat.zero_add,cN,q1,(cells_of_heap h4Y).1,(cells_of_heap h4Y).2,hw]
     refine ⟨⟨2,rfl,by omega,by omega,EY.setCell (p:=⟨p4,2,none⟩) l4 _,?_,?_⟩,by decide⟩
     · rw [Only.setCell _ p4 _ _ p2 hne]
       exact h2Y
     · rw [hs,kUp_hit1]
       exact heap_set h4Y _
   · have q1:decide (s=⟨#[115,101,110,100]⟩)=false:=decide_eq_false hs
     have hw:IntKind.i64.wrap ((1:Int)+1)=2:=by decide
     simp (disch:=try exact DI) only [↓PR,QR,simprocAttr,q_ws1 N 0 5 5 (by decide),Nat.zero_add,cN,q1,hw]
     exact ⟨⟨2,rfl,by omega,by omega,EY,h2Y,by rw [kUp_miss1 hs];exact h4Y⟩,by decide⟩
 · have d1:decide ((2:Int)≤4)=true:=by decide
   simp (disch:=try exact DI) only [↓PR,QR,simprocAttr,d1]
   refine drawK_intro ?_
   have eD:Ext w (Sw.drew w):=(Ext.refl w).drew
   generalize Sw.drew w=D at eD ⊢
   have ED:=h.e.trans eD
   have cD:=ED.cell c3
   unfold n23c2
   simp (disch:=try exact DI) only [↓PR,QR,simprocAttr,q_ws3 b o _ cap h3,cD]
   have oY:=heap_new D #[.string ⟨#[]⟩,.string ⟨#[115,101,110,100]⟩,.string ⟨#[114,101,99,101,105,118,101]⟩,.string ⟨#[116,105,109,101,111,117,116]⟩,.string ⟨#[115,105,108,101,110,116]⟩] 9
   have eY:Ext D (D.alloc (.cells #[.string ⟨#[]⟩,.string ⟨#[115,101,110,100]⟩,.string ⟨#[114,101,99,101,105,118,101]⟩,.string ⟨#[116,105,109,101,111,117,116]⟩,.string ⟨#[115,105,108,101,110,116]⟩] 9)):=ee
   generalize (D.alloc (.cells #[.string ⟨#[]⟩,.string ⟨#[115,101,110,100]⟩,.string ⟨#[114,101,99,101,105,118,101]⟩,.string ⟨#[116,105,109,101,111,117,116]⟩,.string ⟨#[115,105,108,101,110,116]⟩] 9))=Y at oY eY ⊢
   generalize D.heap.size=N at oY ⊢
   refine narrowK_EC eY ?_
   have cN:Y.cell? ⟨N,2,none⟩=some (.string ⟨#[114,101,99,101,105,118,101]⟩):=(cells_of_heap oY).1 2
   have h2Y:=eY.obj (eD.obj h.h2)
   have h4Y:=eY.obj (eD.obj h.h4)
   have EY:=ED.trans eY
   unfold n23c1
   by_cases hs:s=kwB 2
   · have q1:decide (s=⟨#[114,101,99,101,105,118,101]⟩)=true:=decide_eq_true hs
     have hw:IntKind.i64.wrap ((2:Int)+1)=3:=by decide
     simp (disch:=try exact DI) only [↓PR,QR,simprocAttr,q_ws2 N 0 5 5 (by decide),Nat.zero_add,cN,q1,(cells_of_heap h4Y).1,(cells_of_heap h4Y).2,hw]
     refine ⟨⟨3,rfl,by omega,by omega,EY.setCell (p:=⟨p4,2,none⟩) l4 _,?_,?_⟩,by decide⟩
     · rw [Only.setCell _ p4 _ _ p2 hne]
       exact h2Y
     · rw [hs,kUp_hit2]
       exact heap_set h4Y _
   · have q1:decide (s=⟨#[114,101,99,101,105,118,101]⟩)=false:=decide_eq_false hs
     have hw:IntKind.i64.wrap ((2:Int)+1)=3:=by decide
     simp (disch:=try exact DI) only [↓PR,QR,simprocAttr,q_ws2 N 0 5 5 (by decide),Nat.zero_add,cN,q1,hw]
     exact ⟨⟨3,rfl,by omega,by omega,EY,h2Y,by rw [kUp_miss2 hs];exact h4Y⟩,by decide⟩
 · have d1:decide ((3:Int)≤4)=true:=by decide
   simp (disch:=try exact DI) only [↓PR,QR,simprocAttr,d1]
   refine drawK_intro ?_
   have eD:Ext w (Sw.drew w):=(Ext.refl w).drew
   generalize Sw.drew w=D at eD ⊢
   have ED:=h.e.trans eD
   have cD:=ED.cell c3
   unfold n23c2
   simp (disch:=try exact DI) only [↓PR,QR,simprocAttr,q_ws3 b o _ cap h3,cD]
   have oY:=heap_new D #[.string ⟨#[]⟩,.string ⟨#[115,101,110,100]⟩,.string ⟨#[114,101,99,101,105,118,101]⟩,.string ⟨#[116,105,109,101,111,117,116]⟩,.string ⟨#[115,105,108,101,110,116]⟩] 9
   have eY:Ext D (D.alloc (.cells #[.string ⟨#[]⟩,.string ⟨#[115,101,110,100]⟩,.string ⟨#[114,101,99,101,105,118,101]⟩,.string ⟨#[116,105,109,101,111,117,116]⟩,.string ⟨#[115,105,108,101,110,116]⟩] 9)):=ee
   generalize (D.alloc (.cells #[.string ⟨#[]⟩,.string ⟨#[115,101,110,100]⟩,.string ⟨#[114,101,99,101,105,118,101]⟩,.string ⟨#[116,105,109,101,111,117,116]⟩,.string ⟨#[115,105,108,101,110,116]⟩] 9))=Y at oY eY ⊢
   generalize D.heap.size=N at oY ⊢
   refine narrowK_EC eY ?_
   have cN:Y.cell? ⟨N,3,none⟩=some (.string ⟨#[116,105,109,101,111,117,116]⟩):=(cells_of_heap oY).1 3
   have h2Y:=eY.obj (eD.obj h.h2)
   have h4Y:=eY.obj (eD.obj h.h4)
   have EY:=ED.trans eY
   unfold n23c1
   by_cases hs:s=kwB 3
   · have q1:decide (s=⟨#[116,105,109,101,111,117,116]⟩)=true:=decide_eq_true hs
     have hw:IntKind.i64.wrap ((3:Int)+1)=4:=by decide
     simp (disch:=try exact DI) only [↓PR,QR,simprocAttr,q_ws3 N 0 5 5 (by decide),Nat.zero_add,cN,q1,(cells_of_heap h4Y).1,(cells_of_heap h4Y).2,hw]
     refine ⟨⟨4,rfl,by omega,by omega,EY.setCell (p:=⟨p4,2,none⟩) l4 _,?_,?_⟩,by decide⟩
     · rw [Only.setCell _ p4 _ _ p2 hne]
       exact h2Y
     · rw [hs,kUp_hit3]
       exact heap_set h4Y _
   · have q1:decide (s=⟨#[116,105,109,101,111,117,116]⟩)=false:=decide_eq_false hs
     have hw:IntKind.i64.wrap ((3:Int)+1)=4:=by decide
     simp (disch:=try exact DI) only [↓PR,QR,simprocAttr,q_ws3 N 0 5 5 (by decide),Nat.zero_add,cN,q1,hw]
     exact ⟨⟨4,rfl,by omega,by omega,EY,h2Y,by rw [kUp_miss3 hs];exact h4Y⟩,by decide⟩
 · have d1:decide ((4:Int)≤4)=true:=by decide
   simp (disch:=try exact DI) only [↓PR,QR,simprocAttr,d1]
   refine drawK_intro ?_
   have eD:Ext w (Sw.drew w):=(Ext.refl w).drew
   generalize Sw.drew w=D at eD ⊢
   have ED:=h.e.trans eD
   have cD:=ED.cell c3
   unfold n23c2
   simp (disch:=try exact DI) only [↓PR,QR,simprocAttr,q_ws3 b o _ cap h3,cD]
   have oY:=heap_new D #[.string ⟨#[]⟩,.string ⟨#[115,101,110,100]⟩,.string ⟨#[114,101,99,101,105,118,101]⟩,.string ⟨#[116,105,109,101,111,117,116]⟩,.string ⟨#[115,105,108,101,110,116]⟩] 9
   have eY:Ext D (D.alloc (.cells #[.string ⟨#[]⟩,.string ⟨#[115,101,110,100]⟩,.string ⟨#[114,101,99,101,105,118,101]⟩,.string ⟨#[116,105,109,101,111,117,116]⟩,.string ⟨#[115,105,108,101,110,116]⟩] 9)):=ee
   generalize (D.alloc (.cells #[.string ⟨#[]⟩,.string ⟨#[115,101,110,100]⟩,.string ⟨#[114,101,99,101,105,118,101]⟩,.string ⟨#[116,105,109,101,111,117,116]⟩,.string ⟨#[115,105,108,101,110,116]⟩] 9))=Y at oY eY ⊢
   generalize D.heap.size=N at oY ⊢
   refine narrowK_EC eY ?_
   have cN:Y.cell? ⟨N,4,none⟩=some (.string ⟨#[115,105,108,101,110,116]⟩):=(cells_of_heap oY).1 4
   have h2Y:=eY.obj (eD.obj h.h2)
   have h4Y:=eY.obj (eD.obj h.h4)
   have EY:=ED.trans eY
   unfold n23c1
   by_cases hs:s=kwB 4
   · have q1:decide (s=⟨#[115,105,108,101,110,116]⟩)=true:=decide_eq_true hs
     have hw:IntKind.i64.wrap ((4:Int)+1)=5:=by decide
     simp (disch:=try exact DI) only [↓PR,QR,simprocAttr,q_ws4 N 0 5 5 (by decide),Nat.zero_add,cN,q1,(cells_of_heap h4Y).1,(cells_of_heap h4Y).2,hw]
     refine ⟨⟨5,rfl,by omega,by omega,EY.setCell (p:=⟨p4,2,none⟩) l4 _,?_,?_⟩,by decide⟩
     · rw [Only.setCell _ p4 _ _ p2 hne]
       exact h2Y
     · rw [hs,kUp_hit4]
       exact heap_set h4Y _
   · have q1:decide (s=⟨#[115,105,108,101,110,116]⟩)=false:=decide_eq_false hs
     have hw:IntKind.i64.wrap ((4:Int)+1)=5:=by decide
     simp (disch:=try exact DI) only [↓PR,QR,simprocAttr,q_ws4 N 0 5 5 (by decide),Nat.zero_add,cN,q1,hw]
     exact ⟨⟨5,rfl,by omega,by omega,EY,h2Y,by rw [kUp_miss4 hs];exact h4Y⟩,by decide⟩
 · have d1:decide ((5:Int)≤4)=false:=by decide
   simp (disch:=try exact DI) only [↓PR,QR,simprocAttr,d1]
   have h4:=h.h4
   rw [kUp_five] at h4
   exact stp_msg h.h2 hz h4 hne l2 l4 hb' (hW.ext h.e) h.e (blankK _ _ _) (kindP_range s) hR
theorem stpP_few {ws:List ByteArray} (h:ws.length < 3):stpP ws=none:=by
 unfold stpP
 match ws,h with
 | [],_=>rfl
 | [a],_=>cases ha:nameB a<;>simp [nameP,ha]
 | [a,b],_=>cases ha:nameB a<;>cases hb:nameB b<;>simp [nameP,ha,hb,wordP]
theorem stpP_three (a b c:ByteArray) (rest:List ByteArray):stpP (a::b::c::rest)=if nameB a=true∧nameB b=true then (if kindP c=0 then none else msgR (stpK a b (kindP c)) rest) else none:=by
 unfold stpP msgR whenR
 cases ha:nameB a<;>cases hb:nameB b<;>simp [nameP,ha,hb,wordP]
theorem rstep_line (w0:World) (v:Value) (ws:List ByteArray) (hs:SliceOf w0 1 EStr v ws) (hne:ws≠[]):Ret Pg 93 #[v] w0 fun u w'=>(∃ x is,u = .tuple #[.agg (stpCells x).toArray,.bool is]∧stpP ws.tail=if is then some x else none)∧Ext w0 w':=by
 obtain ⟨b,o,cap,hW⟩:=ws_of hs hne
 have hv:=hW.val
 have hle:=hW.le
 have hb:=hW.lt hne
 subst hv
 refine n23s (R:=retR _) ?_;unfold n23
 by_cases h4:ws.length < 4
 · have d1:decide ((ws.length:Int) < 4)=true:=decide_eq_true (by omega)
   have hR:stpP ws.tail=none:=stpP_few (by rw [List.length_tail];omega)
   simp (disch:=try exact DI) only [↓PR,QR,simprocAttr,d1,↓n23c24,↓n23c23]
   have eW:Ext w0 (w0.alloc (.cells (stpCells zeroS).toArray 71)):=ee
   exact ⟨⟨zeroS,false,rfl,hR⟩,eW⟩
 match ws,hne,hW,hle,h4 with
 | [],hne,hW,hle,h4=>exact absurd rfl hne
 | [_],hne,hW,hle,h4=>exact absurd (by simp) h4
 | [_,_],hne,hW,hle,h4=>exact absurd (by simp) h4
 | [_,_,_],hne,hW,hle,h4=>exact absurd (by simp) h4
 | kw::x1::x2::x3::rest,_,hW,hle,h4 =>
 have d1:decide (((kw::x1::x2::x3::rest).length:Int) < 4)=false:=decide_eq_false (by omega)
 have i1:1 < (kw::x1::x2::x3::rest).length:=by simp
 have i2:2 < (kw::x1::x2::x3::rest).length:=by simp
 have i3:3 < (kw::x1::x2::x3::rest).length:=by simp
 simp (disch:=try exact DI) only [↓PR,QR,simprocAttr,d1]
 have h2:=heap_new w0 (stpCells zeroS).toArray 71
 have eW:Ext w0 (w0.alloc (.cells (stpCells zeroS).toArray 71)):=ee
 have sW:w0.heap.size < (w0.alloc (.cells (stpCells zeroS).toArray 71)).heap.size:=by show _ < (w0.heap.push _).size;rw [Array.size_push];omega
 change opV _ _ _ (w0.alloc (.cells (stpCells zeroS).toArray 71)) _
 generalize (w0.alloc (.cells (stpCells zeroS).toArray 71))=W at h2 eW sW ⊢
 have lp:w0.heap.size≤w0.heap.size:=Nat.le_refl _
 generalize hp2:w0.heap.size=p2 at h2 sW ⊢
 replace lp:w0.heap.size≤p2:=by omega
 have c1:=(hW.ext eW).at_ 1 x1 rfl
 simp (disch:=try exact DI) only [↓PR,QR,simprocAttr,op_ws1 b o _ cap i1,c1]
 refine zcr (rName_ret W x1) fun w1 e1=>?_
 have E1:=eW.trans e1
 have s1:=e1.size
 replace h2:=e1.obj h2
 cases hn1:nameB x1 with
 | false =>
  have hR:stpP (kw::x1::x2::x3::rest).tail=none:=by rw [List.tail_cons,stpP_three,if_neg (by simp [hn1])]
  simp (disch:=try exact DI) only [↓PR,QR,simprocAttr,d1,↓n23c24,↓n23c23]
  exact stp_ret h2 rfl lp E1 zeroS (is:=false) hR
 | true =>
 have c2:=(hW.ext E1).at_ 2 x2 rfl
 simp (disch:=try exact DI) only [↓PR,QR,simprocAttr,d1,↓n23c24,op_ws2 b o _ cap i2,c2]
 refine zcr (rName_ret w1 x2) fun w2 e2=>?_
 have E2:=E1.trans e2
 have s2:=e2.size
 replace h2:=e2.obj h2
 cases hn2:nameB x2 with
 | false =>
  have hR:stpP (kw::x1::x2::x3::rest).tail=none:=by rw [List.tail_cons,stpP_three,if_neg (by simp [hn2])]
  simp (disch:=try exact DI) only [↓PR,QR,simprocAttr,d1,↓n23c23]
  exact stp_ret h2 rfl lp E2 zeroS (is:=false) hR
 | true =>
 have hR:stpP (kw::x1::x2::x3::rest).tail=if kindP x3=0 then none else msgR (stpK x1 x2 (kindP x3)) rest:=by rw [List.tail_cons,stpP_three,if_pos ⟨hn1,hn2⟩]
 simp (disch:=try exact DI) only [↓PR,QR,simprocAttr,d1]
 refine drawK_intro ?_
 have eD:Ext w2 (Sw.drew w2):=(Ext.refl w2).drew
 generalize Sw.drew w2=D at eD ⊢
 have E3:=E2.trans eD
 have c1:=(hW.ext E3).at_ 1 x1 rfl
 have c2:=(hW.ext E3).at_ 2 x2 rfl
 replace h2:=eD.obj h2
 have s3:=eD.size
 unfold n23c22
 simp (disch:=try exact DI) only [↓PR,QR,simprocAttr,q_ws1 b o _ cap i1,c1,q_ws2 b o _ cap i2,c2]
 have h4:=heap_new D (stpCells zeroS).toArray 71
 have eY:Ext D (D.alloc (.cells (stpCells zeroS).toArray 71)):=ee
 have hne:p2≠D.heap.size:=by omega
 have l4:w0.heap.size≤D.heap.size:=E3.size
 change EC D (D.alloc (.cells (stpCells zeroS).toArray 71))∧n23c21 (Value.slice (some { block:=b,off:=o }) (kw::x1::x2::x3::rest).length cap) (Value.pointer (some { block:=p2,off:=0 })) (Value.pointer (some { block:=D.heap.size,off:=0 })) (Value.agg (stpCells (stpK x1 x2 0)).toArray) (StplR w0 (kw::x1::x2::x3::rest).tail) (D.alloc (.cells (stpCells zeroS).toArray 71))
 generalize (D.alloc (.cells (stpCells zeroS).toArray 71))=Y at h4 eY ⊢
 generalize D.heap.size=p4 at h4 hne l4 ⊢
 refine ⟨eY,?_⟩
 unfold n23c21
 have E4:=E3.trans eY
 replace h2:=eY.obj h2
 rw [op_storeO ty71 h4 (vs:=stpCells (stpK x1 x2 0)) rfl (Nat.le_refl _) (by intro v hv;simp only [List.mem_cons,List.not_mem_nil,or_false] at hv;rcases hv with rfl | rfl | rfl | rfl | rfl | rfl | rfl | rfl | rfl<;>rfl)]
 have h4':=setCells_heap (stpCells (stpK x1 x2 0)) 0 h4
 rw [setA_all (vs:=stpCells (stpK x1 x2 0)) (cs:=(stpCells zeroS).toArray) rfl] at h4'
 have E5:Ext w0 (setCells Y p4 0 (stpCells (stpK x1 x2 0))):=setCells_ext _ _ _ _ E4 l4
 have h2':(setCells Y p4 0 (stpCells (stpK x1 x2 0))).heap[p2]?=some (.cells (stpCells zeroS).toArray 71 (0,0)):=by rw [setCells_only _ _ _ p2 hne];exact h2
 generalize setCells Y p4 0 (stpCells (stpK x1 x2 0))=V at h4' E5 h2' ⊢
 refine turnK_intro ?_
 rw [op_drop4 b o _ cap (by simp) hle]
 have hD:=hW.drop 4 (by simp)
 exact step_kinds rfl ⟨E5,h2',by rw [kUp_one];exact h4'⟩ hne lp l4 hb hb i3 (hW.at_ 3 x3 rfl) hD hR
def goP (p:Nat) (r:RolD) (L:List (List ByteArray)) (n:Nat):Option RolD×Nat :=
 if p=0 then accP kCounter cntP (statesP r.name) r.counters L n else if p=1 then accP kState staP (stepsP r.name r.counters) r.states L n
 else accP kStep stpP (fun ts _ n=>(some ⟨r.name,r.states,r.counters,ts⟩,n)) r.steps L n
structure At (p:Nat) (r:RolD):Prop where
 le:p≤2
 s:p=0→r.states=[]
 t:p≤1→r.steps=[]
theorem accP_nil {α:Type} {kw:ByteArray} {p:List ByteArray→Option α} {F:List α→List (List ByteArray)→Nat→Option RolD×Nat} {L:List (List ByteArray)} {n:Nat}:accP kw p F [] L n=match manyP kw p L with
 | (none,k)=>(none,n+k)
 | (some l,k)=>F l (L.drop k) (n+k):=rfl
theorem goP_0 (nm:ByteArray) (L:List (List ByteArray)) (n:Nat):goP 0 ⟨nm,[],[],[]⟩ L n=countersP nm L n:=by
 unfold goP countersP
 rw [if_pos rfl,accP_nil]
 cases manyP kCounter cntP L with
 | mk o k=>cases o<;>rfl
theorem goP_up0 {r:RolD} {L:List (List ByteArray)} {n:Nat} (hr:r.states=[]) (h:∀ w∈L.head?,∀ k∈w.head?,k≠kCounter):goP 0 r L n=goP 1 r L n:=by
 unfold goP
 rw [if_pos rfl,if_neg (by decide),if_pos rfl,accP_stop h,hr,accP_nil]
 unfold statesP
 cases manyP kState staP L with
 | mk o k=>cases o<;>rfl
theorem goP_up1 {r:RolD} {L:List (List ByteArray)} {n:Nat} (hr:r.steps=[]) (h:∀ w∈L.head?,∀ k∈w.head?,k≠kState):goP 1 r L n=goP 2 r L n:=by
 unfold goP
 rw [if_neg (by decide),if_pos rfl,if_neg (by decide),if_neg (by decide),accP_stop h,hr,accP_nil]
 unfold stepsP
 cases manyP kStep stpP L with
 | mk o k=>cases o<;>rfl
theorem goP_end {r:RolD} {L:List (List ByteArray)} {n:Nat} (h:∀ w∈L.head?,∀ k∈w.head?,k≠kStep):goP 2 r L n=(some r,n):=by
 unfold goP
 rw [if_neg (by decide),if_neg (by decide),accP_stop h]
section
variable {p:Nat} {r:RolD} {L:List (List ByteArray)} {n:Nat} {k:ByteArray} {ws:List ByteArray}
theorem head_ne {kw:ByteArray} (h:k≠kw):∀ w∈((k::ws)::L).head?,∀ k'∈w.head?,k'≠kw:=by
 intro w hw k' hk'
 simp only [List.head?_cons,Option.mem_def,Option.some.injEq] at hw
 subst hw
 simp only [List.head?_cons,Option.mem_def,Option.some.injEq] at hk'
 subst hk'
 exact h
theorem goP_over (ha:At p r) (h0:p=0→k≠kCounter) (h1:p≤1→k≠kState) (h2:k≠kStep):goP p r ((k::ws)::L) n=(some r,n):=by
 have two:goP 2 r ((k::ws)::L) n=(some r,n):=goP_end (head_ne h2)
 rcases (by have:=ha.le;omega:p=0∨p=1∨p=2) with rfl | rfl | rfl
 · rw [goP_up0 (ha.s rfl) (head_ne (h0 rfl)),goP_up1 (ha.t (by omega)) (head_ne (h1 (by omega)))]
   exact two
 · rw [goP_up1 (ha.t (by omega)) (head_ne (h1 (by omega)))]
   exact two
 · exact two
theorem goP_none (ha:At p r):goP p r [] n=(some r,n):=by
 have hn:∀ kw:ByteArray,∀ w∈([]:List (List ByteArray)).head?,∀ k∈w.head?,k≠kw:=fun kw w hw=>by cases hw
 have two:goP 2 r [] n=(some r,n):=goP_end (hn _)
 rcases (by have:=ha.le;omega:p=0∨p=1∨p=2) with rfl | rfl | rfl
 · rw [goP_up0 (ha.s rfl) (hn _),goP_up1 (ha.t (by omega)) (hn _)]
   exact two
 · rw [goP_up1 (ha.t (by omega)) (hn _)]
   exact two
 · exact two
theorem goP_counter:goP 0 r ((kCounter::ws)::L) n=match cntP ws with
 | none=>(none,n+1)
 | some x=>goP 0 { r with counters:=r.counters++[x] } L (n+1):=by
 unfold goP
 simp only [if_true]
 cases h:cntP ws with
 | none=>rw [accP_fail h]
 | some x=>rw [accP_step h]
theorem goP_state (ha:At p r) (h1:p≤1):goP p r ((kState::ws)::L) n=match staP ws with
 | none=>(none,n+1)
 | some x=>goP 1 { r with states:=r.states++[x] } L (n+1):=by
 have one:goP 1 r ((kState::ws)::L) n=match staP ws with
  | none=>(none,n+1)
  | some x=>goP 1 { r with states:=r.states++[x] } L (n+1):=by
  unfold goP
  simp only [Nat.one_ne_zero,if_false,if_true]
  cases h:staP ws with
  | none=>rw [accP_fail h]
  | some x=>rw [accP_step h]
 rcases (by omega:p=0∨p=1) with rfl | rfl
 · rw [goP_up0 (ha.s rfl) (head_ne (by decide))]
   exact one
 · exact one
theorem goP_step (ha:At p r):goP p r ((kStep::ws)::L) n=match stpP ws with
 | none=>(none,n+1)
 | some x=>goP 2 { r with steps:=r.steps++[x] } L (n+1):=by
 have two:goP 2 r ((kStep::ws)::L) n=match stpP ws with
  | none=>(none,n+1)
  | some x=>goP 2 { r with steps:=r.steps++[x] } L (n+1):=by
  unfold goP
  rw [if_neg (by decide),if_neg (by decide)]
  cases h:stpP ws with
  | none=>rw [accP_fail h]
  | some x =>
   rw [accP_step h]
   simp only
   rw [if_neg (by decide),if_neg (by decide)]
 rcases (by have:=ha.le;omega:p=0∨p=1∨p=2) with rfl | rfl | rfl
 · rw [goP_up0 (ha.s rfl) (head_ne (by decide)),goP_up1 (ha.t (by omega)) (head_ne (by decide))]
   exact two
 · rw [goP_up1 (ha.t (by omega)) (head_ne (by decide))]
   exact two
 · exact two
end
def refR (L:List (List ByteArray)):RolD×Int:=match roleP L with
 | (none,n)=>(zeroR,-(n:Int))
 | (some r,n)=>match L.drop n with
  | []=>(r,n)
  | w::_=>if w.head?=some kRole then (r,n) else (zeroR,-((n:Int)+1))
theorem refR_none {L:List (List ByteArray)} {n:Nat} (h:roleP L=(none,n+1)):refR L=(zeroR,-1 - (n:Int)):=by
 unfold refR
 rw [h]
 simp only [Prod.mk.injEq,true_and]
 omega
theorem refR_bad {L t:List (List ByteArray)} {n:Nat} {r:RolD} {k:ByteArray} {ws:List ByteArray} (h:roleP L=(some r,n)) (hd:L.drop n=(k::ws)::t) (hk:k≠kRole):refR L=(zeroR,-1 - (n:Int)):=by
 unfold refR
 rw [h]
 simp only [hd]
 rw [if_neg (show ¬ (k::ws).head?=some kRole from fun e=>by injection e with e;exact hk e)]
 simp only [Prod.mk.injEq,true_and]
 omega
theorem refR_role {L t:List (List ByteArray)} {n:Nat} {r:RolD} {ws:List ByteArray} (h:roleP L=(some r,n)) (hd:L.drop n=(kRole::ws)::t):refR L=(r,(n:Int)):=by
 unfold refR
 rw [h]
 simp only [hd]
 rw [if_pos (show (kRole::ws).head?=some kRole from rfl)]
theorem refR_end {L:List (List ByteArray)} {r:RolD} (h:roleP L=(some r,L.length)):refR L=(r,(L.length:Int)):=by
 unfold refR
 rw [h]
 simp
theorem append1_cnt {w:World} {QP:List PanicEntry→World→Prop} {k:Value→World→Prop} {base:Nat} {v:Value} {l:List CntD} (x:CntD) {b:Nat} (hown:OwnE w base 52 2 cntCells v l) (hc:w.heap[b]?=some (.cells (cntCells x).toArray 52 (0,0))) (hbase:base≤w.heap.size) (hl:l.length≤1048576)
 (hk:∀ v' w',OwnE w' base 52 2 cntCells v' (l++[x])→w.grownBy w' v.ownBlock→k v' w') :
 opV Pg (Builtin.append_ #[23,23] 23 #[v,.slice (some ⟨b,0,none⟩) 1 1]) QP w k:=by
 have hby:=by52
 refine op_appendE (l':=[x]) Tryz.underlying23 ty52 rfl (by decide) (fun _=>rfl) (fun x _=>one_Counter x) hown (fun j y hy=>?_) hbase ?_ (by simp;omega) hk
 · cases j with
   | zero =>
    simp at hy;subst hy
    intro j v hv
    rw [(cells_of_heap hc).1]
    simpa using hv
   | succ j=>simp at hy
 · simp only [List.length_cons,List.length_nil]
   exact Nat.le_trans (Nat.mul_le_mul (Nat.add_le_add_right hl 1) hby) (by decide)
theorem append1_sta {w:World} {QP:List PanicEntry→World→Prop} {k:Value→World→Prop} {base:Nat} {v:Value} {l:List StaD} (x:StaD) {b:Nat} (hown:OwnE w base 50 3 staCells v l) (hc:w.heap[b]?=some (.cells (staCells x).toArray 50 (0,0))) (hbase:base≤w.heap.size) (hl:l.length≤1048576)
 (hk:∀ v' w',OwnE w' base 50 3 staCells v' (l++[x])→w.grownBy w' v.ownBlock→k v' w') :
 opV Pg (Builtin.append_ #[22,22] 22 #[v,.slice (some ⟨b,0,none⟩) 1 1]) QP w k:=by
 have hby:=by50
 refine op_appendE (l':=[x]) Tryz.underlying22 ty50 rfl (by decide) (fun _=>rfl) (fun x _=>one_State x) hown (fun j y hy=>?_) hbase ?_ (by simp;omega) hk
 · cases j with
   | zero =>
    simp at hy;subst hy
    intro j v hv
    rw [(cells_of_heap hc).1]
    simpa using hv
   | succ j=>simp at hy
 · simp only [List.length_cons,List.length_nil]
   exact Nat.le_trans (Nat.mul_le_mul (Nat.add_le_add_right hl 1) hby) (by decide)
theorem append1_stp {w:World} {QP:List PanicEntry→World→Prop} {k:Value→World→Prop} {base:Nat} {v:Value} {l:List StpD} (x:StpD) {b:Nat} (hown:OwnE w base 71 9 stpCells v l) (hc:w.heap[b]?=some (.cells (stpCells x).toArray 71 (0,0))) (hbase:base≤w.heap.size) (hl:l.length≤1048576)
 (hk:∀ v' w',OwnE w' base 71 9 stpCells v' (l++[x])→w.grownBy w' v.ownBlock→k v' w') :
 opV Pg (Builtin.append_ #[24,24] 24 #[v,.slice (some ⟨b,0,none⟩) 1 1]) QP w k:=by
 have hby:=by71
 refine op_appendE (l':=[x]) Tryz.underlying24 ty71 rfl (by decide) (fun _=>rfl) (fun x _=>one_Step x) hown (fun j y hy=>?_) hbase ?_ (by simp;omega) hk
 · cases j with
   | zero =>
    simp at hy;subst hy
    intro j v hv
    rw [(cells_of_heap hc).1]
    simpa using hv
   | succ j=>simp at hy
 · simp only [List.length_cons,List.length_nil]
   exact Nat.le_trans (Nat.mul_le_mul (Nat.add_le_add_right hl 1) hby) (by decide)
abbrev zR:Array Value := #[.string ByteArray.empty,.slice none 0 0,.slice none 0 0,.slice none 0 0]
structure LS (w0 w:World) (base p2 p5 B1 B2:Nat) (r:RolD) (sv cv tv:Value):Prop where
 e:Ext w0 w
 h2:w.heap[p2]?=some (.cells zR TRol (0,0))
 h5:w.heap[p5]?=some (.cells (rolCells r sv cv tv).toArray TRol (0,0))
 oc:OwnE w base 52 2 cntCells cv r.counters
 lc:∀ b,cv.ownBlock=some b→b < B1
 os:OwnE w B1 50 3 staCells sv r.states
 ls:∀ b,sv.ownBlock=some b→b < B2
 ot:OwnE w B2 71 9 stpCells tv r.steps
 bb:base≤B1
 b12:B1≤B2
 b2:B2≤w.heap.size
 p2b:p2 < base
 p5b:p5 < base
 ne:p2≠p5
 l2:w0.heap.size≤p2
 l5:w0.heap.size≤p5
theorem LS.ext {w0 w w':World} {base p2 p5 B1 B2:Nat} {r:RolD} {sv cv tv:Value} (h:LS w0 w base p2 p5 B1 B2 r sv cv tv) (e:Ext w w'):LS w0 w' base p2 p5 B1 B2 r sv cv tv :=
 { h with e:=h.e.trans e,h2:=e.obj h.h2,h5:=e.obj h.h5,oc:=h.oc.ext e,os:=h.os.ext e,ot:=h.ot.ext e,b2:=Nat.le_trans h.b2 e.size }
abbrev RlR (w0:World) (L:List (List ByteArray)):Ending→World→Prop:=retR fun u w'=>(∃ x,u = .tuple #[x,.int .i64 (refR L).2]∧RolOwn w' w0.heap.size x (refR L).1)∧Ext w0 w'
abbrev Fin (w0:World) (L:List (List ByteArray)) (cs:List Value) (n:Int) (V:World):Prop:=(∃ x,Value.tuple #[.agg cs.toArray,.int .i64 n] = .tuple #[x,.int .i64 (refR L).2]∧RolOwn V w0.heap.size x (refR L).1)∧Ext w0 V
theorem rl_fin {w0 w:World} {L:List (List ByteArray)} {p2 base:Nat} {r:RolD} {sv cv tv:Value} {n:Int} (l2:w0.heap.size≤p2) (e:Ext w0 w) (hb:w0.heap.size≤base) (hp:p2 < base) (hs:OwnE w base 50 3 staCells sv r.states) (hc:OwnE w base 52 2 cntCells cv r.counters) (ht:OwnE w base 71 9 stpCells tv r.steps) (hR:refR L=(r,n)) :
 Fin w0 L (rolCells r sv cv tv) n (setCells w p2 0 (rolCells r sv cv tv)):=by
 have eV:Ext w0 (setCells w p2 0 (rolCells r sv cv tv)):=setCells_ext _ _ _ _ e l2
 have hk:∀ b,base≤b→(setCells w p2 0 (rolCells r sv cv tv)).heap[b]?=w.heap[b]?:=fun b hb=>setCells_only _ _ _ b (by omega)
 generalize setCells w p2 0 (rolCells r sv cv tv)=V at eV hk ⊢
 refine ⟨⟨_,by rw [hR],sv,cv,tv,by rw [hR],?_,?_,?_⟩,eV⟩<;>rw [hR]
 · exact (OwnE.keep hs fun b hb=>hk b (World.ownsRow.lt hs b hb).1).base hb
 · exact (OwnE.keep hc fun b hb=>hk b (World.ownsRow.lt hc b hb).1).base hb
 · exact (OwnE.keep ht fun b hb=>hk b (World.ownsRow.lt ht b hb).1).base hb
theorem LS.give {w0 w:World} {L:List (List ByteArray)} {base p2 p5 B1 B2:Nat} {r:RolD} {sv cv tv:Value} {n:Int} (h:LS w0 w base p2 p5 B1 B2 r sv cv tv) (hR:refR L=(r,n)):Fin w0 L (rolCells r sv cv tv) n (setCells w p2 0 (rolCells r sv cv tv)) :=
 rl_fin h.l2 h.e (base:=base) (by have:=h.l2;have:=h.p2b;omega) h.p2b (h.os.base h.bb) h.oc (h.ot.base (Nat.le_trans h.bb h.b12)) hR
theorem LS.deny {w0 w:World} {L:List (List ByteArray)} {base p2 p5 B1 B2:Nat} {r:RolD} {sv cv tv:Value} {n:Int} (h:LS w0 w base p2 p5 B1 B2 r sv cv tv) (hR:refR L=(zeroR,n)):Fin w0 L (rolCells zeroR (.slice none 0 0) (.slice none 0 0) (.slice none 0 0)) n (setCells w p2 0 (rolCells zeroR (.slice none 0 0) (.slice none 0 0) (.slice none 0 0))) :=
 rl_fin (r:=zeroR) h.l2 h.e (base:=base) (by have:=h.l2;have:=h.p2b;omega) h.p2b (OwnE.nil _ _ _ _ _) (OwnE.nil _ _ _ _ _) (OwnE.nil _ _ _ _ _) hR
section
variable {w0 w:World} {base p2 p5 B1 B2 i p:Nat} {r:RolD} {sv cv tv wv:Value} {L T:List (List ByteArray)} {ws:List ByteArray} {k:ByteArray} {next3:Value→Value→World→Prop}
def Keep (w0:World) (base p2 p5:Nat) (L:List (List ByteArray)) (a b:Value) (w:World):Prop:=∃ (p i B1 B2:Nat) (r:RolD) (sv cv tv:Value),a = .int .i64 (p:Int)∧b = .int .i64 (i:Int)∧LS w0 w base p2 p5 B1 B2 r sv cv tv∧At p r∧(p=0→sv = .slice none 0 0)∧(p≤1→tv = .slice none 0 0)∧i≤L.length∧r.counters.length≤i∧r.states.length≤i∧r.steps.length≤i∧roleP L=goP p r (L.drop i) i
theorem rl_bad (h:LS w0 w base p2 p5 B1 B2 r sv cv tv) (hi:i≤100000) (v6:Value) (hR:refR L=(zeroR,-1 - (i:Int))):n20c2 (.pointer (some ⟨p2,0,none⟩)) v6 (.int .i64 (i:Int)) (.bool false) next3 (RlR w0 L) w:=by
 unfold n20c2
 have hw:IntKind.i64.wrap (-1 - (i:Int)) = -1 - (i:Int):=wrap_ok (by omega) (by omega)
 simp (disch:=try exact DI) only [↓PR,QR,simprocAttr,↓n20c1,hw,(cells_of_heap h.h2).1,(cells_of_heap h.h2).2]
 exact h.deny hR
theorem rl_good (hi:i≤100000) (v6:Value) (hk:next3 v6 (.int .i64 ((i+1:Nat):Int)) w):n20c2 (.pointer (some ⟨p2,0,none⟩)) v6 (.int .i64 (i:Int)) (.bool true) next3 (RlR w0 L) w:=by
 unfold n20c2
 have hw:IntKind.i64.wrap ((i:Int)+1)=((i+1:Nat):Int):=by rw [wrap_ok (by omega) (by omega)];omega
 simp (disch:=try exact DI) only [↓PR,QR,simprocAttr,hw]
 exact hk
theorem LS.row_ne (h:LS w0 w base p2 p5 B1 B2 r sv cv tv) (x:Nat) (hx:x < base):cv.ownBlock≠some x∧sv.ownBlock≠some x∧tv.ownBlock≠some x:=by
 have:=h.bb
 have:=h.b12
 refine ⟨fun e=>?_,fun e=>?_,fun e=>?_⟩
 · have:=(World.ownsRow.lt h.oc x e).1;omega
 · have:=(World.ownsRow.lt h.os x e).1;omega
 · have:=(World.ownsRow.lt h.ot x e).1;omega
theorem LS.pushC {w':World} {x:CntD} (h:LS w0 w base p2 p5 B1 B2 r (.slice none 0 0) cv (.slice none 0 0)) (hs:r.states=[]) (ht:r.steps=[]) {v':Value} (hO:OwnE w' base 52 2 cntCells v' (r.counters++[x])) (hg:w.grownBy w' cv.ownBlock) :
 LS w0 (w'.setCell ⟨p5,2,none⟩ v') base p2 p5 w'.heap.size w'.heap.size { r with counters:=r.counters++[x] } (.slice none 0 0) v' (.slice none 0 0):=by
 have hz:=hg.size
 have g1:=h.p2b
 have g2:=h.p5b
 have g3:=h.bb
 have g4:=h.b12
 have g5:=h.b2
 have n2:=(h.row_ne p2 g1).1
 have n5:=(h.row_ne p5 g2).1
 have l2:=h.l2
 refine ⟨(h.e.grown hg fun b hb=>by have:=(World.ownsRow.lt h.oc b hb).1;omega).setCell (p:=⟨p5,2,none⟩) h.l5 _,?_,?_,?_,?_,?_,fun b hb=>(by cases hb),?_,by omega,Nat.le_refl _,by rw [World.size_setCell];exact Nat.le_refl _,g1,g2,h.ne,h.l2,h.l5⟩
 · rw [Only.setCell _ p5 _ _ p2 h.ne]
   exact (hg.block p2 (by omega) fun e=>n2 e.symm).trans h.h2
 · exact heap_set ((hg.block p5 (by omega) fun e=>n5 e.symm).trans h.h5) _
 · exact OwnE.keep hO fun b hb=>Only.setCell _ p5 _ _ b (by have:=(World.ownsRow.lt hO b hb).1;omega)
 · exact fun b hb=>(World.ownsRow.lt hO b hb).2
 · show OwnE _ _ _ _ _ _ r.states
   rw [hs]
   exact OwnE.nil _ _ _ _ _
 · show OwnE _ _ _ _ _ _ r.steps
   rw [ht]
   exact OwnE.nil _ _ _ _ _
theorem LS.pushS {w':World} {x:StaD} (h:LS w0 w base p2 p5 B1 B2 r sv cv (.slice none 0 0)) (ht:r.steps=[]) {v':Value} (hO:OwnE w' B1 50 3 staCells v' (r.states++[x])) (hg:w.grownBy w' sv.ownBlock) :
 LS w0 (w'.setCell ⟨p5,1,none⟩ v') base p2 p5 B1 w'.heap.size { r with states:=r.states++[x] } v' cv (.slice none 0 0):=by
 have hz:=hg.size
 have g1:=h.p2b
 have g2:=h.p5b
 have g3:=h.bb
 have g4:=h.b12
 have g5:=h.b2
 have n2:=(h.row_ne p2 g1).2.1
 have n5:=(h.row_ne p5 g2).2.1
 have l2:=h.l2
 refine ⟨(h.e.grown hg fun b hb=>by have:=(World.ownsRow.lt h.os b hb).1;omega).setCell (p:=⟨p5,1,none⟩) h.l5 _,?_,?_,?_,h.lc,?_,?_,?_,g3,by omega,by rw [World.size_setCell];exact Nat.le_refl _,g1,g2,h.ne,h.l2,h.l5⟩
 · rw [Only.setCell _ p5 _ _ p2 h.ne]
   exact (hg.block p2 (by omega) fun e=>n2 e.symm).trans h.h2
 · exact heap_set ((hg.block p5 (by omega) fun e=>n5 e.symm).trans h.h5) _
 · refine OwnE.keep h.oc fun b hb=>?_
   have a1:=(World.ownsRow.lt h.oc b hb).1
   have a2:=h.lc b hb
   rw [Only.setCell _ p5 _ _ b (by omega)]
   exact hg.block b (by omega) fun e=>by have:=(World.ownsRow.lt h.os b e.symm).1;omega
 · exact OwnE.keep hO fun b hb=>Only.setCell _ p5 _ _ b (by have:=(World.ownsRow.lt hO b hb).1;omega)
 · exact fun b hb=>(World.ownsRow.lt hO b hb).2
 · show OwnE _ _ _ _ _ _ r.steps
   rw [ht]
   exact OwnE.nil _ _ _ _ _
theorem LS.pushT {w':World} {x:StpD} (h:LS w0 w base p2 p5 B1 B2 r sv cv tv) {v':Value} (hO:OwnE w' B2 71 9 stpCells v' (r.steps++[x])) (hg:w.grownBy w' tv.ownBlock) :
 LS w0 (w'.setCell ⟨p5,3,none⟩ v') base p2 p5 B1 B2 { r with steps:=r.steps++[x] } sv cv v':=by
 have hz:=hg.size
 have g1:=h.p2b
 have g2:=h.p5b
 have g3:=h.bb
 have g4:=h.b12
 have g5:=h.b2
 have n2:=(h.row_ne p2 g1).2.2
 have n5:=(h.row_ne p5 g2).2.2
 have l2:=h.l2
 refine ⟨(h.e.grown hg fun b hb=>by have:=(World.ownsRow.lt h.ot b hb).1;omega).setCell (p:=⟨p5,3,none⟩) h.l5 _,?_,?_,?_,h.lc,?_,h.ls,?_,g3,g4,by rw [World.size_setCell];omega,g1,g2,h.ne,h.l2,h.l5⟩
 · rw [Only.setCell _ p5 _ _ p2 h.ne]
   exact (hg.block p2 (by omega) fun e=>n2 e.symm).trans h.h2
 · exact heap_set ((hg.block p5 (by omega) fun e=>n5 e.symm).trans h.h5) _
 · refine OwnE.keep h.oc fun b hb=>?_
   have a1:=(World.ownsRow.lt h.oc b hb).1
   have a2:=h.lc b hb
   rw [Only.setCell _ p5 _ _ b (by omega)]
   exact hg.block b (by omega) fun e=>by have:=(World.ownsRow.lt h.ot b e.symm).1;omega
 · refine OwnE.keep h.os fun b hb=>?_
   have a1:=(World.ownsRow.lt h.os b hb).1
   have a2:=h.ls b hb
   rw [Only.setCell _ p5 _ _ b (by omega)]
   exact hg.block b (by omega) fun e=>by have:=(World.ownsRow.lt h.ot b e.symm).1;omega
 · exact OwnE.keep hO fun b hb=>Only.setCell _ p5 _ _ b (by have:=(World.ownsRow.lt hO b hb).1;omega)
end
section
variable {w0 w:World} {base p2 p5 B1 B2 i p b o cap:Nat} {r:RolD} {sv cv tv v51:Value} {L:List (List ByteArray)} {ws:List ByteArray} {k:ByteArray} {next3:Value→Value→World→Prop}
theorem At.c (ha:At 0 r) (x:CntD):At 0 { r with counters:=r.counters++[x] }:=⟨by omega,fun _=>ha.s rfl,fun h=>ha.t h⟩
theorem At.s1 (ha:At p r) (hp:p≤1) (x:StaD):At 1 { r with states:=r.states++[x] }:=⟨by omega,fun h=>by omega,fun _=>ha.t hp⟩
theorem At.t2 (x:StpD):At 2 { r with steps:=r.steps++[x] }:=⟨by omega,fun h=>by omega,fun h=>by omega⟩
theorem cntP_len {ws:List ByteArray} (h:ws.length≠2):cntP ws=none:=by
 unfold cntP
 match ws,h with
 | [],_=>rfl
 | [a],_=>cases ha:nameB a<;>simp [nameP,ha,numP_nil]
 | [a,c],h=>exact absurd rfl h
 | a::c::d::r,_=>cases ha:nameB a<;>cases hc:numB c<;>simp [nameP,ha,numP_cons,hc,endP]
theorem cntP_two (a c:ByteArray):cntP [a,c]=if nameB a=true then (numB c).map fun n=>⟨a,n⟩ else none:=by
 unfold cntP
 cases ha:nameB a<;>cases hc:numB c<;>simp [nameP,ha,numP_cons,hc,endP]
theorem rl_counter (h:LS w0 w base p2 p5 B1 B2 r sv cv tv) (ha:At p r) (hs0:p=0→sv = .slice none 0 0) (ht0:p≤1→tv = .slice none 0 0) (hi:i < L.length) (hl:L.length≤100000) (k1:r.counters.length≤i) (k2:r.states.length≤i) (k3:r.steps.length≤i)
 (hd:L.drop i=(kCounter::ws)::L.drop (i+1)) (hg:roleP L=goP p r (L.drop i) i) (hW:WsC w v51 b o cap (kCounter::ws)) (hb5:b≠p5) (hbc:cv.ownBlock≠some b)
 (hk:∀ a w',Keep w0 base p2 p5 L a (.int .i64 ((i+1:Nat):Int)) w'→next3 a (.int .i64 ((i+1:Nat):Int)) w') :
 n20c12 (.pointer (some ⟨p5,0,none⟩)) (.int .i64 (p:Int)) v51 (fun t6 t9 w=>n20c2 (.pointer (some ⟨p2,0,none⟩)) t6 (.int .i64 (i:Int)) t9 next3 (RlR w0 L) w) (RlR w0 L) w:=by
 obtain rfl:=hW.val
 have bad:(p=0→cntP ws=none)→refR L=(zeroR,-1 - (i:Int)):=by
  intro hn
  rw [hd] at hg
  by_cases hp:p=0
  · subst hp
    rw [goP_counter,hn rfl] at hg
    exact refR_none hg
  · rw [goP_over ha (fun e=>absurd e hp) (fun _=>by decide) (by decide)] at hg
    exact refR_bad hg hd (by decide)
 unfold n20c12
 by_cases h2:ws.length=2
 case neg =>
  have d1:((((kCounter::ws).length:Nat):Int) == 3)=false:=by rw [beq_eq_false_iff_ne];simp only [List.length_cons];omega
  simp (disch:=try exact DI) only [↓PR,QR,simprocAttr,d1,↓n20c7]
  exact rl_bad h (by omega) _ (bad fun _=>cntP_len h2)
 match ws,h2 with
 | [a,c],_ =>
 have d1:((((kCounter::[a,c]).length:Nat):Int) == 3)=true:=rfl
 have i1:1 < (kCounter::[a,c]).length:=by simp
 have i2:2 < (kCounter::[a,c]).length:=by simp
 have c1:=hW.at_ 1 a rfl
 simp (disch:=try exact DI) only [↓PR,QR,simprocAttr,d1,op_ws1 b o _ cap i1,c1]
 refine zcr (rName_ret w a) fun w1 e1=>?_
 replace h:=h.ext e1
 replace hW:=hW.ext e1
 cases hn:nameB a with
 | false =>
  simp (disch:=try exact DI) only [↓PR,QR,simprocAttr,d1,↓n20c7]
  exact rl_bad h (by omega) _ (bad fun _=>by rw [cntP_two,hn];rfl)
 | true =>
 by_cases hp:p=0
 case neg =>
  have d2:((p:Int) == 0)=false:=by rw [beq_eq_false_iff_ne];omega
  simp (disch:=try exact DI) only [↓PR,QR,simprocAttr,d1,d2,↓n20c7]
  exact rl_bad h (by omega) _ (bad fun e=>absurd e hp)
 subst hp
 obtain rfl:=hs0 rfl
 obtain rfl:=ht0 (by omega)
 have d2:(((0:Nat):Int) == 0)=true:=rfl
 have c2:=hW.at_ 2 c rfl
 simp (disch:=try exact DI) only [↓PR,QR,simprocAttr,d1,d2,↓n20c7,↓n20c6,op_ws2 b o _ cap i2,c2]
 refine callK_ret (rnumber_ret w1 c) ?_
 rintro _ V' ⟨rfl,hV'⟩
 rw [hV',numT_eq]
 clear hV' V'
 simp (disch:=try exact DI) only [↓PR,QR,simprocAttr,↓n20c5]
 have hb1:b < w1.heap.size:=hW.lt (by simp)
 have hlo:∀ g,cv.ownBlock=some g→base≤g∧g < w1.heap.size:=fun g hg=>World.ownsRow.lt h.oc g hg
 have hp2s:p2 < w1.heap.size:=by have:=h.p2b;have:=h.bb;have:=h.b12;have:=h.b2;omega
 have hp5s:p5 < w1.heap.size:=by have:=h.p5b;have:=h.bb;have:=h.b12;have:=h.b2;omega
 obtain ⟨q,hq⟩:∃ q,q=cv.ownBlock.getD w1.heap.size:=⟨_,rfl⟩
 have q5:p5≠q:=by
  rw [hq]
  cases hc:cv.ownBlock with
  | none=>simp only [Option.getD_none];omega
  | some g=>simp only [Option.getD_some];have:=(hlo g hc).1;have:=h.p5b;omega
 have qb:b≠q:=by
  rw [hq]
  cases hc:cv.ownBlock with
  | none=>simp only [Option.getD_none];omega
  | some g=>simp only [Option.getD_some];intro e;exact hbc (by rw [hc,e])
 refine drawK_introB q q (w1:=w1) (fun _ _ _ _=>rfl) ?_
 have eD:Ext w1 (Sw.drew w1):=(Ext.refl w1).drew
 have sD:(Sw.drew w1).heap=w1.heap:=rfl
 have hK:KB w1 q q (Sw.drew w1):=fun _ _ _ _=>rfl
 generalize Sw.drew w1=D at eD hK sD ⊢
 have c1:=hW.at_ 1 a rfl
 have c5:=(cells_of_heap h.h5).1
 have hD:=h.ext eD
 unfold n20c4
 simp (disch:=try exact DI) only [↓PR,QR,simprocAttr,q_ws1 b o _ cap i1,c1,c5]
 have oY:(D.alloc (.cells (cntCells ⟨a,(numB c).getD 0⟩).toArray 52)).heap[D.heap.size]?=some (.cells (cntCells ⟨a,(numB c).getD 0⟩).toArray 52 (0,0)):=heap_new _ _ _
 have eY:Ext D (D.alloc (.cells (cntCells ⟨a,(numB c).getD 0⟩).toArray 52)):=ee
 change KB w1 q q (D.alloc (.cells (cntCells ⟨a,(numB c).getD 0⟩).toArray 52))∧n20c3 _ _ _ _ _ _ _ _ (D.alloc (.cells (cntCells ⟨a,(numB c).getD 0⟩).toArray 52))
 generalize (D.alloc (.cells (cntCells ⟨a,(numB c).getD 0⟩).toArray 52))=Y at oY eY ⊢
 have hKY:KB w1 q q Y:=fun y hy _ _=>(eY.block y (by rw [sD];exact hy)).trans (by rw [sD])
 refine ⟨hKY,?_⟩
 have hY:=hD.ext eY
 unfold n20c3
 refine append1_cnt ⟨a,(numB c).getD 0⟩ hY.oc oY (by have:=hY.bb;have:=hY.b12;have:=hY.b2;omega) (by omega) ?_
 intro v' w' hO hgr
 have hKw:KB w1 q q w':=fun y hy h1 h2=>(hgr.block y (by have:=eD.size;have:=eY.size;omega) (by
  intro e
  rw [hq,← e] at h1
  exact h1 rfl)).trans (hKY y hy h1 h2)
 refine ⟨hKw,?_⟩
 have h5':w'.heap[p5]?=some (.cells (rolCells r (.slice none 0 0) cv (.slice none 0 0)).toArray TRol (0,0)):=(hKw p5 hp5s q5 q5).trans h.h5
 have hL:=hY.pushC (ha.s rfl) (ha.t (by omega)) hO hgr
 have ov:=own_one hO fun _=>rfl
 simp (disch:=try exact DI) only [↓PR,QR,simprocAttr,(cells_of_heap h5').1,(cells_of_heap h5').2]
 refine turnK_intro ?_
 rw [hd] at hg
 rw [goP_counter,cntP_two,if_pos hn] at hg
 cases hs:numB c with
 | none =>
  rw [hs] at hL
  simp only [Option.isSome_none]
  exact rl_bad hL (by omega) _ (bad fun _=>by rw [cntP_two,hs];simp)
 | some n =>
  rw [hs] at hL hg
  simp only [Option.isSome_some]
  exact rl_good (by omega) _ (hk _ _ ⟨0,i+1,_,_,_,_,_,_,rfl,rfl,hL,ha.c _,fun _=>rfl,fun _=>rfl,by omega,by simp;omega,by show r.states.length≤_;omega,by show r.steps.length≤_;omega,hg⟩)
end
section
variable {w0 w:World} {base p2 p5 B1 B2 i p b o cap:Nat} {r:RolD} {sv cv tv v51:Value} {L:List (List ByteArray)} {ws:List ByteArray} {next3:Value→Value→World→Prop}
theorem rl_bad0 (h2:w.heap[p2]?=some (.cells zR TRol (0,0))) (l2:w0.heap.size≤p2) (e:Ext w0 w) (hi:i≤100000) (v6:Value) (hR:refR L=(zeroR,-1 - (i:Int))):n20c2 (.pointer (some ⟨p2,0,none⟩)) v6 (.int .i64 (i:Int)) (.bool false) next3 (RlR w0 L) w:=by
 unfold n20c2
 have hw:IntKind.i64.wrap (-1 - (i:Int)) = -1 - (i:Int):=wrap_ok (by omega) (by omega)
 simp (disch:=try exact DI) only [↓PR,QR,simprocAttr,↓n20c1,hw,(cells_of_heap h2).1,(cells_of_heap h2).2]
 exact rl_fin (r:=zeroR) (base:=p2+1) l2 e (by omega) (by omega) (OwnE.nil _ _ _ _ _) (OwnE.nil _ _ _ _ _) (OwnE.nil _ _ _ _ _) hR
theorem rl_state (h:LS w0 w base p2 p5 B1 B2 r sv cv tv) (ha:At p r) (hs0:p=0→sv = .slice none 0 0) (ht0:p≤1→tv = .slice none 0 0) (hi:i < L.length) (hl:L.length≤100000) (k1:r.counters.length≤i) (k2:r.states.length≤i) (k3:r.steps.length≤i)
 (hd:L.drop i=(kState::ws)::L.drop (i+1)) (hg:roleP L=goP p r (L.drop i) i) (hW:SliceOf w 1 EStr v51 (kState::ws))
 (hk:∀ a w',Keep w0 base p2 p5 L a (.int .i64 ((i+1:Nat):Int)) w'→next3 a (.int .i64 ((i+1:Nat):Int)) w') :
 callK Pg 92 #[v51] (panK (RlR w0 L)) w fun t w=>n20c9 (.pointer (some ⟨p5,0,none⟩)) (.int .i64 (p:Int)) t (fun t6 t9 w=>n20c2 (.pointer (some ⟨p2,0,none⟩)) t6 (.int .i64 (i:Int)) t9 next3 (RlR w0 L) w) (RlR w0 L) w:=by
 refine callK_ret (rstate_line w v51 _ hW (by simp)) ?_
 rintro _ w1 ⟨⟨x,is,rfl,hx⟩,e1⟩
 rw [List.tail_cons] at hx
 replace h:=h.ext e1
 rw [hd] at hg
 obtain ⟨ok,hok⟩:∃ ok,ok=(is&&decide (p≤1)):=⟨_,rfl⟩
 have hbad:ok=false→refR L=(zeroR,-1 - (i:Int)):=by
  intro hf
  by_cases hp:p≤1
  · have:is=false:=by rw [hok,decide_eq_true hp,Bool.and_true] at hf;exact hf
    rw [goP_state ha hp,hx,this] at hg
    exact refR_none hg
  · rw [goP_over ha (fun e=>by omega) (fun e=>absurd e hp) (by decide)] at hg
    exact refR_bad hg hd (by decide)
 have dp:decide ((p:Int)≤1)=decide (p≤1):=by by_cases hp:p≤1<;>simp [hp]<;>omega
 have run:∀ (V:World),LS w0 V base p2 p5 B1 B2 r sv cv tv→∀ q,V.heap[q]?=some (.cells (staCells x).toArray 50 (0,0))→n20c8 (.pointer (some ⟨p5,0,none⟩)) (.pointer (some ⟨q,0,none⟩)) (.bool true) (.bool ok) (fun t6 t9 w=>n20c2 (.pointer (some ⟨p2,0,none⟩)) t6 (.int .i64 (i:Int)) t9 next3 (RlR w0 L) w) (RlR w0 L) V:=by
  intro V hV q hq
  unfold n20c8
  simp (disch:=try exact DI) only [↓PR,QR,simprocAttr,(cells_of_heap hV.h5).1,(cells_of_heap hq).1]
  generalize hY:World.alloc V _=Y
  have eY:Ext V Y:=by rw [← hY];exact (Ext.refl V).alloc _
  have oY:Y.heap[V.heap.size]?=some (.cells (staCells x).toArray 50 (0,0)):=by rw [← hY];exact heap_new _ _ _
  clear hY
  have hY:=hV.ext eY
  refine append1_sta x hY.os oY (by have:=hY.b12;have:=hY.b2;omega) (by omega) ?_
  intro v' w' hO hgr
  have gz:=hgr.size
  have n5:=(hY.row_ne p5 hY.p5b).2.1
  have n2:=(hY.row_ne p2 hY.p2b).2.1
  have lt5:p5 < Y.heap.size:=by have:=hY.p5b;have:=hY.bb;have:=hY.b12;have:=hY.b2;omega
  have lt2:p2 < Y.heap.size:=by have:=hY.p2b;have:=hY.bb;have:=hY.b12;have:=hY.b2;omega
  have h5':w'.heap[p5]?=some (.cells (rolCells r sv cv tv).toArray TRol (0,0)):=(hgr.block p5 lt5 fun e=>n5 e.symm).trans hY.h5
  have ov:=own_one hO fun _=>rfl
  have h2':(w'.setCell ⟨p5,1,none⟩ v').heap[p2]?=some (.cells zR TRol (0,0)):=by
   rw [Only.setCell _ p5 _ _ p2 hY.ne]
   exact (hgr.block p2 lt2 fun e=>n2 e.symm).trans hY.h2
  have E':Ext w0 (w'.setCell ⟨p5,1,none⟩ v'):=(hY.e.grown hgr fun b hb=>by have:=(World.ownsRow.lt hY.os b hb).1;have:=hY.l2;have:=hY.p2b;have:=hY.bb;omega).setCell (p:=⟨p5,1,none⟩) hY.l5 _
  simp (disch:=try exact DI) only [↓PR,QR,simprocAttr,(cells_of_heap h5').1,(cells_of_heap h5').2]
  cases hf:ok with
  | false=>exact rl_bad0 h2' hY.l2 E' (by omega) _ (hbad hf)
  | true =>
   have hb2:=hok.symm.trans hf
   rw [Bool.and_eq_true,decide_eq_true_eq] at hb2
   obtain ⟨hi1,hp⟩:=hb2
   obtain rfl:=ht0 hp
   have hL:=hY.pushS (ha.t hp) hO hgr
   rw [goP_state ha hp,hx,hi1] at hg
   exact rl_good (by omega) _ (hk _ _ ⟨1,i+1,_,_,_,_,_,_,rfl,rfl,hL,ha.s1 hp _,fun h=>(by cases h),fun _=>rfl,by omega,by show r.counters.length≤_;omega,by simp;omega,by show r.steps.length≤_;omega,hg⟩)
 have eY:Ext w1 (w1.alloc (.cells (staCells x).toArray 50)):=ee
 have oY:(w1.alloc (.cells (staCells x).toArray 50)).heap[w1.heap.size]?=some (.cells (staCells x).toArray 50 (0,0)):=heap_new _ _ _
 have hrun:=run _ (h.ext eY) _ oY
 cases is with
 | false =>
  obtain rfl:ok=false:=hok
  simp (disch:=try exact DI) only [↓PR,QR,simprocAttr,↓n20c9]
  exact hrun
 | true =>
  rw [Bool.true_and] at hok
  rw [hok] at hrun
  simp (disch:=try exact DI) only [↓PR,QR,simprocAttr,↓n20c9,dp]
  exact hrun
theorem rl_step (h:LS w0 w base p2 p5 B1 B2 r sv cv tv) (ha:At p r) (hs0:p=0→sv = .slice none 0 0) (ht0:p≤1→tv = .slice none 0 0) (hi:i < L.length) (hl:L.length≤100000) (k1:r.counters.length≤i) (k2:r.states.length≤i) (k3:r.steps.length≤i)
 (hd:L.drop i=(kStep::ws)::L.drop (i+1)) (hg:roleP L=goP p r (L.drop i) i) (hW:SliceOf w 1 EStr v51 (kStep::ws))
 (hk:∀ a w',Keep w0 base p2 p5 L a (.int .i64 ((i+1:Nat):Int)) w'→next3 a (.int .i64 ((i+1:Nat):Int)) w') :
 callK Pg 93 #[v51] (panK (RlR w0 L)) w fun t w=>n20c10 (.pointer (some ⟨p5,0,none⟩)) t (fun t6 t9 w=>n20c2 (.pointer (some ⟨p2,0,none⟩)) t6 (.int .i64 (i:Int)) t9 next3 (RlR w0 L) w) (RlR w0 L) w:=by
 refine callK_ret (rstep_line w v51 _ hW (by simp)) ?_
 rintro _ w1 ⟨⟨x,is,rfl,hx⟩,e1⟩
 rw [List.tail_cons] at hx
 replace h:=h.ext e1
 rw [hd] at hg
 have hbad:is=false→refR L=(zeroR,-1 - (i:Int)):=by
  intro hf
  rw [goP_step ha,hx,hf] at hg
  exact refR_none hg
 have eX:Ext w1 (w1.alloc (.cells (stpCells x).toArray 71)):=ee
 have oX:(w1.alloc (.cells (stpCells x).toArray 71)).heap[w1.heap.size]?=some (.cells (stpCells x).toArray 71 (0,0)):=heap_new _ _ _
 have hX:=h.ext eX
 have c5:=(cells_of_heap hX.h5).1
 simp (disch:=try exact DI) only [↓PR,QR,simprocAttr,↓n20c10,c5,(cells_of_heap oX).1]
 have oZ:((w1.alloc (.cells (stpCells x).toArray 71)).alloc (.cells (stpCells x).toArray 71)).heap[w1.heap.size+1]?=some (.cells (stpCells x).toArray 71 (0,0)):=by
  have:=heap_new (w1.alloc (.cells (stpCells x).toArray 71)) (stpCells x).toArray 71
  rwa [show (w1.alloc (.cells (stpCells x).toArray 71)).heap.size=w1.heap.size+1 from Array.size_push ..] at this
 have eZ:Ext w1 ((w1.alloc (.cells (stpCells x).toArray 71)).alloc (.cells (stpCells x).toArray 71)):=eX.alloc _
 change opV _ _ _ ((w1.alloc (.cells (stpCells x).toArray 71)).alloc (.cells (stpCells x).toArray 71)) _
 generalize ((w1.alloc (.cells (stpCells x).toArray 71)).alloc (.cells (stpCells x).toArray 71))=Y at oZ eZ ⊢
 have hY:=h.ext eZ
 refine append1_stp x hY.ot oZ (by have:=hY.b2;omega) (by omega) ?_
 intro v' w' hO hgr
 have n5:=(hY.row_ne p5 hY.p5b).2.2
 have lt5:p5 < Y.heap.size:=by have:=hY.p5b;have:=hY.bb;have:=hY.b12;have:=hY.b2;omega
 have h5':w'.heap[p5]?=some (.cells (rolCells r sv cv tv).toArray TRol (0,0)):=(hgr.block p5 lt5 fun e=>n5 e.symm).trans hY.h5
 have ov:=own_one hO fun _=>rfl
 have hL:=hY.pushT hO hgr
 simp (disch:=try exact DI) only [↓PR,QR,simprocAttr,(cells_of_heap h5').1,(cells_of_heap h5').2]
 cases is with
 | false=>exact rl_bad0 hL.h2 hL.l2 hL.e (by omega) _ (hbad rfl)
 | true =>
  rw [goP_step ha,hx] at hg
  exact rl_good (by omega) _ (hk _ _ ⟨2,i+1,_,_,_,_,_,_,rfl,rfl,hL,At.t2 _,fun h=>(by cases h),fun h=>(by omega),by omega,by show r.counters.length≤_;omega,by show r.states.length≤_;omega,by simp;omega,hg⟩)
end
theorem roleL_head (k:ByteArray) (ws:List ByteArray) (L:List (List ByteArray)) (h:¬ (k=kRole∧∃ x,ws=[x]∧nameB x=true)):roleP ((k::ws)::L)=(none,1):=by
 rw [roleP_eq]
 by_cases hk:k=kRole
 · rw [if_pos hk]
   have:rnameP ws=none:=by
    unfold rnameP
    match ws,h with
    | [],_=>rfl
    | [a],h=>cases ha:nameB a with
     | false=>simp [nameP,ha]
     | true=>exact absurd ⟨hk,a,rfl,ha⟩ h
    | a::c::r,_=>cases ha:nameB a<;>simp [nameP,ha,endP]
   rw [this]
 · rw [if_neg hk]
theorem roleL_good {x:ByteArray} (L:List (List ByteArray)) (h:nameB x=true):roleP ([kRole,x]::L)=countersP x L 1:=by
 rw [roleP_eq,if_pos rfl]
 unfold rnameP
 simp [nameP,h,endP]
theorem rl_loop {w0 w:World} {base p2 p5 b o cap:Nat} {v0:Value} {lines:List ByteArray} (hz:∀ x∈lines,x.size≤100000) (hl:lines.length≤100000) (hW:WsC w0 v0 b o cap lines)
 (h:Keep w0 base p2 p5 (lines.map spW) (.int .i64 0) (.int .i64 1) w):loop2 (fun t6 t7 w next3=>n20c18 v0 (.pointer (some ⟨p2,0,none⟩)) (.pointer (some ⟨p5,0,none⟩)) t6 t7 next3 (RlR w0 (lines.map spW)) w) (.int .i64 0) (.int .i64 1) w:=by
 obtain rfl:=hW.val
 refine loop2_intro (Keep w0 base p2 p5 (lines.map spW)) (fun _ b _=>lines.length - (intOf b).toNat) h ?_
 rintro _ _ w ⟨p,i,B1,B2,r,sv,cv,tv,rfl,rfl,h,ha,hs0,ht0,hi,k1,k2,k3,hg⟩
 have hLl:(lines.map spW).length=lines.length:=List.length_map ..
 unfold n20c18
 by_cases hlt:i < lines.length
 case neg =>
  obtain rfl:i=lines.length:=by omega
  have d1:decide ((lines.length:Int) < (lines.length:Int))=false:=decide_eq_false (by omega)
  have hd:(lines.map spW).drop lines.length=[]:=by rw [List.drop_eq_nil_iff];omega
  rw [hd,goP_none ha] at hg
  have hR:refR (lines.map spW)=(r,(lines.length:Int)):=by
   rw [← hLl] at hg
   rw [refR_end hg,hLl]
  have o1:=own_one h.os fun _=>rfl
  have o2:=own_one h.oc fun _=>rfl
  have o3:=own_one h.ot fun _=>rfl
  simp (disch:=try exact DI) only [↓PR,QR,simprocAttr,d1,↓n20c16,(cells_of_heap h.h5).1,(cells_of_heap h.h2).1,(cells_of_heap h.h2).2]
  exact h.give hR
 have dk:(i:Int) < (lines.length:Int):=by omega
 have d1:decide ((i:Int) < (lines.length:Int))=true:=decide_eq_true dk
 obtain ⟨l,hx⟩:=getElem?_lt hlt
 have c1:w.cell? ⟨b,o+i*1,none⟩=some (.string l):=by rw [Nat.mul_one];exact (hW.ext h.e).at_ i l hx
 have hzl:=hz l (List.mem_of_getElem? hx)
 simp (disch:=try exact DI) only [↓PR,QR,simprocAttr,d1,↓n20c17,c1]
 refine callK_ret (cut_ret w l 32 hzl) ?_
 rintro u w1 ⟨hO,e1⟩
 have hSw:SliceOf w1 1 EStr u (cutW 32 l):=OwnE.slice hO (fun _=>rfl) (fun _ _=>rfl)
 have hd:=drop_words hx (spW_cut l)
 have hlo:=World.ownsRow.lt hO
 have hoc:∀ g,cv.ownBlock=some g→g < w.heap.size:=fun g hg=>(World.ownsRow.lt h.oc g hg).2
 have h5s:p5 < w.heap.size:=by have:=h.p5b;have:=h.bb;have:=h.b12;have:=h.b2;omega
 have h1:=h.ext e1
 have hk:∀ a w',Keep w0 base p2 p5 (lines.map spW) a (.int .i64 ((i+1:Nat):Int)) w'→Keep w0 base p2 p5 (lines.map spW) a (.int .i64 ((i+1:Nat):Int)) w'∧lines.length - (intOf (.int .i64 ((i+1:Nat):Int))).toNat < lines.length - (intOf (.int .i64 (i:Int))).toNat:=fun a w' h=>⟨h,meas_lt (kd := .i64) hlt⟩
 cases hc:cutW 32 l with
 | nil=>exact absurd hc (cutW_ne 32 l)
 | cons k ws =>
 rw [hc] at hSw hd
 obtain ⟨b1,o1,cap1,hV⟩:=ws_of hSw (by simp)
 obtain rfl:=hV.val
 have hb1:w.heap.size≤b1:=(hlo b1 rfl).1
 have i0:0 < (k::ws).length:=by simp
 have c0:w1.cell? ⟨b1,o1,none⟩=some (.string k):=hV.at_ 0 k rfl
 unfold n20c15
 by_cases hr:k=kRole
 · subst hr
   have q1:decide (kRole=⟨#[114,111,108,101]⟩)=true:=decide_eq_true rfl
   rw [hd,goP_over ha (fun _=>by decide) (fun _=>by decide) (by decide)] at hg
   have hR:=refR_role hg hd
   have o1':=own_one h.os fun _=>rfl
   have o2:=own_one h.oc fun _=>rfl
   have o3:=own_one h.ot fun _=>rfl
   simp (disch:=try exact DI) only [↓PR,QR,simprocAttr,op_ws0 b1 o1 _ cap1 i0,Nat.add_zero,c0,q1,(cells_of_heap h1.h5).1,(cells_of_heap h1.h2).1,(cells_of_heap h1.h2).2]
   exact h1.give hR
 have q1:decide (k=⟨#[114,111,108,101]⟩)=false:=decide_eq_false hr
 by_cases hcn:k=kCounter
 · subst hcn
   have q2:decide (kCounter=⟨#[99,111,117,110,116,101,114]⟩)=true:=decide_eq_true rfl
   simp (disch:=try exact DI) only [↓PR,QR,simprocAttr,op_ws0 b1 o1 _ cap1 i0,Nat.add_zero,c0,q1,q2,↓n20c14]
   exact rl_counter h1 ha hs0 ht0 (by omega) (by omega) k1 k2 k3 hd hg hV (by omega) (fun e=>by have:=hoc b1 e;omega) hk
 have q2:decide (k=⟨#[99,111,117,110,116,101,114]⟩)=false:=decide_eq_false hcn
 by_cases hst:k=kState
 · subst hst
   have q3:decide (kState=⟨#[115,116,97,116,101]⟩)=true:=decide_eq_true rfl
   simp (disch:=try exact DI) only [↓PR,QR,simprocAttr,op_ws0 b1 o1 _ cap1 i0,Nat.add_zero,c0,q1,q2,q3,↓n20c14,↓n20c13]
   exact rl_state h1 ha hs0 ht0 (by omega) (by omega) k1 k2 k3 hd hg hSw hk
 have q3:decide (k=⟨#[115,116,97,116,101]⟩)=false:=decide_eq_false hst
 by_cases hsp:k=kStep
 · subst hsp
   have q4:decide (kStep=⟨#[115,116,101,112]⟩)=true:=decide_eq_true rfl
   simp (disch:=try exact DI) only [↓PR,QR,simprocAttr,op_ws0 b1 o1 _ cap1 i0,Nat.add_zero,c0,q1,q2,q3,q4,↓n20c14,↓n20c13,↓n20c11]
   exact rl_step h1 ha hs0 ht0 (by omega) (by omega) k1 k2 k3 hd hg hSw hk
 have q4:decide (k=⟨#[115,116,101,112]⟩)=false:=decide_eq_false hsp
 rw [hd,goP_over ha (fun _=>hcn) (fun _=>hst) hsp] at hg
 simp (disch:=try exact DI) only [↓PR,QR,simprocAttr,op_ws0 b1 o1 _ cap1 i0,Nat.add_zero,c0,q1,q2,q3,q4,↓n20c14,↓n20c13,↓n20c11]
 exact rl_bad h1 (by omega) _ (refR_bad hg hd hr)
theorem rrole_lines (w0:World) (v:Value) (lines:List ByteArray) (hs:SliceOf w0 1 EStr v lines) (hne:lines≠[]) (hz:∀ x∈lines,x.size≤100000) (hl:lines.length≤100000):Ret Pg 54 #[v] w0 fun u w'=>(∃ x,u = .tuple #[x,.int .i64 (refR (lines.map spW)).2]∧RolOwn w' w0.heap.size x (refR (lines.map spW)).1)∧Ext w0 w':=by
 obtain ⟨b,o,cap,hW⟩:=ws_of hs hne
 have hv:=hW.val
 subst hv
 refine n20s (R:=retR _) ?_;unfold n20
 match lines,hne,hs,hz,hl,hW with
 | l0::rest,_,hs,hz,hl,hW =>
 have i0:0 < (l0::rest).length:=by simp
 have eW:Ext w0 (w0.alloc (.cells zR TRol)):=ee
 have h2:(w0.alloc (.cells zR TRol)).heap[w0.heap.size]?=some (.cells zR TRol (0,0)):=heap_new _ _ _
 have sW:(w0.alloc (.cells zR TRol)).heap.size=w0.heap.size+1:=Array.size_push ..
 have c0:(w0.alloc (.cells zR TRol)).cell? ⟨b,o,none⟩=some (.string l0):=(hW.ext eW).at_ 0 l0 rfl
 simp (disch:=try exact DI) only [↓PR,QR,simprocAttr,op_ws0 b o _ cap i0,Nat.add_zero,c0]
 change callK _ _ _ _ (w0.alloc (.cells zR TRol)) _
 generalize (w0.alloc (.cells zR TRol))=W at eW h2 sW c0 ⊢
 refine callK_ret (cut_ret W l0 32 (hz l0 (List.mem_cons_self ..))) ?_
 rintro u w1 ⟨hO,e1⟩
 have hSw:SliceOf w1 1 EStr u (cutW 32 l0):=OwnE.slice hO (fun _=>rfl) (fun _ _=>rfl)
 have E1:=eW.trans e1
 have s1:=e1.size
 replace h2:=e1.obj h2
 have hmap:(l0::rest).map spW=cutW 32 l0::rest.map spW:=by rw [List.map_cons,spW_cut]
 cases hc:cutW 32 l0 with
 | nil=>exact absurd hc (cutW_ne 32 l0)
 | cons k ws =>
 rw [hc] at hSw hmap
 obtain ⟨b1,o1,cap1,hV⟩:=ws_of hSw (by simp)
 obtain rfl:=hV.val
 have bad:¬ (k=kRole∧∃ x,ws=[x]∧nameB x=true)→∀ w2,Ext w1 w2→n20c19 (.pointer (some ⟨w0.heap.size,0,none⟩)) (RlR w0 ((l0::rest).map spW)) w2:=by
  intro hn w2 e2
  have hR:refR ((l0::rest).map spW)=(zeroR,-1):=by
   rw [hmap]
   exact refR_none (n:=0) (roleL_head k ws _ hn)
  have h2':=e2.obj h2
  unfold n20c19
  simp (disch:=try exact DI) only [↓PR,QR,simprocAttr,(cells_of_heap h2').1,(cells_of_heap h2').2]
  exact rl_fin (r:=zeroR) (base:=w0.heap.size+1) (Nat.le_refl _) (E1.trans e2) (by omega) (by omega) (OwnE.nil _ _ _ _ _) (OwnE.nil _ _ _ _ _) (OwnE.nil _ _ _ _ _) hR
 unfold n20c22
 by_cases hl2:ws.length=1
 case neg =>
  have d1:((((k::ws).length:Nat):Int) != 2)=true:=by simp only [bne_iff_ne,ne_eq,List.length_cons];omega
  simp (disch:=try exact DI) only [↓PR,QR,simprocAttr,d1,↓n20c21]
  exact bad (fun ⟨_,x,h,_⟩=>hl2 (by rw [h];rfl)) _ (Ext.refl _)
 match ws,hl2 with
 | [x],_ =>
 have d1:((((k::[x]).length:Nat):Int) != 2)=false:=rfl
 have j0:0 < (k::[x]).length:=by simp
 have j1:1 < (k::[x]).length:=by simp
 have ck:w1.cell? ⟨b1,o1,none⟩=some (.string k):=hV.at_ 0 k rfl
 have cx:=hV.at_ 1 x rfl
 by_cases hk:k=kRole
 case neg =>
  have q1:(!decide (k=⟨#[114,111,108,101]⟩))=true:=by simp [hk]
  simp (disch:=try exact DI) only [↓PR,QR,simprocAttr,d1,op_ws0 b1 o1 _ cap1 j0,Nat.add_zero,ck,q1,↓n20c21]
  exact bad (fun ⟨h,_⟩=>hk h) _ (Ext.refl _)
 subst hk
 have q1:decide (kRole=⟨#[114,111,108,101]⟩)=true:=decide_eq_true rfl
 simp (disch:=try exact DI) only [↓PR,QR,simprocAttr,d1,op_ws0 b1 o1 _ cap1 j0,Nat.add_zero,ck,q1,Bool.not_true,↓n20c21,op_ws1 b1 o1 _ cap1 j1,cx]
 refine zcr (rName_ret w1 x) fun w2 e2=>?_
 cases hn:nameB x with
 | false =>
  simp (disch:=try exact DI) only [↓PR,QR,simprocAttr,d1,q1,Bool.not_true]
  exact bad (fun ⟨_,y,h,h'⟩=>by injection h with h;rw [← h,hn] at h';cases h') _ e2
 | true =>
 have cx:=(hV.ext e2).at_ 1 x rfl
 simp (disch:=try exact DI) only [↓PR,QR,simprocAttr,d1,q1,Bool.not_true,↓n20c20,op_ws1 b1 o1 _ cap1 j1,cx]
 have eX:Ext w2 (w2.alloc (.cells (rolCells ⟨x,[],[],[]⟩ (.slice none 0 0) (.slice none 0 0) (.slice none 0 0)).toArray TRol)):=ee
 have h5:(w2.alloc (.cells (rolCells ⟨x,[],[],[]⟩ (.slice none 0 0) (.slice none 0 0) (.slice none 0 0)).toArray TRol)).heap[w2.heap.size]?=some (.cells (rolCells ⟨x,[],[],[]⟩ (.slice none 0 0) (.slice none 0 0) (.slice none 0 0)).toArray TRol (0,0)):=heap_new _ _ _
 have sX:(w2.alloc (.cells (rolCells ⟨x,[],[],[]⟩ (.slice none 0 0) (.slice none 0 0) (.slice none 0 0)).toArray TRol)).heap.size=w2.heap.size+1:=Array.size_push ..
 change loop2 _ _ _ (w2.alloc (.cells (rolCells ⟨x,[],[],[]⟩ (.slice none 0 0) (.slice none 0 0) (.slice none 0 0)).toArray TRol))
 generalize (w2.alloc (.cells (rolCells ⟨x,[],[],[]⟩ (.slice none 0 0) (.slice none 0 0) (.slice none 0 0)).toArray TRol))=X at eX h5 sX ⊢
 have s2:=e2.size
 have EX:=(E1.trans e2).trans eX
 have hLS:LS w0 X X.heap.size w0.heap.size w2.heap.size X.heap.size X.heap.size ⟨x,[],[],[]⟩ (.slice none 0 0) (.slice none 0 0) (.slice none 0 0) :=
  ⟨EX,eX.obj (e2.obj h2),h5,OwnE.nil _ _ _ _ _,fun b hb=>(by cases hb),OwnE.nil _ _ _ _ _,fun b hb=>(by cases hb),OwnE.nil _ _ _ _ _,Nat.le_refl _,Nat.le_refl _,Nat.le_refl _,by omega,by omega,by omega,Nat.le_refl _,by omega⟩
 have hrl:=rl_loop (w:=X) (base:=X.heap.size) (p2:=w0.heap.size) (p5:=w2.heap.size) hz hl hW ⟨0,1,_,_,_,_,_,_,rfl,rfl,hLS,⟨by omega,fun _=>rfl,fun _=>rfl⟩,fun _=>rfl,fun _=>rfl,by simp,by simp,by simp,by simp,by rw [hmap,roleL_good _ hn,List.drop_succ_cons,List.drop_zero,goP_0]⟩
 exact hrl
theorem stepsP_ge (nm:ByteArray) (cs:List CntD) (ss:List StaD) (L:List (List ByteArray)) (n:Nat):n≤(stepsP nm cs ss L n).2:=by unfold stepsP;simp
theorem statesP_ge (nm:ByteArray) (cs:List CntD) (L:List (List ByteArray)) (n:Nat):n≤(statesP nm cs L n).2:=by
 unfold statesP
 split
 · simp
 · exact Nat.le_trans (Nat.le_add_right _ _) (stepsP_ge ..)
theorem countersP_ge (nm:ByteArray) (L:List (List ByteArray)) (n:Nat):n≤(countersP nm L n).2:=by
 unfold countersP
 split
 · simp
 · exact Nat.le_trans (Nat.le_add_right _ _) (statesP_ge ..)
theorem roleP_ge (L:List (List ByteArray)):1≤(roleP L).2:=by
 unfold roleP
 split
 · split
   · split
     · exact Nat.le_refl _
     · exact countersP_ge ..
   · exact Nat.le_refl _
 · exact Nat.le_refl _
theorem parse_ref (text:ByteArray):parseP text=if (refR (linesT text)).2 < 0 then (zeroR,-(refR (linesT text)).2,6) else if (refR (linesT text)).2 < (linesT text).length then (zeroR,(refR (linesT text)).2+1,6) else if (checkR (refR (linesT text)).1).2=0 then ((refR (linesT text)).1,0,0) else (zeroR,0,(checkR (refR (linesT text)).1).2):=by
 unfold parseP
 generalize linesT text=L
 have hge:=roleP_ge L
 cases h:roleP L with
 | mk o n =>
  rw [h] at hge
  cases o with
  | none =>
   have hr:refR L=(zeroR,-(n:Int)):=by unfold refR;rw [h]
   simp only [hr]
   rw [if_pos (by omega),Int.neg_neg]
  | some r =>
   have hn:=(roleP_read h).2.2.2.2.2
   by_cases hlt:n < L.length
   · cases hd:L.drop n with
     | nil=>rw [List.drop_eq_nil_iff] at hd;omega
     | cons x t =>
      by_cases hx:x.head?=some kRole
      · have hr:refR L=(r,(n:Int)):=by unfold refR;rw [h];simp only [hd];rw [if_pos hx]
        simp only [hr]
        rw [if_pos hlt,if_neg (by omega),if_pos (by omega)]
        rfl
      · have hr:refR L=(zeroR,-((n:Int)+1)):=by unfold refR;rw [h];simp only [hd];rw [if_neg hx]
        simp only [hr]
        rw [if_pos hlt,if_pos (by omega),Int.neg_neg]
        rfl
   · obtain rfl:n=L.length:=by omega
     have hr:=refR_end h
     simp only [hr]
     rw [if_neg hlt,if_neg (show ¬ ((L.length:Int) < 0) by omega)]
     by_cases hc:(checkR r).2=0
     · rw [if_pos hc,if_neg (show ¬ ((L.length:Int) < (L.length:Int)) by omega)]
     · rw [if_neg hc,if_neg (show ¬ ((L.length:Int) < (L.length:Int)) by omega)]
theorem stepsP_le (nm:ByteArray) (cs:List CntD) (ss:List StaD) (L:List (List ByteArray)) (n:Nat):(stepsP nm cs ss L n).2≤n+L.length:=by
 unfold stepsP
 exact Nat.add_le_add_left (many_le L) n
theorem statesP_le (nm:ByteArray) (cs:List CntD) (L:List (List ByteArray)) (n:Nat):(statesP nm cs L n).2≤n+L.length:=by
 unfold statesP
 have hm:=many_le (kw:=kState) (p:=staP) L
 cases h:manyP kState staP L with
 | mk o k =>
  rw [h] at hm
  cases o with
  | none=>exact Nat.add_le_add_left hm n
  | some l =>
   have:=stepsP_le nm cs l (L.drop k) (n+k)
   rw [List.length_drop] at this
   simp only at hm ⊢
   omega
theorem countersP_le (nm:ByteArray) (L:List (List ByteArray)) (n:Nat):(countersP nm L n).2≤n+L.length:=by
 unfold countersP
 have hm:=many_le (kw:=kCounter) (p:=cntP) L
 cases h:manyP kCounter cntP L with
 | mk o k =>
  rw [h] at hm
  cases o with
  | none=>exact Nat.add_le_add_left hm n
  | some l =>
   have:=statesP_le nm l (L.drop k) (n+k)
   rw [List.length_drop] at this
   simp only at hm ⊢
   omega
theorem roleP_le (L:List (List ByteArray)):(roleP L).2≤L.length+1:=by
 unfold roleP
 split
 · split
   · split
     · simp
     · exact Nat.le_trans (countersP_le ..) (by simp;omega)
   · simp
 · simp
theorem refR_num (L:List (List ByteArray)) : -(L.length:Int) - 2≤(refR L).2∧(refR L).2≤(L.length:Int)+1:=by
 have h1:=roleP_le L
 unfold refR
 cases h:roleP L with
 | mk o n =>
  rw [h] at h1
  cases o with
  | none=>simp only at h1 ⊢;omega
  | some r =>
   simp only at h1 ⊢
   split
   · simp only;omega
   · split<;>simp only<;>omega
theorem refR_few (L:List (List ByteArray)):(refR L).1.counters.length≤L.length∧(refR L).1.states.length≤L.length∧(refR L).1.steps.length≤L.length:=by
 have hz:zeroR.counters.length≤L.length∧zeroR.states.length≤L.length∧zeroR.steps.length≤L.length:=⟨Nat.zero_le _,Nat.zero_le _,Nat.zero_le _⟩
 unfold refR
 cases h:roleP L with
 | mk o n =>
  cases o with
  | none=>exact hz
  | some r =>
   have hr:=roleP_read h
   have hr':r.counters.length≤L.length∧r.states.length≤L.length∧r.steps.length≤L.length:=⟨hr.2.1,hr.2.2.1,hr.2.2.2.1⟩
   simp only
   split
   · exact hr'
   · split
     · exact hr'
     · exact hz
abbrev FinP (w0:World) (text:ByteArray) (cs:List Value) (a c:Int) (V:World):Prop:=(∃ x,Value.tuple #[.agg cs.toArray,.int .i64 a,.int .i64 c] = .tuple #[x,.int .i64 (parseP text).2.1,.int .i64 (parseP text).2.2]∧RolOwn V w0.heap.size x (parseP text).1)∧Ext w0 V
theorem prs_fin {w0 w:World} {text:ByteArray} {p2 base:Nat} {r:RolD} {sv cv tv:Value} {a c:Int} (l2:w0.heap.size≤p2) (e:Ext w0 w) (hp:p2 < base) (hs:OwnE w base 50 3 staCells sv r.states) (hc:OwnE w base 52 2 cntCells cv r.counters) (ht:OwnE w base 71 9 stpCells tv r.steps) (hR:parseP text=(r,a,c)) :
 FinP w0 text (rolCells r sv cv tv) a c (setCells w p2 0 (rolCells r sv cv tv)):=by
 have eV:Ext w0 (setCells w p2 0 (rolCells r sv cv tv)):=setCells_ext _ _ _ _ e l2
 have hk:∀ b,base≤b→(setCells w p2 0 (rolCells r sv cv tv)).heap[b]?=w.heap[b]?:=fun b hb=>setCells_only _ _ _ b (by omega)
 have hb:w0.heap.size≤base:=by omega
 generalize setCells w p2 0 (rolCells r sv cv tv)=V at eV hk ⊢
 refine ⟨⟨_,by rw [hR],sv,cv,tv,by rw [hR],?_,?_,?_⟩,eV⟩<;>rw [hR]
 · exact (OwnE.keep hs fun b hb=>hk b (World.ownsRow.lt hs b hb).1).base hb
 · exact (OwnE.keep hc fun b hb=>hk b (World.ownsRow.lt hc b hb).1).base hb
 · exact (OwnE.keep ht fun b hb=>hk b (World.ownsRow.lt ht b hb).1).base hb
theorem prs_zero {w0 w:World} {text:ByteArray} {p2:Nat} {a c:Int} (l2:w0.heap.size≤p2) (e:Ext w0 w) (hR:parseP text=(zeroR,a,c)):FinP w0 text (rolCells zeroR (.slice none 0 0) (.slice none 0 0) (.slice none 0 0)) a c (setCells w p2 0 (rolCells zeroR (.slice none 0 0) (.slice none 0 0) (.slice none 0 0))) :=
 prs_fin (r:=zeroR) (base:=p2+1) l2 e (by omega) (OwnE.nil _ _ _ _ _) (OwnE.nil _ _ _ _ _) (OwnE.nil _ _ _ _ _) hR
theorem rParse_ret (w0:World) (text:ByteArray) (hz:text.size≤90000):Ret Pg 20 #[.string text] w0 fun u w'=>(∃ v,u = .tuple #[v,.int .i64 (parseP text).2.1,.int .i64 (parseP text).2.2]∧RolOwn w' w0.heap.size v (parseP text).1)∧Ext w0 w':=by
 refine n13s (R:=retR _) ?_;unfold n13
 simp (disch:=try exact DI) only [↓PR,QR,simprocAttr]
 have eW:Ext w0 (w0.alloc (.cells zR TRol)):=ee
 have h2:(w0.alloc (.cells zR TRol)).heap[w0.heap.size]?=some (.cells zR TRol (0,0)):=heap_new _ _ _
 have sW:(w0.alloc (.cells zR TRol)).heap.size=w0.heap.size+1:=Array.size_push ..
 change callK _ _ _ _ (w0.alloc (.cells zR TRol)) _
 generalize (w0.alloc (.cells zR TRol))=W at eW h2 sW ⊢
 refine callK_ret (cut_ret W text 10 (by omega)) ?_
 rintro u w1 ⟨hO,e1⟩
 have hSl:SliceOf w1 1 EStr u (cutW 10 text):=OwnE.slice hO (fun _=>rfl) (fun _ _=>rfl)
 have hsm:=lines_small text
 have hsub:∀ x∈cutW 10 text,x.size≤100000:=fun x hx=>by have:=hsm.2 x hx;omega
 have hlen:(cutW 10 text).length≤100000:=by have:=hsm.1;omega
 refine callK_ret (rrole_lines w1 u _ hSl (cutW_ne 10 text) hsub hlen) ?_
 have hLT:(cutW 10 text).map spW=linesT text:=rfl
 rw [hLT]
 have hfew:=refR_few (linesT text)
 have hnum:=refR_num (linesT text)
 have hpar:=parse_ref text
 have hll:(linesT text).length=(cutW 10 text).length:=List.length_map ..
 generalize refR (linesT text)=q at hfew hpar hnum ⊢
 rintro _ w2 ⟨⟨x,rfl,hR⟩,e2⟩
 obtain ⟨sv,cv,tv,rfl,o1,o2,o3⟩:=hR
 have E1:=eW.trans e1
 have E2:=E1.trans e2
 replace h2:=e2.obj (e1.obj h2)
 obtain ⟨A,cp,rfl,_⟩:=SliceOf.open hSl
 have s1:=e1.size
 have s2:=e2.size
 have ov1:=own_one o1 fun _=>rfl
 have ov2:=own_one o2 fun _=>rfl
 have ov3:=own_one o3 fun _=>rfl
 have h6:(w2.alloc (.cells (rolCells q.1 sv cv tv).toArray TRol)).heap[w2.heap.size]?=some (.cells (rolCells q.1 sv cv tv).toArray TRol (0,0)):=heap_new _ _ _
 have eX:Ext w2 (w2.alloc (.cells (rolCells q.1 sv cv tv).toArray TRol)):=ee
 by_cases hn:q.2 < 0
 · have d1:decide (q.2 < 0)=true:=decide_eq_true hn
   rw [if_pos hn] at hpar
   have hw:IntKind.i64.wrap (0 - q.2) = -q.2:=by rw [wrap_ok (by omega) (by omega)];omega
   simp (disch:=try exact DI) only [↓PR,QR,simprocAttr,↓n13c7,d1]
   change n13c5 _ _ _ (w2.alloc (.cells (rolCells q.1 sv cv tv).toArray TRol))
   generalize (w2.alloc (.cells (rolCells q.1 sv cv tv).toArray TRol))=X at h6 eX ⊢
   have h2X:=eX.obj h2
   simp (disch:=try exact DI) only [↓PR,QR,simprocAttr,↓n13c5,hw,(cells_of_heap h2X).1,(cells_of_heap h2X).2]
   exact prs_zero (Nat.le_refl _) (E2.trans eX) hpar
 have d1:decide (q.2 < 0)=false:=decide_eq_false hn
 rw [if_neg hn] at hpar
 by_cases hn2:q.2 < ((cutW 10 text).length:Int)
 · have d2:decide (q.2 < ((cutW 10 text).length:Int))=true:=decide_eq_true hn2
   rw [if_pos (by rw [hll];exact hn2)] at hpar
   have hw:IntKind.i64.wrap (q.2+1)=q.2+1:=wrap_ok (by omega) (by omega)
   simp (disch:=try exact DI) only [↓PR,QR,simprocAttr,↓n13c7,d1]
   change n13c6 _ _ _ _ _ (w2.alloc (.cells (rolCells q.1 sv cv tv).toArray TRol))
   generalize (w2.alloc (.cells (rolCells q.1 sv cv tv).toArray TRol))=X at h6 eX ⊢
   have h2X:=eX.obj h2
   simp (disch:=try exact DI) only [↓PR,QR,simprocAttr,↓n13c6,d2,↓n13c4,hw,(cells_of_heap h2X).1,(cells_of_heap h2X).2]
   exact prs_zero (Nat.le_refl _) (E2.trans eX) hpar
 have d2:decide (q.2 < ((cutW 10 text).length:Int))=false:=decide_eq_false hn2
 rw [if_neg (by rw [hll];exact hn2)] at hpar
 simp (disch:=try exact DI) only [↓PR,QR,simprocAttr,↓n13c7,d1]
 change n13c6 _ _ _ _ _ (w2.alloc (.cells (rolCells q.1 sv cv tv).toArray TRol))
 have sX:(w2.alloc (.cells (rolCells q.1 sv cv tv).toArray TRol)).heap.size=w2.heap.size+1:=Array.size_push ..
 generalize (w2.alloc (.cells (rolCells q.1 sv cv tv).toArray TRol))=X at h6 eX sX ⊢
 have EX:=E2.trans eX
 simp (disch:=try exact DI) only [↓PR,QR,simprocAttr,↓n13c6,d2,(cells_of_heap h6).1]
 have hRX:RolOwn X w1.heap.size (.agg (rolCells q.1 sv cv tv).toArray) q.1:=⟨sv,cv,tv,rfl,o1.ext eX,o2.ext eX,o3.ext eX⟩
 refine zcr (rCheck_ret X _ q.1 hRX.val ⟨by omega,by omega,by omega⟩) fun w3 e3=>?_
 have E3:=EX.trans e3
 have h2X:=e3.obj (eX.obj h2)
 have h6X:=e3.obj h6
 have e23:=eX.trans e3
 by_cases hc:(checkR q.1).2=0
 · have d3:((checkR q.1).2 != 0)=false:=by simp [hc]
   rw [if_pos hc] at hpar
   simp (disch:=try exact DI) only [↓PR,QR,simprocAttr,↓n13c3,d3,↓n13c2,(cells_of_heap h6X).1,(cells_of_heap h2X).1,(cells_of_heap h2X).2]
   exact prs_fin (base:=w1.heap.size) (Nat.le_refl _) E3 (by omega) (o1.ext e23) (o2.ext e23) (o3.ext e23) hpar
 · have d3:((checkR q.1).2 != 0)=true:=by simp [hc]
   rw [if_neg hc] at hpar
   simp (disch:=try exact DI) only [↓PR,QR,simprocAttr,↓n13c3,d3,↓n13c1,(cells_of_heap h2X).1,(cells_of_heap h2X).2]
   exact prs_zero (Nat.le_refl _) E3 hpar
theorem RoleParses_ret (w0:World) (text:ByteArray) (hE:EnvOK w0):Ret Pg 5 #[.string text] w0 fun u w'=>u = .bool true∧Ext w0 w':=by
 refine n7s (R:=retR _) ?_;unfold n7
 by_cases hz:text.size > 3000
 · have d1:decide ((text.size:Int) > 3000)=true:=decide_eq_true (by omega)
   simp (disch:=try exact DI) only [↓PR,QR,simprocAttr,d1]
   refine zcr (known_ret w0 hE) fun w1 e1=>?_
   exact ⟨_,rfl,rfl,e1⟩
 have d1:decide ((text.size:Int) > 3000)=false:=decide_eq_false (by omega)
 simp (disch:=try exact DI) only [↓PR,QR,simprocAttr,d1]
 refine callK_ret (Parse_ret (w0:=w0) (text:=text) hE (by omega)) ?_
 rintro _ w1 ⟨⟨v,rfl,hR⟩,e1⟩
 obtain ⟨sv,cv,tv,rfl,o1,o2,o3⟩:=hR
 have ov1:=own_one o1 fun _=>rfl
 have ov2:=own_one o2 fun _=>rfl
 have ov3:=own_one o3 fun _=>rfl
 have eX:Ext w1 (w1.alloc (.cells (rolCells (parseP text).1 sv cv tv).toArray TRol)):=ee
 have hX:(w1.alloc (.cells (rolCells (parseP text).1 sv cv tv).toArray TRol)).heap[w1.heap.size]?=some (.cells (rolCells (parseP text).1 sv cv tv).toArray TRol (0,0)):=heap_new _ _ _
 simp (disch:=try exact DI) only [↓PR,QR,simprocAttr,↓n7c5]
 change callK _ _ _ _ (w1.alloc (.cells (rolCells (parseP text).1 sv cv tv).toArray TRol)) _
 generalize (w1.alloc (.cells (rolCells (parseP text).1 sv cv tv).toArray TRol))=X at eX hX ⊢
 refine callK_ret (rParse_ret X text (by omega)) ?_
 rintro _ w2 ⟨⟨v,rfl,hR⟩,e2⟩
 obtain ⟨sv',cv',tv',rfl,p1,p2,p3⟩:=hR
 have ow1:=own_one p1 fun _=>rfl
 have ow2:=own_one p2 fun _=>rfl
 have ow3:=own_one p3 fun _=>rfl
 have eY:Ext w2 (w2.alloc (.cells (rolCells (parseP text).1 sv' cv' tv').toArray TRol)):=ee
 have hY:(w2.alloc (.cells (rolCells (parseP text).1 sv' cv' tv').toArray TRol)).heap[w2.heap.size]?=some (.cells (rolCells (parseP text).1 sv' cv' tv').toArray TRol (0,0)):=heap_new _ _ _
 have hXY:=(cells_of_heap (eY.obj (e2.obj hX))).1
 have hYY:=(cells_of_heap hY).1
 simp (disch:=try exact DI) only [↓PR,QR,simprocAttr,↓n7c4,hXY,hYY]
 change callK _ _ _ _ (w2.alloc (.cells (rolCells (parseP text).1 sv' cv' tv').toArray TRol)) _
 generalize (w2.alloc (.cells (rolCells (parseP text).1 sv' cv' tv').toArray TRol))=Y at eY hY ⊢
 have e1Y:=(eX.trans e2).trans eY
 have EY:=e1.trans e1Y
 refine zcr (rSame_ret Y _ _ (parseP text).1 (parseP text).1 (RolOwn.val (base:=0) ⟨sv,cv,tv,rfl,(o1.ext e1Y).base (Nat.zero_le _),(o2.ext e1Y).base (Nat.zero_le _),(o3.ext e1Y).base (Nat.zero_le _)⟩) (RolOwn.val (base:=0) ⟨sv',cv',tv',rfl,(p1.ext eY).base (Nat.zero_le _),(p2.ext eY).base (Nat.zero_le _),(p3.ext eY).base (Nat.zero_le _)⟩)) fun w3 e3=>?_
 have E3:=EY.trans e3
 have q1:decide ((parseP text).1=(parseP text).1)=true:=decide_eq_true rfl
 have q2:((parseP text).2.1 == (parseP text).2.1)=true:=by simp
 have q3:((parseP text).2.2 == (parseP text).2.2)=true:=by simp
 simp (disch:=try exact DI) only [↓PR,QR,simprocAttr,q1,q2,↓n7c3,↓n7c2]
 refine callK_ret (num_ret w3 _) ?_
 rintro _ w4' ⟨rfl,hw4⟩
 rw [hw4]
 clear hw4 w4'
 simp (disch:=try exact DI) only [↓PR,QR,simprocAttr,q1,q2,q3,↓n7c1]
 refine zcr (known_ret w3 (hE.ext E3)) fun w5 e5=>?_
 simp (disch:=try exact DI) only [↓PR,QR,simprocAttr,q1,q2,q3]
 exact ⟨by trivial,E3.trans e5⟩
end Go.Proofs.YtngflmjncplkaaaGreatDoor
namespace Go.Proofs.YtngflmjncplkaaaGreatDoor
open Sw
open Go.RowKit Go.Deep
def role_laid:List (String×DataW Unit):=[("math/bits.deBruijn32tab", Rows.laid_math_bits_deBruijn32tab),("math/bits.deBruijn64tab", Rows.laid_math_bits_deBruijn64tab),("internal/strconv.uint64pow10", Rows.laid_internal_strconv_uint64pow10),("unicode/utf8.acceptRanges", Rows.laid_unicode_utf8_acceptRanges),("strconv.ErrRange", Rows.laid_strconv_ErrRange),("strconv.ErrSyntax", Rows.laid_strconv_ErrSyntax),("unicode/utf8.first", Rows.laid_unicode_utf8_first)]
theorem role_own:ownKnob Pg.godebug=none:=by kernel_rfl
theorem role_laidOut:laidOutB Pg=true:=by kernel_rfl
theorem role_met (os:Os) (args:Array Value):laidMetH Pg role_laid ((World.laidAll Pg os role_laid).forCall (fun _ _=>0) ⟨#[],args,[]⟩).memory:=by
 rw [MakeChecks.laidMetH_plain _ _ _ (by kernel_rfl)]
 exact laidMet_laidAll _ (by kernel_rfl) (by kernel_rfl)
theorem role_tab {W:World} (h:laidMetH Pg role_laid W):TabOK W:=by
 rw [MakeChecks.laidMetH_plain _ _ _ (by kernel_rfl)] at h
 have h3:=laidMet.tail (laidMet.tail h)
 have he:(Rows.laid_internal_strconv_uint64pow10:DataW Unit)=Go.Lib.tabData .u64 Go.Lib.pow10Tab:=by kernel_rfl
 rw [he] at h3
 obtain ⟨g,hg⟩:=Option.isSome_iff_exists.1 gPow
 have hty:(Pg.globals[g]?).map (·.type)=some 197:=by
  have h1:(Pg.globalNamed "internal/strconv.uint64pow10").bind (fun g=>(Pg.globals[g]?).map (·.type))=some 197:=by kernel_rfl
  rw [hg] at h1
  exact h1
 exact Go.Lib.tabIs_of_head hg hty Tryz.underlying197 Tryz.underlying161 (by kernel_rfl) (by kernel_rfl) h3
theorem role_star : "*" ++ "errors.errorString" = "*errors.errorString" := by decide
theorem role_rowErr (u:TypeId) (h:Pg.typeName? 3 u=some "*errors.errorString"):u=200 :=
 typeName_ptr_named (nm := "errors.errorString") (by rw [role_star];kernel_rfl) (by kernel_rfl) (by decide) u (by rw [role_star];exact h)
theorem role_env {W:World} (hs:W.ShapedOpen Pg) (h:laidMetH Pg role_laid W):EnvOK W:=by
 refine ⟨role_tab h,Go.Proofs.cell_of_shapedOpen_int (k := .i64) hs (of_decide_eq_true (by kernel_rfl)) (zero := #[.int .i64 0]) (t:=3) (by kernel_rfl) rfl (by kernel_rfl) (by kernel_rfl) Tryz.underlying3,?_,?_⟩
 · rw [MakeChecks.laidMetH_plain _ _ _ (by kernel_rfl)] at h
   have h5:=h.tail.tail.tail.tail.tail
   obtain ⟨a,s,hv,_⟩:=laid_sentinel (g:=1) h5 (by kernel_rfl) (by kernel_rfl) Tryz.underlying130 role_rowErr Tryz.underlying200 Tryz.underlying202 rfl rfl Tryz.underlying9 (by kernel_rfl) (by kernel_rfl)
   refine ⟨_,by rw [World.var?_cell (show Pg.globalNamed "strconv.ErrSyntax" = some 1 by kernel_rfl) hv 0];rfl,.inr ⟨_,_,rfl⟩⟩
 · rw [MakeChecks.laidMetH_plain _ _ _ (by kernel_rfl)] at h
   have h5:=h.tail.tail.tail.tail
   obtain ⟨a,s,hv,_⟩:=laid_sentinel (g:=2) h5 (by kernel_rfl) (by kernel_rfl) Tryz.underlying130 role_rowErr Tryz.underlying200 Tryz.underlying202 rfl rfl Tryz.underlying9 (by kernel_rfl) (by kernel_rfl)
   refine ⟨_,by rw [World.var?_cell (show Pg.globalNamed "strconv.ErrRange" = some 2 by kernel_rfl) hv 0];rfl,.inr ⟨_,_,rfl⟩⟩
theorem handed_and {H:Type} {enc:TypeId×Value→H} {a:Assume} {C:Checked} {os:Os} {f:FuncId} {fn:Func} {s:ChangeSpec} {conds:List PathCond} {apart fresh handsOn again:Bool} {X:World→Array Value→Prop}
 (hX:∀ (w w':World) (args:Array Value),w.heap=w'.heap→X w args→X w' args)
 (own:ownKnob C.prog.godebug=none) (started:os.Started) (noInit:C.prog.inits.idxOf? f=none) (hfn:C.prog.funcs[f]?=some fn)
 (witness:∃ (w:World) (tape:Tape) (i:Input),w.os=os∧(w.forCall tape i).Shaped C.prog∧i.vars=[]∧Input.okWide C.prog (w.forCall tape i) .any w.heap.size f i ∧
  ((s.pre enc C.prog fn conds apart (w.forCall tape i).memory i.args∧X (w.forCall tape i).memory i.args)∧sizedMet enc C.prog fn (OpenSpec.ofChange s) apart (w.forCall tape i).memory i.args)∧a.holds C.prog (lone (Frame.enter C.prog f i.args .normal) [] (w.forCall tape i)))
 (contract:∀ (W:World) (base:Nat) (args:Array Value) (ds gs:List (DataW H)) (before:List MemPlace),
  (∀ (j:Nat) t v,fn.params[j]?=some t→args[j]?=some v→Value.okWide C.prog W .any base t v) →
  DataW.Whole enc C.prog fn.params.toList s.vars apart W args.toList ds gs before →
  conds.all (PathCond.test C.prog ⟨fn.params.toList,ds,s.plain.varTypes C.prog,gs⟩)=true →
  (DataW.weightsEach C.prog (fn.params.toList++s.plain.varTypes C.prog) (ds++gs)).all (· ≤ reachBytes)=true→X W args→W.ShapedOpen C.prog →
  a.holds C.prog (lone (Frame.enter C.prog f args .normal) [] W) →
  Calls C.prog f args W fun e W'=>∃ v,e = .returned v∧s.post enc C.prog fn apart fresh handsOn again W args v W') :
 ReturnsInHanded a C os f .any (fun w args=>(s.pre enc C.prog fn conds apart w args∧X w args)∧sizedMet enc C.prog fn (OpenSpec.ofChange s) apart w args) (s.post enc C.prog fn apart fresh handsOn again):=by
 refine returnsInHanded_of_calls own started noInit witness ?_
 intro w tape i _ hsh _ hok hpre hholds
 obtain ⟨_,_,_,fn',hfn',_,_,_,_,hval⟩:=hok
 have e:fn'=fn:=Option.some.inj (hfn'.symm.trans hfn)
 subst e
 obtain ⟨⟨⟨ds,gs,before,hw,hc⟩,hx⟩,hz⟩:=hpre
 have hw':=DataW.Whole.of_heap (w':=w.forCall tape i) (by rfl) hw
 refine (contract (w.forCall tape i) w.heap.size i.args ds gs before hval hw' hc (hz.weights hw) (hX _ _ _ (by rfl) hx) hsh hholds).mono fun e W' ⟨v,he,hp⟩=>?_
 subst he
 exact ChangeSpec.post_blind hp
end Go.Proofs.YtngflmjncplkaaaGreatDoor
namespace Go.Proofs.YtngflmjncplkaaaGreatDoor
open Sw
open Go.ChangeShapes Go.WideShapes Go.RowKit Go.ChangeAt Go.Deep
theorem rparses_lifted (os:Os) (started:os.Started) (H:Type) (enc:TypeId×Value→H) :
 ReturnsInHanded {} Tryz.checked os 5 .any (fun w args=>(Rows.roleParsesSpec.pre enc Pg Tryz.f5 Rows.roleParsesRow.domain false w args∧laidMetH Pg role_laid w)∧sizedMet enc Pg Tryz.f5 (OpenSpec.ofChange Rows.roleParsesSpec) false w args) (Rows.roleParsesSpec.post enc Pg Tryz.f5 false true false false):=by
 refine handed_and (C:=Tryz.checked) (X:=fun w _=>laidMetH Pg role_laid w) (fun _ _ _ hh h=>h.of_heap hh) role_own started (by kernel_rfl) Tryz.func5
  (ChangeSpec.witness_shaped (enc:=enc) (C:=Tryz.checked) (os:=os) (X:=fun w _=>laidMetH Pg role_laid w) false (World.laidAll Pg os role_laid) #[.string ByteArray.empty] 8 (World.laidAll_os _ _ _) (World.shaped_of_ZipB (by kernel_rfl) (by kernel_rfl)) (by kernel_rfl) (by kernel_rfl) (by kernel_rfl) (role_met os _)) ?_
 intro W base args ds gs before hval hW _ hsz hL hsh _
 have hW':=hW
 obtain ⟨p,q,hA0,hV,rfl,_,_⟩:=hW
 have hA:DataW.TrodAll enc Pg W 0 (fun _=>true) true Tryz.f5.params.toList args.toList ds p:=hA0
 rw [Tryz.params5] at hA hval hsz
 obtain ⟨v0,vs0,d0,ds0,p0,q0,ha0,rfl,rfl,h0,r0⟩:=trodAll_cons hA
 obtain ⟨rfl,rfl,rfl⟩:=trodAll_nil r0
 obtain rfl:args = #[v0]:=by cases args;simp_all
 obtain ⟨s0,rfl,_⟩:=open_str Tryz.underlying9 (hval 0 _ v0 rfl rfl) h0
 refine Calls.mono (RoleParses_ret W s0 (role_env hsh hL)) fun e W' ⟨v,he,hv,hx⟩=>?_
 subst he hv
 exact ⟨_,rfl,law_post role_laidOut (by decide +kernel) rfl hW' hx rfl Tryz.underlying4 rfl rfl rfl⟩
theorem rparses_holds:Rows.RoleParsesSaid :=
 OpenClaim.holds_of_wide 5 Tryz.f5 rfl rfl rfl rfl rfl rfl rfl ⟨rfl,rfl,rfl,rfl,rfl⟩ rfl rfl rfl rfl rfl (by kernel_rfl) Tryz.func5 (by kernel_rfl)
  (of_decide_eq_true (by kernel_rfl)) (by unfold Func.isWrapper;first | (rw [if_pos (by decide +kernel)];kernel_rfl) | (rw [if_neg (by decide +kernel)];exact ⟨rfl,rfl⟩))
  (fun os started H enc _=>rparses_lifted os started H enc)
theorem rparses_card:Rows.RoleParsesCardSaid :=
 Claim7.holds_tied_plain_at .later [] [.data,.data,.data,.data,.sentinel,.sentinel,.pinned] true (true, "805d62ceadf1c0eaaccbbc96f2703f3718560c4f9884483faf4dfcc0b7041b30") true
  rparses_holds (fun _ h=>by cases h) (by kernel_rfl) (fun _ h=>by cases h) roleParses_row_tie rfl ⟨rfl,rfl⟩ (by kernel_rfl) rfl
  (fun f fn hf hfn=>by
   obtain rfl:f=5:=Option.some.inj ((show Pg.funcNamed "phrasebook/phrasebooklaw28.RoleParses" = some 5 by kernel_rfl).symm.trans hf) |>.symm
   obtain rfl:fn=Tryz.f5:=(Option.some.inj (Tryz.func5.symm.trans hfn)).symm
   exact ⟨by kernel_rfl,fun j t ht=>by
    rw [Tryz.params5] at ht
    have hm:t∈[9]:=by simpa using Array.mem_of_getElem? ht
    have hall:([9].all fun u=>!Pg.wantsStandIn u)=true:=by kernel_rfl
    exact (show Pg.wantsStandIn t=false by simpa using List.all_eq_true.1 hall t hm)⟩)
  (by kernel_rfl)
end Go.Proofs.YtngflmjncplkaaaGreatDoor
