/-
  Lemmas for the claim.
-/
import Derived.Test.YtngflmjncplkaaaGreatDoorUe2
set_option linter.all false
set_option maxHeartbeats 4000000
set_option maxRecDepth 100000
namespace Go.Proofs.YtngflmjncplkaaaGreatDoor
open Sw
def n47c1 (t5 t102 t106:Value) (R:RT) (w:World):Prop :=
 pickK t102 t106 (.bool false) fun t107 =>
 joinK (fun (t111:Value) (w:World) =>
 pickK t107 t111 (.bool false) fun t112 =>
 R (.returned t112) w) fun K18 =>
 guardP t107 true (
 opV Pg (Instr.fieldAt 71 t5 8) (panK R) w fun t109 w =>
 opV Pg (Instr.loadAt 3 t109) (panK R) w fun t110 w =>
 opV Pg (binS .eql 3 true t110 (.int .i64 0)) (panK R) w fun t111 w =>
 K18 t111 w) (
 K18 undef w)
def n47c2 (t5 t142 t146 t153:Value) (R:RT) (w:World):Prop :=
 pickK t146 t153 (.bool false) fun t154 =>
 joinK (fun (t162:Value) (w:World) =>
 pickK t154 t162 (.bool false) fun t163 =>
 R (.returned t163) w) fun K24 =>
 guardP t154 true (
 opV Pg (Instr.fieldAt 71 t5 7) (panK R) w fun t156 w =>
 opV Pg (Instr.loadAt 3 t156) (panK R) w fun t157 w =>
 opV Pg (Instr.fieldAt 71 t5 8) (panK R) w fun t158 w =>
 opV Pg (Instr.loadAt 3 t158) (panK R) w fun t159 w =>
 opV Pg (binS .add 3 false t157 t159) (panK R) w fun t160 w =>
 opV Pg (binS .leq 3 false t160 t142) (panK R) w fun t162 w =>
 K24 t162 w) (
 K24 undef w)
def n47c3 (t2 t5 t30:Value) (R:RT) (w:World):Prop :=
 opV Pg (Instr.fieldAt 26 t2 2) (panK R) w fun t137 w =>
 opV Pg (Instr.loadAt 23 t137) (panK R) w fun t138 w =>
 opV Pg (Instr.indexAt 23 t138 t30) (panK R) w fun t140 w =>
 opV Pg (Instr.fieldAt 52 t140 1) (panK R) w fun t141 w =>
 opV Pg (Instr.loadAt 3 t141) (panK R) w fun t142 w =>
 opV Pg (Instr.fieldAt 71 t5 7) (panK R) w fun t143 w =>
 opV Pg (Instr.loadAt 3 t143) (panK R) w fun t144 w =>
 opV Pg (binS .leq 3 false t144 t142) (panK R) w fun t146 w =>
 joinK (fun (t153:Value) (w:World) =>
 n47c2 t5 t142 t146 t153 R w) fun K23 =>
 guardP t146 true (
 opV Pg (Instr.fieldAt 71 t5 6) (panK R) w fun t148 w =>
 opV Pg (Instr.loadAt 3 t148) (panK R) w fun t149 w =>
 opV Pg (Instr.fieldAt 71 t5 8) (panK R) w fun t150 w =>
 opV Pg (Instr.loadAt 3 t150) (panK R) w fun t151 w =>
 opV Pg (binS .add 3 false t149 t151) (panK R) w fun t152 w =>
 opV Pg (binS .geq 3 true t152 (.int .i64 0)) (panK R) w fun t153 w =>
 K23 t153 w) (
 K23 undef w)
def n47c4 (t2 t5 t30 t126 t130:Value) (R:RT) (w:World):Prop :=
 pickK t126 (.bool true) t130 fun t131 =>
 joinK (fun (t135:Value) (w:World) =>
 pickK t131 (.bool true) t135 fun t136 =>
 condP t136 (
 R (.returned (.bool false)) w) (
 n47c3 t2 t5 t30 R w)) fun K22 =>
 guardP t131 false (
 opV Pg (Instr.fieldAt 71 t5 8) (panK R) w fun t133 w =>
 opV Pg (Instr.loadAt 3 t133) (panK R) w fun t134 w =>
 opV Pg (binS .gtr 3 true t134 (.int .i64 1000)) (panK R) w fun t135 w =>
 K22 t135 w) (
 K22 undef w)
def n47c5 (t2 t5 t30 t119 t125:Value) (R:RT) (w:World):Prop :=
 pickK t119 (.bool true) t125 fun t126 =>
 joinK (fun (t130:Value) (w:World) =>
 n47c4 t2 t5 t30 t126 t130 R w) fun K21 =>
 guardP t126 false (
 opV Pg (Instr.fieldAt 71 t5 8) (panK R) w fun t128 w =>
 opV Pg (Instr.loadAt 3 t128) (panK R) w fun t129 w =>
 opV Pg (binS .lss 3 true t129 (.int .i64 (-1000))) (panK R) w fun t130 w =>
 K21 t130 w) (
 K21 undef w)
def n47c6 (t2 t5 t30 t114 t118:Value) (R:RT) (w:World):Prop :=
 pickK t114 (.bool true) t118 fun t119 =>
 joinK (fun (t125:Value) (w:World) =>
 n47c5 t2 t5 t30 t119 t125 R w) fun K20 =>
 guardP t119 false (
 opV Pg (Instr.fieldAt 71 t5 6) (panK R) w fun t121 w =>
 opV Pg (Instr.loadAt 3 t121) (panK R) w fun t122 w =>
 opV Pg (Instr.fieldAt 71 t5 7) (panK R) w fun t123 w =>
 opV Pg (Instr.loadAt 3 t123) (panK R) w fun t124 w =>
 opV Pg (binS .gtr 3 false t122 t124) (panK R) w fun t125 w =>
 K20 t125 w) (
 K20 undef w)
def n47c7 (t5:Value) (R:RT) (w:World):Prop :=
 opV Pg (Instr.fieldAt 71 t5 6) (panK R) w fun t100 w =>
 opV Pg (Instr.loadAt 3 t100) (panK R) w fun t101 w =>
 opV Pg (binS .eql 3 true t101 (.int .i64 0)) (panK R) w fun t102 w =>
 joinK (fun (t106:Value) (w:World) =>
 n47c1 t5 t102 t106 R w) fun K17 =>
 guardP t102 true (
 opV Pg (Instr.fieldAt 71 t5 7) (panK R) w fun t104 w =>
 opV Pg (Instr.loadAt 3 t104) (panK R) w fun t105 w =>
 opV Pg (binS .eql 3 true t105 (.int .i64 0)) (panK R) w fun t106 w =>
 K17 t106 w) (
 K17 undef w)
def n47c8 (t2 t5 t30:Value) (R:RT) (w:World):Prop :=
 opV Pg (binS .lss 3 true t30 (.int .i64 0)) (panK R) w fun t114 w =>
 joinK (fun (t118:Value) (w:World) =>
 n47c6 t2 t5 t30 t114 t118 R w) fun K19 =>
 guardP t114 false (
 opV Pg (Instr.fieldAt 71 t5 6) (panK R) w fun t116 w =>
 opV Pg (Instr.loadAt 3 t116) (panK R) w fun t117 w =>
 opV Pg (binS .lss 3 true t117 (.int .i64 0)) (panK R) w fun t118 w =>
 K19 t118 w) (
 K19 undef w)
def n47c9 (t2 t5 t30:Value) (R:RT) (w:World):Prop :=
 opV Pg (Instr.fieldAt 71 t5 5) (panK R) w fun t97 w =>
 opV Pg (Instr.loadAt 9 t97) (panK R) w fun t98 w =>
 opV Pg (binS .eql 9 true t98 (.string { data := #[] })) (panK R) w fun t99 w =>
 condP t99 (
 n47c7 t5 R w) (
 n47c8 t2 t5 t30 R w)
def n47c10 (t2 t5 t30 t83 t88 t94:Value) (R:RT) (w:World):Prop :=
 joinK (fun (t95:Value) (w:World) =>
 pickK t83 (.bool true) t95 fun t96 =>
 condP t96 (
 R (.returned (.bool false)) w) (
 n47c9 t2 t5 t30 R w)) fun K16 =>
 guardP t83 false (
 pickK t88 t94 (.bool false) fun t95 =>
 K16 t95 w) (
 K16 undef w)
def n47c11 (t2 t5 t30 t83 t88:Value) (R:RT) (w:World):Prop :=
 joinK (fun (t94:Value) (w:World) =>
 n47c10 t2 t5 t30 t83 t88 t94 R w) fun K15 =>
 guardP t88 true (
 opV Pg (Instr.fieldAt 71 t5 3) (panK R) w fun t89 w =>
 opV Pg (Instr.loadAt 9 t89) (panK R) w fun t90 w =>
 opV Pg (Instr.fieldAt 71 t5 4) (panK R) w fun t91 w =>
 opV Pg (Instr.loadAt 9 t91) (panK R) w fun t92 w =>
 opV Pg (binS .add 9 false t90 t92) (panK R) w fun t93 w =>
 opV Pg (binS .neq 9 true t93 (.string { data := #[] })) (panK R) w fun t94 w =>
 K15 t94 w) (
 K15 undef w)
def n47c12 (t2 t5 t6 t30 t64 t82:Value) (R:RT) (w:World):Prop :=
 pickK t64 t82 (.bool false) fun t83 =>
 joinK (fun (t88:Value) (w:World) =>
 n47c11 t2 t5 t30 t83 t88 R w) fun K14 =>
 guardP t83 false (
 opV Pg (Instr.fieldAt 89 t6 1) (panK R) w fun t85 w =>
 opV Pg (Instr.loadAt 4 t85) (panK R) w fun t86 w =>
 opV Pg (Op.unary .not t86) (panK R) w fun t87 w =>
 K14 t87 w) (
 K14 undef w)
def n47c13 (t2 t5 t6 t30 t64 t76:Value) (R:RT) (w:World):Prop :=
 joinK (fun (t81:Value) (w:World) =>
 joinK (fun (t82:Value) (w:World) =>
 n47c12 t2 t5 t6 t30 t64 t82 R w) fun K13 =>
 guardP t64 true (
 pickK t76 (.bool true) t81 fun t82 =>
 K13 t82 w) (
 K13 undef w)) fun K12 =>
 guardP t76 false (
 opV Pg (Instr.fieldAt 71 t5 4) (panK R) w fun t77 w =>
 opV Pg (Instr.loadAt 9 t77) (panK R) w fun t78 w =>
 opV Pg (Instr.fieldAt 26 t2 0) (panK R) w fun t79 w =>
 opV Pg (Instr.loadAt 9 t79) (panK R) w fun t80 w =>
 opV Pg (binS .eql 9 false t78 t80) (panK R) w fun t81 w =>
 K12 t81 w) (
 K12 undef w)
def n47c14 (t2 t5 t6 t30 t64 t70:Value) (R:RT) (w:World):Prop :=
 joinK (fun (t74:Value) (w:World) =>
 joinK (fun (t76:Value) (w:World) =>
 n47c13 t2 t5 t6 t30 t64 t76 R w) fun K11 =>
 guardP t64 true (
 pickK t70 (.bool true) t74 fun t75 =>
 K11 t75 w) (
 K11 undef w)) fun K10 =>
 guardP t70 false (
 opV Pg (Instr.fieldAt 71 t5 4) (panK R) w fun t71 w =>
 opV Pg (Instr.loadAt 9 t71) (panK R) w fun t72 w =>
 callK Pg 17 #[t72] (panK R) w fun t73 w =>
 opV Pg (Op.unary .not t73) (panK R) w fun t74 w =>
 K10 t74 w) (
 K10 undef w)
def n47c15 (t2 t5 t6 t30:Value) (R:RT) (w:World):Prop :=
 opV Pg (Instr.fieldAt 89 t6 1) (panK R) w fun t63 w =>
 opV Pg (Instr.loadAt 4 t63) (panK R) w fun t64 w =>
 joinK (fun (t70:Value) (w:World) =>
 n47c14 t2 t5 t6 t30 t64 t70 R w) fun K9 =>
 guardP t64 true (
 opV Pg (Instr.fieldAt 71 t5 3) (panK R) w fun t66 w =>
 opV Pg (Instr.loadAt 9 t66) (panK R) w fun t67 w =>
 callK Pg 17 #[t67] (panK R) w fun t68 w =>
 opV Pg (Op.unary .not t68) (panK R) w fun t69 w =>
 K9 t69 w) (
 K9 undef w)
def n47c16 (t2 t5 t6 t26 t30 t43 t50:Value) (C4:World→Prop) (R:RT) (w:World):Prop :=
 pickK t43 (.bool true) t50 fun t51 =>
 joinK (fun (t61:Value) (w:World) =>
 pickK t51 (.bool true) t61 fun t62 =>
 condP t62 (
 R (.returned (.bool false)) w) (
 n47c15 t2 t5 t6 t30 R w)) fun K8 =>
 guardP t51 false (
 qV Pg C4 (Instr.fieldAt 89 t6 2) fun t53 =>
 qV Pg C4 (Instr.loadAt 87 t53) fun t54 =>
 qV Pg C4 (Instr.fieldAt 26 t2 1) fun t55 =>
 qV Pg C4 (Instr.loadAt 22 t55) fun t56 =>
 qV Pg C4 (Instr.indexAt 22 t56 t26) fun t58 =>
 qV Pg C4 (Instr.loadAt 50 t58) fun t59 =>
 callV Pg t54 #[t59] (panK R) w fun t60 w =>
 C4 w∧(
 qV Pg C4 (Op.unary .not t60) fun t61 =>
 K8 t61 w)) (
 K8 undef w)
def n47c17 (t1 t2 t5 t6 t26 t30 t36 t42:Value) (C4:World→Prop) (R:RT) (w:World):Prop :=
 pickK t36 (.bool true) t42 fun t43 =>
 joinK (fun (t50:Value) (w:World) =>
 n47c16 t2 t5 t6 t26 t30 t43 t50 C4 R w) fun K7 =>
 guardP t43 false (
 qV Pg C4 (Instr.fieldAt 26 t2 3) fun t45 =>
 qV Pg C4 (Instr.loadAt 24 t45) fun t46 =>
 qV Pg C4 (Instr.sliceAt 24 t46 none (some t1) none) fun t48 =>
 qV Pg C4 (Instr.loadAt 71 t5) fun t49 =>
 callK Pg 57 #[t48,t49] (panK R) w fun t50 w =>
 C4 w∧(
 K7 t50 w)) (
 K7 undef w)
def n47c18 (t1 t2 t5 t6 t26 t30 t32 t35:Value) (C4:World→Prop) (R:RT) (w:World):Prop :=
 pickK t32 (.bool true) t35 fun t36 =>
 joinK (fun (t42:Value) (w:World) =>
 n47c17 t1 t2 t5 t6 t26 t30 t36 t42 C4 R w) fun K6 =>
 guardP t36 false (
 qV Pg C4 (Instr.loadAt 26 t2) fun t38 =>
 qV Pg C4 (Instr.fieldAt 71 t5 1) fun t39 =>
 qV Pg C4 (Instr.loadAt 9 t39) fun t40 =>
 callK Pg 40 #[t38,t40] (panK R) w fun t41 w =>
 C4 w∧(
 qV Pg C4 (binS .lss 3 true t41 (.int .i64 0)) fun t42 =>
 K6 t42 w)) (
 K6 undef w)
def n47c19 (t1 t2 t5 t6 t7 t26 t30:Value) (C4:World→Prop) (R:RT) (w:World):Prop :=
 qV Pg C4 (Op.unary .not t7) fun t32 =>
 joinK (fun (t35:Value) (w:World) =>
 n47c18 t1 t2 t5 t6 t26 t30 t32 t35 C4 R w) fun K5 =>
 guardP t32 false (
 qV Pg C4 (binS .lss 3 true t26 (.int .i64 0)) fun t35 =>
 K5 t35 w) (
 K5 undef w)
def n47c20 (t1 t2 t5 t6 t7:Value) (C3:World→Prop) (R:RT) (w:World):Prop :=
 qV Pg C3 (Instr.loadAt 26 t2) fun t23 =>
 qV Pg C3 (Instr.fieldAt 71 t5 0) fun t24 =>
 qV Pg C3 (Instr.loadAt 9 t24) fun t25 =>
 qV Pg C3 (Instr.loadAt 26 t2) fun t27 =>
 qV Pg C3 (Instr.fieldAt 71 t5 5) fun t28 =>
 qV Pg C3 (Instr.loadAt 9 t28) fun t29 =>
 callK Pg 40 #[t23,t25] (panK R) w fun t26 w =>
 C3 w∧(
 callK Pg 38 #[t27,t29] (panK R) w fun t30 w =>
 C3 w∧(
 drawK w fun C4 w =>
 n47c19 t1 t2 t5 t6 t7 t26 t30 C4 R w))
def n47c21 (t17 t19:Value) (C25:World→Prop) (K2:KW) (R:RT) (w:World):Prop :=
 qV Pg C25 (Instr.lookup 90 t17 t19 true) fun t20 =>
 qV Pg C25 (Instr.extract t20 0) fun t21 =>
 qV Pg C25 (Instr.extract t20 1) fun t22 =>
 opV Pg (Instr.alloc 89 true (.tuple #[])) (panK R) w fun t6 w =>
 C25 w∧(
 opU Pg (Instr.storeAt 89 t6 t21) (panK R) w fun w =>
 C25 w∧(
 K2 t6 t22 w))
def n47c22 (t6 t17 t19:Value) (C26:World→Prop) (K2:KW) (R:RT) (w:World):Prop :=
 qV Pg C26 (Instr.lookup 90 t17 t19 true) fun t20 =>
 qV Pg C26 (Instr.extract t20 0) fun t21 =>
 qV Pg C26 (Instr.extract t20 1) fun t22 =>
 opU Pg (Instr.storeAt 89 t6 t21) (panK R) w fun w =>
 C26 w∧(
 K2 t6 t22 w)
def n47c23 (t1 t2 t5:Value) (C1:World→Prop) (R:RT) (w:World):Prop :=
 qV Pg C1 (Instr.fieldAt 71 t5 2) fun t18 =>
 qV Pg C1 (Instr.loadAt 69 t18) fun t19 =>
 joinK (fun (t6:Value) (t7:Value) (w:World) =>
 drawK w fun C3 w =>
 n47c20 t1 t2 t5 t6 t7 C3 R w) fun K2 =>
 (
 callK Pg 47 #[] (panK R) w fun t17 w =>
 narrowK C1 w fun C25 w =>
 n47c21 t17 t19 C25 K2 R w)∧(
 opV Pg (Instr.alloc 89 true (.tuple #[])) (panK R) w fun t6 w =>
 C1 w∧(
 callK Pg 47 #[] (panK R) w fun t17 w =>
 narrowK C1 w fun C26 w =>
 n47c22 t6 t17 t19 C26 K2 R w))
def n47 (t0 t1:Value) (R:RT) (w:World):Prop :=
 opV Pg (Instr.box 26 t0) (panK R) w fun t2 w =>
 opV Pg (Instr.fieldAt 26 t2 3) (panK R) w fun t11 w =>
 opV Pg (Instr.loadAt 24 t11) (panK R) w fun t12 w =>
 opV Pg (Instr.indexAt 24 t12 t1) (panK R) w fun t14 w =>
 opV Pg (Instr.loadAt 71 t14) (panK R) w fun t15 w =>
 opV Pg (Instr.alloc 71 true (.tuple #[])) (panK R) w fun t5 w =>
 opU Pg (Instr.storeAt 71 t5 t15) (panK R) w fun w =>
 drawK w fun C1 w =>
 n47c23 t1 t2 t5 C1 R w
set_option maxHeartbeats 40000000 in
theorem n47s {t0 t1:Value} {R:RT} {w:World} (h:n47 t0 t1 R w):Calls Pg 42 #[t0,t1] w R:=by
 refine yD Tryz.func42 ?_
 refine zs<|zr<|yv h fun _ w h=>zm<|zn<|zk<|zs<|zr<|yv h fun _ w h=>yv h fun _ w h=>zm<|yv h fun _ w h=>yv h fun _ w h=>yv h fun _ w h=>yu h fun w h=>?_
 refine zn<|zk<|zs<|yh [6,7,16,17,18,19,20,21,22] h fun C hC h=>ye 1 hC h fun _ h=>?_
 refine ye 2 hC h fun _ h=>?_
 refine joinK_elim h (fun K2 hK h=>?_)
 refine sim_dmeet [6,7,16,17,20,21,22] (fun ρ w=>K2 (ρ 6) (ρ 7) w) (fun T hT=>?_) (fun σ w h=>?_)
 · obtain ⟨h0,h1⟩:=h
   refine sim_dloud2 0 7 rfl rfl (by kernel_rfl) (fun _ _=>rfl) (fun _ _=>rfl) ?_ ?_
   · have h:=h0
     refine yc h c47 fun _ w h=>zn ?_
     obtain ⟨C25,hs,hC,h⟩:=h
     refine ⟨C25,hs,hC,?_⟩
     refine ye 3 hC h fun _ h=>?_
     refine yw 4 hC ?_
     refine ye 5 hC h fun _ h=>?_
     refine ye 6 hC h fun _ h=>?_
     refine yo 7 ?_
     refine yv h fun _ w h=>zn ?_
     obtain ⟨hC,h⟩:=h
     refine ⟨hC,?_⟩
     refine yo 8 ?_
     refine yu h fun w h=>zn ?_
     obtain ⟨hC,h⟩:=h
     refine ⟨hC,?_⟩
     refine yw 9 hC ?_
     refine yz ?_
     exact zt hT h
   have h:=h1
   refine yv h fun _ w h=>zn ?_
   obtain ⟨hC,h⟩:=h
   refine ⟨_,fun _ h=>h,hC,?_⟩
   refine yr 0 ?_
   refine yc h c47 fun _ w h=>zn ?_
   obtain ⟨C26,hs,hC,h⟩:=h
   refine ⟨C26,hs,hC,?_⟩
   refine ye 3 hC h fun _ h=>?_
   refine yw 4 hC ?_
   refine ye 5 hC h fun _ h=>?_
   refine ye 6 hC h fun _ h=>?_
   refine yo 8 ?_
   refine yu h fun w h=>zn ?_
   obtain ⟨hC,h⟩:=h
   refine ⟨hC,?_⟩
   refine yw 9 hC ?_
   refine yz ?_
   exact zt hT h
 subst hK
 refine zk<|zs<|yh [8,9,23,24,25,26,27,28,29,30] h fun C hC h=>ye 0 hC h fun _ h=>?_
 refine ye 1 hC h fun _ h=>?_
 refine ye 2 hC h fun _ h=>?_
 refine ye 4 hC h fun _ h=>?_
 refine ye 5 hC h fun _ h=>?_
 refine ye 6 hC h fun _ h=>?_
 refine yo 3 ?_
 refine yc h c40 fun _ w h=>zn ?_
 obtain ⟨hC,h⟩:=h
 refine ⟨hC,?_⟩
 refine yo 7 ?_
 refine yc h c38 fun _ w h=>zn ?_
 obtain ⟨hC,h⟩:=h
 refine ⟨hC,?_⟩
 refine yw 8 hC ?_
 refine yw 9 hC ?_
 refine yz<|zk<|zs<|zs<|yh [31,32,33,34,35,36,37,38,39,40,41,42,43,44,45,46,47,48,49,50,51,52,53,54,55,56,57,58,59,60,61,62] h fun C hC h=>yw 0 hC ?_
 refine ye 1 hC h fun _ h=>?_
 refine yw 2 hC ?_
 refine yj1 27 [4,3,2,1,0] [34,35] 35 h (fun _ hT hb h=>?_) (fun _ hT hb h=>?_) fun σ w hC h=>?_
 · refine yw 3 hC ?_
   refine ye 4 hC h fun _ h=>?_
   exact yt hT hC h
 · refine yi 3 hC ?_
   refine yi 4 hC ?_
   exact yt hT hC h
 refine yP 5 hC h fun _ h=>?_
 refine yw 6 hC ?_
 refine yj1 20 [11,10,9,8,7,6,5,4,3,2,1,0] [38,39,40,41,42] 42 h (fun _ hT hb h=>?_) (fun _ hT hb h=>?_) fun σ w hC h=>?_
 · refine ye 7 hC h fun _ h=>?_
   refine ye 8 hC h fun _ h=>?_
   refine ye 9 hC h fun _ h=>?_
   refine yo 10 ?_
   refine yc h c40 fun _ w h=>zn ?_
   obtain ⟨hC,h⟩:=h
   refine ⟨hC,?_⟩
   refine ye 11 hC h fun _ h=>?_
   exact yt hT hC h
 · refine yi 7 hC ?_
   refine yi 8 hC ?_
   refine yi 9 hC ?_
   refine yi 10 hC ?_
   refine yi 11 hC ?_
   exact yt hT hC h
 refine yP 12 hC h fun _ h=>?_
 refine yw 13 hC ?_
 refine yj1 12 [19,18,17,16,15,14,13,12,11,10,9,8,7,6,5,4,3,2,1,0] [45,46,47,48,49,50] 50 h (fun _ hT hb h=>?_) (fun _ hT hb h=>?_) fun σ w hC h=>?_
 · refine ye 14 hC h fun _ h=>?_
   refine ye 15 hC h fun _ h=>?_
   refine yw 16 hC ?_
   refine ye 17 hC h fun _ h=>?_
   refine ye 18 hC h fun _ h=>?_
   refine yo 19 ?_
   refine yc h c57 fun _ w h=>zn ?_
   obtain ⟨hC,h⟩:=h
   refine ⟨hC,?_⟩
   exact yt hT hC h
 · refine yi 14 hC ?_
   refine yi 15 hC ?_
   refine yi 16 hC ?_
   refine yi 17 hC ?_
   refine yi 18 hC ?_
   refine yi 19 hC ?_
   exact yt hT hC h
 refine yP 20 hC h fun _ h=>?_
 refine yw 21 hC ?_
 refine yj1 1 [30,29,28,27,26,25,24,23,22,21,20,19,18,17,16,15,14,13,12,11,10,9,8,7,6,5,4,3,2,1,0] [53,54,55,56,57,58,59,60,61] 61 h (fun _ hT hb h=>?_) (fun _ hT hb h=>?_) fun σ w hC h=>?_
 · refine ye 22 hC h fun _ h=>?_
   refine ye 23 hC h fun _ h=>?_
   refine ye 24 hC h fun _ h=>?_
   refine ye 25 hC h fun _ h=>?_
   refine yw 26 hC ?_
   refine ye 27 hC h fun _ h=>?_
   refine ye 28 hC h fun _ h=>?_
   refine yo 29 ?_
   refine yV h fun _ w h=>zn ?_
   obtain ⟨hC,h⟩:=h
   refine ⟨hC,?_⟩
   refine ye 30 hC h fun _ h=>?_
   exact yt hT hC h
 · refine yi 22 hC ?_
   refine yi 23 hC ?_
   refine yi 24 hC ?_
   refine yi 25 hC ?_
   refine yi 26 hC ?_
   refine yi 27 hC ?_
   refine yi 28 hC ?_
   refine yi 29 hC ?_
   refine yi 30 hC ?_
   exact yt hT hC h
 refine yP 31 hC h fun _ h=>?_
 refine yz<|zk<|yC h (fun h=>zs<|zr<|zm<|zn<|zk<|sim_ret<|sim_then_ret<|body_ret1 rfl rfl h) fun h=>sim_skip<|zk<|zs<|zs<|sim_regionG<|yG 3<|yv h fun _ w h=>yv h fun _ w h=>zm<|zn<|yg1 5 2 true [66,67,68,69,70] 70 h (fun _ T hT h=>?_) fun σ w h=>?_
 · refine yv h fun _ w h=>yv h fun _ w h=>yc h c17 fun _ w h=>yv h fun _ w h=>zm<|zn ?_
   exact zt hT h
 refine yg1 4 7 false [71,72,73,74] 74 h (fun _ T hT h=>?_) fun σ w h=>?_
 · refine yv h fun _ w h=>yv h fun _ w h=>yc h c17 fun _ w h=>yv h fun _ w h=>zn ?_
   exact zt hT h
 refine yg1 2 2 true [75,76] 76 h (fun _ T hT h=>?_) fun σ w h=>?_
 · refine yp h fun _ h=>zm<|zn ?_
   exact zt hT h
 refine yg1 5 13 false [77,78,79,80,81] 81 h (fun _ T hT h=>?_) fun σ w h=>?_
 · refine yv h fun _ w h=>yv h fun _ w h=>yv h fun _ w h=>yv h fun _ w h=>yb h fun _ w h=>zn ?_
   exact zt hT h
 refine yg1 1 2 true [82] 82 h (fun _ T hT h=>?_) fun σ w h=>?_
 · refine yp h fun _ h=>zn ?_
   exact zt hT h
 refine yG 2<|yp h fun _ h=>zm<|zn<|yg1 4 21 false [85,86,87,88] 88 h (fun _ T hT h=>?_) fun σ w h=>?_
 · refine yv h fun _ w h=>yv h fun _ w h=>yv h fun _ w h=>zm<|zn ?_
   exact zt hT h
 refine yg1 6 25 true [89,90,91,92,93,94] 94 h (fun _ T hT h=>?_) fun σ w h=>?_
 · refine yv h fun _ w h=>yv h fun _ w h=>yv h fun _ w h=>yv h fun _ w h=>yb h fun _ w h=>yb h fun _ w h=>zn ?_
   exact zt hT h
 refine yg1 1 21 false [95] 95 h (fun _ T hT h=>?_) fun σ w h=>?_
 · refine yp h fun _ h=>zn ?_
   exact zt hT h
 refine yG 1<|yp h fun _ h=>zn<|sim_end<|zk<|yC h (fun h=>zs<|zr<|zm<|zn<|zk<|sim_ret<|sim_then_ret<|body_ret1 rfl rfl h) fun h=>sim_skip<|zk<|zs<|zs<|zr<|yv h fun _ w h=>yv h fun _ w h=>yb h fun _ w h=>?_
 refine zn<|zk<|yC h (fun h=>?_) fun h=>?_
 · refine zs<|sim_regionG<|yG 4<|yv h fun _ w h=>yv h fun _ w h=>yb h fun _ w h=>zm<|zn<|yg1 3 3 true [104,105,106] 106 h (fun _ T hT h=>?_) fun σ w h=>?_
   · refine yv h fun _ w h=>yv h fun _ w h=>yb h fun _ w h=>zn ?_
     exact zt hT h
   refine yG 2<|yp h fun _ h=>zm<|zn<|yg1 3 8 true [109,110,111] 111 h (fun _ T hT h=>?_) fun σ w h=>?_
   · refine yv h fun _ w h=>yv h fun _ w h=>yb h fun _ w h=>zn ?_
     exact zt hT h
   exact yG 2<|yp h fun _ h=>zm<|zn<|sim_end<|zk<|sim_ret<|sim_then_ret<|body_ret1 rfl rfl h
 refine sim_skip<|zk<|zs<|zs<|sim_regionG<|yG 3<|zm<|yb h fun _ w h=>zm<|zn<|yg1 3 2 false [116,117,118] 118 h (fun _ T hT h=>?_) fun σ w h=>?_
 · refine yv h fun _ w h=>yv h fun _ w h=>yb h fun _ w h=>zn ?_
   exact zt hT h
 refine yG 2<|yp h fun _ h=>zm<|zn<|yg1 5 7 false [121,122,123,124,125] 125 h (fun _ T hT h=>?_) fun σ w h=>?_
 · refine yv h fun _ w h=>yv h fun _ w h=>yv h fun _ w h=>yv h fun _ w h=>yb h fun _ w h=>zn ?_
   exact zt hT h
 refine yG 2<|yp h fun _ h=>zm<|zn<|yg1 3 14 false [128,129,130] 130 h (fun _ T hT h=>?_) fun σ w h=>?_
 · refine yv h fun _ w h=>yv h fun _ w h=>yb h fun _ w h=>zn ?_
   exact zt hT h
 refine yG 2<|yp h fun _ h=>zm<|zn<|yg1 3 19 false [133,134,135] 135 h (fun _ T hT h=>?_) fun σ w h=>?_
 · refine yv h fun _ w h=>yv h fun _ w h=>yb h fun _ w h=>zn ?_
   exact zt hT h
 refine yG 1<|yp h fun _ h=>zn<|sim_end<|zk<|yC h (fun h=>zs<|zr<|zm<|zn<|zk<|sim_ret<|sim_then_ret<|body_ret1 rfl rfl h) fun h=>sim_skip<|zk<|zs<|zr<|yv h fun _ w h=>yv h fun _ w h=>zm<|yv h fun _ w h=>?_
 refine yv h fun _ w h=>yv h fun _ w h=>zm<|zn<|zk<|zs<|sim_regionG<|yG 5<|yv h fun _ w h=>yv h fun _ w h=>zm<|yb h fun _ w h=>zm<|zn<|yg1 6 4 true [148,149,150,151,152,153] 153 h (fun _ T hT h=>?_) fun σ w h=>?_
 · refine yv h fun _ w h=>yv h fun _ w h=>yv h fun _ w h=>yv h fun _ w h=>yb h fun _ w h=>yb h fun _ w h=>zn ?_
   exact zt hT h
 refine yG 2<|yp h fun _ h=>zm<|zn<|yg1 7 12 true [156,157,158,159,160,161,162] 162 h (fun _ T hT h=>?_) fun σ w h=>?_
 · refine yv h fun _ w h=>yv h fun _ w h=>yv h fun _ w h=>yv h fun _ w h=>yb h fun _ w h=>zm<|yb h fun _ w h=>zn ?_
   exact zt hT h
 exact yG 2<|yp h fun _ h=>zm<|zn<|sim_end<|zk<|sim_ret<|body_ret1 rfl rfl h
def n23c1 (t1 t2 t5:Value) (next1:KV) (R:RT) (w:World):Prop :=
 opV Pg (Instr.fieldAt 26 t2 2) (panK R) w fun t13 w =>
 opV Pg (Instr.loadAt 23 t13) (panK R) w fun t14 w =>
 opV Pg (Instr.indexAt 23 t14 t5) (panK R) w fun t16 w =>
 opV Pg (Instr.fieldAt 52 t16 0) (panK R) w fun t17 w =>
 opV Pg (Instr.loadAt 9 t17) (panK R) w fun t18 w =>
 opV Pg (binS .eql 9 false t18 t1) (panK R) w fun t20 w =>
 condP t20 (
 R (.returned t5) w) (
 opV Pg (binS .add 3 true t5 (.int .i64 1)) (panK R) w fun t12 w =>
 next1 t12 w)
def n23c2 (t1 t2 t5:Value) (next1:KV) (R:RT) (w:World):Prop :=
 opV Pg (Instr.fieldAt 26 t2 2) (panK R) w fun t7 w =>
 opV Pg (Instr.loadAt 23 t7) (panK R) w fun t8 w =>
 opV Pg (Builtin.len_ #[23] 3 #[t8]) (panK R) w fun t9 w =>
 opV Pg (binS .lss 3 false t5 t9) (panK R) w fun t10 w =>
 condP t10 (
 n23c1 t1 t2 t5 next1 R w) (
 R (.returned (.int .i64 (-1))) w)
def n23 (t0 t1:Value) (R:RT) (w:World):Prop :=
 opV Pg (Instr.box 26 t0) (panK R) w fun t2 w =>
 loop1 (fun t5 w next1 =>
 n23c2 t1 t2 t5 next1 R w) (.int .i64 0) w
theorem n23s {t0 t1:Value} {R:RT} {w:World} (h:n23 t0 t1 R w):Calls Pg 43 #[t0,t1] w R:=by
 refine yD Tryz.func43 ?_
 refine zs<|zr<|yv h fun _ w h=>zm<|zn<|zk<|zs<|zs<|zr<|zm<|zn<|zk<|sim_block<|yl1 [4,5,6,7,8,9,10,11,12,13,14,15,16,17,18,19,20,21] 5 h fun σ w next h=>zs ?_
 refine zs<|zr<|zm<|yv h fun _ w h=>yv h fun _ w h=>yx h fun _ w h=>yb h fun _ w h=>zn<|zk<|yC h (fun h=>?_) fun h=>?_
 · refine sim_skip<|zk<|zs<|sim_block<|zs<|zr<|yv h fun _ w h=>yv h fun _ w h=>zm<|yv h fun _ w h=>yv h fun _ w h=>yv h fun _ w h=>zm<|yb h fun _ w h=>zn ?_
   exact zk<|yC h (fun h=>zs<|zr<|zm<|zm<|zn<|zk<|sim_ret<|sim_block_ret<|sim_then_ret<|sim_then_ret<|sim_block_ret<|sim_then_ret<|body_ret1 rfl rfl h) fun h=>sim_skip<|sim_block_normal<|zk<|zr<|zm<|yb h fun _ w h=>zm<|zn<|zk<|⟨rfl,h⟩
 exact sim_exit<|sim_then_exit<|sim_then_exit<|sim_block_hit<|zk<|zs<|zr<|zm<|zn<|zk<|sim_ret<|body_ret1 rfl rfl h
open Go.RowKit (intOf Below)
theorem idx_get {α:Type} {p:α→Bool} {l:List α} {n:Nat} (h:idx p l=(n:Int)):∃ x,l[n]?=some x∧p x=true:=by
 unfold idx at h
 cases hf:l.findIdx? p with
 | none=>rw [hf] at h;simp at h
 | some i =>
  rw [hf] at h
  have h:i=n:=by simp at h;omega
  subst h
  obtain ⟨h1,h2,_⟩:=List.findIdx?_eq_some_iff_getElem.1 hf
  exact ⟨_,List.getElem?_eq_getElem h1,h2⟩
theorem op_saddR {P:Program} {QP:List PanicEntry→World→Prop} {w:World} {k:Value→World→Prop} (t:TypeId) (c:Bool) (a b:ByteArray) (h:a.size+b.size≤9223372036854775807):opV P (binS .add t c (.string a) (.string b)) QP w k=k (.string (a++b)) w:=opV_ok (by
 have h1:¬ (((a.size+b.size:Nat):Int) > IntKind.i64.max):=by
  have:IntKind.i64.max=9223372036854775807:=rfl
  omega
 simp [binS,binOp,Op.stringOp,h1]
 omega)
theorem empty_append (a b:ByteArray):decide (a++b=⟨#[]⟩)=(decide (a=ByteArray.empty)&&decide (b=ByteArray.empty)):=by
 rw [Bool.eq_iff_iff]
 simp only [Bool.and_eq_true,decide_eq_true_eq]
 constructor
 · intro h
   have hs:(a++b).size=0:=by rw [h];rfl
   have h2:a.size+b.size=0:=by rw [← ByteArray.size_append];exact hs
   have z:∀ c:ByteArray,c.size=0→c=ByteArray.empty:=fun c hc=>by
    cases c with
    | mk d =>
     have:d = #[]:=Array.eq_empty_of_size_eq_zero hc
     rw [this];rfl
   exact ⟨z a (by omega),z b (by omega)⟩
 · rintro ⟨rfl,rfl⟩
   rfl
section
variable {w0 w:World} {r:RolD} {x:StpD} {p2 p5:Nat} {sv cv tv:Value}
theorem allow_guard (e:Ext w0 w) (h2:w.heap[p2]?=some (.cells (rolCells r sv cv tv).toArray 26 (0,0))) (h5:w.heap[p5]?=some (.cells (stpCells x).toArray 71 (0,0))) (hC:CntsOf w cv r.counters) (hlim:∀ c∈r.counters,c.limit≤1000) :
 n47c9 (.pointer (some ⟨p2,0,none⟩)) (.pointer (some ⟨p5,0,none⟩)) (.int .i64 (counterI r x.counter)) (retR fun u w'=>u = .bool (guardB r x)∧Ext w0 w') w:=by
 have c5:=cells_of_heap h5
 have c2:=cells_of_heap h2
 unfold n47c9
 by_cases hc:x.counter=ByteArray.empty
 · have d0:decide (x.counter=⟨#[]⟩)=true:=decide_eq_true hc
   have hg:guardB r x=(decide (x.low=0)&&(decide (x.high=0)&&decide (x.add=0))):=by unfold guardB;rw [if_pos hc]
   rw [hg]
   have b1:∀ a:Int,(a == 0)=decide (a=0):=fun a=>by rw [Bool.eq_iff_iff];simp
   simp (disch:=try exact DI) only [↓PR,QR,simprocAttr,c5.1,d0,↓n47c7,b1]
   cases decide (x.low=0) with
   | false=>simp (disch:=try exact DI) only [↓PR,QR,simprocAttr,↓n47c1];exact ⟨by trivial,e⟩
   | true =>
   cases decide (x.high=0) with
   | false=>simp (disch:=try exact DI) only [↓PR,QR,simprocAttr,c5.1,b1,↓n47c1];exact ⟨by trivial,e⟩
   | true =>
    simp (disch:=try exact DI) only [↓PR,QR,simprocAttr,c5.1,b1,↓n47c1]
    exact ⟨by trivial,e⟩
 have d0:decide (x.counter=⟨#[]⟩)=false:=decide_eq_false hc
 by_cases hneg:counterI r x.counter < 0
 · have d1:decide (counterI r x.counter < 0)=true:=decide_eq_true hneg
   have hg:guardB r x=false:=by
    unfold guardB
    rw [if_neg hc]
    cases r.counters[(counterI r x.counter).toNat]? with
    | none=>rfl
    | some c=>simp only [decide_eq_false (show ¬ 0≤counterI r x.counter by omega),Bool.false_and]
   rw [hg]
   simp (disch:=try exact DI) only [↓PR,QR,simprocAttr,c5.1,d0,↓n47c8,d1,↓n47c6,↓n47c5,↓n47c4]
   exact ⟨by trivial,e⟩
 have d1:decide (counterI r x.counter < 0)=false:=decide_eq_false hneg
 obtain ⟨j,hj⟩:∃ j:Nat,counterI r x.counter=j:=⟨(counterI r x.counter).toNat,by omega⟩
 obtain ⟨c,hcj,_⟩:=idx_get hj
 obtain ⟨A,cc,rfl,_,_,_,hel⟩:=SliceOf.open hC
 obtain ⟨b,o,cs,rfl,_,hA,rfl⟩:=hel j c hcj
 have hjl:=(List.getElem?_eq_some_iff.1 hcj).1
 have dk:(j:Int) < (r.counters.length:Int):=by omega
 have hlc:=hlim c (List.mem_of_getElem? hcj)
 have hg:guardB r x=decide (0≤x.low∧x.low≤x.high ∧ -1000≤x.add∧x.add≤1000∧x.high≤c.limit∧0≤x.low+x.add∧x.high+x.add≤c.limit):=by
  unfold guardB
  rw [if_neg hc,hj,Int.toNat_natCast,hcj]
  simp only [Bool.decide_and,decide_eq_true (show (0:Int)≤(j:Int) by omega),Bool.true_and]
 rw [hg]
 rw [hj] at d1 ⊢
 have hx:=hA.c2 (Ext.refl w)
 by_cases g1:x.low < 0
 · rw [decide_eq_false (show ¬ (0≤x.low∧x.low≤x.high ∧ -1000≤x.add∧x.add≤1000∧x.high≤c.limit∧0≤x.low+x.add∧x.high+x.add≤c.limit) by omega)]
   simp (disch:=try exact DI) only [↓PR,QR,simprocAttr,c5.1,d0,↓n47c8,d1,decide_eq_true g1,↓n47c6,↓n47c5,↓n47c4]
   exact ⟨by trivial,e⟩
 by_cases g2:x.low > x.high
 · rw [decide_eq_false (show ¬ (0≤x.low∧x.low≤x.high ∧ -1000≤x.add∧x.add≤1000∧x.high≤c.limit∧0≤x.low+x.add∧x.high+x.add≤c.limit) by omega)]
   simp (disch:=try exact DI) only [↓PR,QR,simprocAttr,c5.1,d0,↓n47c8,d1,decide_eq_false g1,↓n47c6,decide_eq_true g2,↓n47c5,↓n47c4]
   exact ⟨by trivial,e⟩
 by_cases g3:x.add < -1000
 · rw [decide_eq_false (show ¬ (0≤x.low∧x.low≤x.high ∧ -1000≤x.add∧x.add≤1000∧x.high≤c.limit∧0≤x.low+x.add∧x.high+x.add≤c.limit) by omega)]
   simp (disch:=try exact DI) only [↓PR,QR,simprocAttr,c5.1,d0,↓n47c8,d1,decide_eq_false g1,↓n47c6,decide_eq_false g2,↓n47c5,decide_eq_true g3,↓n47c4]
   exact ⟨by trivial,e⟩
 by_cases g4:x.add > 1000
 · rw [decide_eq_false (show ¬ (0≤x.low∧x.low≤x.high ∧ -1000≤x.add∧x.add≤1000∧x.high≤c.limit∧0≤x.low+x.add∧x.high+x.add≤c.limit) by omega)]
   simp (disch:=try exact DI) only [↓PR,QR,simprocAttr,c5.1,d0,↓n47c8,d1,decide_eq_false g1,↓n47c6,decide_eq_false g2,↓n47c5,decide_eq_false g3,↓n47c4,decide_eq_true g4]
   exact ⟨by trivial,e⟩
 have w1:x.high≤c.limit→IntKind.i64.wrap (x.low+x.add)=x.low+x.add:=fun h=>wrap_ok (by omega) (by omega)
 have w2:x.high≤c.limit→IntKind.i64.wrap (x.high+x.add)=x.high+x.add:=fun h=>wrap_ok (by omega) (by omega)
 by_cases g5:x.high≤c.limit
 · by_cases g6:x.low+x.add≥0
   · simp (disch:=try exact DI) only [↓PR,QR,simprocAttr,c5.1,d0,↓n47c8,d1,decide_eq_false g1,↓n47c6,decide_eq_false g2,↓n47c5,decide_eq_false g3,↓n47c4,decide_eq_false g4,↓n47c3,c2.1,hx,decide_eq_true g5,w1 g5,decide_eq_true g6,↓n47c2,w2 g5]
     refine ⟨?_,e⟩
     congr 1
     rw [Bool.eq_iff_iff,decide_eq_true_iff,decide_eq_true_iff]
     omega
   · rw [decide_eq_false (show ¬ (0≤x.low∧x.low≤x.high ∧ -1000≤x.add∧x.add≤1000∧x.high≤c.limit∧0≤x.low+x.add∧x.high+x.add≤c.limit) by omega)]
     simp (disch:=try exact DI) only [↓PR,QR,simprocAttr,c5.1,d0,↓n47c8,d1,decide_eq_false g1,↓n47c6,decide_eq_false g2,↓n47c5,decide_eq_false g3,↓n47c4,decide_eq_false g4,↓n47c3,c2.1,hx,decide_eq_true g5,w1 g5,decide_eq_false g6,↓n47c2]
     exact ⟨by trivial,e⟩
 · rw [decide_eq_false (show ¬ (0≤x.low∧x.low≤x.high ∧ -1000≤x.add∧x.add≤1000∧x.high≤c.limit∧0≤x.low+x.add∧x.high+x.add≤c.limit) by omega)]
   simp (disch:=try exact DI) only [↓PR,QR,simprocAttr,c5.1,d0,↓n47c8,d1,decide_eq_false g1,↓n47c6,decide_eq_false g2,↓n47c5,decide_eq_false g3,↓n47c4,decide_eq_false g4,↓n47c3,c2.1,hx,decide_eq_false g5,↓n47c2]
   exact ⟨by trivial,e⟩
end
def StpSm (x:StpD):Prop:=x.fr.size≤100000∧x.to.size≤100000∧x.message.size≤100000∧x.peer.size≤100000∧x.counter.size≤100000
theorem kfV_one (k:Int):(kfV k).oneCell'=true:=by unfold kfV;split<;>rfl
section
variable {w0 w:World} {r:RolD} {x:StpD} {p2 p5 p6:Nat} {sv cv tv:Value}
theorem allow_parts (e:Ext w0 w) (h2:w.heap[p2]?=some (.cells (rolCells r sv cv tv).toArray 26 (0,0))) (h5:w.heap[p5]?=some (.cells (stpCells x).toArray 71 (0,0))) (h6:w.heap[p6]?=some (.cells (kindCells x.kind).toArray 89 (0,0))) (hC:CntsOf w cv r.counters) (hlim:∀ c∈r.counters,c.limit≤1000) (hx:StpSm x) :
 n47c15 (.pointer (some ⟨p2,0,none⟩)) (.pointer (some ⟨p5,0,none⟩)) (.pointer (some ⟨p6,0,none⟩)) (.int .i64 (counterI r x.counter)) (retR fun u w'=>u = .bool (partsB r x&&guardB r x)∧Ext w0 w') w:=by
 have c5:=cells_of_heap h5
 have c6:=cells_of_heap h6
 unfold n47c15 partsB
 cases hs:speaksB x.kind with
 | true =>
  rw [if_pos rfl]
  simp (disch:=try exact DI) only [↓PR,QR,simprocAttr,c6.1,hs,c5.1]
  refine zcr (Name_ret w x.message) fun w1 e1=>?_
  have E1:=e.trans e1
  cases nameB x.message with
  | false =>
   simp (disch:=try exact DI) only [↓PR,QR,simprocAttr,↓n47c14,↓n47c13,↓n47c12,↓n47c11,↓n47c10]
   exact ⟨by trivial,E1⟩
  | true =>
  have c51:=cells_of_heap (e1.obj h5)
  simp (disch:=try exact DI) only [↓PR,QR,simprocAttr,↓n47c14,c51.1]
  refine zcr (Name_ret w1 x.peer) fun w2 e2=>?_
  have E2:=E1.trans e2
  have e12:=e1.trans e2
  cases nameB x.peer with
  | false =>
   simp (disch:=try exact DI) only [↓PR,QR,simprocAttr,↓n47c13,↓n47c12,↓n47c11,↓n47c10]
   exact ⟨by trivial,E2⟩
  | true =>
  have c52:=cells_of_heap (e12.obj h5)
  have c22:=cells_of_heap (e12.obj h2)
  have c62:=cells_of_heap (e12.obj h6)
  by_cases hp:x.peer=r.name
  · have d1:decide (x.peer=r.name)=true:=decide_eq_true hp
    have d2:decide (x.peer≠r.name)=false:=decide_eq_false (by simp [hp])
    rw [d2]
    simp (disch:=try exact DI) only [↓PR,QR,simprocAttr,↓n47c13,c52.1,c22.1,d1,↓n47c12,↓n47c11,↓n47c10]
    exact ⟨by trivial,E2⟩
  · have d1:decide (x.peer=r.name)=false:=decide_eq_false hp
    have d2:decide (x.peer≠r.name)=true:=decide_eq_true hp
    rw [d2]
    simp (disch:=try exact DI) only [↓PR,QR,simprocAttr,↓n47c13,c52.1,c22.1,d1,↓n47c12,c62.1,hs,↓n47c11,↓n47c10]
    exact allow_guard E2 (e12.obj h2) (e12.obj h5) (hC.ext e12) hlim
 | false =>
  rw [if_neg (by simp)]
  simp (disch:=try exact DI) only [↓PR,QR,simprocAttr,c6.1,hs,↓n47c14,↓n47c13,↓n47c12,↓n47c11,c5.1]
  rw [op_saddR _ _ _ _ (by have:=hx;unfold StpSm at this;omega)]
  have hne:∀ a b:ByteArray,decide (a≠b)=!decide (a=b):=fun a b=>by simp
  simp (disch:=try exact DI) only [↓PR,QR,simprocAttr,hne,empty_append]
  cases hb:(decide (x.message=ByteArray.empty)&&decide (x.peer=ByteArray.empty)) with
  | false =>
   simp (disch:=try exact DI) only [↓PR,QR,simprocAttr,↓n47c10]
   exact ⟨by trivial,e⟩
  | true =>
   simp (disch:=try exact DI) only [↓PR,QR,simprocAttr,↓n47c10]
   exact allow_guard e h2 h5 hC hlim
theorem take_slice {w:World} {b o c n:Nat} {l:List StpD} (h:StpsOf w (.slice (some ⟨b,o,none⟩) l.length c) l) (hn:n≤l.length):StpsOf w (.slice (some ⟨b,o,none⟩) n c) (l.take n):=by
 obtain ⟨A,c',hv,h1,h2,h3⟩:=h
 injection hv with hv1 _ hv2
 subst hv1 hv2
 have hl:(l.take n).length=n:=by rw [List.length_take];omega
 refine ⟨_,_,by rw [hl],by omega,h2,fun hne=>?_⟩
 obtain ⟨b',o',hA,hel⟩:=h3 (by rintro rfl;simp at hne)
 refine ⟨b',o',hA,fun k x hx=>hel k x ?_⟩
 have hk:=(List.getElem?_eq_some_iff.1 hx).1
 rw [List.getElem?_take,if_pos (by omega)] at hx
 exact hx
theorem allow_tail (e:Ext w0 w) (n:Nat) (hn:r.steps[n]?=some x) (h2:w.heap[p2]?=some (.cells (rolCells r sv cv tv).toArray 26 (0,0))) (h5:w.heap[p5]?=some (.cells (stpCells x).toArray 71 (0,0))) {is:Bool} (his:is=decide (1≤x.kind∧x.kind≤4)) (h6:is=true→w.heap[p6]?=some (.cells (kindCells x.kind).toArray 89 (0,0)))
 (hS:StasOf w sv r.states) (hC:CntsOf w cv r.counters) (hT:StpsOf w tv r.steps) (hlim:∀ c∈r.counters,c.limit≤1000) (hx:StpSm x) :
 drawK w fun C3 w=>n47c20 (.int .i64 (n:Int)) (.pointer (some ⟨p2,0,none⟩)) (.pointer (some ⟨p5,0,none⟩)) (.pointer (some ⟨p6,0,none⟩)) (.bool is) C3 (retR fun u w'=>u = .bool (allowB r n x)∧Ext w0 w') w:=by
 have o1:=SliceOf.oneCell hS
 have o2:=SliceOf.oneCell hC
 have o3:=SliceOf.oneCell hT
 refine drawK_intro ?_
 have eD:Ext w (Sw.drew w):=(Ext.refl w).drew
 generalize (Sw.drew w)=wd at eD ⊢
 have E0:=e.trans eD
 have hR:∀ w',Ext wd w'→RolVal w' (.agg (rolCells r sv cv tv).toArray) r:=fun w' f=>⟨sv,cv,tv,rfl,hS.ext (eD.trans f),hC.ext (eD.trans f),hT.ext (eD.trans f)⟩
 unfold n47c20
 simp (disch:=try exact DI) only [↓PR,QR,simprocAttr,(cells_of_heap (eD.obj h2)).1,(cells_of_heap (eD.obj h5)).1]
 refine zcr (state_ret wd _ r x.fr (hR _ (Ext.refl _))) fun w1 e1=>?_
 refine ⟨e1,?_⟩
 refine zcr (counter_ret w1 _ r x.counter (hR _ e1)) fun w2 e2=>?_
 have e12:=e1.trans e2
 refine ⟨e12,?_⟩
 refine drawK_intro ?_
 have eD2:Ext w2 (Sw.drew w2):=(Ext.refl w2).drew
 have f3:=e12.trans eD2
 generalize (Sw.drew w2)=w3 at f3 ⊢
 clear eD2
 have g3:=eD.trans f3
 have E3:=E0.trans f3
 have c2:=cells_of_heap (g3.obj h2)
 have c5:=cells_of_heap (g3.obj h5)
 unfold allowB
 rw [← his]
 unfold n47c19
 cases is with
 | false =>
  simp (disch:=try exact DI) only [↓PR,QR,simprocAttr,↓n47c18,↓n47c17,↓n47c16]
  exact ⟨by trivial,E3⟩
 | true =>
 have h6:=h6 rfl
 have hkk:1≤x.kind∧x.kind≤4:=of_decide_eq_true his.symm
 by_cases ha:stateI r x.fr < 0
 · have d1:decide (stateI r x.fr < 0)=true:=decide_eq_true ha
   have d2:decide (0≤stateI r x.fr)=false:=decide_eq_false (by omega)
   rw [d2]
   simp (disch:=try exact DI) only [↓PR,QR,simprocAttr,d1,↓n47c18,↓n47c17,↓n47c16]
   exact ⟨by trivial,E3⟩
 have d1:decide (stateI r x.fr < 0)=false:=decide_eq_false ha
 have d2:decide (0≤stateI r x.fr)=true:=decide_eq_true (by omega)
 rw [d2]
 simp (disch:=try exact DI) only [↓PR,QR,simprocAttr,d1,↓n47c18,c2.1,c5.1]
 refine zcr (state_ret w3 _ r x.to (hR _ f3)) fun w4 e4=>?_
 have E4:=E3.trans e4
 have g4:=g3.trans e4
 refine ⟨e4,?_⟩
 by_cases hb:stateI r x.to < 0
 · have d3:decide (stateI r x.to < 0)=true:=decide_eq_true hb
   have d4:decide (0≤stateI r x.to)=false:=decide_eq_false (by omega)
   rw [d4]
   simp (disch:=try exact DI) only [↓PR,QR,simprocAttr,d3,↓n47c17,↓n47c16]
   exact ⟨by trivial,E4⟩
 have d3:decide (stateI r x.to < 0)=false:=decide_eq_false hb
 have d4:decide (0≤stateI r x.to)=true:=decide_eq_true (by omega)
 rw [d4]
 have hnl:=(List.getElem?_eq_some_iff.1 hn).1
 obtain ⟨A,c,rfl,hlc,hcm,_,hel⟩:=SliceOf.open hT
 obtain ⟨b,o,cs,rfl,_,hA,rfl⟩:=hel n x hn
 have hsl:∀ K:Value→Prop,qV Pg (EC w3) (Instr.sliceAt 24 (.slice (some ⟨b,o,none⟩) r.steps.length c) none (some (.int .i64 (n:Int))) none) K=K (.slice (some ⟨b,o,none⟩) n c):=fun K=>qV_of fun QP w k=>op_sliceTo Tryz.underlying24 ty71 b o r.steps.length c .i64 n (by omega)
 simp (disch:=try exact DI) only [↓PR,QR,simprocAttr,d3,↓n47c17,c2.1,hsl,c5.1]
 have hT4:StpsOf w4 (.slice (some ⟨b,o,none⟩) n c) (r.steps.take n):=take_slice (hT.ext g4) (by omega)
 refine zcr (Contains_Step_ret w4 _ _ x hT4) fun w5 e5=>?_
 have e45:=e4.trans e5
 have E5:=E3.trans e45
 have g5:=g3.trans e45
 refine ⟨e45,?_⟩
 have hany:((r.steps.take n).any fun y=>decide (x=y))=((r.steps.take n).any fun y=>decide (y=x)):=by
  congr 1;funext y;rw [Bool.eq_iff_iff,decide_eq_true_iff,decide_eq_true_iff];exact eq_comm
 rw [hany]
 cases hc:((r.steps.take n).any fun y=>decide (y=x)) with
 | true =>
  simp (disch:=try exact DI) only [↓PR,QR,simprocAttr,d3,↓n47c16]
  exact ⟨by trivial,E5⟩
 | false =>
 obtain ⟨j,hj⟩:∃ j:Nat,stateI r x.fr=j:=⟨(stateI r x.fr).toNat,by omega⟩
 obtain ⟨s,hsj,_⟩:=idx_get hj
 have hjl:=(List.getElem?_eq_some_iff.1 hsj).1
 obtain ⟨A2,c',rfl,_,_,_,hel2⟩:=SliceOf.open hS
 obtain ⟨b2,p,cs2,rfl,_,hA2,rfl⟩:=hel2 j s hsj
 have dk:(j:Int) < (r.states.length:Int):=by omega
 have hw:waitsB r x.fr=decide (0 < s.wait):=by unfold waitsB;rw [hj,Int.toNat_natCast,hsj]
 have c6:=cells_of_heap (g3.obj h6)
 have hk1:=kfV_one x.kind
 have hs3:=hA2.c3 g3
 rw [hj]
 simp (disch:=try exact DI) only [↓PR,QR,simprocAttr,d3,↓n47c16,c6.1,c2.1,hs3]
 have fin:∀ w6,Ext w3 w6→n47c15 (.pointer (some ⟨p2,0,none⟩)) (.pointer (some ⟨p5,0,none⟩)) (.pointer (some ⟨p6,0,none⟩)) (.int .i64 (counterI r x.counter)) (retR fun u w'=>u = .bool (partsB r x&&guardB r x)∧Ext w0 w') w6:=fun w6 e6=>allow_parts (E3.trans e6) ((g3.trans e6).obj h2) ((g3.trans e6).obj h5) ((g3.trans e6).obj h6) (hC.ext (g3.trans e6)) hlim hx
 unfold kfV
 by_cases h3:x.kind=3
 · rw [if_pos h3,callV_func c84]
   simp only [Array.append_empty]
   refine zcr (kindsS2_ret w5 s) fun w6 e6=>?_
   refine ⟨e45.trans e6,?_⟩
   rw [hw,show decide (x.kind≠3)=false by simp [h3]]
   cases decide (0 < s.wait) with
   | false =>
    simp (disch:=try exact DI) only [↓PR,QR,simprocAttr]
    exact ⟨by trivial,E5.trans e6⟩
   | true =>
    simp (disch:=try exact DI) only [↓PR,QR,simprocAttr]
    exact fin w6 (e45.trans e6)
 · rw [if_neg h3,callV_func c83]
   simp only [Array.append_empty]
   refine zcr (kindsS1_ret w5 s) fun w6 e6=>?_
   refine ⟨e45.trans e6,?_⟩
   rw [show decide (x.kind≠3)=true by simp [h3]]
   simp (disch:=try exact DI) only [↓PR,QR,simprocAttr]
   exact fin w6 (e45.trans e6)
end
def n31c1 (t31:Value) (R:RT) (w:World):Prop :=
 opV Pg (binS .geq 3 true t31 (.int .i64 0)) (panK R) w fun t33 w =>
 condP t33 (
 R (.returned (.tuple #[t31,(.int .i64 293)])) w) (
 R (.returned (.tuple #[(.int .i64 0),(.int .i64 0)])) w)
def n31c2 (t1:Value) (R:RT) (w:World):Prop :=
 opV Pg (Instr.fieldAt 26 t1 3) (panK R) w fun t27 w =>
 opV Pg (Instr.loadAt 24 t27) (panK R) w fun t28 w =>
 opV Pg (Builtin.len_ #[24] 3 #[t28]) (panK R) w fun t29 w =>
 opV Pg (Instr.makeFunc (.func 41) #[] #[t1]) (panK R) w fun t30 w =>
 callK Pg 36 #[t29,(.int .i64 0),(.int .i64 80),t30] (panK R) w fun t31 w =>
 n31c1 t31 R w
def n31c3 (t1:Value) (R:RT) (w:World):Prop :=
 opV Pg (Instr.fieldAt 26 t1 1) (panK R) w fun t19 w =>
 opV Pg (Instr.loadAt 22 t19) (panK R) w fun t20 w =>
 opV Pg (Builtin.len_ #[22] 3 #[t20]) (panK R) w fun t21 w =>
 opV Pg (Instr.makeFunc (.func 39) #[] #[t1]) (panK R) w fun t22 w =>
 callK Pg 36 #[t21,(.int .i64 1),(.int .i64 24),t22] (panK R) w fun t23 w =>
 opV Pg (binS .geq 3 true t23 (.int .i64 0)) (panK R) w fun t25 w =>
 condP t25 (
 R (.returned (.tuple #[t23,(.int .i64 292)])) w) (
 n31c2 t1 R w)
def n31c4 (t1:Value) (R:RT) (w:World):Prop :=
 opV Pg (Instr.fieldAt 26 t1 2) (panK R) w fun t11 w =>
 opV Pg (Instr.loadAt 23 t11) (panK R) w fun t12 w =>
 opV Pg (Builtin.len_ #[23] 3 #[t12]) (panK R) w fun t13 w =>
 opV Pg (Instr.makeFunc (.func 37) #[] #[t1]) (panK R) w fun t14 w =>
 callK Pg 36 #[t13,(.int .i64 0),(.int .i64 4),t14] (panK R) w fun t15 w =>
 opV Pg (binS .geq 3 true t15 (.int .i64 0)) (panK R) w fun t17 w =>
 condP t17 (
 R (.returned (.tuple #[t15,(.int .i64 291)])) w) (
 n31c3 t1 R w)
def n31 (t0:Value) (R:RT) (w:World):Prop :=
 opV Pg (Instr.box 26 t0) (panK R) w fun t1 w =>
 opV Pg (Instr.fieldAt 26 t1 0) (panK R) w fun t7 w =>
 opV Pg (Instr.loadAt 9 t7) (panK R) w fun t8 w =>
 callK Pg 17 #[t8] (panK R) w fun t9 w =>
 opV Pg (Op.unary .not t9) (panK R) w fun t10 w =>
 condP t10 (
 R (.returned (.tuple #[(.int .i64 0),(.int .i64 290)])) w) (
 n31c4 t1 R w)
theorem n31s {t0:Value} {R:RT} {w:World} (h:n31 t0 R w):Calls Pg 12 #[t0] w R:=by
 refine yD Tryz.func12 ?_
 refine zs<|zr<|yv h fun _ w h=>zm<|zm<|zn<|zk<|zs<|zs<|zr<|yv h fun _ w h=>yv h fun _ w h=>yc h c17 fun _ w h=>yv h fun _ w h=>zn ?_
 refine zk<|yC h (fun h=>zs<|zr<|zm<|zm<|zn<|zk<|sim_ret<|sim_then_ret<|body_ret2 rfl rfl rfl h) fun h=>sim_skip<|zk<|zs<|zs<|zr<|yv h fun _ w h=>yv h fun _ w h=>yx h fun _ w h=>yF h fun _ w h=>yc h c36 fun _ w h=>zm<|zn ?_
 refine zk<|zs<|zr<|zm<|yb h fun _ w h=>zn<|zk<|yC h (fun h=>zs<|zr<|zm<|zm<|zm<|zn<|zk<|sim_ret<|sim_then_ret<|body_ret2 rfl rfl rfl h) fun h=>sim_skip<|zk<|zs<|zs<|zr<|yv h fun _ w h=>?_
 refine yv h fun _ w h=>yx h fun _ w h=>yF h fun _ w h=>yc h c36 fun _ w h=>zm<|zn<|zk<|zs<|zr<|zm<|yb h fun _ w h=>zn<|zk<|yC h (fun h=>zs<|zr<|zm<|zm<|zm<|zn<|zk<|sim_ret<|sim_then_ret<|body_ret2 rfl rfl rfl h) fun h=>?_
 refine sim_skip<|zk<|zs<|zs<|zr<|yv h fun _ w h=>yv h fun _ w h=>yx h fun _ w h=>yF h fun _ w h=>yc h c36 fun _ w h=>zm<|zn<|zk<|zs<|zr ?_
 refine zm<|yb h fun _ w h=>zn<|zk<|yC h (fun h=>zs<|zr<|zm<|zm<|zm<|zn<|zk<|sim_ret<|sim_then_ret<|body_ret2 rfl rfl rfl h) fun h=>sim_skip<|zk<|zs<|zr<|zm<|zm<|zn<|zk<|sim_ret ?_
 exact body_ret2 rfl rfl rfl h
def n13c1 (t4 t50 t58:Value) (next1:KV) (R:RT) (w:World):Prop :=
 pickK t50 (.bool true) t58 fun t59 =>
 condP t59 (
 R (.returned (.tuple #[t4,(.int .i64 291)])) w) (
 opV Pg (binS .add 3 true t4 (.int .i64 1)) (panK R) w fun t21 w =>
 next1 t21 w)
def n13c2 (t1 t4 t41 t49:Value) (C2:World→Prop) (next1:KV) (R:RT) (w:World):Prop :=
 pickK t41 (.bool true) t49 fun t50 =>
 joinK (fun (t58:Value) (w:World) =>
 n13c1 t4 t50 t58 next1 R w) fun K5 =>
 guardP t50 false (
 qV Pg C2 (Instr.fieldAt 26 t1 2) fun t52 =>
 qV Pg C2 (Instr.loadAt 23 t52) fun t53 =>
 qV Pg C2 (Instr.indexAt 23 t53 t4) fun t55 =>
 qV Pg C2 (Instr.fieldAt 52 t55 1) fun t56 =>
 qV Pg C2 (Instr.loadAt 3 t56) fun t57 =>
 qV Pg C2 (binS .gtr 3 true t57 (.int .i64 1000)) fun t58 =>
 K5 t58 w) (
 K5 undef w)
def n13c3 (t1 t4 t29 t40:Value) (C2:World→Prop) (next1:KV) (R:RT) (w:World):Prop :=
 pickK t29 (.bool true) t40 fun t41 =>
 joinK (fun (t49:Value) (w:World) =>
 n13c2 t1 t4 t41 t49 C2 next1 R w) fun K4 =>
 guardP t41 false (
 qV Pg C2 (Instr.fieldAt 26 t1 2) fun t43 =>
 qV Pg C2 (Instr.loadAt 23 t43) fun t44 =>
 qV Pg C2 (Instr.indexAt 23 t44 t4) fun t46 =>
 qV Pg C2 (Instr.fieldAt 52 t46 1) fun t47 =>
 qV Pg C2 (Instr.loadAt 3 t47) fun t48 =>
 qV Pg C2 (binS .lss 3 true t48 (.int .i64 1)) fun t49 =>
 K4 t49 w) (
 K4 undef w)
def n13c4 (t1 t4 t28:Value) (C2:World→Prop) (next1:KV) (R:RT) (w:World):Prop :=
 qV Pg C2 (Op.unary .not t28) fun t29 =>
 joinK (fun (t40:Value) (w:World) =>
 n13c3 t1 t4 t29 t40 C2 next1 R w) fun K3 =>
 guardP t29 false (
 qV Pg C2 (Instr.loadAt 26 t1) fun t31 =>
 qV Pg C2 (Instr.fieldAt 26 t1 2) fun t32 =>
 qV Pg C2 (Instr.loadAt 23 t32) fun t33 =>
 qV Pg C2 (Instr.indexAt 23 t33 t4) fun t35 =>
 qV Pg C2 (Instr.fieldAt 52 t35 0) fun t36 =>
 qV Pg C2 (Instr.loadAt 9 t36) fun t37 =>
 callK Pg 43 #[t31,t37] (panK R) w fun t38 w =>
 C2 w∧(
 qV Pg C2 (binS .neq 3 false t38 t4) fun t40 =>
 K3 t40 w)) (
 K3 undef w)
def n13c5 (t1 t4:Value) (C2:World→Prop) (next1:KV) (R:RT) (w:World):Prop :=
 qV Pg C2 (Instr.fieldAt 26 t1 2) fun t22 =>
 qV Pg C2 (Instr.loadAt 23 t22) fun t23 =>
 qV Pg C2 (Instr.indexAt 23 t23 t4) fun t25 =>
 qV Pg C2 (Instr.fieldAt 52 t25 0) fun t26 =>
 qV Pg C2 (Instr.loadAt 9 t26) fun t27 =>
 callK Pg 18 #[t27] (panK R) w fun t28 w =>
 C2 w∧(
 n13c4 t1 t4 t28 C2 next1 R w)
def n13c6 (t5 t104 t112:Value) (next6:KV) (R:RT) (w:World):Prop :=
 pickK t104 (.bool true) t112 fun t113 =>
 condP t113 (
 R (.returned (.tuple #[t5,(.int .i64 292)])) w) (
 opV Pg (binS .add 3 true t5 (.int .i64 1)) (panK R) w fun t75 w =>
 next6 t75 w)
def n13c7 (t1 t5 t95 t103:Value) (C7:World→Prop) (next6:KV) (R:RT) (w:World):Prop :=
 pickK t95 (.bool true) t103 fun t104 =>
 joinK (fun (t112:Value) (w:World) =>
 n13c6 t5 t104 t112 next6 R w) fun K10 =>
 guardP t104 false (
 qV Pg C7 (Instr.fieldAt 26 t1 1) fun t106 =>
 qV Pg C7 (Instr.loadAt 22 t106) fun t107 =>
 qV Pg C7 (Instr.indexAt 22 t107 t5) fun t109 =>
 qV Pg C7 (Instr.fieldAt 50 t109 2) fun t110 =>
 qV Pg C7 (Instr.loadAt 3 t110) fun t111 =>
 qV Pg C7 (binS .gtr 3 true t111 (.int .i64 1048576)) fun t112 =>
 K10 t112 w) (
 K10 undef w)
def n13c8 (t1 t5 t83 t94:Value) (C7:World→Prop) (next6:KV) (R:RT) (w:World):Prop :=
 pickK t83 (.bool true) t94 fun t95 =>
 joinK (fun (t103:Value) (w:World) =>
 n13c7 t1 t5 t95 t103 C7 next6 R w) fun K9 =>
 guardP t95 false (
 qV Pg C7 (Instr.fieldAt 26 t1 1) fun t97 =>
 qV Pg C7 (Instr.loadAt 22 t97) fun t98 =>
 qV Pg C7 (Instr.indexAt 22 t98 t5) fun t100 =>
 qV Pg C7 (Instr.fieldAt 50 t100 2) fun t101 =>
 qV Pg C7 (Instr.loadAt 3 t101) fun t102 =>
 qV Pg C7 (binS .lss 3 true t102 (.int .i64 0)) fun t103 =>
 K9 t103 w) (
 K9 undef w)
def n13c9 (t1 t5 t82:Value) (C7:World→Prop) (next6:KV) (R:RT) (w:World):Prop :=
 qV Pg C7 (Op.unary .not t82) fun t83 =>
 joinK (fun (t94:Value) (w:World) =>
 n13c8 t1 t5 t83 t94 C7 next6 R w) fun K8 =>
 guardP t83 false (
 qV Pg C7 (Instr.loadAt 26 t1) fun t85 =>
 qV Pg C7 (Instr.fieldAt 26 t1 1) fun t86 =>
 qV Pg C7 (Instr.loadAt 22 t86) fun t87 =>
 qV Pg C7 (Instr.indexAt 22 t87 t5) fun t89 =>
 qV Pg C7 (Instr.fieldAt 50 t89 0) fun t90 =>
 qV Pg C7 (Instr.loadAt 9 t90) fun t91 =>
 callK Pg 44 #[t85,t91] (panK R) w fun t92 w =>
 C7 w∧(
 qV Pg C7 (binS .neq 3 false t92 t5) fun t94 =>
 K8 t94 w)) (
 K8 undef w)
def n13c10 (t1 t5:Value) (C7:World→Prop) (next6:KV) (R:RT) (w:World):Prop :=
 qV Pg C7 (Instr.fieldAt 26 t1 1) fun t76 =>
 qV Pg C7 (Instr.loadAt 22 t76) fun t77 =>
 qV Pg C7 (Instr.indexAt 22 t77 t5) fun t79 =>
 qV Pg C7 (Instr.fieldAt 50 t79 0) fun t80 =>
 qV Pg C7 (Instr.loadAt 9 t80) fun t81 =>
 callK Pg 18 #[t81] (panK R) w fun t82 w =>
 C7 w∧(
 n13c9 t1 t5 t82 C7 next6 R w)
def n13c11 (t6 t128:Value) (next11:KV) (R:RT) (w:World):Prop :=
 opV Pg (Op.unary .not t128) (panK R) w fun t129 w =>
 condP t129 (
 R (.returned (.tuple #[t6,(.int .i64 293)])) w) (
 opV Pg (binS .add 3 true t6 (.int .i64 1)) (panK R) w fun t125 w =>
 next11 t125 w)
def n13c12 (t1 t6:Value) (next11:KV) (R:RT) (w:World):Prop :=
 opV Pg (Instr.fieldAt 26 t1 3) (panK R) w fun t120 w =>
 opV Pg (Instr.loadAt 24 t120) (panK R) w fun t121 w =>
 opV Pg (Builtin.len_ #[24] 3 #[t121]) (panK R) w fun t122 w =>
 opV Pg (binS .lss 3 false t6 t122) (panK R) w fun t123 w =>
 condP t123 (
 opV Pg (Instr.loadAt 26 t1) (panK R) w fun t126 w =>
 callK Pg 45 #[t126,t6] (panK R) w fun t128 w =>
 n13c11 t6 t128 next11 R w) (
 R (.returned (.tuple #[(.int .i64 0),(.int .i64 0)])) w)
def n13c13 (t1:Value) (R:RT) (w:World):Prop :=
 opV Pg (Instr.fieldAt 26 t1 3) (panK R) w fun t115 w =>
 opV Pg (Instr.loadAt 24 t115) (panK R) w fun t116 w =>
 opV Pg (Builtin.len_ #[24] 3 #[t116]) (panK R) w fun t117 w =>
 opV Pg (binS .gtr 3 true t117 (.int .i64 80)) (panK R) w fun t118 w =>
 condP t118 (
 R (.returned (.tuple #[(.int .i64 80),(.int .i64 293)])) w) (
 loop1 (fun t6 w next11 =>
 n13c12 t1 t6 next11 R w) (.int .i64 0) w)
def n13c14 (t1 t5:Value) (next6:KV) (R:RT) (w:World):Prop :=
 opV Pg (Instr.fieldAt 26 t1 1) (panK R) w fun t70 w =>
 opV Pg (Instr.loadAt 22 t70) (panK R) w fun t71 w =>
 opV Pg (Builtin.len_ #[22] 3 #[t71]) (panK R) w fun t72 w =>
 opV Pg (binS .lss 3 false t5 t72) (panK R) w fun t73 w =>
 condP t73 (
 drawK w fun C7 w =>
 n13c10 t1 t5 C7 next6 R w) (
 n13c13 t1 R w)
def n13c15 (t1:Value) (R:RT) (w:World):Prop :=
 opV Pg (Instr.fieldAt 26 t1 1) (panK R) w fun t65 w =>
 opV Pg (Instr.loadAt 22 t65) (panK R) w fun t66 w =>
 opV Pg (Builtin.len_ #[22] 3 #[t66]) (panK R) w fun t67 w =>
 opV Pg (binS .gtr 3 true t67 (.int .i64 24)) (panK R) w fun t68 w =>
 condP t68 (
 R (.returned (.tuple #[(.int .i64 24),(.int .i64 292)])) w) (
 loop1 (fun t5 w next6 =>
 n13c14 t1 t5 next6 R w) (.int .i64 0) w)
def n13c16 (t1:Value) (R:RT) (w:World):Prop :=
 opV Pg (Instr.fieldAt 26 t1 1) (panK R) w fun t61 w =>
 opV Pg (Instr.loadAt 22 t61) (panK R) w fun t62 w =>
 opV Pg (Builtin.len_ #[22] 3 #[t62]) (panK R) w fun t63 w =>
 opV Pg (binS .eql 3 true t63 (.int .i64 0)) (panK R) w fun t64 w =>
 condP t64 (
 R (.returned (.tuple #[(.int .i64 0),(.int .i64 292)])) w) (
 n13c15 t1 R w)
def n13c17 (t1 t4:Value) (next1:KV) (R:RT) (w:World):Prop :=
 opV Pg (Instr.fieldAt 26 t1 2) (panK R) w fun t16 w =>
 opV Pg (Instr.loadAt 23 t16) (panK R) w fun t17 w =>
 opV Pg (Builtin.len_ #[23] 3 #[t17]) (panK R) w fun t18 w =>
 opV Pg (binS .lss 3 false t4 t18) (panK R) w fun t19 w =>
 condP t19 (
 drawK w fun C2 w =>
 n13c5 t1 t4 C2 next1 R w) (
 n13c16 t1 R w)
def n13c18 (t1:Value) (R:RT) (w:World):Prop :=
 opV Pg (Instr.fieldAt 26 t1 2) (panK R) w fun t11 w =>
 opV Pg (Instr.loadAt 23 t11) (panK R) w fun t12 w =>
 opV Pg (Builtin.len_ #[23] 3 #[t12]) (panK R) w fun t13 w =>
 opV Pg (binS .gtr 3 true t13 (.int .i64 4)) (panK R) w fun t14 w =>
 condP t14 (
 R (.returned (.tuple #[(.int .i64 4),(.int .i64 291)])) w) (
 loop1 (fun t4 w next1 =>
 n13c17 t1 t4 next1 R w) (.int .i64 0) w)
def n13 (t0:Value) (R:RT) (w:World):Prop :=
 opV Pg (Instr.box 26 t0) (panK R) w fun t1 w =>
 opV Pg (Instr.fieldAt 26 t1 0) (panK R) w fun t7 w =>
 opV Pg (Instr.loadAt 9 t7) (panK R) w fun t8 w =>
 callK Pg 18 #[t8] (panK R) w fun t9 w =>
 opV Pg (Op.unary .not t9) (panK R) w fun t10 w =>
 condP t10 (
 R (.returned (.tuple #[(.int .i64 0),(.int .i64 290)])) w) (
 n13c18 t1 R w)
set_option maxHeartbeats 40000000 in
theorem n13s {t0:Value} {R:RT} {w:World} (h:n13 t0 R w):Calls Pg 13 #[t0] w R:=by
 refine yD Tryz.func13 ?_
 refine zs<|zr<|yv h fun _ w h=>zm<|zm<|zn<|zk<|zs<|zs<|zr<|yv h fun _ w h=>yv h fun _ w h=>yc h c18 fun _ w h=>yv h fun _ w h=>zn ?_
 refine zk<|yC h (fun h=>zs<|zr<|zm<|zm<|zn<|zk<|sim_ret<|sim_then_ret<|body_ret2 rfl rfl rfl h) fun h=>sim_skip<|zk<|zs<|zs<|zr<|yv h fun _ w h=>yv h fun _ w h=>yx h fun _ w h=>yb h fun _ w h=>zn<|zk<|yC h (fun h=>zs<|zr<|zm<|zm<|zn<|zk<|sim_ret<|sim_then_ret<|body_ret2 rfl rfl rfl h) fun h=>?_
 refine sim_skip<|zk<|zs<|zs<|zr<|zm<|zn<|zk<|sim_block<|yl1 [2,3,4,15,16,17,18,19,20,21,22,23,24,25,26,27,28,29,30,31,32,33,34,35,36,37,38,39,40,41,42,43,44,45,46,47,48,49,50,51,52,53,54,55,56,57,58,59,60] 4 h fun σ w next h=>zs<|zs<|zr<|zm<|yv h fun _ w h=>?_
 refine yv h fun _ w h=>yx h fun _ w h=>yb h fun _ w h=>zn<|zk<|yC h (fun h=>?_) fun h=>?_
 · refine sim_skip<|zk<|zs<|sim_block<|zs<|yh [22,23,24,25,26,27,28,29,30,31,32,33,34,35,36,37,38,39,40,41,42,43,44,45,46,47,48,49,50,51,52,53,54,55,56,57,58,59] h fun C hC h=>ye 0 hC h fun _ h=>?_
   refine ye 1 hC h fun _ h=>?_
   refine yw 2 hC ?_
   refine ye 3 hC h fun _ h=>?_
   refine ye 4 hC h fun _ h=>?_
   refine ye 5 hC h fun _ h=>?_
   refine yo 6 ?_
   refine yc h c18 fun _ w h=>zn ?_
   obtain ⟨hC,h⟩:=h
   refine ⟨hC,?_⟩
   refine ye 7 hC h fun _ h=>?_
   refine yw 8 hC ?_
   refine yj1 19 [18,16,17,15,14,13,12,11,10,9,8,7,6,5,4,3,2,1,0] [31,32,33,34,35,36,37,38,39,40] 40 h (fun _ hT hb h=>?_) (fun _ hT hb h=>?_) fun σ w hC h=>?_
   · refine ye 9 hC h fun _ h=>?_
     refine ye 10 hC h fun _ h=>?_
     refine ye 11 hC h fun _ h=>?_
     refine yw 12 hC ?_
     refine ye 13 hC h fun _ h=>?_
     refine ye 14 hC h fun _ h=>?_
     refine ye 15 hC h fun _ h=>?_
     refine yw 17 hC ?_
     refine yo 16 ?_
     refine yc h c43 fun _ w h=>zn ?_
     obtain ⟨hC,h⟩:=h
     refine ⟨hC,?_⟩
     refine ye 18 hC h fun _ h=>?_
     exact yt hT hC h
   · refine yi 9 hC ?_
     refine yi 10 hC ?_
     refine yi 11 hC ?_
     refine yi 12 hC ?_
     refine yi 13 hC ?_
     refine yi 14 hC ?_
     refine yi 15 hC ?_
     refine yi 17 hC ?_
     refine yi 16 hC ?_
     refine yi 18 hC ?_
     exact yt hT hC h
   refine yP 19 hC h fun _ h=>?_
   refine yw 20 hC ?_
   refine yj1 10 [27,26,25,24,23,22,21,20,19,18,16,17,15,14,13,12,11,10,9,8,7,6,5,4,3,2,1,0] [43,44,45,46,47,48,49] 49 h (fun _ hT hb h=>?_) (fun _ hT hb h=>?_) fun σ w hC h=>?_
   · refine ye 21 hC h fun _ h=>?_
     refine ye 22 hC h fun _ h=>?_
     refine yw 23 hC ?_
     refine ye 24 hC h fun _ h=>?_
     refine ye 25 hC h fun _ h=>?_
     refine ye 26 hC h fun _ h=>?_
     refine ye 27 hC h fun _ h=>?_
     exact yt hT hC h
   · refine yi 21 hC ?_
     refine yi 22 hC ?_
     refine yi 23 hC ?_
     refine yi 24 hC ?_
     refine yi 25 hC ?_
     refine yi 26 hC ?_
     refine yi 27 hC ?_
     exact yt hT hC h
   refine yP 28 hC h fun _ h=>?_
   refine yw 29 hC ?_
   refine yj1 1 [36,35,34,33,32,31,30,29,28,27,26,25,24,23,22,21,20,19,18,16,17,15,14,13,12,11,10,9,8,7,6,5,4,3,2,1,0] [52,53,54,55,56,57,58] 58 h (fun _ hT hb h=>?_) (fun _ hT hb h=>?_) fun σ w hC h=>?_
   · refine ye 30 hC h fun _ h=>?_
     refine ye 31 hC h fun _ h=>?_
     refine yw 32 hC ?_
     refine ye 33 hC h fun _ h=>?_
     refine ye 34 hC h fun _ h=>?_
     refine ye 35 hC h fun _ h=>?_
     refine ye 36 hC h fun _ h=>?_
     exact yt hT hC h
   · refine yi 30 hC ?_
     refine yi 31 hC ?_
     refine yi 32 hC ?_
     refine yi 33 hC ?_
     refine yi 34 hC ?_
     refine yi 35 hC ?_
     refine yi 36 hC ?_
     exact yt hT hC h
   refine yP 37 hC h fun _ h=>?_
   exact yz<|zk<|yC h (fun h=>zs<|zr<|zm<|zm<|zm<|zn<|zk<|sim_ret<|sim_block_ret<|sim_then_ret<|sim_then_ret<|sim_block_ret<|sim_then_ret<|body_ret2 rfl rfl rfl h) fun h=>sim_skip<|sim_block_normal<|zk<|zr<|zm<|yb h fun _ w h=>zm<|zn<|zk<|⟨rfl,h⟩
 refine sim_exit<|sim_then_exit<|sim_then_exit<|sim_block_hit<|zk<|zs<|zs<|zr<|yv h fun _ w h=>yv h fun _ w h=>yx h fun _ w h=>yb h fun _ w h=>zn<|zk<|yC h (fun h=>zs<|zr<|zm<|zm<|zn<|zk<|sim_ret<|sim_then_ret<|body_ret2 rfl rfl rfl h) fun h=>?_
 refine sim_skip<|zk<|zs<|zs<|zr<|yv h fun _ w h=>yv h fun _ w h=>yx h fun _ w h=>yb h fun _ w h=>zn<|zk<|yC h (fun h=>zs<|zr<|zm<|zm<|zn<|zk<|sim_ret<|sim_then_ret<|body_ret2 rfl rfl rfl h) fun h=>sim_skip<|zk ?_
 refine zs<|zs<|zr<|zm<|zn<|zk<|sim_block<|yl1 [2,3,5,69,70,71,72,73,74,75,76,77,78,79,80,81,82,83,84,85,86,87,88,89,90,91,92,93,94,95,96,97,98,99,100,101,102,103,104,105,106,107,108,109,110,111,112,113,114] 5 h fun σ w next h=>zs<|zs<|zr<|zm<|yv h fun _ w h=>yv h fun _ w h=>yx h fun _ w h=>?_
 refine yb h fun _ w h=>zn<|zk<|yC h (fun h=>?_) fun h=>?_
 · refine sim_skip<|zk<|zs<|sim_block<|zs<|yh [76,77,78,79,80,81,82,83,84,85,86,87,88,89,90,91,92,93,94,95,96,97,98,99,100,101,102,103,104,105,106,107,108,109,110,111,112,113] h fun C hC h=>ye 0 hC h fun _ h=>?_
   refine ye 1 hC h fun _ h=>?_
   refine yw 2 hC ?_
   refine ye 3 hC h fun _ h=>?_
   refine ye 4 hC h fun _ h=>?_
   refine ye 5 hC h fun _ h=>?_
   refine yo 6 ?_
   refine yc h c18 fun _ w h=>zn ?_
   obtain ⟨hC,h⟩:=h
   refine ⟨hC,?_⟩
   refine ye 7 hC h fun _ h=>?_
   refine yw 8 hC ?_
   refine yj1 19 [18,16,17,15,14,13,12,11,10,9,8,7,6,5,4,3,2,1,0] [85,86,87,88,89,90,91,92,93,94] 94 h (fun _ hT hb h=>?_) (fun _ hT hb h=>?_) fun σ w hC h=>?_
   · refine ye 9 hC h fun _ h=>?_
     refine ye 10 hC h fun _ h=>?_
     refine ye 11 hC h fun _ h=>?_
     refine yw 12 hC ?_
     refine ye 13 hC h fun _ h=>?_
     refine ye 14 hC h fun _ h=>?_
     refine ye 15 hC h fun _ h=>?_
     refine yw 17 hC ?_
     refine yo 16 ?_
     refine yc h c44 fun _ w h=>zn ?_
     obtain ⟨hC,h⟩:=h
     refine ⟨hC,?_⟩
     refine ye 18 hC h fun _ h=>?_
     exact yt hT hC h
   · refine yi 9 hC ?_
     refine yi 10 hC ?_
     refine yi 11 hC ?_
     refine yi 12 hC ?_
     refine yi 13 hC ?_
     refine yi 14 hC ?_
     refine yi 15 hC ?_
     refine yi 17 hC ?_
     refine yi 16 hC ?_
     refine yi 18 hC ?_
     exact yt hT hC h
   refine yP 19 hC h fun _ h=>?_
   refine yw 20 hC ?_
   refine yj1 10 [27,26,25,24,23,22,21,20,19,18,16,17,15,14,13,12,11,10,9,8,7,6,5,4,3,2,1,0] [97,98,99,100,101,102,103] 103 h (fun _ hT hb h=>?_) (fun _ hT hb h=>?_) fun σ w hC h=>?_
   · refine ye 21 hC h fun _ h=>?_
     refine ye 22 hC h fun _ h=>?_
     refine yw 23 hC ?_
     refine ye 24 hC h fun _ h=>?_
     refine ye 25 hC h fun _ h=>?_
     refine ye 26 hC h fun _ h=>?_
     refine ye 27 hC h fun _ h=>?_
     exact yt hT hC h
   · refine yi 21 hC ?_
     refine yi 22 hC ?_
     refine yi 23 hC ?_
     refine yi 24 hC ?_
     refine yi 25 hC ?_
     refine yi 26 hC ?_
     refine yi 27 hC ?_
     exact yt hT hC h
   refine yP 28 hC h fun _ h=>?_
   refine yw 29 hC ?_
   refine yj1 1 [36,35,34,33,32,31,30,29,28,27,26,25,24,23,22,21,20,19,18,16,17,15,14,13,12,11,10,9,8,7,6,5,4,3,2,1,0] [106,107,108,109,110,111,112] 112 h (fun _ hT hb h=>?_) (fun _ hT hb h=>?_) fun σ w hC h=>?_
   · refine ye 30 hC h fun _ h=>?_
     refine ye 31 hC h fun _ h=>?_
     refine yw 32 hC ?_
     refine ye 33 hC h fun _ h=>?_
     refine ye 34 hC h fun _ h=>?_
     refine ye 35 hC h fun _ h=>?_
     refine ye 36 hC h fun _ h=>?_
     exact yt hT hC h
   · refine yi 30 hC ?_
     refine yi 31 hC ?_
     refine yi 32 hC ?_
     refine yi 33 hC ?_
     refine yi 34 hC ?_
     refine yi 35 hC ?_
     refine yi 36 hC ?_
     exact yt hT hC h
   refine yP 37 hC h fun _ h=>?_
   exact yz<|zk<|yC h (fun h=>zs<|zr<|zm<|zm<|zm<|zn<|zk<|sim_ret<|sim_block_ret<|sim_then_ret<|sim_then_ret<|sim_block_ret<|sim_then_ret<|body_ret2 rfl rfl rfl h) fun h=>sim_skip<|sim_block_normal<|zk<|zr<|zm<|yb h fun _ w h=>zm<|zn<|zk<|⟨rfl,h⟩
 refine sim_exit<|sim_then_exit<|sim_then_exit<|sim_block_hit<|zk<|zs<|zs<|zr<|yv h fun _ w h=>yv h fun _ w h=>yx h fun _ w h=>yb h fun _ w h=>zn<|zk<|yC h (fun h=>zs<|zr<|zm<|zm<|zn<|zk<|sim_ret<|sim_then_ret<|body_ret2 rfl rfl rfl h) fun h=>?_
 refine sim_skip<|zk<|zs<|zs<|zr<|zm<|zn<|zk<|sim_block<|yl1 [2,3,6,119,120,121,122,123,124,125,126,127,128,129,130] 6 h fun σ w next h=>zs<|zs<|zr<|zm<|yv h fun _ w h=>?_
 refine yv h fun _ w h=>yx h fun _ w h=>yb h fun _ w h=>zn<|zk<|yC h (fun h=>?_) fun h=>?_
 · refine sim_skip<|zk<|zs<|sim_block<|zs<|zr<|yv h fun _ w h=>zm<|yc h c45 fun _ w h=>yv h fun _ w h=>zn<|zk<|yC h (fun h=>zs<|zr<|zm<|zm<|zm<|zn<|zk<|sim_ret<|sim_block_ret<|sim_then_ret<|sim_then_ret<|sim_block_ret<|sim_then_ret<|body_ret2 rfl rfl rfl h) fun h=>sim_skip ?_
   exact sim_block_normal<|zk<|zr<|zm<|yb h fun _ w h=>zm<|zn<|zk<|⟨rfl,h⟩
 exact sim_exit<|sim_then_exit<|sim_then_exit<|sim_block_hit<|zk<|zs<|zr<|zm<|zm<|zn<|zk<|sim_ret<|body_ret2 rfl rfl rfl h
abbrev zeroK:Array Value := #[.string ByteArray.empty,.bool false,.nilFunc]
theorem kinds_get {L:List (Int×Value×Nat)} (h:KindsR L) (k:Int):∃ a b c:Value,(Sw.look L k).getD (.agg zeroK) = .agg #[a,b,c]∧(Sw.look L k).isSome=decide (1≤k∧k≤4)∧a.oneCell'=true∧b.oneCell'=true∧c.oneCell'=true∧(1≤k∧k≤4 → #[a,b,c]=(kindCells k).toArray):=by
 rw [h k]
 by_cases hk:1≤k∧k≤4
 · rw [if_pos hk]
   exact ⟨_,_,_,rfl,by simp [hk],rfl,rfl,kfV_one k,fun _=>rfl⟩
 · rw [if_neg hk]
   exact ⟨_,_,_,rfl,by simp [hk],rfl,rfl,rfl,fun h=>absurd h hk⟩
theorem allowed_ret (w0:World) (v:Value) (r:RolD) (n:Nat) (hr:RolVal w0 v r) (hn:n < r.steps.length) (hlim:∀ c∈r.counters,c.limit≤1000) (hsm:∀ x∈r.steps,StpSm x):Ret Pg 42 #[v,.int .i64 (n:Int)] w0 fun u w'=>u = .bool (stpB r n)∧Ext w0 w':=by
 obtain ⟨sv,cv,tv,rfl,hS,hC,hT,o1,o2,o3⟩:=hr.op
 obtain ⟨x,hx⟩:=getElem?_lt hn
 have hst:stpB r n=allowB r n x:=by unfold stpB;rw [hx]
 rw [hst]
 have hT':=hT
 obtain ⟨A,c,rfl,_,_,_,hel⟩:=SliceOf.open hT
 obtain ⟨b,o,cs,rfl,_,hA,rfl⟩:=hel n x hx
 have dk:(n:Int) < (r.steps.length:Int):=by omega
 refine n47s (R:=retR _) ?_;unfold n47
 rw [op_boxA]
 have h2:=heap_new w0 (rolCells r sv cv (.slice (some ⟨b,o,none⟩) r.steps.length c)).toArray 26
 have eW:Ext w0 (w0.alloc (.cells (rolCells r sv cv (.slice (some ⟨b,o,none⟩) r.steps.length c)).toArray 26)):=ee
 generalize (w0.alloc (.cells (rolCells r sv cv (.slice (some ⟨b,o,none⟩) r.steps.length c)).toArray 26))=W at h2 eW ⊢
 generalize hp2:w0.heap.size=p2 at h2 ⊢
 simp (disch:=try exact DI) only [↓PR,QR,simprocAttr,(cells_of_heap h2).1,hA.c9 eW]
 generalize hV:World.alloc W _=V
 have h5:V.heap[W.heap.size]?=some (.cells (stpCells x).toArray 71 (0,0)):=by rw [← hV];exact heap_new _ _ _
 have eV:Ext W V:=by rw [← hV];exact (Ext.refl W).alloc _
 clear hV
 generalize hp5:W.heap.size=p5 at h5 ⊢
 have E0:=eW.trans eV
 refine drawK_intro ?_
 have eD:Ext V (Sw.drew V):=(Ext.refl V).drew
 generalize (Sw.drew V)=D at eD ⊢
 have ED:=E0.trans eD
 have d2:=(eV.trans eD).obj h2
 have d5:=eD.obj h5
 unfold n47c23
 simp (disch:=try exact DI) only [↓PR,QR,simprocAttr,(cells_of_heap d5).1]
 have fin:∀ (w':World) (m p6 cc:Nat) (L:List (Int×Value×Nat)) (a b' c' a0 b0 c0:Value),Ext D w'→MapB w' m kEnc L cc→D.heap.size≤p6→w'.heap[p6]?=some (.cells #[a0,b0,c0] 89 (0,0))→(Sw.look L x.kind).getD (.agg zeroK) = .agg #[a,b',c']→(Sw.look L x.kind).isSome=decide (1≤x.kind∧x.kind≤4)→a.oneCell'=true→b'.oneCell'=true→c'.oneCell'=true→(1≤x.kind∧x.kind≤4 → #[a,b',c']=(kindCells x.kind).toArray) →
  opU Pg (Instr.storeAt 89 (.pointer (some ⟨p6,0,none⟩)) (.agg #[a,b',c'])) (panK (retR fun u w'=>u = .bool (allowB r n x)∧Ext w0 w')) w' fun w=>KM D m kEnc L cc w∧drawK w fun C3 w=>n47c20 (.int .i64 (n:Int)) (.pointer (some ⟨p2,0,none⟩)) (.pointer (some ⟨p5,0,none⟩)) (.pointer (some ⟨p6,0,none⟩)) (.bool (decide (1≤x.kind∧x.kind≤4))) C3 (retR fun u w'=>u = .bool (allowB r n x)∧Ext w0 w') w:=by
  intro w' m p6 cc L a b' c' a0 b0 c0 e' hM hp6 o6 hab _ h1 h2' h3 hk
  simp (disch:=try exact DI) only [↓PR,QR,simprocAttr,(cells_of_heap o6).1,(cells_of_heap o6).2]
  have e6:Ext D (((w'.setCell ⟨p6,0,none⟩ a).setCell ⟨p6,1,none⟩ b').setCell ⟨p6,2,none⟩ c'):=((e'.setCell (p:=⟨p6,0,none⟩) hp6 _).setCell (p:=⟨p6,1,none⟩) hp6 _).setCell (p:=⟨p6,2,none⟩) hp6 _
  have o6':(((w'.setCell ⟨p6,0,none⟩ a).setCell ⟨p6,1,none⟩ b').setCell ⟨p6,2,none⟩ c').heap[p6]?=some (.cells #[a,b',c'] 89 (0,0)):=by simpa using heap_set (o:=2) (heap_set (o:=1) (heap_set (o:=0) o6 a) b') c'
  refine ⟨⟨e6,((hM.setCell _ _).setCell _ _).setCell _ _⟩,?_⟩
  have g:=ED.trans e6
  exact allow_tail g n hx (e6.obj d2) (e6.obj d5) rfl (fun his=>by rw [← hk (of_decide_eq_true his)];exact o6') (hS.ext g) (hC.ext g) (hT'.ext g) hlim (hsm x (List.mem_of_getElem? hx))
 refine ⟨?_,?_⟩
 · refine callK_ret (kinds_ret _) ?_
   rintro _ w6 ⟨m,L,cc,rfl,hm,hM,hL,e6⟩
   refine narrowK_KM e6 hM ?_
   obtain ⟨a,b',c',hab,his,h1,h2',h3,hk⟩:=kinds_get hL x.kind
   have h:=fin (w6.alloc (.cells zeroK 89)) m w6.heap.size cc L a b' c' _ _ _ (e6.alloc _) (hM.ext ((Ext.refl _).alloc _)) e6.size (heap_new _ _ _) hab his h1 h2' h3 hk
   unfold n47c21
   haveI:ClassNe (KM D m kEnc L cc):=⟨⟨w6,e6,hM⟩⟩
   rw [qV_lookupKM (enc:=kEnc) Tryz.underlying90 (KeyOK.int Tryz.underlying69) ty89 ⟨w6,e6,hM⟩,hab,his]
   simp (disch:=try exact DI) only [↓PR,QR,simprocAttr]
   simp (disch:=try exact DI) only [↓PR,QR,simprocAttr] at h
   exact ⟨⟨e6.alloc _,hM.ext ((Ext.refl _).alloc _)⟩,h⟩
 · simp (disch:=try exact DI) only [↓PR,QR,simprocAttr]
   refine ⟨(Ext.refl _).alloc _,?_⟩
   refine callK_ret (kinds_ret _) ?_
   rintro _ w6 ⟨m,L,cc,rfl,hm,hM,hL,e6⟩
   have e06:=((Ext.refl D).alloc _).trans e6
   refine narrowK_KM e06 hM ?_
   obtain ⟨a,b',c',hab,his,h1,h2',h3,hk⟩:=kinds_get hL x.kind
   unfold n47c22
   haveI:ClassNe (KM D m kEnc L cc):=⟨⟨w6,e06,hM⟩⟩
   rw [qV_lookupKM (enc:=kEnc) Tryz.underlying90 (KeyOK.int Tryz.underlying69) ty89 ⟨w6,e06,hM⟩,hab,his]
   have h:=fin w6 m D.heap.size cc L a b' c' _ _ _ e06 hM (Nat.le_refl _) (e6.obj (heap_new D _ _)) hab his h1 h2' h3 hk
   simp (disch:=try exact DI) only [↓PR,QR,simprocAttr]
   simp (disch:=try exact DI) only [↓PR,QR,simprocAttr] at h
   exact h
theorem CheckS3_ret (w:World) (r:RolD) (p:Nat) (sv cv tv:Value) (hp:w.heap[p]?=some (.cells (rolCells r sv cv tv).toArray 26 (0,0))) (h1:StasOf w sv r.states) (h2:CntsOf w cv r.counters) (h3:StpsOf w tv r.steps) (i:Nat) (hi:i < r.steps.length) (hlim:∀ c∈r.counters,c.limit≤1000) (hsm:∀ x∈r.steps,StpSm x) :
 Ret Pg 41 #[.int .i64 (i:Int),.pointer (some ⟨p,0,none⟩)] w fun u w'=>u = .bool (!stpB r i)∧Ext w w':=by
 have o1:=SliceOf.oneCell h1
 have o2:=SliceOf.oneCell h2
 have o3:=SliceOf.oneCell h3
 refine n38s (R:=retR _) ?_;unfold n38
 simp (disch:=try exact DI) only [↓PR,QR,simprocAttr,(cells_of_heap hp).1]
 refine zcr (allowed_ret w _ r i ⟨sv,cv,tv,rfl,h1,h2,h3⟩ hi hlim hsm) fun w1 e1=>?_
 simp (disch:=try exact DI) only [↓PR,QR,simprocAttr]
 exact ⟨by trivial,e1⟩
theorem few_lim {r:RolD} (h:¬ 0≤fewP r.counters.length 0 4 (cntB r)):∀ c∈r.counters,c.limit≤1000:=by
 intro c hc
 obtain ⟨i,hi⟩:=List.getElem?_of_mem hc
 have hil:=(List.getElem?_eq_some_iff.1 hi).1
 unfold fewP at h
 rw [if_neg (by omega)] at h
 by_cases h4:4 < r.counters.length
 · rw [if_pos h4] at h;omega
 · rw [if_neg h4] at h
   have hb:cntB r i=true:=by
    cases hcb:cntB r i with
    | true=>rfl
    | false =>
     have:=idx_le (p:=fun i=>!cntB r i) (range_at hil) (by rw [hcb];rfl)
     omega
   unfold cntB at hb
   rw [hi] at hb
   simp only [Bool.and_eq_true,decide_eq_true_eq] at hb
   exact hb.2.2.2
theorem Check_ret (w0:World) (v:Value) (r:RolD) (hr:RolVal w0 v r) (hsm:∀ x∈r.steps,StpSm x) (hl:r.counters.length≤1000000000∧r.states.length≤1000000000∧r.steps.length≤1000000000):Ret Pg 12 #[v] w0 fun u w'=>u = .tuple #[.int .i64 (checkR r).1,.int .i64 (checkR r).2]∧Ext w0 w':=by
 obtain ⟨sv,cv,tv,rfl,hS,hC,hT,o1,o2,o3⟩:=hr.op
 obtain ⟨A1,c1,rfl,_⟩:=SliceOf.open hS
 obtain ⟨A2,c2,rfl,_⟩:=SliceOf.open hC
 obtain ⟨A3,c3,rfl,_⟩:=SliceOf.open hT
 refine n31s (R:=retR _) ?_;unfold n31
 rw [op_boxA]
 have hp:=heap_new w0 (rolCells r (.slice A1 r.states.length c1) (.slice A2 r.counters.length c2) (.slice A3 r.steps.length c3)).toArray 26
 have eW:Ext w0 (w0.alloc (.cells (rolCells r (.slice A1 r.states.length c1) (.slice A2 r.counters.length c2) (.slice A3 r.steps.length c3)).toArray 26)):=ee
 generalize (w0.alloc (.cells (rolCells r (.slice A1 r.states.length c1) (.slice A2 r.counters.length c2) (.slice A3 r.steps.length c3)).toArray 26))=W at hp eW ⊢
 generalize w0.heap.size=p at hp ⊢
 simp (disch:=try exact DI) only [↓PR,QR,simprocAttr,(cells_of_heap hp).1]
 refine zcr (Name_ret W r.name) fun w1 e1=>?_
 have E1:=eW.trans e1
 unfold checkR
 cases nameB r.name with
 | false =>
  rw [if_pos rfl]
  simp (disch:=try exact DI) only [↓PR,QR,simprocAttr]
  exact ⟨by trivial,E1⟩
 | true =>
 rw [if_neg (by simp)]
 simp (disch:=try exact DI) only [↓PR,QR,simprocAttr,↓n31c4,(cells_of_heap (e1.obj hp)).1]
 refine zcr (few_ret w1 r.counters.length 0 4 _ _ (cntB r) c37 hl.1 fun i w hi _ _ e=>CheckS1_ret ((e1.trans e).obj hp) (hS.ext (E1.trans e)) (hC.ext (E1.trans e)) (hT.ext (E1.trans e)) hi) fun w2 e2=>?_
 have e12:=e1.trans e2
 have E2:=eW.trans e12
 by_cases h1:0≤fewP r.counters.length 0 4 (cntB r)
 · have d1:decide (fewP r.counters.length 0 4 (cntB r)≥0)=true:=decide_eq_true h1
   rw [if_pos h1]
   simp (disch:=try exact DI) only [↓PR,QR,simprocAttr,d1]
   exact ⟨by trivial,E2⟩
 have d1:decide (fewP r.counters.length 0 4 (cntB r)≥0)=false:=decide_eq_false h1
 have hlim:=few_lim h1
 rw [if_neg h1]
 simp (disch:=try exact DI) only [↓PR,QR,simprocAttr,d1,↓n31c3,(cells_of_heap (e12.obj hp)).1]
 refine zcr (few_ret w2 r.states.length 1 24 _ _ (staB r) c39 hl.2.1 fun i w hi _ _ e=>CheckS2_ret ((e12.trans e).obj hp) (hS.ext (E2.trans e)) (hC.ext (E2.trans e)) (hT.ext (E2.trans e)) hi) fun w3 e3=>?_
 have e13:=e12.trans e3
 have E3:=eW.trans e13
 by_cases h2:0≤fewP r.states.length 1 24 (staB r)
 · have d2:decide (fewP r.states.length 1 24 (staB r)≥0)=true:=decide_eq_true h2
   rw [if_pos h2]
   simp (disch:=try exact DI) only [↓PR,QR,simprocAttr,d2]
   exact ⟨by trivial,E3⟩
 have d2:decide (fewP r.states.length 1 24 (staB r)≥0)=false:=decide_eq_false h2
 rw [if_neg h2]
 simp (disch:=try exact DI) only [↓PR,QR,simprocAttr,d2,↓n31c2,(cells_of_heap (e13.obj hp)).1]
 refine zcr (few_ret w3 r.steps.length 0 80 _ _ (stpB r) c41 hl.2.2 fun i w hi _ _ e=>CheckS3_ret w r p _ _ _ ((e13.trans e).obj hp) (hS.ext (E3.trans e)) (hC.ext (E3.trans e)) (hT.ext (E3.trans e)) i hi hlim hsm) fun w4 e4=>?_
 have E4:=E3.trans e4
 by_cases h3:0≤fewP r.steps.length 0 80 (stpB r)
 · have d3:decide (fewP r.steps.length 0 80 (stpB r)≥0)=true:=decide_eq_true h3
   rw [if_pos h3]
   simp (disch:=try exact DI) only [↓PR,QR,simprocAttr,d3,↓n31c1]
   exact ⟨by trivial,E4⟩
 · have d3:decide (fewP r.steps.length 0 80 (stpB r)≥0)=false:=decide_eq_false h3
   rw [if_neg h3]
   simp (disch:=try exact DI) only [↓PR,QR,simprocAttr,d3,↓n31c1]
   exact ⟨by trivial,E4⟩
def n16c1 (t3 t58 t61:Value) (next6:KV) (R:RT) (w:World):Prop :=
 pickK t58 (.bool true) t61 fun t62 =>
 opV Pg (Op.unary .not t62) (panK R) w fun t63 w =>
 condP t63 (
 R (.returned (.bool false)) w) (
 opV Pg (binS .add 3 true t3 (.int .i64 1)) (panK R) w fun t33 w =>
 next6 t33 w)
def n16c2 (t3 t36 t50 t57:Value) (next6:KV) (R:RT) (w:World):Prop :=
 pickK t50 (.bool true) t57 fun t58 =>
 joinK (fun (t61:Value) (w:World) =>
 n16c1 t3 t58 t61 next6 R w) fun K14 =>
 guardP t58 false (
 opV Pg (binS .eql 5 true t36 (.int .u8 95)) (panK R) w fun t61 w =>
 K14 t61 w) (
 K14 undef w)
def n16c3 (t3 t36 t50 t54:Value) (next6:KV) (R:RT) (w:World):Prop :=
 joinK (fun (t56:Value) (w:World) =>
 joinK (fun (t57:Value) (w:World) =>
 n16c2 t3 t36 t50 t57 next6 R w) fun K13 =>
 guardP t50 false (
 pickK t54 t56 (.bool false) fun t57 =>
 K13 t57 w) (
 K13 undef w)) fun K12 =>
 guardP t54 true (
 opV Pg (binS .leq 5 true t36 (.int .u8 57)) (panK R) w fun t56 w =>
 K12 t56 w) (
 K12 undef w)
def n16c4 (t3 t36 t42 t49:Value) (next6:KV) (R:RT) (w:World):Prop :=
 pickK t42 (.bool true) t49 fun t50 =>
 joinK (fun (t54:Value) (w:World) =>
 n16c3 t3 t36 t50 t54 next6 R w) fun K11 =>
 guardP t50 false (
 opV Pg (binS .geq 5 true t36 (.int .u8 48)) (panK R) w fun t53 w =>
 K11 t53 w) (
 K11 undef w)
def n16c5 (t3 t36 t42 t46:Value) (next6:KV) (R:RT) (w:World):Prop :=
 joinK (fun (t48:Value) (w:World) =>
 joinK (fun (t49:Value) (w:World) =>
 n16c4 t3 t36 t42 t49 next6 R w) fun K10 =>
 guardP t42 false (
 pickK t46 t48 (.bool false) fun t49 =>
 K10 t49 w) (
 K10 undef w)) fun K9 =>
 guardP t46 true (
 opV Pg (binS .leq 5 true t36 (.int .u8 90)) (panK R) w fun t48 w =>
 K9 t48 w) (
 K9 undef w)
def n16c6 (t3 t36 t38 t41:Value) (next6:KV) (R:RT) (w:World):Prop :=
 pickK t38 t41 (.bool false) fun t42 =>
 joinK (fun (t46:Value) (w:World) =>
 n16c5 t3 t36 t42 t46 next6 R w) fun K8 =>
 guardP t42 false (
 opV Pg (binS .geq 5 true t36 (.int .u8 65)) (panK R) w fun t45 w =>
 K8 t45 w) (
 K8 undef w)
def n16c7 (t0 t3:Value) (next6:KV) (R:RT) (w:World):Prop :=
 opV Pg (Instr.index 9 t0 t3) (panK R) w fun t36 w =>
 opV Pg (binS .geq 5 true t36 (.int .u8 97)) (panK R) w fun t38 w =>
 joinK (fun (t41:Value) (w:World) =>
 n16c6 t3 t36 t38 t41 next6 R w) fun K7 =>
 guardP t38 true (
 opV Pg (binS .leq 5 true t36 (.int .u8 122)) (panK R) w fun t41 w =>
 K7 t41 w) (
 K7 undef w)
def n16c8 (t0 t3:Value) (next6:KV) (R:RT) (w:World):Prop :=
 opV Pg (Builtin.len_ #[9] 3 #[t0]) (panK R) w fun t30 w =>
 opV Pg (binS .lss 3 false t3 t30) (panK R) w fun t31 w =>
 condP t31 (
 n16c7 t0 t3 next6 R w) (
 R (.returned (.bool true)) w)
def n16c9 (t0 t17 t22 t25:Value) (R:RT) (w:World):Prop :=
 joinK (fun (t26:Value) (w:World) =>
 pickK t17 (.bool true) t26 fun t27 =>
 condP t27 (
 R (.returned (.bool false)) w) (
 loop1 (fun t3 w next6 =>
 n16c8 t0 t3 next6 R w) (.int .i64 0) w)) fun K5 =>
 guardP t17 false (
 pickK t22 t25 (.bool false) fun t26 =>
 K5 t26 w) (
 K5 undef w)
def n16c10 (t0 t17 t22:Value) (R:RT) (w:World):Prop :=
 joinK (fun (t25:Value) (w:World) =>
 n16c9 t0 t17 t22 t25 R w) fun K4 =>
 guardP t22 true (
 opV Pg (Instr.index 9 t0 (.int .i64 0)) (panK R) w fun t24 w =>
 opV Pg (binS .leq 5 true t24 (.int .u8 57)) (panK R) w fun t25 w =>
 K4 t25 w) (
 K4 undef w)
def n16c11 (t0 t12 t16:Value) (R:RT) (w:World):Prop :=
 pickK t12 (.bool true) t16 fun t17 =>
 joinK (fun (t22:Value) (w:World) =>
 n16c10 t0 t17 t22 R w) fun K3 =>
 guardP t17 false (
 opV Pg (Instr.index 9 t0 (.int .i64 0)) (panK R) w fun t20 w =>
 opV Pg (binS .geq 5 true t20 (.int .u8 48)) (panK R) w fun t21 w =>
 K3 t21 w) (
 K3 undef w)
def n16c12 (t0 t7 t11:Value) (R:RT) (w:World):Prop :=
 pickK t7 (.bool true) t11 fun t12 =>
 joinK (fun (t16:Value) (w:World) =>
 n16c11 t0 t12 t16 R w) fun K2 =>
 guardP t12 false (
 opV Pg (Instr.index 9 t0 (.int .i64 0)) (panK R) w fun t15 w =>
 opV Pg (binS .eql 5 true t15 (.int .u8 95)) (panK R) w fun t16 w =>
 K2 t16 w) (
 K2 undef w)
def n16 (t0:Value) (R:RT) (w:World):Prop :=
 opV Pg (Builtin.len_ #[9] 3 #[t0]) (panK R) w fun t6 w =>
 opV Pg (binS .lss 3 true t6 (.int .i64 1)) (panK R) w fun t7 w =>
 joinK (fun (t11:Value) (w:World) =>
 n16c12 t0 t7 t11 R w) fun K1 =>
 guardP t7 false (
 opV Pg (Builtin.len_ #[9] 3 #[t0]) (panK R) w fun t10 w =>
 opV Pg (binS .gtr 3 true t10 (.int .i64 32)) (panK R) w fun t11 w =>
 K1 t11 w) (
 K1 undef w)
set_option maxHeartbeats 40000000 in
theorem n16s {t0:Value} {R:RT} {w:World} (h:n16 t0 R w):Calls Pg 18 #[t0] w R:=by
 refine yD Tryz.func18 ?_
 refine zs<|zr<|zm<|zn<|zk<|zs<|zs<|sim_regionG<|yG 4<|zm<|yx h fun _ w h=>yb h fun _ w h=>zm<|zn<|yg1 3 3 false [9,10,11] 11 h (fun _ T hT h=>?_) fun σ w h=>?_
 · refine zm<|yx h fun _ w h=>yb h fun _ w h=>zn ?_
   exact zt hT h
 refine yG 2<|yp h fun _ h=>zm<|zn<|yg1 3 8 false [14,15,16] 16 h (fun _ T hT h=>?_) fun σ w h=>?_
 · refine zm<|yv h fun _ w h=>yb h fun _ w h=>zn ?_
   exact zt hT h
 refine yG 2<|yp h fun _ h=>zm<|zn<|yg1 4 13 false [19,20,21,22] 22 h (fun _ T hT h=>?_) fun σ w h=>?_
 · refine zm<|yv h fun _ w h=>yb h fun _ w h=>zm<|zn ?_
   exact zt hT h
 refine yg1 3 17 true [23,24,25] 25 h (fun _ T hT h=>?_) fun σ w h=>?_
 · refine zm<|yv h fun _ w h=>yb h fun _ w h=>zn ?_
   exact zt hT h
 refine yg1 1 13 false [26] 26 h (fun _ T hT h=>?_) fun σ w h=>?_
 · refine yp h fun _ h=>zn ?_
   exact zt hT h
 refine yG 1<|yp h fun _ h=>zn<|sim_end<|zk<|yC h (fun h=>zs<|zr<|zm<|zn<|zk<|sim_ret<|sim_then_ret<|body_ret1 rfl rfl h) fun h=>sim_skip<|zk<|zs<|zs<|zr<|zm<|zn<|zk ?_
 refine sim_block<|yl1 [2,3,4,28,29,30,31,32,33,34,35,36,37,38,39,40,41,42,43,44,45,46,47,48,49,50,51,52,53,54,55,56,57,58,59,60,61,62,63] 3 h fun σ w next h=>zs<|zs<|zr<|zm<|zm<|yx h fun _ w h=>yb h fun _ w h=>zn<|zk<|yC h (fun h=>?_) fun h=>?_
 · refine sim_skip<|zk<|zs<|sim_block<|zs<|zr<|zm<|zm<|yv h fun _ w h=>zm<|zn<|zk<|zs<|sim_regionG<|yG 3 ?_
   refine zm<|yb h fun _ w h=>zm<|zn<|yg1 2 2 true [40,41] 41 h (fun _ T hT h=>?_) fun σ w h=>?_
   · refine zm<|yb h fun _ w h=>zn ?_
     exact zt hT h
   refine yG 2<|yp h fun _ h=>zm<|zn<|yg1 3 6 false [44,45,46] 46 h (fun _ T hT h=>?_) fun σ w h=>?_
   · refine zm<|yb h fun _ w h=>zm<|zn ?_
     exact zt hT h
   refine yg1 2 9 true [47,48] 48 h (fun _ T hT h=>?_) fun σ w h=>?_
   · refine zm<|yb h fun _ w h=>zn ?_
     exact zt hT h
   refine yg1 1 6 false [49] 49 h (fun _ T hT h=>?_) fun σ w h=>?_
   · refine yp h fun _ h=>zn ?_
     exact zt hT h
   refine yG 2<|yp h fun _ h=>zm<|zn<|yg1 3 14 false [52,53,54] 54 h (fun _ T hT h=>?_) fun σ w h=>?_
   · refine zm<|yb h fun _ w h=>zm<|zn ?_
     exact zt hT h
   refine yg1 2 17 true [55,56] 56 h (fun _ T hT h=>?_) fun σ w h=>?_
   · refine zm<|yb h fun _ w h=>zn ?_
     exact zt hT h
   refine yg1 1 14 false [57] 57 h (fun _ T hT h=>?_) fun σ w h=>?_
   · refine yp h fun _ h=>zn ?_
     exact zt hT h
   refine yG 2<|yp h fun _ h=>zm<|zn<|yg1 2 22 false [60,61] 61 h (fun _ T hT h=>?_) fun σ w h=>?_
   · refine zm<|yb h fun _ w h=>zn ?_
     exact zt hT h
   refine yG 2<|yp h fun _ h=>yv h fun _ w h=>zn<|sim_end<|zk<|yC h (fun h=>zs<|zr<|zm<|zn<|zk<|sim_ret<|sim_block_ret<|sim_then_ret<|sim_then_ret<|sim_block_ret<|sim_then_ret<|body_ret1 rfl rfl h) fun h=>sim_skip<|sim_block_normal<|zk<|zr<|zm<|yb h fun _ w h=>zm ?_
   exact zn<|zk<|⟨rfl,h⟩
 exact sim_exit<|sim_then_exit<|sim_then_exit<|sim_block_hit<|zk<|zs<|zr<|zm<|zn<|zk<|sim_ret<|body_ret1 rfl rfl h
def n40c1 (t2 t19:Value) (R:RT) (w:World):Prop :=
 opV Pg (Instr.build 26 #[]) (panK R) w fun t22 w =>
 opU Pg (Instr.storeAt 26 t2 t22) (panK R) w fun w =>
 qW Pg 26 t2 w fun r0 =>
 R (.returned (.tuple #[r0,(.int .i64 0),t19])) w
def n40c2 (t2:Value) (R:RT) (w:World):Prop :=
 opV Pg (Instr.loadAt 26 t2) (panK R) w fun t24 w =>
 opU Pg (Instr.storeAt 26 t2 t24) (panK R) w fun w =>
 qW Pg 26 t2 w fun r0 =>
 R (.returned (.tuple #[r0,(.int .i64 0),(.int .i64 0)])) w
def n40c3 (t2 t17:Value) (R:RT) (w:World):Prop :=
 opV Pg (Instr.extract t17 0) (panK R) w fun t18 w =>
 opV Pg (Instr.extract t17 1) (panK R) w fun t19 w =>
 opV Pg (binS .neq 29 true t19 (.int .i64 0)) (panK R) w fun t21 w =>
 condP t21 (
 n40c1 t2 t19 R w) (
 n40c2 t2 R w)
def n40c4 (t2 t10:Value) (R:RT) (w:World):Prop :=
 opV Pg (Instr.build 26 #[]) (panK R) w fun t13 w =>
 opU Pg (Instr.storeAt 26 t2 t13) (panK R) w fun w =>
 qW Pg 26 t2 w fun r0 =>
 R (.returned (.tuple #[r0,t10,(.int .i64 6)])) w
def n40c5 (t2 t10:Value) (R:RT) (w:World):Prop :=
 opV Pg (binS .gtr 3 true t10 (.int .i64 0)) (panK R) w fun t12 w =>
 condP t12 (
 n40c4 t2 t10 R w) (
 opV Pg (Instr.loadAt 26 t2) (panK R) w fun t16 w =>
 callK Pg 12 #[t16] (panK R) w fun t17 w =>
 n40c3 t2 t17 R w)
def n40 (t0:Value) (R:RT) (w:World):Prop :=
 opV Pg (Instr.alloc 26 true (.tuple #[])) (panK R) w fun t2 w =>
 opV Pg (Instr.makeFunc (.func 51) #[] #[t2]) (panK R) w fun t9 w =>
 callK Pg 50 #[t0,t9] (panK R) w fun t10 w =>
 n40c5 t2 t10 R w
theorem n40s {t0:Value} {R:RT} {w:World} (h:n40 t0 R w):Calls Pg 19 #[t0] w R:=by
 refine yD Tryz.func19 ?_
 refine zs<|zr<|yv h fun _ w h=>zm<|zm<|zn<|zk<|zs<|zs<|zr<|zm<|yF h fun _ w h=>yc h c50 fun _ w h=>zm<|zn ?_
 refine zk<|zs<|zr<|zm<|yb h fun _ w h=>zn<|zk<|yC h (fun h=>zs<|zr<|yB h fun _ w h=>zm<|yu h fun w h=>zm<|zm<|zn<|zk<|sim_ret<|sim_then_ret<|body_retCTT rfl rfl rfl rfl h) fun h=>sim_skip<|zk<|zs<|zs<|zr<|yv h fun _ w h=>?_
 refine yc h c12 fun _ w h=>zm<|yv h fun _ w h=>yv h fun _ w h=>zm<|zm<|zn<|zk<|zs<|zr<|zm<|yb h fun _ w h=>zn<|zk<|yC h (fun h=>zs<|zr<|yB h fun _ w h=>zm<|yu h fun w h=>zm<|zm<|zn<|zk<|sim_ret<|sim_then_ret<|body_retCTT rfl rfl rfl rfl h) fun h=>?_
 exact sim_skip<|zk<|zs<|zr<|yv h fun _ w h=>yu h fun w h=>zm<|zm<|zn<|zk<|sim_ret<|body_retCTT rfl rfl rfl rfl h
def n18c1 (t2 t3 t5:Value) (C5:World→Prop) (next4:KV) (R:RT) (w:World):Prop :=
 qV Pg C5 (Instr.fieldAt 26 t2 2) fun t47 =>
 qV Pg C5 (Instr.loadAt 23 t47) fun t48 =>
 qV Pg C5 (Instr.indexAt 23 t48 t5) fun t50 =>
 qV Pg C5 (Instr.loadAt 52 t50) fun t51 =>
 qV Pg C5 (Instr.fieldAt 26 t3 2) fun t52 =>
 qV Pg C5 (Instr.loadAt 23 t52) fun t53 =>
 qV Pg C5 (Instr.indexAt 23 t53 t5) fun t55 =>
 qV Pg C5 (Instr.loadAt 52 t55) fun t56 =>
 qV Pg C5 (binS .neq 52 false t51 t56) fun t57 =>
 condP t57 (
 R (.returned (.bool false)) w) (
 opV Pg (binS .add 3 true t5 (.int .i64 1)) (panK R) w fun t46 w =>
 next4 t46 w)
def n18c2 (t2 t3 t6:Value) (C7:World→Prop) (next6:KV) (R:RT) (w:World):Prop :=
 qV Pg C7 (Instr.fieldAt 26 t2 1) fun t65 =>
 qV Pg C7 (Instr.loadAt 22 t65) fun t66 =>
 qV Pg C7 (Instr.indexAt 22 t66 t6) fun t68 =>
 qV Pg C7 (Instr.loadAt 50 t68) fun t69 =>
 qV Pg C7 (Instr.fieldAt 26 t3 1) fun t70 =>
 qV Pg C7 (Instr.loadAt 22 t70) fun t71 =>
 qV Pg C7 (Instr.indexAt 22 t71 t6) fun t73 =>
 qV Pg C7 (Instr.loadAt 50 t73) fun t74 =>
 qV Pg C7 (binS .neq 50 false t69 t74) fun t75 =>
 condP t75 (
 R (.returned (.bool false)) w) (
 opV Pg (binS .add 3 true t6 (.int .i64 1)) (panK R) w fun t64 w =>
 next6 t64 w)
def n18c3 (t2 t3 t7:Value) (C9:World→Prop) (next8:KV) (R:RT) (w:World):Prop :=
 qV Pg C9 (Instr.fieldAt 26 t2 3) fun t83 =>
 qV Pg C9 (Instr.loadAt 24 t83) fun t84 =>
 qV Pg C9 (Instr.indexAt 24 t84 t7) fun t86 =>
 qV Pg C9 (Instr.loadAt 71 t86) fun t87 =>
 qV Pg C9 (Instr.fieldAt 26 t3 3) fun t88 =>
 qV Pg C9 (Instr.loadAt 24 t88) fun t89 =>
 qV Pg C9 (Instr.indexAt 24 t89 t7) fun t91 =>
 qV Pg C9 (Instr.loadAt 71 t91) fun t92 =>
 qV Pg C9 (binS .neq 71 false t87 t92) fun t93 =>
 condP t93 (
 R (.returned (.bool false)) w) (
 opV Pg (binS .add 3 true t7 (.int .i64 1)) (panK R) w fun t82 w =>
 next8 t82 w)
def n18c4 (t2 t3 t7:Value) (next8:KV) (R:RT) (w:World):Prop :=
 opV Pg (Instr.fieldAt 26 t2 3) (panK R) w fun t77 w =>
 opV Pg (Instr.loadAt 24 t77) (panK R) w fun t78 w =>
 opV Pg (Builtin.len_ #[24] 3 #[t78]) (panK R) w fun t79 w =>
 opV Pg (binS .lss 3 false t7 t79) (panK R) w fun t80 w =>
 condP t80 (
 drawK w fun C9 w =>
 n18c3 t2 t3 t7 C9 next8 R w) (
 R (.returned (.bool true)) w)
def n18c5 (t2 t3 t6:Value) (next6:KV) (R:RT) (w:World):Prop :=
 opV Pg (Instr.fieldAt 26 t2 1) (panK R) w fun t59 w =>
 opV Pg (Instr.loadAt 22 t59) (panK R) w fun t60 w =>
 opV Pg (Builtin.len_ #[22] 3 #[t60]) (panK R) w fun t61 w =>
 opV Pg (binS .lss 3 false t6 t61) (panK R) w fun t62 w =>
 condP t62 (
 drawK w fun C7 w =>
 n18c2 t2 t3 t6 C7 next6 R w) (
 loop1 (fun t7 w next8 =>
 n18c4 t2 t3 t7 next8 R w) (.int .i64 0) w)
def n18c6 (t2 t3 t5:Value) (next4:KV) (R:RT) (w:World):Prop :=
 opV Pg (Instr.fieldAt 26 t2 2) (panK R) w fun t41 w =>
 opV Pg (Instr.loadAt 23 t41) (panK R) w fun t42 w =>
 opV Pg (Builtin.len_ #[23] 3 #[t42]) (panK R) w fun t43 w =>
 opV Pg (binS .lss 3 false t5 t43) (panK R) w fun t44 w =>
 condP t44 (
 drawK w fun C5 w =>
 n18c1 t2 t3 t5 C5 next4 R w) (
 loop1 (fun t6 w next6 =>
 n18c5 t2 t3 t6 next6 R w) (.int .i64 0) w)
def n18c7 (t2 t3 t21 t29:Value) (R:RT) (w:World):Prop :=
 pickK t21 (.bool true) t29 fun t30 =>
 joinK (fun (t38:Value) (w:World) =>
 pickK t30 (.bool true) t38 fun t39 =>
 condP t39 (
 R (.returned (.bool false)) w) (
 loop1 (fun t5 w next4 =>
 n18c6 t2 t3 t5 next4 R w) (.int .i64 0) w)) fun K3 =>
 guardP t30 false (
 opV Pg (Instr.fieldAt 26 t2 3) (panK R) w fun t32 w =>
 opV Pg (Instr.loadAt 24 t32) (panK R) w fun t33 w =>
 opV Pg (Builtin.len_ #[24] 3 #[t33]) (panK R) w fun t34 w =>
 opV Pg (Instr.fieldAt 26 t3 3) (panK R) w fun t35 w =>
 opV Pg (Instr.loadAt 24 t35) (panK R) w fun t36 w =>
 opV Pg (Builtin.len_ #[24] 3 #[t36]) (panK R) w fun t37 w =>
 opV Pg (binS .neq 3 false t34 t37) (panK R) w fun t38 w =>
 K3 t38 w) (
 K3 undef w)
def n18c8 (t2 t3 t12 t20:Value) (R:RT) (w:World):Prop :=
 pickK t12 (.bool true) t20 fun t21 =>
 joinK (fun (t29:Value) (w:World) =>
 n18c7 t2 t3 t21 t29 R w) fun K2 =>
 guardP t21 false (
 opV Pg (Instr.fieldAt 26 t2 1) (panK R) w fun t23 w =>
 opV Pg (Instr.loadAt 22 t23) (panK R) w fun t24 w =>
 opV Pg (Builtin.len_ #[22] 3 #[t24]) (panK R) w fun t25 w =>
 opV Pg (Instr.fieldAt 26 t3 1) (panK R) w fun t26 w =>
 opV Pg (Instr.loadAt 22 t26) (panK R) w fun t27 w =>
 opV Pg (Builtin.len_ #[22] 3 #[t27]) (panK R) w fun t28 w =>
 opV Pg (binS .neq 3 false t25 t28) (panK R) w fun t29 w =>
 K2 t29 w) (
 K2 undef w)
def n18 (t0 t1:Value) (R:RT) (w:World):Prop :=
 opV Pg (Instr.box 26 t0) (panK R) w fun t2 w =>
 opV Pg (Instr.box 26 t1) (panK R) w fun t3 w =>
 opV Pg (Instr.fieldAt 26 t2 0) (panK R) w fun t8 w =>
 opV Pg (Instr.loadAt 9 t8) (panK R) w fun t9 w =>
 opV Pg (Instr.fieldAt 26 t3 0) (panK R) w fun t10 w =>
 opV Pg (Instr.loadAt 9 t10) (panK R) w fun t11 w =>
 opV Pg (binS .neq 9 false t9 t11) (panK R) w fun t12 w =>
 joinK (fun (t20:Value) (w:World) =>
 n18c8 t2 t3 t12 t20 R w) fun K1 =>
 guardP t12 false (
 opV Pg (Instr.fieldAt 26 t2 2) (panK R) w fun t14 w =>
 opV Pg (Instr.loadAt 23 t14) (panK R) w fun t15 w =>
 opV Pg (Builtin.len_ #[23] 3 #[t15]) (panK R) w fun t16 w =>
 opV Pg (Instr.fieldAt 26 t3 2) (panK R) w fun t17 w =>
 opV Pg (Instr.loadAt 23 t17) (panK R) w fun t18 w =>
 opV Pg (Builtin.len_ #[23] 3 #[t18]) (panK R) w fun t19 w =>
 opV Pg (binS .neq 3 false t16 t19) (panK R) w fun t20 w =>
 K1 t20 w) (
 K1 undef w)
set_option maxHeartbeats 40000000 in
theorem n18s {t0 t1:Value} {R:RT} {w:World} (h:n18 t0 t1 R w):Calls Pg 21 #[t0,t1] w R:=by
 refine yD Tryz.func21 ?_
 refine zs<|zr<|yv h fun _ w h=>yv h fun _ w h=>zm<|zn<|zk<|zs<|zs<|sim_regionG<|yG 6<|yv h fun _ w h=>yv h fun _ w h=>yv h fun _ w h=>yv h fun _ w h=>?_
 refine yb h fun _ w h=>zm<|zn<|yg1 7 5 false [14,15,16,17,18,19,20] 20 h (fun _ T hT h=>?_) fun σ w h=>?_
 · refine yv h fun _ w h=>yv h fun _ w h=>yx h fun _ w h=>yv h fun _ w h=>yv h fun _ w h=>yx h fun _ w h=>yb h fun _ w h=>zn ?_
   exact zt hT h
 refine yG 2<|yp h fun _ h=>zm<|zn<|yg1 7 14 false [23,24,25,26,27,28,29] 29 h (fun _ T hT h=>?_) fun σ w h=>?_
 · refine yv h fun _ w h=>yv h fun _ w h=>yx h fun _ w h=>yv h fun _ w h=>yv h fun _ w h=>yx h fun _ w h=>yb h fun _ w h=>zn ?_
   exact zt hT h
 refine yG 2<|yp h fun _ h=>zm<|zn<|yg1 7 23 false [32,33,34,35,36,37,38] 38 h (fun _ T hT h=>?_) fun σ w h=>?_
 · refine yv h fun _ w h=>yv h fun _ w h=>yx h fun _ w h=>yv h fun _ w h=>yv h fun _ w h=>yx h fun _ w h=>yb h fun _ w h=>zn ?_
   exact zt hT h
 refine yG 1<|yp h fun _ h=>zn<|sim_end<|zk<|yC h (fun h=>zs<|zr<|zm<|zn<|zk<|sim_ret<|sim_then_ret<|body_ret1 rfl rfl h) fun h=>sim_skip<|zk<|zs<|zs<|zr<|zm<|zn<|zk ?_
 refine sim_block<|yl1 [4,5,40,41,42,43,44,45,46,47,48,49,50,51,52,53,54,55,56,57] 5 h fun σ w next h=>zs<|zs<|zr<|zm<|yv h fun _ w h=>yv h fun _ w h=>yx h fun _ w h=>yb h fun _ w h=>zn<|zk<|yC h (fun h=>?_) fun h=>?_
 · refine sim_skip<|zk<|zs<|sim_block<|zs<|yh [47,48,49,50,51,52,53,54,55,56,57] h fun C hC h=>ye 0 hC h fun _ h=>?_
   refine ye 1 hC h fun _ h=>?_
   refine yw 2 hC ?_
   refine ye 3 hC h fun _ h=>?_
   refine ye 4 hC h fun _ h=>?_
   refine ye 5 hC h fun _ h=>?_
   refine ye 6 hC h fun _ h=>?_
   refine yw 7 hC ?_
   refine ye 8 hC h fun _ h=>?_
   refine ye 9 hC h fun _ h=>?_
   refine ye 10 hC h fun _ h=>?_
   exact yz<|zk<|yC h (fun h=>zs<|zr<|zm<|zn<|zk<|sim_ret<|sim_block_ret<|sim_then_ret<|sim_then_ret<|sim_block_ret<|sim_then_ret<|body_ret1 rfl rfl h) fun h=>sim_skip<|sim_block_normal<|zk<|zr<|zm<|yb h fun _ w h=>zm<|zn<|zk<|⟨rfl,h⟩
 refine sim_exit<|sim_then_exit<|sim_then_exit<|sim_block_hit<|zk<|zs<|zs<|zr<|zm<|zn<|zk<|sim_block<|yl1 [4,6,58,59,60,61,62,63,64,65,66,67,68,69,70,71,72,73,74,75] 6 h fun σ w next h=>zs<|zs ?_
 refine zr<|zm<|yv h fun _ w h=>yv h fun _ w h=>yx h fun _ w h=>yb h fun _ w h=>zn<|zk<|yC h (fun h=>?_) fun h=>?_
 · refine sim_skip<|zk<|zs<|sim_block<|zs<|yh [65,66,67,68,69,70,71,72,73,74,75] h fun C hC h=>ye 0 hC h fun _ h=>?_
   refine ye 1 hC h fun _ h=>?_
   refine yw 2 hC ?_
   refine ye 3 hC h fun _ h=>?_
   refine ye 4 hC h fun _ h=>?_
   refine ye 5 hC h fun _ h=>?_
   refine ye 6 hC h fun _ h=>?_
   refine yw 7 hC ?_
   refine ye 8 hC h fun _ h=>?_
   refine ye 9 hC h fun _ h=>?_
   refine ye 10 hC h fun _ h=>?_
   exact yz<|zk<|yC h (fun h=>zs<|zr<|zm<|zn<|zk<|sim_ret<|sim_block_ret<|sim_then_ret<|sim_then_ret<|sim_block_ret<|sim_then_ret<|body_ret1 rfl rfl h) fun h=>sim_skip<|sim_block_normal<|zk<|zr<|zm<|yb h fun _ w h=>zm<|zn<|zk<|⟨rfl,h⟩
 refine sim_exit<|sim_then_exit<|sim_then_exit<|sim_block_hit<|zk<|zs<|zs<|zr<|zm<|zn<|zk<|sim_block<|yl1 [4,7,76,77,78,79,80,81,82,83,84,85,86,87,88,89,90,91,92,93] 7 h fun σ w next h=>zs<|zs ?_
 refine zr<|zm<|yv h fun _ w h=>yv h fun _ w h=>yx h fun _ w h=>yb h fun _ w h=>zn<|zk<|yC h (fun h=>?_) fun h=>?_
 · refine sim_skip<|zk<|zs<|sim_block<|zs<|yh [83,84,85,86,87,88,89,90,91,92,93] h fun C hC h=>ye 0 hC h fun _ h=>?_
   refine ye 1 hC h fun _ h=>?_
   refine yw 2 hC ?_
   refine ye 3 hC h fun _ h=>?_
   refine ye 4 hC h fun _ h=>?_
   refine ye 5 hC h fun _ h=>?_
   refine ye 6 hC h fun _ h=>?_
   refine yw 7 hC ?_
   refine ye 8 hC h fun _ h=>?_
   refine ye 9 hC h fun _ h=>?_
   refine ye 10 hC h fun _ h=>?_
   exact yz<|zk<|yC h (fun h=>zs<|zr<|zm<|zn<|zk<|sim_ret<|sim_block_ret<|sim_then_ret<|sim_then_ret<|sim_block_ret<|sim_then_ret<|body_ret1 rfl rfl h) fun h=>sim_skip<|sim_block_normal<|zk<|zr<|zm<|yb h fun _ w h=>zm<|zn<|zk<|⟨rfl,h⟩
 exact sim_exit<|sim_then_exit<|sim_then_exit<|sim_block_hit<|zk<|zs<|zr<|zm<|zn<|zk<|sim_ret<|body_ret1 rfl rfl h
theorem idx_at {α:Type} {p:α→Bool} {l:List α} {k:Nat} (hb:∀ (j:Nat) y,j < k→l[j]?=some y→p y=false) (hk:l.length≤k):idx p l = -1:=idx_none fun j y hy=>hb j y (by have:=(List.getElem?_eq_some_iff.1 hy).1;omega) hy
theorem wordB_iff (x:UInt8):wordB x=decide ((97≤x.toNat∧x.toNat≤122)∨(65≤x.toNat∧x.toNat≤90)∨(48≤x.toNat∧x.toNat≤57)∨x.toNat=95):=by
 rw [Bool.eq_iff_iff,decide_eq_true_iff]
 unfold wordB letB digB
 simp only [Bool.or_eq_true,Bool.and_eq_true,decide_eq_true_eq,beq_iff_eq]
 omega
theorem letB_iff (x:UInt8):letB x=decide ((97≤x.toNat∧x.toNat≤122)∨(65≤x.toNat∧x.toNat≤90)):=by
 rw [Bool.eq_iff_iff,decide_eq_true_iff]
 unfold letB
 simp only [Bool.or_eq_true,Bool.and_eq_true,decide_eq_true_eq]
 omega
theorem rName_ret (w:World) (s:ByteArray):Ret Pg 18 #[.string s] w fun r w'=>r = .bool (nameB s)∧Ext w w':=by
 have hsz:s.data.toList.length=s.size:=by rw [Array.length_toList];rfl
 refine n16s (R:=retR _) ?_;unfold n16
 by_cases h1:s.size < 1
 · have d1:decide ((s.size:Int) < 1)=true:=decide_eq_true (by omega)
   simp (disch:=try exact DI) only [↓PR,QR,simprocAttr,d1,name_short s (by omega),↓n16c9,↓n16c10,↓n16c11,↓n16c12]
   exact ⟨by trivial,Ext.refl _⟩
 have d1:decide ((s.size:Int) < 1)=false:=decide_eq_false (by omega)
 by_cases h2:32 < s.size
 · have d2:decide ((s.size:Int) > 32)=true:=decide_eq_true (by omega)
   simp (disch:=try exact DI) only [↓PR,QR,simprocAttr,d1,d2,name_short s (by omega),↓n16c9,↓n16c10,↓n16c11,↓n16c12]
   exact ⟨by trivial,Ext.refl _⟩
 have d2:decide ((s.size:Int) > 32)=false:=decide_eq_false (by omega)
 obtain ⟨x0,hx0⟩:=getElem?_lt (l:=s.data.toList) (k:=0) (by omega)
 have hi0:∀ (QP:List PanicEntry→World→Prop) (w:World) (K:Value→World→Prop),opV Pg (Instr.index 9 (.string s) (.int .i64 0)) QP w K=K (.int .u8 (x0.toNat:Int)) w:=fun QP w K=>op_indexS0 Tryz.underlying9 s .i64 hx0
 obtain ⟨r0,hcons⟩:∃ r,s.data.toList=x0::r:=by
  cases hs:s.data.toList with
  | nil=>rw [hs] at hx0;cases hx0
  | cons a r=>rw [hs] at hx0;injection hx0 with hx0;subst hx0;exact ⟨r,rfl⟩
 have nm:nameB s=(letB x0&&s.data.toList.all wordB):=by
  rw [name_eq s (by omega) (by omega),hcons]
 have bad0:letB x0=false→nameB s=false:=fun h=>by rw [nm,h];rfl
 by_cases z1:x0.toNat=95
 · have c1:((x0.toNat:Int) == 95)=true:=by rw [beq_iff_eq];omega
   have hl:letB x0=false:=by rw [letB_iff];exact decide_eq_false (by omega)
   simp (disch:=try exact DI) only [↓PR,QR,simprocAttr,d1,d2,hi0,c1,bad0 hl,↓n16c9,↓n16c10,↓n16c11,↓n16c12]
   exact ⟨by trivial,Ext.refl _⟩
 have c1:((x0.toNat:Int) == 95)=false:=by rw [beq_eq_false_iff_ne];omega
 by_cases z2:48≤x0.toNat∧x0.toNat≤57
 · have c2:decide ((x0.toNat:Int)≥48)=true:=decide_eq_true (by omega)
   have c3:decide ((x0.toNat:Int)≤57)=true:=decide_eq_true (by omega)
   have hl:letB x0=false:=by rw [letB_iff];exact decide_eq_false (by omega)
   simp (disch:=try exact DI) only [↓PR,QR,simprocAttr,d1,d2,hi0,c1,c2,c3,bad0 hl,↓n16c9,↓n16c10,↓n16c11,↓n16c12]
   exact ⟨by trivial,Ext.refl _⟩
 have nm2:nameB s=s.data.toList.all wordB:=by
  rw [nm]
  cases hl:letB x0 with
  | true=>rfl
  | false =>
   have:wordB x0=false:=by
    rw [letB_iff] at hl
    have hl:=of_decide_eq_false hl
    rw [wordB_iff]
    exact decide_eq_false (by omega)
   rw [hcons,List.all_cons,this]
   rfl
 have start:loop1 (fun t3 u next6=>n16c8 (.string s) t3 next6 (retR fun r w'=>r = .bool (nameB s)∧Ext w w') u) (.int .i64 0) w:=by
  refine loop1_intro (fun a w'=>∃ k:Nat,a = .int .i64 k∧k≤s.size∧Ext w w'∧(s.data.toList.drop k).all wordB=s.data.toList.all wordB) (fun a _=>s.size - (intOf a).toNat) ⟨0,rfl,by omega,Ext.refl _,rfl⟩ ?_
  rintro _ w1 ⟨k,rfl,hk,e,hI⟩
  unfold n16c8
  by_cases hlt:k < s.size
  · obtain ⟨x,hx⟩:=getElem?_lt (l:=s.data.toList) (k:=k) (by omega)
    have hidx:∀ (QP:List PanicEntry→World→Prop) (w:World) (K:Value→World→Prop),opV Pg (Instr.index 9 (.string s) (.int .i64 (k:Int))) QP w K=K (.int .u8 (x.toNat:Int)) w:=fun QP w K=>op_indexS Tryz.underlying9 s .i64 k hx
    have dk:decide ((k:Int) < (s.size:Int))=true:=decide_eq_true (by omega)
    have hw:IntKind.i64.wrap ((k:Int)+1)=((k+1:Nat):Int):=by rw [wrap_ok (by omega) (by omega)];omega
    have hdr:s.data.toList.drop k=x::s.data.toList.drop (k+1):=by
     rw [List.drop_eq_getElem_cons (by omega)]
     congr 1
     rw [List.getElem?_eq_getElem (by omega)] at hx
     injection hx
    rw [hdr,List.all_cons] at hI
    have hms:=meas_lt (kd := .i64) hlt
    have good:wordB x=true→(∃ k':Nat,Value.int .i64 ((k+1:Nat):Int) = .int .i64 k'∧k'≤s.size∧Ext w w1∧(s.data.toList.drop k').all wordB=s.data.toList.all wordB):=fun h=>⟨k+1,rfl,by omega,e,by rw [h,Bool.true_and] at hI;exact hI⟩
    have bad:wordB x=false→nameB s=false:=fun h=>by rw [nm2,← hI,h];rfl
    rw [wordB_iff] at good bad
    simp (disch:=try exact DI) only [↓PR,QR,simprocAttr,dk]
    by_cases h97:97≤x.toNat∧x.toNat≤122
    · have qa:decide ((x.toNat:Int)≥97)=true:=decide_eq_true (by omega)
      have qb:decide ((x.toNat:Int)≤122)=true:=decide_eq_true (by omega)
      simp (disch:=try exact DI) only [↓PR,QR,simprocAttr,hidx,qa,qb,↓n16c1,↓n16c2,↓n16c3,↓n16c4,↓n16c5,↓n16c6,↓n16c7,hw]
      exact ⟨good (decide_eq_true (by omega)),hms⟩
    by_cases h123:122 < x.toNat
    · have qa:decide ((x.toNat:Int)≥97)=true:=decide_eq_true (by omega)
      have qb:decide ((x.toNat:Int)≤122)=false:=decide_eq_false (by omega)
      have qc:decide ((x.toNat:Int)≥65)=true:=decide_eq_true (by omega)
      have qd:decide ((x.toNat:Int)≤90)=false:=decide_eq_false (by omega)
      have qe:decide ((x.toNat:Int)≥48)=true:=decide_eq_true (by omega)
      have qf:decide ((x.toNat:Int)≤57)=false:=decide_eq_false (by omega)
      have qg:((x.toNat:Int) == 95)=false:=by rw [beq_eq_false_iff_ne];omega
      simp (disch:=try exact DI) only [↓PR,QR,simprocAttr,hidx,qa,qb,qc,qd,qe,qf,qg,↓n16c1,↓n16c2,↓n16c3,↓n16c4,↓n16c5,↓n16c6,↓n16c7]
      exact ⟨by rw [bad (decide_eq_false (by omega))],e⟩
    by_cases h65:65≤x.toNat∧x.toNat≤90
    · have qa:decide ((x.toNat:Int)≥97)=false:=decide_eq_false (by omega)
      have qc:decide ((x.toNat:Int)≥65)=true:=decide_eq_true (by omega)
      have qd:decide ((x.toNat:Int)≤90)=true:=decide_eq_true (by omega)
      simp (disch:=try exact DI) only [↓PR,QR,simprocAttr,hidx,qa,qc,qd,↓n16c1,↓n16c2,↓n16c3,↓n16c4,↓n16c5,↓n16c6,↓n16c7,hw]
      exact ⟨good (decide_eq_true (by omega)),hms⟩
    by_cases h95:x.toNat=95
    · have qa:decide ((x.toNat:Int)≥97)=false:=decide_eq_false (by omega)
      have qc:decide ((x.toNat:Int)≥65)=true:=decide_eq_true (by omega)
      have qd:decide ((x.toNat:Int)≤90)=false:=decide_eq_false (by omega)
      have qe:decide ((x.toNat:Int)≥48)=true:=decide_eq_true (by omega)
      have qf:decide ((x.toNat:Int)≤57)=false:=decide_eq_false (by omega)
      have qg:((x.toNat:Int) == 95)=true:=by rw [beq_iff_eq];omega
      simp (disch:=try exact DI) only [↓PR,QR,simprocAttr,hidx,qa,qc,qd,qe,qf,qg,↓n16c1,↓n16c2,↓n16c3,↓n16c4,↓n16c5,↓n16c6,↓n16c7,hw]
      exact ⟨good (decide_eq_true (by omega)),hms⟩
    by_cases h91:91≤x.toNat
    · have qa:decide ((x.toNat:Int)≥97)=false:=decide_eq_false (by omega)
      have qc:decide ((x.toNat:Int)≥65)=true:=decide_eq_true (by omega)
      have qd:decide ((x.toNat:Int)≤90)=false:=decide_eq_false (by omega)
      have qe:decide ((x.toNat:Int)≥48)=true:=decide_eq_true (by omega)
      have qf:decide ((x.toNat:Int)≤57)=false:=decide_eq_false (by omega)
      have qg:((x.toNat:Int) == 95)=false:=by rw [beq_eq_false_iff_ne];omega
      simp (disch:=try exact DI) only [↓PR,QR,simprocAttr,hidx,qa,qc,qd,qe,qf,qg,↓n16c1,↓n16c2,↓n16c3,↓n16c4,↓n16c5,↓n16c6,↓n16c7]
      exact ⟨by rw [bad (decide_eq_false (by omega))],e⟩
    by_cases h48:48≤x.toNat∧x.toNat≤57
    · have qa:decide ((x.toNat:Int)≥97)=false:=decide_eq_false (by omega)
      have qc:decide ((x.toNat:Int)≥65)=false:=decide_eq_false (by omega)
      have qe:decide ((x.toNat:Int)≥48)=true:=decide_eq_true (by omega)
      have qf:decide ((x.toNat:Int)≤57)=true:=decide_eq_true (by omega)
      simp (disch:=try exact DI) only [↓PR,QR,simprocAttr,hidx,qa,qc,qe,qf,↓n16c1,↓n16c2,↓n16c3,↓n16c4,↓n16c5,↓n16c6,↓n16c7,hw]
      exact ⟨good (decide_eq_true (by omega)),hms⟩
    by_cases h58:58≤x.toNat
    · have qa:decide ((x.toNat:Int)≥97)=false:=decide_eq_false (by omega)
      have qc:decide ((x.toNat:Int)≥65)=false:=decide_eq_false (by omega)
      have qe:decide ((x.toNat:Int)≥48)=true:=decide_eq_true (by omega)
      have qf:decide ((x.toNat:Int)≤57)=false:=decide_eq_false (by omega)
      have qg:((x.toNat:Int) == 95)=false:=by rw [beq_eq_false_iff_ne];omega
      simp (disch:=try exact DI) only [↓PR,QR,simprocAttr,hidx,qa,qc,qe,qf,qg,↓n16c1,↓n16c2,↓n16c3,↓n16c4,↓n16c5,↓n16c6,↓n16c7]
      exact ⟨by rw [bad (decide_eq_false (by omega))],e⟩
    have qa:decide ((x.toNat:Int)≥97)=false:=decide_eq_false (by omega)
    have qc:decide ((x.toNat:Int)≥65)=false:=decide_eq_false (by omega)
    have qe:decide ((x.toNat:Int)≥48)=false:=decide_eq_false (by omega)
    have qg:((x.toNat:Int) == 95)=false:=by rw [beq_eq_false_iff_ne];omega
    simp (disch:=try exact DI) only [↓PR,QR,simprocAttr,hidx,qa,qc,qe,qg,↓n16c1,↓n16c2,↓n16c3,↓n16c4,↓n16c5,↓n16c6,↓n16c7]
    exact ⟨by rw [bad (decide_eq_false (by omega))],e⟩
  · have dk:decide ((k:Int) < (s.size:Int))=false:=decide_eq_false (by omega)
    rw [List.drop_of_length_le (by omega)] at hI
    simp (disch:=try exact DI) only [↓PR,QR,simprocAttr,dk,nm2,← hI]
    exact ⟨by trivial,e⟩
 by_cases z3:48≤x0.toNat
 · have c2:decide ((x0.toNat:Int)≥48)=true:=decide_eq_true (by omega)
   have c3:decide ((x0.toNat:Int)≤57)=false:=decide_eq_false (by omega)
   simp (disch:=try exact DI) only [↓PR,QR,simprocAttr,d1,d2,hi0,c1,c2,c3,↓n16c9,↓n16c10,↓n16c11,↓n16c12]
   exact start
 · have c2:decide ((x0.toNat:Int)≥48)=false:=decide_eq_false (by omega)
   simp (disch:=try exact DI) only [↓PR,QR,simprocAttr,d1,d2,hi0,c1,c2,↓n16c9,↓n16c10,↓n16c11,↓n16c12]
   exact start
theorem rstate_ret (w0:World) (v:Value) (r:RolD) (s:ByteArray) (hr:RolVal w0 v r) (hl:r.states.length≤1000000000):Ret Pg 44 #[v,.string s] w0 fun u w'=>u = .int .i64 (stateI r s)∧Ext w0 w':=by
 obtain ⟨sv,cv,tv,rfl,h1,h2,h3,o1,o2,o3⟩:=hr.op
 obtain ⟨A,c,hv,hlc,hcm,hlm,hel⟩:=SliceOf.open h1
 refine n28s (R:=retR _) ?_;unfold n28
 rw [op_boxA]
 have hBW:=ElemAt.new (w:=w0) (rolCells r sv cv tv) (26)
 have eW:Ext w0 (w0.alloc (Obj.cells (List.toArray (rolCells r sv cv tv)) (26))):=(Ext.refl _).alloc _
 generalize (w0.alloc (Obj.cells (List.toArray (rolCells r sv cv tv)) (26)))=W at hBW eW ⊢
 refine loop1_intro (fun a w=>∃ k:Nat,a = .int .i64 k∧k≤r.states.length∧Ext W w∧∀ (j:Nat) y,j < k→r.states[j]?=some y→decide (y.name=s)=false) (fun a _=>r.states.length - (intOf a).toNat) ⟨0,rfl,by omega,Ext.refl _,fun j y h=>by omega⟩ ?_
 rintro _ w ⟨k,rfl,hk,e,hb⟩
 subst hv
 unfold n28c2
 by_cases hlt:k < r.states.length
 · obtain ⟨x,hx⟩:=getElem?_lt hlt
   obtain ⟨b,o,cs,rfl,_,hA,rfl⟩:=hel k x hx
   have dk:(k:Int) < (r.states.length:Int):=by omega
   have d1:decide ((k:Int) < (r.states.length:Int))=true:=decide_eq_true dk
   have hw:IntKind.i64.wrap ((k:Int)+1)=((k+1:Nat):Int):=by rw [wrap_ok (by omega) (by omega)];omega
   cases hp:decide (x.name=s) with
   | true =>
    simp (disch:=try exact DI) only [↓PR,QR,simprocAttr,hBW.c4 e,d1,↓n28c1,hA.c3 (eW.trans e),hp]
    exact ⟨by unfold stateI;rw [idx_here hx hp hb],eW.trans e⟩
   | false =>
    simp (disch:=try exact DI) only [↓PR,QR,simprocAttr,hBW.c4 e,d1,↓n28c1,hA.c3 (eW.trans e),hp,hw]
    exact ⟨⟨k+1,rfl,by omega,e,before_succ hb hx hp⟩,meas_lt (kd := .i64) hlt⟩
 · have d1:decide ((k:Int) < (r.states.length:Int))=false:=decide_eq_false (by omega)
   simp (disch:=try exact DI) only [↓PR,QR,simprocAttr,hBW.c4 e,d1]
   exact ⟨by unfold stateI;rw [idx_at hb (by omega)],eW.trans e⟩
theorem rcounter_ret (w0:World) (v:Value) (r:RolD) (s:ByteArray) (hr:RolVal w0 v r) (hl:r.counters.length≤1000000000):Ret Pg 43 #[v,.string s] w0 fun u w'=>u = .int .i64 (counterI r s)∧Ext w0 w':=by
 obtain ⟨sv,cv,tv,rfl,h1,h2,h3,o1,o2,o3⟩:=hr.op
 obtain ⟨A,c,hv,hlc,hcm,hlm,hel⟩:=SliceOf.open h2
 refine n23s (R:=retR _) ?_;unfold n23
 rw [op_boxA]
 have hBW:=ElemAt.new (w:=w0) (rolCells r sv cv tv) (26)
 have eW:Ext w0 (w0.alloc (Obj.cells (List.toArray (rolCells r sv cv tv)) (26))):=(Ext.refl _).alloc _
 generalize (w0.alloc (Obj.cells (List.toArray (rolCells r sv cv tv)) (26)))=W at hBW eW ⊢
 refine loop1_intro (fun a w=>∃ k:Nat,a = .int .i64 k∧k≤r.counters.length∧Ext W w∧∀ (j:Nat) y,j < k→r.counters[j]?=some y→decide (y.name=s)=false) (fun a _=>r.counters.length - (intOf a).toNat) ⟨0,rfl,by omega,Ext.refl _,fun j y h=>by omega⟩ ?_
 rintro _ w ⟨k,rfl,hk,e,hb⟩
 subst hv
 unfold n23c2
 by_cases hlt:k < r.counters.length
 · obtain ⟨x,hx⟩:=getElem?_lt hlt
   obtain ⟨b,o,cs,rfl,_,hA,rfl⟩:=hel k x hx
   have dk:(k:Int) < (r.counters.length:Int):=by omega
   have d1:decide ((k:Int) < (r.counters.length:Int))=true:=decide_eq_true dk
   have hw:IntKind.i64.wrap ((k:Int)+1)=((k+1:Nat):Int):=by rw [wrap_ok (by omega) (by omega)];omega
   cases hp:decide (x.name=s) with
   | true =>
    simp (disch:=try exact DI) only [↓PR,QR,simprocAttr,hBW.c4 e,d1,↓n23c1,hA.c2 (eW.trans e),hp]
    exact ⟨by unfold counterI;rw [idx_here hx hp hb],eW.trans e⟩
   | false =>
    simp (disch:=try exact DI) only [↓PR,QR,simprocAttr,hBW.c4 e,d1,↓n23c1,hA.c2 (eW.trans e),hp,hw]
    exact ⟨⟨k+1,rfl,by omega,e,before_succ hb hx hp⟩,meas_lt (kd := .i64) hlt⟩
 · have d1:decide ((k:Int) < (r.counters.length:Int))=false:=decide_eq_false (by omega)
   simp (disch:=try exact DI) only [↓PR,QR,simprocAttr,hBW.c4 e,d1]
   exact ⟨by unfold counterI;rw [idx_at hb (by omega)],eW.trans e⟩
theorem eqz (a:Int):(a == 0)=decide (a=0):=by rw [Bool.eq_iff_iff];simp
theorem rguarded_ret (w0:World) (v:Value) (r:RolD) (x:StpD) (hr:RolVal w0 v r) (hl:r.counters.length≤1000000000) (hlim:∀ c∈r.counters,c.limit≤1000):Ret Pg 81 #[v,stpVal x] w0 fun u w'=>u = .bool (guardB r x)∧Ext w0 w':=by
 obtain ⟨sv,cv,tv,rfl,h1,h2,h3,o1,o2,o3⟩:=hr.op
 refine n25s (R:=retR _) ?_;unfold n25
 unfold stpVal
 rw [op_boxA]
 have hBW:=ElemAt.new (w:=w0) (rolCells r sv cv tv) (26)
 have eW:Ext w0 (w0.alloc (Obj.cells (List.toArray (rolCells r sv cv tv)) (26))):=(Ext.refl _).alloc _
 generalize (w0.alloc (Obj.cells (List.toArray (rolCells r sv cv tv)) (26)))=W at hBW eW ⊢
 rw [op_boxA]
 have hBV:=ElemAt.new (w:=W) (stpCells x) (71)
 have eV:Ext W (W.alloc (Obj.cells (List.toArray (stpCells x)) (71))):=(Ext.refl _).alloc _
 generalize (W.alloc (Obj.cells (List.toArray (stpCells x)) (71)))=V at hBV eV ⊢
 have EV:=eW.trans eV
 by_cases hc:x.counter=ByteArray.empty
 · have d0:decide (x.counter=⟨#[]⟩)=true:=decide_eq_true hc
   have hg:guardB r x=(decide (x.low=0)&&(decide (x.high=0)&&decide (x.add=0))):=by unfold guardB;rw [if_pos hc]
   rw [hg]
   simp (disch:=try exact DI) only [↓PR,QR,simprocAttr,hBV.c9 (Ext.refl V),d0,↓n25c9,eqz]
   cases decide (x.low=0) with
   | false=>simp (disch:=try exact DI) only [↓PR,QR,simprocAttr,↓n25c1];exact ⟨by trivial,EV⟩
   | true =>
   cases decide (x.high=0) with
   | false=>simp (disch:=try exact DI) only [↓PR,QR,simprocAttr,hBV.c9 (Ext.refl V),eqz,↓n25c1];exact ⟨by trivial,EV⟩
   | true =>
    simp (disch:=try exact DI) only [↓PR,QR,simprocAttr,hBV.c9 (Ext.refl V),eqz,↓n25c1]
    exact ⟨by trivial,EV⟩
 have d0:decide (x.counter=⟨#[]⟩)=false:=decide_eq_false hc
 simp (disch:=try exact DI) only [↓PR,QR,simprocAttr,hBV.c9 (Ext.refl V),d0,↓n25c10,hBW.c4 eV]
 refine zcr (rcounter_ret V _ r x.counter ⟨sv,cv,tv,rfl,h1.ext EV,h2.ext EV,h3.ext EV⟩ hl) fun w1 e1=>?_
 refine drawK_intro ?_
 have eD:Ext w1 (Sw.drew w1):=(Ext.refl w1).drew
 have eVD:=e1.trans eD
 generalize Sw.drew w1=D at eVD ⊢
 clear eD e1
 have ED:=EV.trans eVD
 have c5:=hBV.c9 eVD
 have c4:=hBW.c4 (eV.trans eVD)
 unfold n25c8
 by_cases hneg:counterI r x.counter < 0
 · have d1:decide (counterI r x.counter < 0)=true:=decide_eq_true hneg
   have hg:guardB r x=false:=by
    unfold guardB
    rw [if_neg hc]
    cases r.counters[(counterI r x.counter).toNat]? with
    | none=>rfl
    | some c=>simp only [decide_eq_false (show ¬ 0≤counterI r x.counter by omega),Bool.false_and]
   rw [hg]
   simp (disch:=try exact DI) only [↓PR,QR,simprocAttr,d1,↓n25c7,↓n25c6,↓n25c5,↓n25c4]
   exact ⟨by trivial,ED⟩
 have d1:decide (counterI r x.counter < 0)=false:=decide_eq_false hneg
 obtain ⟨j,hj⟩:∃ j:Nat,counterI r x.counter=j:=⟨(counterI r x.counter).toNat,by omega⟩
 obtain ⟨c,hcj,_⟩:=idx_get hj
 obtain ⟨A,cc,rfl,_,_,_,hel⟩:=SliceOf.open h2
 obtain ⟨b,o,cs,rfl,_,hA,rfl⟩:=hel j c hcj
 have hjl:=(List.getElem?_eq_some_iff.1 hcj).1
 have dk:(j:Int) < (r.counters.length:Int):=by omega
 have hlc:=hlim c (List.mem_of_getElem? hcj)
 have hg:guardB r x=decide (0≤x.low∧x.low≤x.high ∧ -1000≤x.add∧x.add≤1000∧x.high≤c.limit∧0≤x.low+x.add∧x.high+x.add≤c.limit):=by
  unfold guardB
  rw [if_neg hc,hj,Int.toNat_natCast,hcj]
  simp only [Bool.decide_and,decide_eq_true (show (0:Int)≤(j:Int) by omega),Bool.true_and]
 rw [hg]
 rw [hj] at d1 ⊢
 have hx:=hA.c2 ED
 by_cases g1:x.low < 0
 · rw [decide_eq_false (show ¬ (0≤x.low∧x.low≤x.high ∧ -1000≤x.add∧x.add≤1000∧x.high≤c.limit∧0≤x.low+x.add∧x.high+x.add≤c.limit) by omega)]
   simp (disch:=try exact DI) only [↓PR,QR,simprocAttr,d1,c5,decide_eq_true g1,↓n25c7,↓n25c6,↓n25c5,↓n25c4]
   exact ⟨by trivial,ED⟩
 by_cases g2:x.low > x.high
 · rw [decide_eq_false (show ¬ (0≤x.low∧x.low≤x.high ∧ -1000≤x.add∧x.add≤1000∧x.high≤c.limit∧0≤x.low+x.add∧x.high+x.add≤c.limit) by omega)]
   simp (disch:=try exact DI) only [↓PR,QR,simprocAttr,d1,c5,decide_eq_false g1,decide_eq_true g2,↓n25c7,↓n25c6,↓n25c5,↓n25c4]
   exact ⟨by trivial,ED⟩
 by_cases g5:x.high > c.limit
 · rw [decide_eq_false (show ¬ (0≤x.low∧x.low≤x.high ∧ -1000≤x.add∧x.add≤1000∧x.high≤c.limit∧0≤x.low+x.add∧x.high+x.add≤c.limit) by omega)]
   simp (disch:=try exact DI) only [↓PR,QR,simprocAttr,d1,c5,c4,hx,decide_eq_false g1,decide_eq_false g2,decide_eq_true g5,↓n25c7,↓n25c6,↓n25c5,↓n25c4]
   exact ⟨by trivial,ED⟩
 by_cases g3:x.add < -1000
 · rw [decide_eq_false (show ¬ (0≤x.low∧x.low≤x.high ∧ -1000≤x.add∧x.add≤1000∧x.high≤c.limit∧0≤x.low+x.add∧x.high+x.add≤c.limit) by omega)]
   simp (disch:=try exact DI) only [↓PR,QR,simprocAttr,d1,c5,c4,hx,decide_eq_false g1,decide_eq_false g2,decide_eq_false g5,decide_eq_true g3,↓n25c7,↓n25c6,↓n25c5,↓n25c4]
   exact ⟨by trivial,ED⟩
 by_cases g4:x.add > 1000
 · rw [decide_eq_false (show ¬ (0≤x.low∧x.low≤x.high ∧ -1000≤x.add∧x.add≤1000∧x.high≤c.limit∧0≤x.low+x.add∧x.high+x.add≤c.limit) by omega)]
   simp (disch:=try exact DI) only [↓PR,QR,simprocAttr,d1,c5,c4,hx,decide_eq_false g1,decide_eq_false g2,decide_eq_false g5,decide_eq_false g3,decide_eq_true g4,↓n25c7,↓n25c6,↓n25c5,↓n25c4]
   exact ⟨by trivial,ED⟩
 have w1':IntKind.i64.wrap (x.low+x.add)=x.low+x.add:=wrap_ok (by omega) (by omega)
 have w2':IntKind.i64.wrap (x.high+x.add)=x.high+x.add:=wrap_ok (by omega) (by omega)
 simp (disch:=try exact DI) only [↓PR,QR,simprocAttr,d1,c5,c4,hx,decide_eq_false g1,decide_eq_false g2,decide_eq_false g5,decide_eq_false g3,decide_eq_false g4,↓n25c7,↓n25c6,↓n25c5,↓n25c4]
 refine drawK_intro ?_
 have eF:Ext D (Sw.drew D):=(Ext.refl D).drew
 have EF:=ED.trans eF
 have c5:=hBV.c9 (eVD.trans eF)
 have c4:=hBW.c4 ((eV.trans eVD).trans eF)
 have hx:=hA.c2 EF
 generalize Sw.drew D=F at EF c5 c4 hx ⊢
 unfold n25c3
 by_cases g6:x.low+x.add≥0
 · simp (disch:=try exact DI) only [↓PR,QR,simprocAttr,c5,w1',decide_eq_true g6,↓n25c2,c4,hx,w2']
   refine ⟨?_,EF⟩
   congr 1
   rw [Bool.eq_iff_iff,decide_eq_true_iff,decide_eq_true_iff]
   omega
 · rw [decide_eq_false (show ¬ (0≤x.low∧x.low≤x.high ∧ -1000≤x.add∧x.add≤1000∧x.high≤c.limit∧0≤x.low+x.add∧x.high+x.add≤c.limit) by omega)]
   simp (disch:=try exact DI) only [↓PR,QR,simprocAttr,c5,w1',decide_eq_false g6]
   exact ⟨by trivial,EF⟩
section
variable {w0 w:World} {r:RolD} {x:StpD} {p2 p5:Nat} {sv cv tv:Value}
theorem rallow_kind (e:Ext w0 w) (h2:w.heap[p2]?=some (.cells (rolCells r sv cv tv).toArray 26 (0,0))) (h5:w.heap[p5]?=some (.cells (stpCells x).toArray 71 (0,0))) (hS:StasOf w sv r.states) {j:Nat} (hj:stateI r x.fr=j) {R:RT}
 (hR:∀ w',Ext w0 w'→R (.returned (.bool (decide (1≤x.kind∧x.kind≤4)&&((decide (x.kind≠3)||waitsB r x.fr)&&partsB r x)))) w') :
 n22c9 (.pointer (some ⟨p2,0,none⟩)) (.pointer (some ⟨p5,0,none⟩)) (.int .i64 (j:Int)) R w:=by
 have c2:=cells_of_heap h2
 have c5:=cells_of_heap h5
 have k1:(x.kind == 1)=decide (x.kind=1):=by rw [Bool.eq_iff_iff];simp
 have k2:(x.kind == 2)=decide (x.kind=2):=by rw [Bool.eq_iff_iff];simp
 have k3:(x.kind == 3)=decide (x.kind=3):=by rw [Bool.eq_iff_iff];simp
 have k4:(x.kind == 4)=decide (x.kind=4):=by rw [Bool.eq_iff_iff];simp
 have hne:∀ a b:ByteArray,decide (a≠b)=!decide (a=b):=fun a b=>by simp
 unfold n22c9
 have speak:speaksB x.kind=true→n22c7 (.pointer (some ⟨p2,0,none⟩)) (.pointer (some ⟨p5,0,none⟩)) R w:=by
  intro hs
  have hk:x.kind=1∨x.kind=2:=by unfold speaksB at hs;simpa using hs
  have hpb:partsB r x=(nameB x.message&&(nameB x.peer&&decide (x.peer≠r.name))):=by unfold partsB;rw [hs,if_pos rfl]
  have hR':∀ w',Ext w0 w'→R (.returned (.bool (nameB x.message&&(nameB x.peer&&decide (x.peer≠r.name))))) w':=fun w' e'=>by
   have:=hR w' e'
   rw [decide_eq_true (show 1≤x.kind∧x.kind≤4 by omega),decide_eq_true (show x.kind≠3 by omega),hpb] at this
   exact this
  clear hR
  unfold n22c7
  simp (disch:=try exact DI) only [↓PR,QR,simprocAttr,c5.1]
  refine zcr (rName_ret w x.message) fun w1 e1=>?_
  have c51:=cells_of_heap (e1.obj h5)
  have E1:=e.trans e1
  unfold n22c3
  cases hm:nameB x.message with
  | false =>
   rw [hm] at hR'
   simp (disch:=try exact DI) only [↓PR,QR,simprocAttr,↓n22c2]
   exact hR' w1 E1
  | true =>
   rw [hm] at hR'
   simp (disch:=try exact DI) only [↓PR,QR,simprocAttr,c51.1]
   refine zcr (rName_ret w1 x.peer) fun w2 e2=>?_
   have c52:=cells_of_heap ((e1.trans e2).obj h5)
   have c22:=cells_of_heap ((e1.trans e2).obj h2)
   cases hp:nameB x.peer with
   | false =>
    rw [hp] at hR'
    simp (disch:=try exact DI) only [↓PR,QR,simprocAttr,↓n22c2]
    exact hR' w2 (E1.trans e2)
   | true =>
    rw [hp] at hR'
    simp (disch:=try exact DI) only [↓PR,QR,simprocAttr,↓n22c2,c52.1,c22.1]
    have:=hR' w2 (E1.trans e2)
    simp only [Bool.true_and] at this
    first | exact this | (rw [hne] at this;exact this)
 by_cases h1:x.kind=1
 · simp (disch:=try exact DI) only [↓PR,QR,simprocAttr,c5.1,k1,decide_eq_true h1]
   exact speak (by unfold speaksB;simp [h1])
 by_cases h2':x.kind=2
 · simp (disch:=try exact DI) only [↓PR,QR,simprocAttr,c5.1,k1,decide_eq_false h1,k2,decide_eq_true h2']
   exact speak (by unfold speaksB;simp [h2'])
 have hs:speaksB x.kind=false:=by unfold speaksB;simp [h1,h2']
 have hpb:partsB r x=(decide (x.message=ByteArray.empty)&&decide (x.peer=ByteArray.empty)):=by unfold partsB;rw [hs,if_neg (by simp)]
 rw [hpb] at hR
 have hem:(ByteArray.empty:ByteArray)=⟨#[]⟩:=rfl
 rw [hem] at hR
 by_cases h3:x.kind=3
 · rw [decide_eq_true (show 1≤x.kind∧x.kind≤4 by omega),show decide (x.kind≠3)=false by simp [h3]] at hR
   simp (disch:=try exact DI) only [↓PR,QR,simprocAttr,c5.1,k1,decide_eq_false h1,k2,decide_eq_false h2',↓n22c8,k3,decide_eq_true h3,↓n22c6]
   obtain ⟨s,hsj,_⟩:=idx_get hj
   have hw:waitsB r x.fr=decide (0 < s.wait):=by unfold waitsB;rw [hj,Int.toNat_natCast,hsj]
   rw [hw] at hR
   obtain ⟨A2,c',rfl,_,_,_,hel2⟩:=SliceOf.open hS
   obtain ⟨b2,p,cs2,rfl,_,hA2,rfl⟩:=hel2 j s hsj
   have hjl:=(List.getElem?_eq_some_iff.1 hsj).1
   have dk:(j:Int) < (r.states.length:Int):=by omega
   cases hm:decide (x.message=⟨#[]⟩) with
   | false =>
    rw [hm] at hR
    simp (disch:=try exact DI) only [↓PR,QR,simprocAttr,↓n22c4]
    have:=hR w e
    simpa using this
   | true =>
    rw [hm] at hR
    cases hp:decide (x.peer=⟨#[]⟩) with
    | false =>
     rw [hp] at hR
     simp (disch:=try exact DI) only [↓PR,QR,simprocAttr,c5.1,hp,↓n22c4]
     have:=hR w e
     simpa using this
    | true =>
     rw [hp] at hR
     simp (disch:=try exact DI) only [↓PR,QR,simprocAttr,c5.1,hp,↓n22c4,c2.1,hA2.c3 (Ext.refl w)]
     have:=hR w e
     simpa using this
 rw [show decide (x.kind≠3)=true by simp [h3]] at hR
 by_cases h4:x.kind=4
 · rw [decide_eq_true (show 1≤x.kind∧x.kind≤4 by omega)] at hR
   simp (disch:=try exact DI) only [↓PR,QR,simprocAttr,c5.1,k1,decide_eq_false h1,k2,decide_eq_false h2',↓n22c8,k3,decide_eq_false h3,k4,decide_eq_true h4,↓n22c5]
   cases hm:decide (x.message=⟨#[]⟩) with
   | false =>
    rw [hm] at hR
    simp (disch:=try exact DI) only [↓PR,QR,simprocAttr]
    have:=hR w e
    simpa using this
   | true =>
    rw [hm] at hR
    simp (disch:=try exact DI) only [↓PR,QR,simprocAttr,c5.1]
    have:=hR w e
    simpa using this
 · rw [decide_eq_false (show ¬ (1≤x.kind∧x.kind≤4) by omega)] at hR
   simp (disch:=try exact DI) only [↓PR,QR,simprocAttr,c5.1,k1,decide_eq_false h1,k2,decide_eq_false h2',↓n22c8,k3,decide_eq_false h3,k4,decide_eq_false h4]
   exact hR w e
end
theorem rallowed_ret (w0:World) (v:Value) (r:RolD) (n:Nat) (hr:RolVal w0 v r) (hn:n < r.steps.length) (hlc:r.counters.length≤1000000000) (hls:r.states.length≤1000000000) (hlt:r.steps.length≤1000000000) (hlim:∀ c∈r.counters,c.limit≤1000):Ret Pg 45 #[v,.int .i64 (n:Int)] w0 fun u w'=>u = .bool (stpB r n)∧Ext w0 w':=by
 obtain ⟨sv,cv,tv,rfl,hS,hC,hT,o1,o2,o3⟩:=hr.op
 obtain ⟨x,hx⟩:=getElem?_lt hn
 have hst:stpB r n=allowB r n x:=by unfold stpB;rw [hx]
 rw [hst]
 have hT':=hT
 obtain ⟨A,c,rfl,_,_,_,hel⟩:=SliceOf.open hT
 obtain ⟨b,o,cs,rfl,_,hA,rfl⟩:=hel n x hx
 have dk:(n:Int) < (r.steps.length:Int):=by omega
 refine n22s (R:=retR _) ?_;unfold n22
 rw [op_boxA]
 have h2:=heap_new w0 (rolCells r sv cv (.slice (some ⟨b,o,none⟩) r.steps.length c)).toArray 26
 have eW:Ext w0 (w0.alloc (.cells (rolCells r sv cv (.slice (some ⟨b,o,none⟩) r.steps.length c)).toArray 26)):=ee
 generalize (w0.alloc (.cells (rolCells r sv cv (.slice (some ⟨b,o,none⟩) r.steps.length c)).toArray 26))=W at h2 eW ⊢
 generalize hp2:w0.heap.size=p2 at h2 ⊢
 simp (disch:=try exact DI) only [↓PR,QR,simprocAttr,(cells_of_heap h2).1,hA.c9 eW,fun o=>(cells_of_heap (((Ext.refl W).alloc o).obj h2)).1]
 generalize hV:World.alloc W _=V
 have h5:V.heap[W.heap.size]?=some (.cells (stpCells x).toArray 71 (0,0)):=by rw [← hV];exact heap_new _ _ _
 have eV:Ext W V:=by rw [← hV];exact (Ext.refl W).alloc _
 clear hV
 generalize hp5:W.heap.size=p5 at h5 ⊢
 have E0:=eW.trans eV
 have hR:∀ w',Ext w0 w'→RolVal w' (.agg (rolCells r sv cv (.slice (some ⟨b,o,none⟩) r.steps.length c)).toArray) r:=fun w' f=>⟨_,_,_,rfl,hS.ext f,hC.ext f,hT'.ext f⟩
 refine zcr (rstate_ret V _ r x.fr (hR V E0) hls) fun w1 e1=>?_
 have E1:=E0.trans e1
 have g2:=(eV.trans e1).obj h2
 have g5:=e1.obj h5
 unfold n22c12 allowB
 by_cases ha:stateI r x.fr < 0
 · have d1:decide (stateI r x.fr < 0)=true:=decide_eq_true ha
   have d2:decide (0≤stateI r x.fr)=false:=decide_eq_false (by omega)
   simp (disch:=try exact DI) only [↓PR,QR,simprocAttr,d1,d2,↓n22c11]
   exact ⟨by simp,E1⟩
 have d1:decide (stateI r x.fr < 0)=false:=decide_eq_false ha
 have d2:decide (0≤stateI r x.fr)=true:=decide_eq_true (by omega)
 rw [d2]
 simp (disch:=try exact DI) only [↓PR,QR,simprocAttr,d1,(cells_of_heap g2).1,(cells_of_heap g5).1]
 refine zcr (rstate_ret w1 _ r x.to (hR w1 E1) hls) fun w2 e2=>?_
 have E2:=E1.trans e2
 have g2:=e2.obj g2
 have g5:=e2.obj g5
 by_cases hb:stateI r x.to < 0
 · have d3:decide (stateI r x.to < 0)=true:=decide_eq_true hb
   have d4:decide (0≤stateI r x.to)=false:=decide_eq_false (by omega)
   simp (disch:=try exact DI) only [↓PR,QR,simprocAttr,d1,d3,d4,↓n22c11]
   exact ⟨by simp,E2⟩
 have d3:decide (stateI r x.to < 0)=false:=decide_eq_false hb
 have d4:decide (0≤stateI r x.to)=true:=decide_eq_true (by omega)
 rw [d4]
 simp (disch:=try exact DI) only [↓PR,QR,simprocAttr,d1,d3,↓n22c11,(cells_of_heap g2).1,(cells_of_heap g5).1]
 refine zcr (rguarded_ret w2 _ r x (hR w2 E2) hlc hlim) fun w3 e3=>?_
 have E3:=E2.trans e3
 have g2:=e3.obj g2
 have g5:=e3.obj g5
 cases hg:guardB r x with
 | false =>
  simp (disch:=try exact DI) only [↓PR,QR,simprocAttr]
  exact ⟨by simp,E3⟩
 | true =>
 simp (disch:=try exact DI) only [↓PR,QR,simprocAttr]
 refine loop1_intro (fun a w=>∃ k:Nat,a = .int .i64 k∧k≤n∧Ext w3 w∧∀ (j:Nat) y,j < k→r.steps[j]?=some y→decide (y=x)=false) (fun a _=>n - (intOf a).toNat) ⟨0,rfl,by omega,Ext.refl _,fun j y h=>by omega⟩ ?_
 rintro _ w ⟨k,rfl,hk,e,hbf⟩
 have E4:=E3.trans e
 have g2:=e.obj g2
 have g5:=e.obj g5
 unfold n22c10
 by_cases hlt':k < n
 · obtain ⟨y,hy⟩:=getElem?_lt (l:=r.steps) (k:=k) (by omega)
   obtain ⟨b',o',cs,hA1,_,hA',rfl⟩:=hel k y hy
   injection hA1 with hA1
   injection hA1 with hA1 hA2
   subst hA1 hA2
   have dk':(k:Int) < (r.steps.length:Int):=by omega
   have dk2:decide ((k:Int) < (n:Int))=true:=decide_eq_true (by omega)
   have hw:IntKind.i64.wrap ((k:Int)+1)=((k+1:Nat):Int):=by rw [wrap_ok (by omega) (by omega)];omega
   simp (disch:=try exact DI) only [↓PR,QR,simprocAttr,dk2]
   refine drawK_intro ?_
   have eD:Ext w (Sw.drew w):=(Ext.refl w).drew
   have e':=e.trans eD
   have E5:=E4.trans eD
   have g2:=eD.obj g2
   have g5:=eD.obj g5
   generalize Sw.drew w=D at e' E5 g2 g5 ⊢
   unfold n22c1
   cases hq:decide (y=x) with
   | true =>
    have hmem:(r.steps.take n).any (fun z=>decide (z=x))=true:=by
     rw [List.any_eq_true]
     exact ⟨y,by rw [List.mem_iff_getElem?];exact ⟨k,by rw [List.getElem?_take,if_pos hlt'];exact hy⟩,hq⟩
    rw [hmem]
    simp (disch:=try exact DI) only [↓PR,QR,simprocAttr,(cells_of_heap g2).1,(cells_of_heap g5).1,hA'.c9 E5,stp_eq,hq]
    exact ⟨by simp,E5⟩
   | false =>
    simp (disch:=try exact DI) only [↓PR,QR,simprocAttr,(cells_of_heap g2).1,(cells_of_heap g5).1,hA'.c9 E5,stp_eq,hq,hw]
    exact ⟨⟨k+1,rfl,by omega,e',before_succ hbf hy hq⟩,meas_lt (kd := .i64) hlt'⟩
 · obtain rfl:k=n:=by omega
   have dk2:decide ((k:Int) < (k:Int))=false:=decide_eq_false (by omega)
   have hany:(r.steps.take k).any (fun z=>decide (z=x))=false:=by
    rw [List.any_eq_false]
    intro z hz
    obtain ⟨j,hj⟩:=List.mem_iff_getElem?.1 hz
    rw [List.getElem?_take] at hj
    split at hj
    · rename_i hjk
      rw [hbf j z hjk hj];simp
    · cases hj
   rw [hany]
   obtain ⟨j,hj⟩:∃ j:Nat,stateI r x.fr=j:=⟨(stateI r x.fr).toNat,by omega⟩
   simp (disch:=try exact DI) only [↓PR,QR,simprocAttr,dk2]
   rw [hj]
   refine rallow_kind E4 g2 g5 (hS.ext E4) hj fun w' e'=>⟨_,rfl,?_,by first | exact e' | (subst hp2;exact e')⟩
   congr 1
   all_goals (cases decide (1≤x.kind∧x.kind≤4)<;>cases (decide (x.kind≠3)||waitsB r x.fr)<;>cases partsB r x<;>rfl)
theorem few_next {n least most k:Nat} {ok:Nat→Bool} (h1:least≤n) (h2:n≤most) (hk:k < n) (hb:∀ j,j < k→ok j=true) (hx:ok k=false):fewP n least most ok=(k:Int):=by
 unfold fewP
 rw [if_neg (by omega),if_neg (by omega)]
 refine idx_here (range_at hk) (by rw [hx];rfl) fun j y hj hy=>?_
 rw [range_at (show j < n by omega)] at hy
 injection hy with hy
 subst hy
 rw [hb j hj];rfl
theorem few_none {n least most:Nat} {ok:Nat→Bool} (h1:least≤n) (h2:n≤most) (hb:∀ j,j < n→ok j=true):fewP n least most ok = -1:=by
 unfold fewP
 rw [if_neg (by omega),if_neg (by omega)]
 refine idx_none fun j y hy=>?_
 have hj:=(List.getElem?_eq_some_iff.1 hy).1
 rw [List.length_range] at hj
 rw [range_at hj] at hy
 injection hy with hy
 subst hy
 rw [hb j hj];rfl
theorem few_many {n least most:Nat} {ok:Nat→Bool} (h1:least≤n) (h2:most < n):fewP n least most ok=(most:Int):=by
 unfold fewP
 rw [if_neg (by omega),if_pos h2]
theorem upto_succ {ok:Nat→Bool} {k:Nat} (hb:∀ j,j < k→ok j=true) (hx:ok k=true):∀ j,j < k+1→ok j=true:=fun j hj=>by
 by_cases h:j=k
 · subst h;exact hx
 · exact hb j (by omega)
section
variable {w0 W:World} {r:RolD} {p:Nat} {sv cv tv:Value} {R:RT}
theorem rcheck_steps (eW:Ext w0 W) (hp:W.heap[p]?=some (.cells (rolCells r sv cv tv).toArray 26 (0,0))) (hS:StasOf w0 sv r.states) (hC:CntsOf w0 cv r.counters) (hT:StpsOf w0 tv r.steps) (hl:r.counters.length≤1000000000∧r.states.length≤1000000000∧r.steps.length≤1000000000) (hlim:∀ c∈r.counters,c.limit≤1000)
 (h0:checkR r=if 0≤fewP r.steps.length 0 80 (stpB r) then (fewP r.steps.length 0 80 (stpB r),293) else (0,0)) (hR:∀ a e w',checkR r=(a,e)→Ext w0 w'→R (.returned (.tuple #[.int .i64 a,.int .i64 e])) w') :
 n13c13 (.pointer (some ⟨p,0,none⟩)) R W:=by
 have o1:=SliceOf.oneCell hS
 have o2:=SliceOf.oneCell hC
 have o3:=SliceOf.oneCell hT
 obtain ⟨A,c,htv,_⟩:=SliceOf.open hT
 unfold n13c13
 by_cases h80:80 < r.steps.length
 · have d1:decide ((r.steps.length:Int) > 80)=true:=decide_eq_true (by omega)
   rw [few_many (Nat.zero_le _) h80,if_pos (by omega)] at h0
   simp (disch:=try exact DI) only [↓PR,QR,simprocAttr,(cells_of_heap hp).1,htv,d1]
   exact hR _ _ _ h0 eW
 have d1:decide ((r.steps.length:Int) > 80)=false:=decide_eq_false (by omega)
 simp (disch:=try exact DI) only [↓PR,QR,simprocAttr,(cells_of_heap hp).1,htv,d1]
 refine loop1_intro (fun a w=>∃ k:Nat,a = .int .i64 k∧k≤r.steps.length∧Ext W w∧∀ j,j < k→stpB r j=true) (fun a _=>r.steps.length - (intOf a).toNat) ⟨0,rfl,by omega,Ext.refl _,fun j h=>by omega⟩ ?_
 rintro _ w ⟨k,rfl,hk,e,hb⟩
 have E:=eW.trans e
 have hp1:=e.obj hp
 unfold n13c12
 by_cases hlt:k < r.steps.length
 · have d2:decide ((k:Int) < (r.steps.length:Int))=true:=decide_eq_true (by omega)
   have hw:IntKind.i64.wrap ((k:Int)+1)=((k+1:Nat):Int):=by rw [wrap_ok (by omega) (by omega)];omega
   simp (disch:=try exact DI) only [↓PR,QR,simprocAttr,(cells_of_heap hp1).1,htv,d2]
   refine zcr (rallowed_ret w _ r k ⟨sv,cv,_,rfl,hS.ext E,hC.ext E,by rw [← htv];exact hT.ext E⟩ hlt hl.1 hl.2.1 hl.2.2 hlim) fun w1 e1=>?_
   unfold n13c11
   cases hx:stpB r k with
   | false =>
    rw [few_next (Nat.zero_le _) (by omega) hlt hb hx,if_pos (by omega)] at h0
    simp (disch:=try exact DI) only [↓PR,QR,simprocAttr]
    exact hR _ _ _ h0 (E.trans e1)
   | true =>
    simp (disch:=try exact DI) only [↓PR,QR,simprocAttr,hw]
    exact ⟨⟨k+1,rfl,by omega,e.trans e1,upto_succ hb hx⟩,meas_lt (kd := .i64) hlt⟩
 · obtain rfl:k=r.steps.length:=by omega
   have d2:decide ((r.steps.length:Int) < (r.steps.length:Int))=false:=decide_eq_false (by omega)
   rw [few_none (Nat.zero_le _) (by omega) hb,if_neg (by omega)] at h0
   simp (disch:=try exact DI) only [↓PR,QR,simprocAttr,(cells_of_heap hp1).1,htv,d2]
   exact hR _ _ _ h0 E
theorem rcheck_states (eW:Ext w0 W) (hp:W.heap[p]?=some (.cells (rolCells r sv cv tv).toArray 26 (0,0))) (hS:StasOf w0 sv r.states) (hC:CntsOf w0 cv r.counters) (hT:StpsOf w0 tv r.steps) (hl:r.counters.length≤1000000000∧r.states.length≤1000000000∧r.steps.length≤1000000000) (hlim:∀ c∈r.counters,c.limit≤1000)
 (h0:checkR r=if 0≤fewP r.states.length 1 24 (staB r) then (fewP r.states.length 1 24 (staB r),292) else if 0≤fewP r.steps.length 0 80 (stpB r) then (fewP r.steps.length 0 80 (stpB r),293) else (0,0)) (hR:∀ a e w',checkR r=(a,e)→Ext w0 w'→R (.returned (.tuple #[.int .i64 a,.int .i64 e])) w') :
 n13c16 (.pointer (some ⟨p,0,none⟩)) R W:=by
 have o1:=SliceOf.oneCell hS
 have o2:=SliceOf.oneCell hC
 have o3:=SliceOf.oneCell hT
 have hS':=hS
 obtain ⟨A,c,hsv,_,_,_,hel⟩:=SliceOf.open hS
 unfold n13c16
 by_cases hz:r.states.length=0
 · have d0:((r.states.length:Int) == 0)=true:=by rw [beq_iff_eq];omega
   have hf:fewP r.states.length 1 24 (staB r)=0:=by unfold fewP;rw [if_pos (by omega)]
   rw [hf,if_pos (by omega)] at h0
   simp (disch:=try exact DI) only [↓PR,QR,simprocAttr,(cells_of_heap hp).1,hsv,d0]
   exact hR _ _ _ h0 eW
 have d0:((r.states.length:Int) == 0)=false:=by rw [beq_eq_false_iff_ne];omega
 by_cases h24:24 < r.states.length
 · have d1:decide ((r.states.length:Int) > 24)=true:=decide_eq_true (by omega)
   rw [few_many (by omega) h24,if_pos (by omega)] at h0
   simp (disch:=try exact DI) only [↓PR,QR,simprocAttr,(cells_of_heap hp).1,hsv,d0,↓n13c15,d1]
   exact hR _ _ _ h0 eW
 have d1:decide ((r.states.length:Int) > 24)=false:=decide_eq_false (by omega)
 simp (disch:=try exact DI) only [↓PR,QR,simprocAttr,(cells_of_heap hp).1,hsv,d0,↓n13c15,d1]
 refine loop1_intro (fun a w=>∃ k:Nat,a = .int .i64 k∧k≤r.states.length∧Ext W w∧∀ j,j < k→staB r j=true) (fun a _=>r.states.length - (intOf a).toNat) ⟨0,rfl,by omega,Ext.refl _,fun j h=>by omega⟩ ?_
 rintro _ w ⟨k,rfl,hk,e,hb⟩
 have E:=eW.trans e
 have hp1:=e.obj hp
 unfold n13c14
 by_cases hlt:k < r.states.length
 · have d2:decide ((k:Int) < (r.states.length:Int))=true:=decide_eq_true (by omega)
   have hw:IntKind.i64.wrap ((k:Int)+1)=((k+1:Nat):Int):=by rw [wrap_ok (by omega) (by omega)];omega
   obtain ⟨x,hx⟩:=getElem?_lt hlt
   obtain ⟨b,o,cs,rfl,_,hA,rfl⟩:=hel k x hx
   have dk:(k:Int) < (r.states.length:Int):=by omega
   simp (disch:=try exact DI) only [↓PR,QR,simprocAttr,(cells_of_heap hp1).1,hsv,d2]
   refine drawK_intro ?_
   have eD:Ext w (Sw.drew w):=(Ext.refl w).drew
   have e':=e.trans eD
   have E:=E.trans eD
   have hp2:=eD.obj hp1
   generalize Sw.drew w=D at e' E hp2 ⊢
   clear hp1 eD
   have hsb:staB r k=(nameB x.name&&(decide (stateI r x.name=k)&&(decide (0≤x.wait)&&decide (x.wait≤1048576)))):=by unfold staB;rw [hx]
   have bad:staB r k=false→∀ w',Ext w0 w'→R (.returned (.tuple #[.int .i64 (k:Int),.int .i64 292])) w':=fun hx w' f=>by
    rw [few_next (by omega) (by omega) hlt hb hx,if_pos (by omega)] at h0
    exact hR _ _ _ h0 f
   rw [hsb] at bad
   unfold n13c10
   simp (disch:=try exact DI) only [↓PR,QR,simprocAttr,(cells_of_heap hp2).1,hsv,hA.c3 E]
   refine zcr (rName_ret D x.name) fun w1 e1=>?_
   refine ⟨e1,?_⟩
   unfold n13c9
   cases hn:nameB x.name with
   | false =>
    rw [hn] at bad
    simp (disch:=try exact DI) only [↓PR,QR,simprocAttr,↓n13c8,↓n13c7,↓n13c6]
    exact bad rfl _ (E.trans e1)
   | true =>
   rw [hn] at bad hsb
   simp (disch:=try exact DI) only [↓PR,QR,simprocAttr,(cells_of_heap hp2).1,hsv,hA.c3 E]
   refine zcr (rstate_ret w1 _ r x.name ⟨_,cv,tv,rfl,by rw [← hsv];exact hS'.ext (E.trans e1),hC.ext (E.trans e1),hT.ext (E.trans e1)⟩ hl.2.1) fun w2 e2=>?_
   have e12:=e1.trans e2
   refine ⟨e12,?_⟩
   have E2:=E.trans e12
   have q1:(stateI r x.name != (k:Int))=!decide (stateI r x.name=k):=by rw [Bool.eq_iff_iff];simp
   cases hs:decide (stateI r x.name=(k:Int)) with
   | false =>
    rw [hs] at bad
    simp (disch:=try exact DI) only [↓PR,QR,simprocAttr,q1,hs,↓n13c8,↓n13c7,↓n13c6]
    exact bad rfl _ E2
   | true =>
   rw [hs] at bad hsb
   by_cases g1:x.wait < 0
   · have d5:decide (x.wait < 0)=true:=decide_eq_true g1
     rw [decide_eq_false (show ¬ 0≤x.wait by omega)] at bad
     simp (disch:=try exact DI) only [↓PR,QR,simprocAttr,q1,hs,↓n13c8,(cells_of_heap hp2).1,hsv,hA.c3 E,d5,↓n13c7,↓n13c6]
     exact bad rfl _ E2
   have d5:decide (x.wait < 0)=false:=decide_eq_false g1
   by_cases g2:x.wait > 1048576
   · have d6:decide (x.wait > 1048576)=true:=decide_eq_true g2
     rw [decide_eq_true (show 0≤x.wait by omega),decide_eq_false (show ¬ x.wait≤1048576 by omega)] at bad
     simp (disch:=try exact DI) only [↓PR,QR,simprocAttr,q1,hs,↓n13c8,(cells_of_heap hp2).1,hsv,hA.c3 E,d5,↓n13c7,d6,↓n13c6]
     exact bad rfl _ E2
   have d6:decide (x.wait > 1048576)=false:=decide_eq_false g2
   rw [decide_eq_true (show 0≤x.wait by omega),decide_eq_true (show x.wait≤1048576 by omega)] at hsb
   simp (disch:=try exact DI) only [↓PR,QR,simprocAttr,q1,hs,↓n13c8,(cells_of_heap hp2).1,hsv,hA.c3 E,d5,↓n13c7,d6,↓n13c6,hw]
   exact ⟨⟨k+1,rfl,by omega,e'.trans e12,upto_succ hb hsb⟩,meas_lt (kd := .i64) hlt⟩
 · obtain rfl:k=r.states.length:=by omega
   have d2:decide ((r.states.length:Int) < (r.states.length:Int))=false:=decide_eq_false (by omega)
   rw [few_none (by omega) (by omega) hb,if_neg (by omega)] at h0
   simp (disch:=try exact DI) only [↓PR,QR,simprocAttr,(cells_of_heap hp1).1,hsv,d2]
   exact rcheck_steps E hp1 hS' hC hT hl hlim h0 hR
theorem rcheck_counters (eW:Ext w0 W) (hp:W.heap[p]?=some (.cells (rolCells r sv cv tv).toArray 26 (0,0))) (hS:StasOf w0 sv r.states) (hC:CntsOf w0 cv r.counters) (hT:StpsOf w0 tv r.steps) (hl:r.counters.length≤1000000000∧r.states.length≤1000000000∧r.steps.length≤1000000000)
 (h0:checkR r=if 0≤fewP r.counters.length 0 4 (cntB r) then (fewP r.counters.length 0 4 (cntB r),291) else if 0≤fewP r.states.length 1 24 (staB r) then (fewP r.states.length 1 24 (staB r),292) else if 0≤fewP r.steps.length 0 80 (stpB r) then (fewP r.steps.length 0 80 (stpB r),293) else (0,0)) (hR:∀ a e w',checkR r=(a,e)→Ext w0 w'→R (.returned (.tuple #[.int .i64 a,.int .i64 e])) w') :
 n13c18 (.pointer (some ⟨p,0,none⟩)) R W:=by
 have o1:=SliceOf.oneCell hS
 have o2:=SliceOf.oneCell hC
 have o3:=SliceOf.oneCell hT
 have hC':=hC
 obtain ⟨A,c,hcv,_,_,_,hel⟩:=SliceOf.open hC
 unfold n13c18
 by_cases h4:4 < r.counters.length
 · have d1:decide ((r.counters.length:Int) > 4)=true:=decide_eq_true (by omega)
   rw [few_many (by omega) h4,if_pos (by omega)] at h0
   simp (disch:=try exact DI) only [↓PR,QR,simprocAttr,(cells_of_heap hp).1,hcv,d1]
   exact hR _ _ _ h0 eW
 have d1:decide ((r.counters.length:Int) > 4)=false:=decide_eq_false (by omega)
 simp (disch:=try exact DI) only [↓PR,QR,simprocAttr,(cells_of_heap hp).1,hcv,d1]
 refine loop1_intro (fun a w=>∃ k:Nat,a = .int .i64 k∧k≤r.counters.length∧Ext W w∧∀ j,j < k→cntB r j=true) (fun a _=>r.counters.length - (intOf a).toNat) ⟨0,rfl,by omega,Ext.refl _,fun j h=>by omega⟩ ?_
 rintro _ w ⟨k,rfl,hk,e,hb⟩
 have E:=eW.trans e
 have hp1:=e.obj hp
 unfold n13c17
 by_cases hlt:k < r.counters.length
 · have d2:decide ((k:Int) < (r.counters.length:Int))=true:=decide_eq_true (by omega)
   have hw:IntKind.i64.wrap ((k:Int)+1)=((k+1:Nat):Int):=by rw [wrap_ok (by omega) (by omega)];omega
   obtain ⟨x,hx⟩:=getElem?_lt hlt
   obtain ⟨b,o,cs,rfl,_,hA,rfl⟩:=hel k x hx
   have dk:(k:Int) < (r.counters.length:Int):=by omega
   simp (disch:=try exact DI) only [↓PR,QR,simprocAttr,(cells_of_heap hp1).1,hcv,d2]
   refine drawK_intro ?_
   have eD:Ext w (Sw.drew w):=(Ext.refl w).drew
   have e':=e.trans eD
   have E:=E.trans eD
   have hp2:=eD.obj hp1
   generalize Sw.drew w=D at e' E hp2 ⊢
   clear hp1 eD
   have hsb:cntB r k=(nameB x.name&&(decide (counterI r x.name=k)&&(decide (1≤x.limit)&&decide (x.limit≤1000)))):=by unfold cntB;rw [hx]
   have bad:cntB r k=false→∀ w',Ext w0 w'→R (.returned (.tuple #[.int .i64 (k:Int),.int .i64 291])) w':=fun hx w' f=>by
    rw [few_next (by omega) (by omega) hlt hb hx,if_pos (by omega)] at h0
    exact hR _ _ _ h0 f
   rw [hsb] at bad
   unfold n13c5
   simp (disch:=try exact DI) only [↓PR,QR,simprocAttr,(cells_of_heap hp2).1,hcv,hA.c2 E]
   refine zcr (rName_ret D x.name) fun w1 e1=>?_
   refine ⟨e1,?_⟩
   unfold n13c4
   cases hn:nameB x.name with
   | false =>
    rw [hn] at bad
    simp (disch:=try exact DI) only [↓PR,QR,simprocAttr,↓n13c3,↓n13c2,↓n13c1]
    exact bad rfl _ (E.trans e1)
   | true =>
   rw [hn] at bad hsb
   simp (disch:=try exact DI) only [↓PR,QR,simprocAttr,(cells_of_heap hp2).1,hcv,hA.c2 E]
   refine zcr (rcounter_ret w1 _ r x.name ⟨sv,_,tv,rfl,hS.ext (E.trans e1),by rw [← hcv];exact hC'.ext (E.trans e1),hT.ext (E.trans e1)⟩ hl.1) fun w2 e2=>?_
   have e12:=e1.trans e2
   refine ⟨e12,?_⟩
   have E2:=E.trans e12
   have q1:(counterI r x.name != (k:Int))=!decide (counterI r x.name=k):=by rw [Bool.eq_iff_iff];simp
   cases hs:decide (counterI r x.name=(k:Int)) with
   | false =>
    rw [hs] at bad
    simp (disch:=try exact DI) only [↓PR,QR,simprocAttr,q1,hs,↓n13c3,↓n13c2,↓n13c1]
    exact bad rfl _ E2
   | true =>
   rw [hs] at bad hsb
   by_cases g1:x.limit < 1
   · have d5:decide (x.limit < 1)=true:=decide_eq_true g1
     rw [decide_eq_false (show ¬ 1≤x.limit by omega)] at bad
     simp (disch:=try exact DI) only [↓PR,QR,simprocAttr,q1,hs,↓n13c3,(cells_of_heap hp2).1,hcv,hA.c2 E,d5,↓n13c2,↓n13c1]
     exact bad rfl _ E2
   have d5:decide (x.limit < 1)=false:=decide_eq_false g1
   by_cases g2:x.limit > 1000
   · have d6:decide (x.limit > 1000)=true:=decide_eq_true g2
     rw [decide_eq_true (show 1≤x.limit by omega),decide_eq_false (show ¬ x.limit≤1000 by omega)] at bad
     simp (disch:=try exact DI) only [↓PR,QR,simprocAttr,q1,hs,↓n13c3,(cells_of_heap hp2).1,hcv,hA.c2 E,d5,↓n13c2,d6,↓n13c1]
     exact bad rfl _ E2
   have d6:decide (x.limit > 1000)=false:=decide_eq_false g2
   rw [decide_eq_true (show 1≤x.limit by omega),decide_eq_true (show x.limit≤1000 by omega)] at hsb
   simp (disch:=try exact DI) only [↓PR,QR,simprocAttr,q1,hs,↓n13c3,(cells_of_heap hp2).1,hcv,hA.c2 E,d5,↓n13c2,d6,↓n13c1,hw]
   exact ⟨⟨k+1,rfl,by omega,e'.trans e12,upto_succ hb hsb⟩,meas_lt (kd := .i64) hlt⟩
 · obtain rfl:k=r.counters.length:=by omega
   have d2:decide ((r.counters.length:Int) < (r.counters.length:Int))=false:=decide_eq_false (by omega)
   have hfn:=few_none (least:=0) (most:=4) (by omega) (by omega) hb
   have hlim:=few_lim (r:=r) (by rw [hfn];omega)
   rw [hfn,if_neg (by omega)] at h0
   simp (disch:=try exact DI) only [↓PR,QR,simprocAttr,(cells_of_heap hp1).1,hcv,d2]
   exact rcheck_states E hp1 hS hC' hT hl hlim h0 hR
end
theorem rCheck_ret (w0:World) (v:Value) (r:RolD) (hr:RolVal w0 v r) (hl:r.counters.length≤1000000000∧r.states.length≤1000000000∧r.steps.length≤1000000000):Ret Pg 13 #[v] w0 fun u w'=>u = .tuple #[.int .i64 (checkR r).1,.int .i64 (checkR r).2]∧Ext w0 w':=by
 obtain ⟨sv,cv,tv,rfl,hS,hC,hT,o1,o2,o3⟩:=hr.op
 refine n13s (R:=retR _) ?_;unfold n13
 rw [op_boxA]
 have hp:=heap_new w0 (rolCells r sv cv tv).toArray 26
 have eW:Ext w0 (w0.alloc (.cells (rolCells r sv cv tv).toArray 26)):=ee
 generalize (w0.alloc (.cells (rolCells r sv cv tv).toArray 26))=W at hp eW ⊢
 simp (disch:=try exact DI) only [↓PR,QR,simprocAttr,(cells_of_heap hp).1]
 refine zcr (rName_ret W r.name) fun w1 e1=>?_
 have E1:=eW.trans e1
 cases hn:nameB r.name with
 | false =>
  have h0:checkR r=(0,290):=by unfold checkR;rw [hn,if_pos rfl]
  simp (disch:=try exact DI) only [↓PR,QR,simprocAttr]
  rw [h0]
  exact ⟨by trivial,E1⟩
 | true =>
  have h0:checkR r=if 0≤fewP r.counters.length 0 4 (cntB r) then (fewP r.counters.length 0 4 (cntB r),291) else if 0≤fewP r.states.length 1 24 (staB r) then (fewP r.states.length 1 24 (staB r),292) else if 0≤fewP r.steps.length 0 80 (stpB r) then (fewP r.steps.length 0 80 (stpB r),293) else (0,0):=by
   conv=>lhs;unfold checkR
   rw [hn,if_neg (by simp)]
  simp (disch:=try exact DI) only [↓PR,QR,simprocAttr]
  exact rcheck_counters E1 (e1.obj hp) hS hC hT hl h0 fun a e w' h f=>⟨_,rfl,by rw [h],f⟩
open Go.Shelf
def sh_lays156_ren:Go.Shelf.Ren:=⟨fun | 156=>48 | 165=>85 | 166=>86 | 169=>87 | 240=>104 | 241=>105 | 276=>123 | 277=>124 | n=>n,fun | 31=>73 | 9=>9 | 3=>3 | 4=>4 | 0=>0 | 20=>20 | 72=>127 | 76=>131 | 70=>125 | 37=>94 | 75=>130 | 127=>147 | 164=>163 | 5=>5 | 80=>111 | n=>n,fun | n=>n⟩
theorem sh_lays156:Go.Proofs.Lays.n156 Pg sh_lays156_ren:={
 mixed:=by kernel_rfl
 f156:=Tryz.func48.trans (congrArg some (by kernel_rfl))
 f165:=Tryz.func85.trans (congrArg some (by kernel_rfl))
 f166:=Tryz.func86.trans (congrArg some (by kernel_rfl))
 f169:=Tryz.func87.trans (congrArg some (by kernel_rfl))
 f240:=Tryz.func104.trans (congrArg some (by kernel_rfl))
 f241:=Tryz.func105.trans (congrArg some (by kernel_rfl))
 f276:=Tryz.func123.trans (congrArg some (by kernel_rfl))
 f277:=Tryz.func124.trans (congrArg some (by kernel_rfl))
 t0:=Tryz.underlying0
 a0:=Tryz.isAgg0
 z0:=Tryz.sizeOf0
 v0:=Tryz.zeroValue0
 t3:=Tryz.underlying3
 a3:=Tryz.isAgg3
 z3:=Tryz.sizeOf3
 v3:=Tryz.zeroValue3
 t4:=Tryz.underlying4
 a4:=Tryz.isAgg4
 z4:=Tryz.sizeOf4
 v4:=Tryz.zeroValue4
 t9:=Tryz.underlying9
 a9:=Tryz.isAgg9
 z9:=Tryz.sizeOf9
 v9:=Tryz.zeroValue9
 t20:=Tryz.underlying20
 a20:=Tryz.isAgg20
 z20:=Tryz.sizeOf20
 v20:=Tryz.zeroValue20
 t31:=Tryz.underlying73
 a31:=Tryz.isAgg73
 z31:=Tryz.sizeOf73
 v31:=Tryz.zeroValue73
 t37:=Tryz.underlying94
 a37:=Tryz.isAgg94
 z37:=Tryz.sizeOf94
 v37:=Tryz.zeroValue94
 t70:=Tryz.underlying125
 a70:=Tryz.isAgg125
 z70:=Tryz.sizeOf125
 v70:=Tryz.zeroValue125
 t72:=Tryz.underlying127
 a72:=Tryz.isAgg127
 z72:=Tryz.sizeOf127
 v72:=Tryz.zeroValue127
 t75:=Tryz.underlying130
 a75:=Tryz.isAgg130
 z75:=Tryz.sizeOf130
 v75:=Tryz.zeroValue130
 t76:=Tryz.underlying131
 a76:=Tryz.isAgg131
 z76:=Tryz.sizeOf131
 v76:=Tryz.zeroValue131
 t127:=Tryz.underlying147
 a127:=Tryz.isAgg147
 z127:=Tryz.sizeOf147
 v127:=Tryz.zeroValue147
 t164:=Tryz.underlying163
 a164:=Tryz.isAgg163
 z164:=Tryz.sizeOf163
 v164:=Tryz.zeroValue163 }
theorem sh_Builder_Extra_156:Builder.Extra Pg sh_lays156_ren:={
 sizeBuilder:=by kernel_rfl
 liesBuilder:=by kernel_rfl
 t5:=Tryz.underlying5
 a5:=Tryz.isAgg5
 z5:=Tryz.sizeOf5
 v5:=Tryz.zeroValue5
 infoByte:=by kernel_rfl
 cellsByte:=by kernel_rfl
 sizeByte:=by kernel_rfl
 neB5:=by decide }
open Go.RowKit in
theorem sh_strings_Join (bk o c:Nat) (xs:List ByteArray) (sep:ByteArray) (w:World) (hcells:∀ (j:Nat) x,xs[j]?=some x→w.cell? ⟨bk,o+j,none⟩=some (.string x)) (hbk:bk < w.heap.size) (hN:xs.length≤140737488355328) (hcap:xs.length≤c) (hlen:(Lib.join (xs.map (·.data.toList)) sep.data.toList).length≤140737488355328) :
 Calls Pg 48 #[.slice (some ⟨bk,o,none⟩) xs.length c,.string sep] w fun e w'=>e = .returned (.string ⟨(Lib.join (xs.map (·.data.toList)) sep.data.toList).toArray⟩)∧Below w.heap.size w w':=Any.strings_Join sh_lays156 sh_Builder_Extra_156 bk o c xs sep w hcells hbk hN hcap hlen
def sh_laysM171_ren:Go.Shelf.Ren:=⟨fun | 171=>82 | 243=>103 | 246=>122 | 283=>140 | 284=>141 | 285=>142 | 286=>143 | 129=>121 | 317=>152 | 318=>153 | 319=>154 | 320=>155 | 337=>163 | 338=>164 | n=>n,fun | 3=>3 | 9=>9 | 2=>2 | 4=>4 | 171=>180 | 0=>0 | 53=>161 | 37=>94 | 5=>5 | 173=>182 | 212=>197 | 51=>159 | 20=>20 | 213=>198 | 46=>146 | 232=>209 | 233=>210 | n=>n,fun | 17=>3 | 18=>6 | 19=>7 | n=>n⟩
theorem sh_laysM171:Go.Proofs.LaysM.n171 Pg sh_laysM171_ren:={
 mixed:=by kernel_rfl
 f129:=Tryz.func121.trans (congrArg some (by kernel_rfl))
 f171:=Tryz.func82.trans (congrArg some (by kernel_rfl))
 f243:=Tryz.func103.trans (congrArg some (by kernel_rfl))
 f246:=Tryz.func122.trans (congrArg some (by kernel_rfl))
 f283:=Tryz.func140.trans (congrArg some (by kernel_rfl))
 f284:=Tryz.func141.trans (congrArg some (by kernel_rfl))
 f285:=Tryz.func142.trans (congrArg some (by kernel_rfl))
 f286:=Tryz.func143.trans (congrArg some (by kernel_rfl))
 f317:=Tryz.func152.trans (congrArg some (by kernel_rfl))
 f318:=Tryz.func153.trans (congrArg some (by kernel_rfl))
 f319:=Tryz.func154.trans (congrArg some (by kernel_rfl))
 f320:=Tryz.func155.trans (congrArg some (by kernel_rfl))
 f337:=Tryz.func163.trans (congrArg some (by kernel_rfl))
 f338:=Tryz.func164.trans (congrArg some (by kernel_rfl))
 t0:=Tryz.underlying0
 a0:=Tryz.isAgg0
 z0:=Tryz.sizeOf0
 v0:=Tryz.zeroValue0
 t2:=Tryz.underlying2
 a2:=Tryz.isAgg2
 z2:=Tryz.sizeOf2
 v2:=Tryz.zeroValue2
 t3:=Tryz.underlying3
 a3:=Tryz.isAgg3
 z3:=Tryz.sizeOf3
 v3:=Tryz.zeroValue3
 t4:=Tryz.underlying4
 a4:=Tryz.isAgg4
 z4:=Tryz.sizeOf4
 v4:=Tryz.zeroValue4
 t5:=Tryz.underlying5
 a5:=Tryz.isAgg5
 z5:=Tryz.sizeOf5
 v5:=Tryz.zeroValue5
 t9:=Tryz.underlying9
 a9:=Tryz.isAgg9
 z9:=Tryz.sizeOf9
 v9:=Tryz.zeroValue9
 t20:=Tryz.underlying20
 a20:=Tryz.isAgg20
 z20:=Tryz.sizeOf20
 v20:=Tryz.zeroValue20
 t37:=Tryz.underlying94
 a37:=Tryz.isAgg94
 z37:=Tryz.sizeOf94
 v37:=Tryz.zeroValue94
 t46:=Tryz.underlying146
 a46:=Tryz.isAgg146
 z46:=Tryz.sizeOf146
 v46:=Tryz.zeroValue146
 t51:=Tryz.underlying159
 a51:=Tryz.isAgg159
 z51:=Tryz.sizeOf159
 v51:=Tryz.zeroValue159
 t53:=Tryz.underlying161
 a53:=Tryz.isAgg161
 z53:=Tryz.sizeOf161
 v53:=Tryz.zeroValue161
 t171:=Tryz.underlying180
 a171:=Tryz.isAgg180
 z171:=Tryz.sizeOf180
 v171:=Tryz.zeroValue180
 t173:=Tryz.underlying182
 a173:=Tryz.isAgg182
 z173:=Tryz.sizeOf182
 v173:=Tryz.zeroValue182
 t212:=Tryz.underlying197
 a212:=Tryz.isAgg197
 z212:=Tryz.sizeOf197
 v212:=Tryz.zeroValue197
 t213:=Tryz.underlying198
 a213:=Tryz.isAgg198
 z213:=Tryz.sizeOf198
 t232:=Tryz.underlying209
 a232:=Tryz.isAgg209
 z232:=Tryz.sizeOf209
 v232:=Tryz.zeroValue209
 t233:=Tryz.underlying210
 a233:=Tryz.isAgg210
 z233:=Tryz.sizeOf210
 v233:=Tryz.zeroValue210
 g17:=by kernel_rfl
 g18:=by kernel_rfl
 g19:=by kernel_rfl
 i0:=by kernel_rfl
 i2:=by kernel_rfl
 i3:=by kernel_rfl
 i4:=by kernel_rfl
 i5:=by kernel_rfl
 i9:=by kernel_rfl
 i20:=by kernel_rfl
 i37:=by kernel_rfl
 i46:=by kernel_rfl
 i51:=by kernel_rfl
 i53:=by kernel_rfl
 i171:=by kernel_rfl
 i173:=by kernel_rfl
 i212:=by kernel_rfl
 i232:=by kernel_rfl
 i233:=by kernel_rfl
 m17:=by kernel_rfl
 m18:=by kernel_rfl
 m19:=by kernel_rfl }
open Go.RowKit Go.Sort Go.Lib in
theorem sh_strconv_Itoa (n:Int) (h0 : -9223372036854775808≤n) (h1:n≤9223372036854775807) (w:World) (htab:Lib.TabIs Pg w "internal/strconv.uint64pow10" .u64 Lib.pow10Tab) :
 Calls Pg 82 #[.int .i64 n] w fun e w'=>e = .returned (.string ⟨(Lib.itoa n).toArray⟩)∧∃ k os,w'=grow (w.drewN k) os:=Any.strconv_Itoa sh_laysM171 n h0 h1 w htab
def sh_laysC172_ren:Go.Shelf.Ren:=⟨fun | 172=>97 | 244=>108 | 245=>109 | 247=>128 | 279=>129 | 280=>130 | 281=>131 | 282=>132 | 287=>148 | 316=>149 | 171=>82 | 205=>150 | 321=>161 | 322=>162 | 243=>103 | 246=>122 | 283=>140 | 284=>141 | 285=>142 | 286=>143 | 129=>121 | 317=>152 | 318=>153 | 319=>154 | 320=>155 | 337=>163 | 338=>164 | n=>n,fun | 9=>9 | 3=>3 | 75=>130 | 76=>131 | 4=>4 | 5=>5 | 167=>168 | 37=>94 | 0=>0 | 85=>169 | 2=>2 | 168=>171 | 53=>161 | 175=>187 | 46=>146 | 210=>191 | 127=>147 | 145=>202 | 143=>200 | 21=>21 | 171=>180 | 173=>182 | 212=>197 | 51=>159 | 20=>20 | 213=>198 | 232=>209 | 233=>210 | 80=>111 | n=>n,fun | 15=>1 | 16=>2 | 17=>3 | 18=>6 | 19=>7 | n=>n⟩
theorem sh_laysC172:Go.Proofs.LaysC.n172 Pg sh_laysC172_ren:={
 mixed:=by kernel_rfl
 f129:=Tryz.func121.trans (congrArg some (by kernel_rfl))
 f171:=Tryz.func82.trans (congrArg some (by kernel_rfl))
 f172:=Tryz.func97.trans (congrArg some (by kernel_rfl))
 f205:=Tryz.func150.trans (congrArg some (by kernel_rfl))
 f243:=Tryz.func103.trans (congrArg some (by kernel_rfl))
 f244:=Tryz.func108.trans (congrArg some (by kernel_rfl))
 f245:=Tryz.func109.trans (congrArg some (by kernel_rfl))
 f246:=Tryz.func122.trans (congrArg some (by kernel_rfl))
 f247:=Tryz.func128.trans (congrArg some (by kernel_rfl))
 f279:=Tryz.func129.trans (congrArg some (by kernel_rfl))
 f280:=Tryz.func130.trans (congrArg some (by kernel_rfl))
 f281:=Tryz.func131.trans (congrArg some (by kernel_rfl))
 f282:=Tryz.func132.trans (congrArg some (by kernel_rfl))
 f283:=Tryz.func140.trans (congrArg some (by kernel_rfl))
 f284:=Tryz.func141.trans (congrArg some (by kernel_rfl))
 f285:=Tryz.func142.trans (congrArg some (by kernel_rfl))
 f286:=Tryz.func143.trans (congrArg some (by kernel_rfl))
 f287:=Tryz.func148.trans (congrArg some (by kernel_rfl))
 f316:=Tryz.func149.trans (congrArg some (by kernel_rfl))
 f317:=Tryz.func152.trans (congrArg some (by kernel_rfl))
 f318:=Tryz.func153.trans (congrArg some (by kernel_rfl))
 f319:=Tryz.func154.trans (congrArg some (by kernel_rfl))
 f320:=Tryz.func155.trans (congrArg some (by kernel_rfl))
 f321:=Tryz.func161.trans (congrArg some (by kernel_rfl))
 f322:=Tryz.func162.trans (congrArg some (by kernel_rfl))
 f337:=Tryz.func163.trans (congrArg some (by kernel_rfl))
 f338:=Tryz.func164.trans (congrArg some (by kernel_rfl))
 t0:=Tryz.underlying0
 a0:=Tryz.isAgg0
 z0:=Tryz.sizeOf0
 v0:=Tryz.zeroValue0
 t2:=Tryz.underlying2
 a2:=Tryz.isAgg2
 z2:=Tryz.sizeOf2
 v2:=Tryz.zeroValue2
 t3:=Tryz.underlying3
 a3:=Tryz.isAgg3
 z3:=Tryz.sizeOf3
 v3:=Tryz.zeroValue3
 t4:=Tryz.underlying4
 a4:=Tryz.isAgg4
 z4:=Tryz.sizeOf4
 v4:=Tryz.zeroValue4
 t5:=Tryz.underlying5
 a5:=Tryz.isAgg5
 z5:=Tryz.sizeOf5
 v5:=Tryz.zeroValue5
 t9:=Tryz.underlying9
 a9:=Tryz.isAgg9
 z9:=Tryz.sizeOf9
 v9:=Tryz.zeroValue9
 t20:=Tryz.underlying20
 a20:=Tryz.isAgg20
 z20:=Tryz.sizeOf20
 v20:=Tryz.zeroValue20
 t21:=Tryz.underlying21
 a21:=Tryz.isAgg21
 z21:=Tryz.sizeOf21
 v21:=Tryz.zeroValue21
 t37:=Tryz.underlying94
 a37:=Tryz.isAgg94
 z37:=Tryz.sizeOf94
 v37:=Tryz.zeroValue94
 t46:=Tryz.underlying146
 a46:=Tryz.isAgg146
 z46:=Tryz.sizeOf146
 v46:=Tryz.zeroValue146
 t51:=Tryz.underlying159
 a51:=Tryz.isAgg159
 z51:=Tryz.sizeOf159
 v51:=Tryz.zeroValue159
 t53:=Tryz.underlying161
 a53:=Tryz.isAgg161
 z53:=Tryz.sizeOf161
 v53:=Tryz.zeroValue161
 t75:=Tryz.underlying130
 a75:=Tryz.isAgg130
 z75:=Tryz.sizeOf130
 v75:=Tryz.zeroValue130
 t76:=Tryz.underlying131
 a76:=Tryz.isAgg131
 z76:=Tryz.sizeOf131
 v76:=Tryz.zeroValue131
 t85:=Tryz.underlying169
 a85:=Tryz.isAgg169
 z85:=Tryz.sizeOf169
 v85:=Tryz.zeroValue169
 t127:=Tryz.underlying147
 a127:=Tryz.isAgg147
 z127:=Tryz.sizeOf147
 v127:=Tryz.zeroValue147
 t143:=Tryz.underlying200
 a143:=Tryz.isAgg200
 z143:=Tryz.sizeOf200
 v143:=Tryz.zeroValue200
 t145:=Tryz.underlying202
 a145:=Tryz.isAgg202
 z145:=Tryz.sizeOf202
 v145:=Tryz.zeroValue202
 t167:=Tryz.underlying168
 a167:=Tryz.isAgg168
 z167:=Tryz.sizeOf168
 v167:=Tryz.zeroValue168
 t168:=Tryz.underlying171
 a168:=Tryz.isAgg171
 z168:=Tryz.sizeOf171
 v168:=Tryz.zeroValue171
 t171:=Tryz.underlying180
 a171:=Tryz.isAgg180
 z171:=Tryz.sizeOf180
 v171:=Tryz.zeroValue180
 t173:=Tryz.underlying182
 a173:=Tryz.isAgg182
 z173:=Tryz.sizeOf182
 v173:=Tryz.zeroValue182
 t175:=Tryz.underlying187
 a175:=Tryz.isAgg187
 z175:=Tryz.sizeOf187
 v175:=Tryz.zeroValue187
 t210:=Tryz.underlying191
 a210:=Tryz.isAgg191
 z210:=Tryz.sizeOf191
 v210:=Tryz.zeroValue191
 t212:=Tryz.underlying197
 a212:=Tryz.isAgg197
 z212:=Tryz.sizeOf197
 v212:=Tryz.zeroValue197
 t213:=Tryz.underlying198
 a213:=Tryz.isAgg198
 z213:=Tryz.sizeOf198
 t232:=Tryz.underlying209
 a232:=Tryz.isAgg209
 z232:=Tryz.sizeOf209
 v232:=Tryz.zeroValue209
 t233:=Tryz.underlying210
 a233:=Tryz.isAgg210
 z233:=Tryz.sizeOf210
 v233:=Tryz.zeroValue210
 g15:=by kernel_rfl
 g16:=by kernel_rfl
 g17:=by kernel_rfl
 g18:=by kernel_rfl
 g19:=by kernel_rfl
 t80:=Tryz.underlying111
 a80:=Tryz.isAgg111
 z80:=Tryz.sizeOf111
 v80:=Tryz.zeroValue111
 i0:=by kernel_rfl
 i2:=by kernel_rfl
 i3:=by kernel_rfl
 i4:=by kernel_rfl
 i5:=by kernel_rfl
 i9:=by kernel_rfl
 i20:=by kernel_rfl
 i21:=by kernel_rfl
 i37:=by kernel_rfl
 i46:=by kernel_rfl
 i51:=by kernel_rfl
 i53:=by kernel_rfl
 i75:=by kernel_rfl
 i76:=by kernel_rfl
 i80:=by kernel_rfl
 i85:=by kernel_rfl
 i127:=by kernel_rfl
 i143:=by kernel_rfl
 i145:=by kernel_rfl
 i167:=by kernel_rfl
 i168:=by kernel_rfl
 i171:=by kernel_rfl
 i173:=by kernel_rfl
 i175:=by kernel_rfl
 i210:=by kernel_rfl
 i212:=by kernel_rfl
 i232:=by kernel_rfl
 i233:=by kernel_rfl
 m15:=by kernel_rfl
 m16:=by kernel_rfl
 m17:=by kernel_rfl
 m18:=by kernel_rfl
 m19:=by kernel_rfl
 c0:=by kernel_rfl
 c2:=by kernel_rfl
 c3:=by kernel_rfl
 c4:=by kernel_rfl
 c5:=by kernel_rfl
 c9:=by kernel_rfl
 c20:=by kernel_rfl
 c21:=by kernel_rfl
 c37:=by kernel_rfl
 c46:=by kernel_rfl
 c51:=by kernel_rfl
 c53:=by kernel_rfl
 c75:=by kernel_rfl
 c76:=by kernel_rfl
 c80:=by kernel_rfl
 c85:=by kernel_rfl
 c127:=by kernel_rfl
 c143:=by kernel_rfl
 c145:=by kernel_rfl
 c167:=by kernel_rfl
 c168:=by kernel_rfl
 c171:=by kernel_rfl
 c173:=by kernel_rfl
 c175:=by kernel_rfl
 c210:=by kernel_rfl
 c212:=by kernel_rfl
 c213:=by kernel_rfl
 c232:=by kernel_rfl
 c233:=by kernel_rfl }
open Go.RowKit in
theorem sh_strconv_Atoi_ok (s:ByteArray) (hmax:s.size≤9223372036854775806) (v:Int) (h:Lib.atoiAll s.data.toList = .ok v) (w:World) :
 Calls Pg 97 #[.string s] w fun e w'=>e = .returned (.tuple #[.int .i64 v,.nilIface])∧(w'=w∨∃ t,w'=Lib.bytesWorld w 5 t):=Any.strconv_Atoi_ok sh_laysC172 s hmax v h w
open Go.RowKit in
theorem sh_strconv_Atoi_syntax (s:ByteArray) (hlim:s.size≤281474976710656) (h:Lib.atoiAll s.data.toList=Go.Lib.NumEnd.syntax) (ev:Value) (w:World) (hv:w.cell? ⟨1,0,none⟩=some ev) (hev:ev = .nilIface∨∃ te pe,ev = .iface te pe) :
 Calls Pg 97 #[.string s] w fun e w'=>∃ N,e = .returned (.tuple #[.int .i64 (0),.iface 171 (.pointer (some ⟨N,0,none⟩))])∧w.heap.size≤N∧w'.heap[N]?=some (.cells #[.string ⟨#[65,116,111,105]⟩,.string s,ev] 191 (0,0))∧Below w.heap.size w w':=Any.strconv_Atoi_syntax sh_laysC172 s hlim h ev w hv hev
open Go.RowKit in
theorem sh_strconv_Atoi_range (s:ByteArray) (hlim:s.size≤281474976710656) (h:Lib.atoiAll s.data.toList = .range) (ev:Value) (w:World) (hv:w.cell? ⟨2,0,none⟩=some ev) (hev:ev = .nilIface∨∃ te pe,ev = .iface te pe) :
 Calls Pg 97 #[.string s] w fun e w'=>∃ N,e = .returned (.tuple #[.int .i64 (Lib.atoiSat s.data.toList),.iface 171 (.pointer (some ⟨N,0,none⟩))])∧w.heap.size≤N∧w'.heap[N]?=some (.cells #[.string ⟨#[65,116,111,105]⟩,.string s,ev] 191 (0,0))∧Below w.heap.size w w':=Any.strconv_Atoi_range sh_laysC172 s hlim h ev w hv hev
def sh_lays101_ren:Go.Shelf.Ren:=⟨fun | 101=>98 | 208=>110 | 206=>133 | n=>n,fun | 9=>9 | 4=>4 | 3=>3 | n=>n,fun | n=>n⟩
theorem sh_lays101:Go.Proofs.Lays.n101 Pg sh_lays101_ren:={
 mixed:=by kernel_rfl
 f101:=Tryz.func98.trans (congrArg some (by kernel_rfl))
 f206:=Tryz.func133.trans (congrArg some (by kernel_rfl))
 f208:=Tryz.func110.trans (congrArg some (by kernel_rfl))
 t3:=Tryz.underlying3
 a3:=Tryz.isAgg3
 z3:=Tryz.sizeOf3
 v3:=Tryz.zeroValue3
 t4:=Tryz.underlying4
 a4:=Tryz.isAgg4
 z4:=Tryz.sizeOf4
 v4:=Tryz.zeroValue4
 t9:=Tryz.underlying9
 a9:=Tryz.isAgg9
 z9:=Tryz.sizeOf9
 v9:=Tryz.zeroValue9 }
open Go.RowKit Go.Lib in
theorem sh_strings_TrimPrefix (s p:ByteArray) (w:World) :
 Calls Pg 98 #[.string s,.string p] w fun e w'=>e = .returned (.string ⟨(Lib.trimPrefix s.data.toList p.data.toList).toArray⟩)∧w'=w:=Any.strings_TrimPrefix sh_lays101 s p w
def sh_lays146_ren:Go.Shelf.Ren:=⟨fun | 146=>89 | 221=>106 | 268=>125 | 138=>126 | 143=>127 | 195=>144 | 197=>145 | 218=>146 | 219=>147 | 260=>156 | 217=>157 | 225=>158 | 224=>159 | 267=>160 | 266=>165 | 314=>166 | n=>n,fun | 9=>9 | 31=>73 | 3=>3 | 4=>4 | 0=>0 | 105=>184 | 21=>21 | 5=>5 | 46=>146 | 119=>203 | 139=>206 | 138=>205 | 146=>207 | 51=>159 | n=>n,fun | 1=>0 | 3=>4 | 4=>5 | n=>n⟩
theorem sh_lays146:Go.Proofs.Lays.n146 Pg sh_lays146_ren:={
 mixed:=by kernel_rfl
 f138:=Tryz.func126.trans (congrArg some (by kernel_rfl))
 f143:=Tryz.func127.trans (congrArg some (by kernel_rfl))
 f146:=Tryz.func89.trans (congrArg some (by kernel_rfl))
 f195:=Tryz.func144.trans (congrArg some (by kernel_rfl))
 f197:=Tryz.func145.trans (congrArg some (by kernel_rfl))
 f217:=Tryz.func157.trans (congrArg some (by kernel_rfl))
 f218:=Tryz.func146.trans (congrArg some (by kernel_rfl))
 f219:=Tryz.func147.trans (congrArg some (by kernel_rfl))
 f221:=Tryz.func106.trans (congrArg some (by kernel_rfl))
 f224:=Tryz.func159.trans (congrArg some (by kernel_rfl))
 f225:=Tryz.func158.trans (congrArg some (by kernel_rfl))
 f260:=Tryz.func156.trans (congrArg some (by kernel_rfl))
 f266:=Tryz.func165.trans (congrArg some (by kernel_rfl))
 f267:=Tryz.func160.trans (congrArg some (by kernel_rfl))
 f268:=Tryz.func125.trans (congrArg some (by kernel_rfl))
 f314:=Tryz.func166.trans (congrArg some (by kernel_rfl))
 t0:=Tryz.underlying0
 a0:=Tryz.isAgg0
 z0:=Tryz.sizeOf0
 v0:=Tryz.zeroValue0
 t3:=Tryz.underlying3
 a3:=Tryz.isAgg3
 z3:=Tryz.sizeOf3
 v3:=Tryz.zeroValue3
 t4:=Tryz.underlying4
 a4:=Tryz.isAgg4
 z4:=Tryz.sizeOf4
 v4:=Tryz.zeroValue4
 t5:=Tryz.underlying5
 a5:=Tryz.isAgg5
 z5:=Tryz.sizeOf5
 v5:=Tryz.zeroValue5
 t9:=Tryz.underlying9
 a9:=Tryz.isAgg9
 z9:=Tryz.sizeOf9
 v9:=Tryz.zeroValue9
 t21:=Tryz.underlying21
 a21:=Tryz.isAgg21
 z21:=Tryz.sizeOf21
 v21:=Tryz.zeroValue21
 t31:=Tryz.underlying73
 a31:=Tryz.isAgg73
 z31:=Tryz.sizeOf73
 v31:=Tryz.zeroValue73
 t46:=Tryz.underlying146
 a46:=Tryz.isAgg146
 z46:=Tryz.sizeOf146
 v46:=Tryz.zeroValue146
 t51:=Tryz.underlying159
 a51:=Tryz.isAgg159
 z51:=Tryz.sizeOf159
 v51:=Tryz.zeroValue159
 t105:=Tryz.underlying184
 a105:=Tryz.isAgg184
 z105:=Tryz.sizeOf184
 v105:=Tryz.zeroValue184
 t119:=Tryz.underlying203
 a119:=Tryz.isAgg203
 z119:=Tryz.sizeOf203
 t138:=Tryz.underlying205
 a138:=Tryz.isAgg205
 z138:=Tryz.sizeOf205
 v138:=Tryz.zeroValue205
 t139:=Tryz.underlying206
 a139:=Tryz.isAgg206
 z139:=Tryz.sizeOf206
 v139:=Tryz.zeroValue206
 t146:=Tryz.underlying207
 a146:=Tryz.isAgg207
 z146:=Tryz.sizeOf207
 v146:=Tryz.zeroValue207
 g1:=by kernel_rfl
 g3:=by kernel_rfl
 g4:=by kernel_rfl }
open Go.RowKit Go.Lib in
theorem sh_strings_Split (s sep:ByteArray) (m:Int) (w:World) (hs:s.size < 4294967281) (hm:w.cell? ⟨0,0,none⟩=some (.int .i64 m)) (h1:1≤sep.size) :
 Calls Pg 89 #[.string s,.string sep] w fun e w' =>
  e = .returned (.slice (some ⟨w.heap.size,0,none⟩) (Lib.countB s sep+1) (Lib.countB s sep+1))∧w'=w.alloc (.cells ((Lib.splitB sep 0 (Lib.countB s sep) s).map Value.string).toArray 9):=Any.strings_Split sh_lays146 (by kernel_rfl) s sep m w hs hm h1
def decB (n:Int):ByteArray:=⟨(Go.Lib.itoa n).toArray⟩
def joinW (sep:ByteArray) (xs:List ByteArray):ByteArray:=⟨(Go.Lib.join (xs.map (·.data.toList)) sep.data.toList).toArray⟩
theorem bytes_ext {a b:ByteArray} (h:a.data.toList=b.data.toList):a=b:=by
 cases a;cases b
 congr
 exact Array.toList_inj.1 h
theorem joinW_nil (sep:ByteArray):joinW sep []=ByteArray.empty:=rfl
theorem joinW_one (sep x:ByteArray):joinW sep [x]=x:=by
 refine bytes_ext ?_
 unfold joinW
 simp [Go.Lib.join_one]
theorem joinW_snoc (sep:ByteArray) {xs:List ByteArray} (h:xs≠[]) (x:ByteArray):joinW sep (xs++[x])=joinW sep xs++sep++x:=by
 cases xs with
 | nil=>exact absurd rfl h
 | cons a l =>
  refine bytes_ext ?_
  unfold joinW
  simp only [List.cons_append,List.map_cons,List.map_append,List.map_nil,Go.Lib.join_cons,Go.Lib.joinTail,List.map_append,List.flatten_append,ByteArray.data_append,Array.toList_append]
  simp
theorem lens_le {B:Nat}:∀ {xs:List (List UInt8)},(∀ x∈xs,x.length≤B)→Go.Lib.lens xs≤xs.length*B
 | [],_=>by simp [Go.Lib.lens]
 | a::l,h=>by
  have h1:=h a (List.mem_cons_self ..)
  have h2:=lens_le (xs:=l) fun x hx=>h x (List.mem_cons_of_mem _ hx)
  unfold Go.Lib.lens at *
  rw [List.map_cons,List.sum_cons,List.length_cons,Nat.add_mul]
  omega
theorem joinW_size {sep:ByteArray} {B:Nat} {xs:List ByteArray} (h:∀ x∈xs,x.size≤B):(joinW sep xs).size≤xs.length*(B+sep.size):=by
 cases xs with
 | nil=>simp [joinW_nil]
 | cons a l =>
  have h1:(joinW sep (a::l)).size=(Go.Lib.join ((a::l).map (·.data.toList)) sep.data.toList).length:=by unfold joinW ByteArray.size;simp
  have h2:=lens_le (B:=B) (xs:=(a::l).map (·.data.toList)) fun x hx=>by
   obtain ⟨y,hy,rfl⟩:=List.mem_map.1 hx
   have:=h y hy
   unfold ByteArray.size at this
   simpa using this
  rw [List.map_cons] at h1 h2
  rw [h1,Go.Lib.join_length]
  rw [List.length_cons,List.length_map] at h2
  have h3:sep.data.toList.length=sep.size:=by unfold ByteArray.size;simp
  rw [h3,List.length_map,List.length_cons,Nat.mul_add,Nat.mul_comm sep.size,Nat.add_mul l.length 1 sep.size]
  omega
theorem decB_size {n:Int} (h0 : -9223372036854775808≤n) (h1:n≤9223372036854775807):(decB n).size≤21:=by
 have:=Go.Lib.itoa_length_le n h0 h1
 unfold decB ByteArray.size
 simpa using this
abbrev strEnc (s:ByteArray):List Value:=[.string s]
theorem append_str {w:World} {QP:List PanicEntry→World→Prop} {k:Value→World→Prop} {base:Nat} {v:Value} {l:List ByteArray} (s:ByteArray) {b:Nat} (hown:OwnE w base 9 1 strEnc v l) (hc:w.cell? ⟨b,0,none⟩=some (.string s)) (hbase:base≤w.heap.size) (hl:l.length≤1048576)
 (hk:∀ v' w',OwnE w' base 9 1 strEnc v' (l++[s])→w.grownBy w' v.ownBlock→k v' w') :
 opV Pg (Builtin.append_ #[73,73] 73 #[v,.slice (some ⟨b,0,none⟩) 1 1]) QP w k:=by
 have hby:=by9
 refine op_appendE (l':=[s]) Tryz.underlying73 ty9 rfl (by decide) (fun _=>rfl) (fun x _ u hu=>by simp at hu;subst hu;rfl) hown (fun j x hx=>?_) hbase ?_ (by simp;omega) hk
 · cases j with
   | zero =>
    simp at hx;subst hx
    intro j v hv
    cases j with
    | zero=>simp at hv;subst hv;simpa using hc
    | succ j=>simp at hv
   | succ j=>simp at hx
 · simp only [List.length_cons,List.length_nil]
   exact Nat.le_trans (Nat.mul_le_mul (Nat.add_le_add_right hl 1) hby) (by decide)
abbrev OwnS (w:World) (base:Nat) (v:Value) (l:List ByteArray):Prop:=OwnE w base 9 1 strEnc v l
def TabOK (w:World):Prop:=Go.Lib.TabIs Pg w "internal/strconv.uint64pow10" .u64 Go.Lib.pow10Tab
theorem gPow:(Pg.globalNamed "internal/strconv.uint64pow10").isSome=true:=by kernel_rfl
theorem TabOK.lt {w:World} (h:TabOK w) {g:Nat} (hg:Pg.globalNamed "internal/strconv.uint64pow10" = some g):g < w.heap.size:=by
 unfold TabOK Go.Lib.TabIs World.var? at h
 rw [hg] at h
 simp only [Option.bind_some] at h
 rcases Nat.lt_or_ge g w.heap.size with h' | h'
 · exact h'
 · rw [Array.getElem?_eq_none h'] at h;cases h
theorem TabOK.same {w w':World} (h:TabOK w) (hb:∀ g,Pg.globalNamed "internal/strconv.uint64pow10" = some g→w'.heap[g]?=w.heap[g]?):TabOK w':=by
 obtain ⟨g,hg⟩:=Option.isSome_iff_exists.1 gPow
 have:=hb g hg
 unfold TabOK Go.Lib.TabIs World.var? at h ⊢
 rw [hg] at h ⊢
 simp only [Option.bind_some] at h ⊢
 rw [this]
 exact h
theorem TabOK.ext {w w':World} (h:TabOK w) (e:Ext w w'):TabOK w':=h.same fun g hg=>e.block g (h.lt hg)
theorem grow_ext (w:World) (k:Nat) (os:Array Obj):Ext w (Sort.grow (w.drewN k) os):=⟨rfl,rfl,rfl,by show w.heap.size≤(w.heap++os).size;simp,fun i hi=>by show (w.heap++os)[i]?=_;rw [Array.getElem?_append_left hi]⟩
theorem Itoa_ret {w:World} (hT:TabOK w) (n:Int) (h0 : -9223372036854775808≤n) (h1:n≤9223372036854775807):Ret Pg 82 #[.int .i64 n] w fun r w'=>r = .string (decB n)∧Ext w w':=by
 refine Calls.mono (sh_strconv_Itoa n h0 h1 w hT) ?_
 rintro e w' ⟨rfl,k,os,rfl⟩
 exact ⟨_,rfl,rfl,grow_ext w k os⟩
theorem Join_ret {w:World} {base:Nat} {v:Value} {l:List ByteArray} (h:OwnS w base v l) (sep:ByteArray) (hl:0 < l.length) (hn:l.length≤100000) (hz:(joinW sep l).size≤1000000000):Ret Pg 48 #[v,.string sep] w fun r w'=>r = .string (joinW sep l)∧Ext w w':=by
 obtain ⟨g,cap,rfl,_,hg,_,_,hE⟩:=h.row (fun _=>rfl) hl
 obtain ⟨A,c,hv,hlc,_⟩:=SliceOf.open (h.slice (E:=EStr) (fun _=>rfl) (fun _ _=>rfl))
 injection hv with _ _ hv
 subst hv
 have hzz:(Go.Lib.join (l.map (·.data.toList)) sep.data.toList).length≤140737488355328:=by
  unfold joinW ByteArray.size at hz
  simp only [List.size_toArray] at hz
  omega
 refine Calls.mono (sh_strings_Join g 0 cap l sep w (fun j x hx=>?_) hg (by omega) hlc hzz) ?_
 · have:=hE j x hx 0 _ rfl
   rw [Nat.zero_add]
   simpa using this
 · rintro e w' ⟨rfl,hb⟩
   exact ⟨_,rfl,rfl,Ext.of_below hb⟩
theorem take_snoc {α:Type} {l:List α} {k:Nat} {x:α} (h:l[k]?=some x):l.take (k+1)=l.take k++[x]:=by
 rw [List.take_add_one,h];rfl
inductive AnyD where
 | num (n:Int)
 | str (s:ByteArray)
def anyV:AnyD→Value
 | .num n => .iface 3 (.int .i64 n)
 | .str s => .iface 9 (.string s)
def wordA:AnyD→ByteArray
 | .num n=>decB n
 | .str s=>s
abbrev anyEnc (x:AnyD):List Value:=[anyV x]
def EAny (_:World) (cs:List Value) (x:AnyD):Prop:=cs=anyEnc x
def OkA:AnyD→Prop
 | .num n => -9223372036854775808≤n∧n≤9223372036854775807
 | .str s=>s.size≤100000
theorem any_one (x:AnyD):(anyV x).oneCell'=true:=by cases x<;>rfl
theorem wordA_size {x:AnyD} (h:OkA x):(wordA x).size≤100000:=by
 cases x with
 | num n=>exact Nat.le_trans (decB_size h.1 h.2) (by decide)
 | str s=>exact h
theorem op_assert_no {P:Program} {QP:List PanicEntry→World→Prop} {w:World} {k:Value→World→Prop} {xt t t':TypeId} {d:TypeDesc} {agg:Bool} {n m:Nat} {z:Value} (hu:P.underlying t=some d) (hn:(match d with | .interface _=>false | _=>true)=true) (hne:t'≠t) (hz:TyInfo P t agg n m z) (v:Value):opV P (Instr.typeAssert (.iface t' v) xt t true) QP w k=k (.tuple #[z,.bool false]) w:=by
 obtain ⟨⟨i,hi,_,_,hzz⟩,_⟩:=hz
 refine opV_ok ?_
 have hz0:(zeroValue t).run P w = .ok z w:=by simp [zeroValue,typeInfo,hi,hzz]
 unfold Instr.typeAssert
 cases d<;>first | (simp at hn;done) | simp [run_underlying hu,hne,hz0]
theorem assert_no {QP:List PanicEntry→World→Prop} {w:World} {k:Value→World→Prop} (v:Value):opV Pg (Instr.typeAssert (.iface 9 v) 20 3 true) QP w k=k (.tuple #[.int .i64 0,.bool false]) w:=op_assert_no Tryz.underlying3 rfl (by decide) ty3 v
def lineA (l:List AnyD):ByteArray:=joinW ⟨#[32]⟩ (l.map wordA)
theorem lineA_size {l:List AnyD} (h:∀ x∈l,OkA x) (hl:l.length≤20):(lineA l).size≤2000020:=by
 have h1:=joinW_size (sep:=⟨#[32]⟩) (B:=100000) (xs:=l.map wordA) fun x hx=>by
  obtain ⟨y,hy,rfl⟩:=List.mem_map.1 hx
  exact wordA_size (h y hy)
 rw [List.length_map] at h1
 have h3:(⟨#[32]⟩:ByteArray).size=1:=rfl
 rw [h3] at h1
 unfold lineA
 omega
theorem line_ret (w0:World) (v:Value) (l:List AnyD) (hs:SliceOf w0 1 EAny v l) (hT:TabOK w0) (hok:∀ x∈l,OkA x) (h0:0 < l.length) (hl:l.length≤20):Ret Pg 46 #[v] w0 fun r w'=>r = .string (lineA l)∧Ext w0 w':=by
 obtain ⟨A,c,rfl,hlc,hcm,hlm,hel⟩:=SliceOf.open hs
 refine n59s (R:=retR _) ?_;unfold n59
 simp (disch:=try exact DI) only [↓PR,QR,simprocAttr]
 refine loop2_intro (fun a b w=>∃ k:Nat,b = .int .i64 k∧k≤l.length∧Ext w0 w∧OwnS w w0.heap.size a ((l.take k).map wordA)) (fun _ b _=>l.length - (intOf b).toNat) ⟨0,rfl,by omega,Ext.refl _,OwnE.nil _ _ _ _ _⟩ ?_
 rintro a _ w ⟨k,rfl,hk,e,hO⟩
 unfold n59c4
 have hlen:((l.take k).map wordA).length=k:=by rw [List.length_map,List.length_take];omega
 by_cases hlt:k < l.length
 · obtain ⟨x,hx⟩:=getElem?_lt hlt
   obtain ⟨b,o,cs,rfl,_,hA,rfl⟩:=hel k x hx
   have dk:(k:Int) < (l.length:Int):=by omega
   have d1:decide ((k:Int) < (l.length:Int))=true:=decide_eq_true dk
   have hw:IntKind.i64.wrap ((k:Int)+1)=((k+1:Nat):Int):=by rw [wrap_ok (by omega) (by omega)];omega
   have hc:=hA.c1 e
   have hox:=hok x (List.mem_of_getElem? hx)
   have step:∀ v' w',OwnS w' w0.heap.size v' ((l.take k).map wordA++[wordA x])→Ext w0 w'→(∃ k':Nat,Value.int .i64 ((k+1:Nat):Int) = .int .i64 k'∧k'≤l.length∧Ext w0 w'∧OwnS w' w0.heap.size v' ((l.take k').map wordA)):=fun v' w' h e'=>⟨k+1,rfl,by omega,e',by rw [take_snoc hx,List.map_append];exact h⟩
   have hms:=meas_lt (kd := .i64) hlt
   cases x with
   | num n =>
    simp (disch:=try exact DI) only [↓PR,QR,simprocAttr,d1,↓n59c3,hc,anyV,↓n59c1]
    refine zcr (Itoa_ret (hT.ext e) n hox.1 hox.2) fun w1 e1=>?_
    simp (disch:=try exact DI) only [↓PR,QR,simprocAttr]
    generalize hY:World.alloc w1 _=Y
    have eY:Ext w1 Y:=by rw [← hY];exact (Ext.refl w1).alloc _
    have oY:Y.cell? ⟨w1.heap.size,0,none⟩=some (.string (decB n)):=by rw [← hY,(cells_of_heap (heap_new _ _ _)).1];rfl
    clear hY
    have e2:=e1.trans eY
    refine append_str (decB n) (hO.ext e2) oY (e.trans e2).size (by omega) ?_
    intro v' w' hO' hg
    simp (disch:=try exact DI) only [↓PR,QR,simprocAttr,hw]
    exact ⟨step v' w' hO' ((e.trans e2).grown hg fun b hb=>(World.ownsRow.lt hO b hb).1),hms⟩
   | str s =>
    simp (disch:=try exact DI) only [↓PR,QR,simprocAttr,d1,↓n59c3,hc,anyV,↓assert_no,↓n59c2]
    generalize hY:World.alloc w _=Y
    have e2:Ext w Y:=by rw [← hY];exact (Ext.refl w).alloc _
    have oY:Y.cell? ⟨w.heap.size,0,none⟩=some (.string s):=by rw [← hY,(cells_of_heap (heap_new _ _ _)).1];rfl
    clear hY
    refine append_str s (hO.ext e2) oY (e.trans e2).size (by omega) ?_
    intro v' w' hO' hg
    simp (disch:=try exact DI) only [↓PR,QR,simprocAttr,hw]
    exact ⟨step v' w' hO' ((e.trans e2).grown hg fun b hb=>(World.ownsRow.lt hO b hb).1),hms⟩
 · obtain rfl:k=l.length:=by omega
   have d1:decide ((l.length:Int) < (l.length:Int))=false:=decide_eq_false (by omega)
   rw [List.take_length] at hO
   simp (disch:=try exact DI) only [↓PR,QR,simprocAttr,d1]
   have hz:=lineA_size hok hl
   refine zcr (Join_ret hO ⟨#[32]⟩ (by rw [List.length_map];exact h0) (by rw [List.length_map];omega) (by unfold lineA at hz;omega)) fun w2 e2=>?_
   exact ⟨_,rfl,rfl,e.trans e2⟩
def cntL (x:CntD):List AnyD:=[.str ⟨#[99,111,117,110,116,101,114]⟩,.str x.name,.num x.limit]
def staL (x:StaD):List AnyD:=([.str ⟨#[115,116,97,116,101]⟩,.str x.name]++(if 0 < x.wait then [.str ⟨#[119,97,105,116]⟩,.num x.wait] else []))++(if x.final then [.str ⟨#[102,105,110,97,108]⟩] else [])
def stpL1 (x:StpD):List AnyD:=[.str ⟨#[115,116,101,112]⟩,.str x.fr,.str x.to,.str (kwB x.kind)]++(if speaksB x.kind then [.str x.message,.str x.peer] else [])
def stpC (x:StpD):List AnyD:=if x.counter≠⟨#[]⟩ then [.str ⟨#[119,104,101,110]⟩,.str x.counter,.num x.low,.num x.high,.num x.add] else []
def stpL (x:StpD):List AnyD:=stpL1 x++stpC x
def linesR (r:RolD):List ByteArray:=([lineA [.str ⟨#[114,111,108,101]⟩,.str r.name]]++r.counters.map (fun x=>lineA (cntL x)))++r.states.map (fun x=>lineA (staL x))++r.steps.map (fun x=>lineA (stpL x))
def printR (r:RolD):ByteArray:=if (checkR r).2=0 then joinW ⟨#[10]⟩ (linesR r) else ⟨#[]⟩
def RolOk (r:RolD):Prop:=r.name.size≤100000∧(∀ c∈r.counters,c.name.size≤100000 ∧ -9223372036854775808≤c.limit∧c.limit≤9223372036854775807)∧(∀ c∈r.states,c.name.size≤100000 ∧ -9223372036854775808≤c.wait∧c.wait≤9223372036854775807)∧(∀ x∈r.steps,StpSm x∧(-9223372036854775808≤x.low∧x.low≤9223372036854775807)∧(-9223372036854775808≤x.high∧x.high≤9223372036854775807) ∧ -9223372036854775808≤x.add∧x.add≤9223372036854775807)∧r.counters.length≤1000000000∧r.states.length≤1000000000∧r.steps.length≤1000000000
section
variable {w w0:World} {QP:List PanicEntry→World→Prop} {k:Value→World→Prop}
abbrev OwnA (w:World) (base:Nat) (v:Value) (l:List AnyD):Prop:=OwnE w base 20 1 anyEnc v l
theorem append_any {base b:Nat} {v:Value} {l:List AnyD} (l':List AnyD) {n:Nat} (hn:n=l'.length) (hown:OwnA w base v l) (hc:∀ j x,l'[j]?=some x→w.cell? ⟨b,j,none⟩=some (anyV x)) (hbase:base≤w.heap.size) (hl:l.length+l'.length≤1000)
 (hk:∀ v' w',OwnA w' base v' (l++l')→w.grownBy w' v.ownBlock→k v' w') :
 opV Pg (Builtin.append_ #[86,86] 86 #[v,.slice (some ⟨b,0,none⟩) n n]) QP w k:=by
 subst hn
 have hby:=by20
 refine op_appendE (l':=l') Tryz.underlying86 ty20 rfl (by decide) (fun _=>rfl) (fun x _ u hu=>by simp at hu;subst hu;exact any_one x) hown (fun j x hx=>?_) hbase ?_ (by omega) hk
 · intro i u hu
   cases i with
   | zero =>
    simp at hu;subst hu
    simpa using hc j x hx
   | succ i=>simp at hu
 · exact Nat.le_trans (Nat.mul_le_mul hl hby) (by decide)
theorem own_anyH {base b:Nat} {l:List AnyD} (h:w.heap[b]?=some (.cells (l.map anyV).toArray 20 (0,0))) (hb:base≤b) (hl:l.length≤1000):OwnA w base (.slice (some ⟨b,0,none⟩) l.length l.length) l:=by
 have hf:l.flatMap anyEnc=l.map anyV:=by
  clear hl h
  induction l with
  | nil=>rfl
  | cons x l ih=>rw [List.flatMap_cons,ih];rfl
 unfold OwnA OwnE
 rw [hf]
 exact ⟨by simp,.inr ⟨b,_,_,rfl,hb,h,Nat.le_refl _,by simp only [maxLen];omega,by simp,by rw [Nat.mul_one];exact List.take_of_length_le (by simp)⟩⟩
theorem own_anys {base:Nat} {v:Value} {l:List AnyD} (h:OwnA w base v l):SliceOf w 1 EAny v l:=h.slice (fun _=>rfl) (fun _ _=>rfl)
theorem app_line {base:Nat} {v:Value} {l:List ByteArray} (s:ByteArray) (hO:OwnS w base v l) (hb:base≤w.heap.size) (hl:l.length≤1000000) (e:Ext w0 w) (h0:w0.heap.size≤base)
 (hk:∀ v' w',OwnS w' base v' (l++[s])→Ext w0 w'→base≤w'.heap.size→k v' w') :
 opV Pg (Instr.buildSlice 73 1 #[(0,.string s)]) QP w fun t w=>opV Pg (Builtin.append_ #[73,73] 73 #[v,t]) QP w k:=by
 simp (disch:=try exact DI) only [↓PR,QR,simprocAttr]
 generalize hY:World.alloc w _=Y
 have eY:Ext w Y:=by rw [← hY];exact (Ext.refl w).alloc _
 have oY:Y.cell? ⟨w.heap.size,0,none⟩=some (.string s):=by rw [← hY,(cells_of_heap (heap_new _ _ _)).1];rfl
 clear hY
 have sY:=eY.size
 refine append_str s (hO.ext eY) oY (by omega) (by omega) ?_
 intro v' w' hO' hg
 have hlo:∀ b,v.ownBlock=some b→base≤b:=fun b hb=>(World.ownsRow.lt hO b hb).1
 exact hk v' w' hO' ((e.trans eY).grown hg fun b hb=>Nat.le_trans h0 (hlo b hb)) (by have:=hg.size;omega)
end
def n44c1 (t6 t33 t46:Value) (next1:KW) (R:RT) (w:World):Prop :=
 opV Pg (Instr.buildSlice 73 1 #[(0,t46)]) (panK R) w fun t47 w =>
 opV Pg (Builtin.append_ #[73,73] 73 #[t6,t47]) (panK R) w fun t48 w =>
 opV Pg (binS .add 3 true t33 (.int .i64 1)) (panK R) w fun t49 w =>
 next1 t48 t49 w
def n44c2 (t6 t53 t80:Value) (next2:KW) (R:RT) (w:World):Prop :=
 opV Pg (Instr.buildSlice 73 1 #[(0,t80)]) (panK R) w fun t81 w =>
 opV Pg (Builtin.append_ #[73,73] 73 #[t6,t81]) (panK R) w fun t82 w =>
 opV Pg (binS .add 3 true t53 (.int .i64 1)) (panK R) w fun t83 w =>
 next2 t82 t83 w
def n44c3 (t11:Value) (K4:KV) (R:RT) (w:World):Prop :=
 opV Pg (Instr.makeInterface 9 (.string { data := #[102,105,110,97,108] })) (panK R) w fun t75 w =>
 opV Pg (Instr.buildSlice 86 1 #[(0,t75)]) (panK R) w fun t76 w =>
 opV Pg (Builtin.append_ #[86,86] 86 #[t11,t76]) (panK R) w fun t77 w =>
 K4 t77 w
def n44c4 (t6 t10 t11 t53:Value) (next2:KW) (R:RT) (w:World):Prop :=
 opV Pg (Instr.fieldAt 50 t10 1) (panK R) w fun t72 w =>
 opV Pg (Instr.loadAt 4 t72) (panK R) w fun t73 w =>
 joinK (fun (t11:Value) (w:World) =>
 callK Pg 46 #[t11] (panK R) w fun t80 w =>
 n44c2 t6 t53 t80 next2 R w) fun K4 =>
 condP t73 (
 n44c3 t11 K4 R w) (
 K4 t11 w)
def n44c5 (t10 t61:Value) (K3:KV) (R:RT) (w:World):Prop :=
 opV Pg (Instr.makeInterface 9 (.string { data := #[119,97,105,116] })) (panK R) w fun t66 w =>
 opV Pg (Instr.fieldAt 50 t10 2) (panK R) w fun t67 w =>
 opV Pg (Instr.loadAt 3 t67) (panK R) w fun t68 w =>
 opV Pg (Instr.makeInterface 3 t68) (panK R) w fun t69 w =>
 opV Pg (Instr.buildSlice 86 2 #[(0,t66),(1,t69)]) (panK R) w fun t70 w =>
 opV Pg (Builtin.append_ #[86,86] 86 #[t61,t70]) (panK R) w fun t71 w =>
 K3 t71 w
def n44c6 (t6 t87 t140:Value) (next5:KW) (R:RT) (w:World):Prop :=
 opV Pg (Instr.buildSlice 73 1 #[(0,t140)]) (panK R) w fun t141 w =>
 opV Pg (Builtin.append_ #[73,73] 73 #[t6,t141]) (panK R) w fun t142 w =>
 opV Pg (binS .add 3 true t87 (.int .i64 1)) (panK R) w fun t143 w =>
 next5 t142 t143 w
def n44c7 (t13 t14:Value) (K11:KV) (R:RT) (w:World):Prop :=
 opV Pg (Instr.makeInterface 9 (.string { data := #[119,104,101,110] })) (panK R) w fun t123 w =>
 opV Pg (Instr.fieldAt 71 t13 5) (panK R) w fun t124 w =>
 opV Pg (Instr.loadAt 9 t124) (panK R) w fun t125 w =>
 opV Pg (Instr.makeInterface 9 t125) (panK R) w fun t126 w =>
 opV Pg (Instr.fieldAt 71 t13 6) (panK R) w fun t127 w =>
 opV Pg (Instr.loadAt 3 t127) (panK R) w fun t128 w =>
 opV Pg (Instr.makeInterface 3 t128) (panK R) w fun t129 w =>
 opV Pg (Instr.fieldAt 71 t13 7) (panK R) w fun t130 w =>
 opV Pg (Instr.loadAt 3 t130) (panK R) w fun t131 w =>
 opV Pg (Instr.makeInterface 3 t131) (panK R) w fun t132 w =>
 opV Pg (Instr.fieldAt 71 t13 8) (panK R) w fun t133 w =>
 opV Pg (Instr.loadAt 3 t133) (panK R) w fun t134 w =>
 opV Pg (Instr.makeInterface 3 t134) (panK R) w fun t135 w =>
 opV Pg (Instr.buildSlice 86 5 #[(0,t123),(1,t126),(2,t129),(3,t132),(4,t135)]) (panK R) w fun t136 w =>
 opV Pg (Builtin.append_ #[86,86] 86 #[t14,t136]) (panK R) w fun t137 w =>
 K11 t137 w
def n44c8 (t6 t13 t14 t87:Value) (next5:KW) (R:RT) (w:World):Prop :=
 opV Pg (Instr.fieldAt 71 t13 5) (panK R) w fun t119 w =>
 opV Pg (Instr.loadAt 9 t119) (panK R) w fun t120 w =>
 opV Pg (binS .neq 9 true t120 (.string { data := #[] })) (panK R) w fun t121 w =>
 joinK (fun (t14:Value) (w:World) =>
 callK Pg 46 #[t14] (panK R) w fun t140 w =>
 n44c6 t6 t87 t140 next5 R w) fun K11 =>
 condP t121 (
 n44c7 t13 t14 K11 R w) (
 K11 t14 w)
def n44c9 (t13 t104:Value) (K10:KV) (R:RT) (w:World):Prop :=
 opV Pg (Instr.fieldAt 71 t13 3) (panK R) w fun t111 w =>
 opV Pg (Instr.loadAt 9 t111) (panK R) w fun t112 w =>
 opV Pg (Instr.makeInterface 9 t112) (panK R) w fun t113 w =>
 opV Pg (Instr.fieldAt 71 t13 4) (panK R) w fun t114 w =>
 opV Pg (Instr.loadAt 9 t114) (panK R) w fun t115 w =>
 opV Pg (Instr.makeInterface 9 t115) (panK R) w fun t116 w =>
 opV Pg (Instr.buildSlice 86 2 #[(0,t113),(1,t116)]) (panK R) w fun t117 w =>
 opV Pg (Builtin.append_ #[86,86] 86 #[t104,t117]) (panK R) w fun t118 w =>
 K10 t118 w
def n44c10 (t6 t13 t87 t104 t105 t107:Value) (C9:World→Prop) (next5:KW) (R:RT) (w:World):Prop :=
 qV Pg C9 (Instr.lookup 90 t105 t107 false) fun t108 =>
 qV Pg C9 (Instr.field 89 t108 1) fun t109 =>
 joinK (fun (t14:Value) (w:World) =>
 n44c8 t6 t13 t14 t87 next5 R w) fun K10 =>
 condP t109 (
 n44c9 t13 t104 K10 R w) (
 K10 t104 w)
def n44c11 (t6 t13 t87 t104:Value) (C8:World→Prop) (next5:KW) (R:RT) (w:World):Prop :=
 qV Pg C8 (Instr.fieldAt 71 t13 2) fun t106 =>
 qV Pg C8 (Instr.loadAt 69 t106) fun t107 =>
 callK Pg 47 #[] (panK R) w fun t105 w =>
 narrowK C8 w fun C9 w =>
 n44c10 t6 t13 t87 t104 t105 t107 C9 next5 R w
def n44c12 (t6 t13 t87 t91 t94 t97 t98 t100:Value) (C7:World→Prop) (next5:KW) (R:RT) (w:World):Prop :=
 qV Pg C7 (Instr.lookup 90 t98 t100 false) fun t101 =>
 qV Pg C7 (Instr.field 89 t101 0) fun t102 =>
 qV Pg C7 (Instr.makeInterface 9 t102) fun t103 =>
 opV Pg (Instr.buildSlice 86 4 #[(0,t91),(1,t94),(2,t97),(3,t103)]) (panK R) w fun t104 w =>
 C7 w∧(
 drawK w fun C8 w =>
 n44c11 t6 t13 t87 t104 C8 next5 R w)
def n44c13 (t6 t13 t87:Value) (C6:World→Prop) (next5:KW) (R:RT) (w:World):Prop :=
 qV Pg C6 (Instr.makeInterface 9 (.string { data := #[115,116,101,112] })) fun t91 =>
 qV Pg C6 (Instr.fieldAt 71 t13 0) fun t92 =>
 qV Pg C6 (Instr.loadAt 9 t92) fun t93 =>
 qV Pg C6 (Instr.makeInterface 9 t93) fun t94 =>
 qV Pg C6 (Instr.fieldAt 71 t13 1) fun t95 =>
 qV Pg C6 (Instr.loadAt 9 t95) fun t96 =>
 qV Pg C6 (Instr.makeInterface 9 t96) fun t97 =>
 qV Pg C6 (Instr.fieldAt 71 t13 2) fun t99 =>
 qV Pg C6 (Instr.loadAt 69 t99) fun t100 =>
 callK Pg 47 #[] (panK R) w fun t98 w =>
 narrowK C6 w fun C7 w =>
 n44c12 t6 t13 t87 t91 t94 t97 t98 t100 C7 next5 R w
def n44c14 (t6 t85 t87:Value) (next5:KW) (R:RT) (w:World):Prop :=
 opV Pg (Instr.indexAt 24 t85 t87) (panK R) w fun t89 w =>
 opV Pg (Instr.loadAt 71 t89) (panK R) w fun t90 w =>
 opV Pg (Instr.alloc 71 true (.tuple #[])) (panK R) w fun t13 w =>
 opU Pg (Instr.storeAt 71 t13 t90) (panK R) w fun w =>
 drawK w fun C6 w =>
 n44c13 t6 t13 t87 C6 next5 R w
def n44c15 (t6 t85 t86 t87:Value) (next5:KW) (R:RT) (w:World):Prop :=
 opV Pg (binS .lss 3 false t87 t86) (panK R) w fun t88 w =>
 condP t88 (
 n44c14 t6 t85 t87 next5 R w) (
 callK Pg 48 #[t6,(.string { data := #[10] })] (panK R) w fun t145 w =>
 R (.returned (.tuple #[t145,(.int .i64 0)])) w)
def n44c16 (t1 t6:Value) (R:RT) (w:World):Prop :=
 opV Pg (Instr.fieldAt 26 t1 3) (panK R) w fun t84 w =>
 opV Pg (Instr.loadAt 24 t84) (panK R) w fun t85 w =>
 opV Pg (Builtin.len_ #[24] 3 #[t85]) (panK R) w fun t86 w =>
 loop2 (fun t6 t87 w next5 =>
 n44c15 t6 t85 t86 t87 next5 R w) t6 (.int .i64 0) w
def n44c17 (t6 t51 t53:Value) (next2:KW) (R:RT) (w:World):Prop :=
 opV Pg (Instr.indexAt 22 t51 t53) (panK R) w fun t55 w =>
 opV Pg (Instr.loadAt 50 t55) (panK R) w fun t56 w =>
 opV Pg (Instr.alloc 50 true (.tuple #[])) (panK R) w fun t10 w =>
 opU Pg (Instr.storeAt 50 t10 t56) (panK R) w fun w =>
 opV Pg (Instr.makeInterface 9 (.string { data := #[115,116,97,116,101] })) (panK R) w fun t57 w =>
 opV Pg (Instr.fieldAt 50 t10 0) (panK R) w fun t58 w =>
 opV Pg (Instr.loadAt 9 t58) (panK R) w fun t59 w =>
 opV Pg (Instr.makeInterface 9 t59) (panK R) w fun t60 w =>
 opV Pg (Instr.buildSlice 86 2 #[(0,t57),(1,t60)]) (panK R) w fun t61 w =>
 opV Pg (Instr.fieldAt 50 t10 2) (panK R) w fun t62 w =>
 opV Pg (Instr.loadAt 3 t62) (panK R) w fun t63 w =>
 opV Pg (binS .gtr 3 true t63 (.int .i64 0)) (panK R) w fun t64 w =>
 joinK (fun (t11:Value) (w:World) =>
 n44c4 t6 t10 t11 t53 next2 R w) fun K3 =>
 condP t64 (
 n44c5 t10 t61 K3 R w) (
 K3 t61 w)
def n44c18 (t1 t6:Value) (R:RT) (w:World):Prop :=
 opV Pg (Instr.fieldAt 26 t1 1) (panK R) w fun t50 w =>
 opV Pg (Instr.loadAt 22 t50) (panK R) w fun t51 w =>
 opV Pg (Builtin.len_ #[22] 3 #[t51]) (panK R) w fun t52 w =>
 loop2 (fun t6 t53 w next2 =>
 opV Pg (binS .lss 3 false t53 t52) (panK R) w fun t54 w =>
 condP t54 (
 n44c17 t6 t51 t53 next2 R w) (
 n44c16 t1 t6 R w)) t6 (.int .i64 0) w
def n44c19 (t6 t31 t33:Value) (next1:KW) (R:RT) (w:World):Prop :=
 opV Pg (Instr.indexAt 23 t31 t33) (panK R) w fun t35 w =>
 opV Pg (Instr.loadAt 52 t35) (panK R) w fun t36 w =>
 opV Pg (Instr.alloc 52 true (.tuple #[])) (panK R) w fun t8 w =>
 opU Pg (Instr.storeAt 52 t8 t36) (panK R) w fun w =>
 opV Pg (Instr.makeInterface 9 (.string { data := #[99,111,117,110,116,101,114] })) (panK R) w fun t38 w =>
 opV Pg (Instr.fieldAt 52 t8 0) (panK R) w fun t39 w =>
 opV Pg (Instr.loadAt 9 t39) (panK R) w fun t40 w =>
 opV Pg (Instr.makeInterface 9 t40) (panK R) w fun t41 w =>
 opV Pg (Instr.fieldAt 52 t8 1) (panK R) w fun t42 w =>
 opV Pg (Instr.loadAt 3 t42) (panK R) w fun t43 w =>
 opV Pg (Instr.makeInterface 3 t43) (panK R) w fun t44 w =>
 opV Pg (Instr.buildSlice 86 3 #[(0,t38),(1,t41),(2,t44)]) (panK R) w fun t45 w =>
 callK Pg 46 #[t45] (panK R) w fun t46 w =>
 n44c1 t6 t33 t46 next1 R w
def n44c20 (t1 t28:Value) (R:RT) (w:World):Prop :=
 opV Pg (Instr.buildSlice 73 1 #[(0,t28)]) (panK R) w fun t29 w =>
 opV Pg (Instr.fieldAt 26 t1 2) (panK R) w fun t30 w =>
 opV Pg (Instr.loadAt 23 t30) (panK R) w fun t31 w =>
 opV Pg (Builtin.len_ #[23] 3 #[t31]) (panK R) w fun t32 w =>
 loop2 (fun t6 t33 w next1 =>
 opV Pg (binS .lss 3 false t33 t32) (panK R) w fun t34 w =>
 condP t34 (
 n44c19 t6 t31 t33 next1 R w) (
 n44c18 t1 t6 R w)) t29 (.int .i64 0) w
def n44c21 (t1:Value) (R:RT) (w:World):Prop :=
 opV Pg (Instr.makeInterface 9 (.string { data := #[114,111,108,101] })) (panK R) w fun t23 w =>
 opV Pg (Instr.fieldAt 26 t1 0) (panK R) w fun t24 w =>
 opV Pg (Instr.loadAt 9 t24) (panK R) w fun t25 w =>
 opV Pg (Instr.makeInterface 9 t25) (panK R) w fun t26 w =>
 opV Pg (Instr.buildSlice 86 2 #[(0,t23),(1,t26)]) (panK R) w fun t27 w =>
 callK Pg 46 #[t27] (panK R) w fun t28 w =>
 n44c20 t1 t28 R w
def n44c22 (t1 t17:Value) (R:RT) (w:World):Prop :=
 opV Pg (Instr.extract t17 0) (panK R) w fun t18 w =>
 opV Pg (Instr.extract t17 1) (panK R) w fun t19 w =>
 opV Pg (binS .neq 29 true t19 (.int .i64 0)) (panK R) w fun t21 w =>
 condP t21 (
 R (.returned (.tuple #[(.string { data := #[] }),t19])) w) (
 n44c21 t1 R w)
def n44 (t0:Value) (R:RT) (w:World):Prop :=
 opV Pg (Instr.box 26 t0) (panK R) w fun t1 w =>
 opV Pg (Instr.loadAt 26 t1) (panK R) w fun t16 w =>
 callK Pg 12 #[t16] (panK R) w fun t17 w =>
 n44c22 t1 t17 R w
set_option maxHeartbeats 40000000 in
theorem n44s {t0:Value} {R:RT} {w:World} (h:n44 t0 R w):Calls Pg 14 #[t0] w R:=by
 refine yD Tryz.func14 ?_
 refine zs<|zr<|yv h fun _ w h=>zm<|zm<|zn<|zk<|zs<|zs<|zr<|yv h fun _ w h=>yc h c12 fun _ w h=>zm<|yv h fun _ w h=>yv h fun _ w h=>?_
 refine zm<|zm<|zn<|zk<|zs<|zr<|zm<|yb h fun _ w h=>zn<|zk<|yC h (fun h=>zs<|zr<|zm<|zm<|zm<|zn<|zk<|sim_ret<|sim_then_ret<|body_ret2 rfl rfl rfl h) fun h=>sim_skip<|zk<|zs ?_
 refine zr<|yv h fun _ w h=>yv h fun _ w h=>yv h fun _ w h=>yv h fun _ w h=>yS h fun _ w h=>yc h c46 fun _ w h=>yS h fun _ w h=>zm<|zn<|zk<|zs<|zs<|zr<|yv h fun _ w h=>?_
 refine yv h fun _ w h=>yx h fun _ w h=>zm<|zn<|zk<|sim_block<|yl2 [6,8,33,34,35,36,37,38,39,40,41,42,43,44,45,46,47,48,49] 6 33 h fun σ w next h=>zs<|zr<|yb h fun _ w h=>zn<|zk<|zs<|yC h (fun h=>?_) fun h=>?_
 · refine sim_skip<|zk<|zs<|sim_block<|zs<|zr<|yv h fun _ w h=>yv h fun _ w h=>yv h fun _ w h=>yu h fun w h=>zn<|zk<|zr<|zm<|yv h fun _ w h=>?_
   refine yv h fun _ w h=>yv h fun _ w h=>yv h fun _ w h=>yv h fun _ w h=>yv h fun _ w h=>yv h fun _ w h=>yS h fun _ w h=>yc h c46 fun _ w h=>yS h fun _ w h=>yx h fun _ w h=>zm<|zn<|sim_block_normal<|zk<|zr ?_
   exact yb h fun _ w h=>zm<|zn<|zk<|⟨rfl,h⟩
 refine sim_exit<|sim_then_exit<|sim_then_exit<|sim_block_hit<|zk<|zs<|zs<|zr<|yv h fun _ w h=>yv h fun _ w h=>yx h fun _ w h=>zm<|zn<|zk<|sim_block ?_
 refine yl2 [6,10,11,53,54,55,56,57,58,59,60,61,62,63,64,65,66,67,68,69,70,71,72,73,74,75,76,77,78,79,80,81,82,83] 6 53 h fun σ w next h=>zs<|zr<|yb h fun _ w h=>zn<|zk<|zs<|yC h (fun h=>?_) fun h=>?_
 · refine sim_skip<|zk<|zs<|sim_block<|zs<|zr<|yv h fun _ w h=>yv h fun _ w h=>yv h fun _ w h=>yu h fun w h=>zn<|zk<|zs<|zr<|yv h fun _ w h=>?_
   refine yv h fun _ w h=>yv h fun _ w h=>yv h fun _ w h=>yS h fun _ w h=>zm<|zn<|zk<|zs<|zs<|zr<|yv h fun _ w h=>yv h fun _ w h=>yb h fun _ w h=>zn<|zk ?_
   refine yJ1 [11,65,66,67,68,69,70,71] 11 h (fun _ _ hkK3 h=>?_) fun σ w h=>?_
   · refine yC h (fun h=>?_) fun h=>?_
     · refine zr<|zm<|yv h fun _ w h=>yv h fun _ w h=>yv h fun _ w h=>yv h fun _ w h=>yS h fun _ w h=>yx h fun _ w h=>zm<|zn<|zk ?_
       exact zt hkK3 h
     refine sim_skip<|zk ?_
     exact zt hkK3 h
   refine zk<|zs<|zs<|zr<|yv h fun _ w h=>yv h fun _ w h=>zn<|zk<|yJ1 [11,74,75,76,77] 11 h (fun _ _ hkK4 h=>?_) fun σ w h=>?_
   · refine yC h (fun h=>?_) fun h=>?_
     · refine zr<|zm<|yv h fun _ w h=>yS h fun _ w h=>yx h fun _ w h=>zm<|zn<|zk ?_
       exact zt hkK4 h
     refine sim_skip<|zk ?_
     exact zt hkK4 h
   refine zk<|zr<|zm<|zm<|yc h c46 fun _ w h=>yS h fun _ w h=>yx h fun _ w h=>zm<|zn<|sim_block_normal<|zk<|zr<|yb h fun _ w h=>zm<|zn ?_
   exact zk<|⟨rfl,h⟩
 refine sim_exit<|sim_then_exit<|sim_then_exit<|sim_block_hit<|zk<|zs<|zs<|zr<|yv h fun _ w h=>yv h fun _ w h=>yx h fun _ w h=>zm<|zn<|zk<|sim_block ?_
 refine yl2 [6,13,14,87,88,89,90,91,92,93,94,95,96,97,98,99,100,101,102,103,104,105,106,107,108,109,110,111,112,113,114,115,116,117,118,119,120,121,122,123,124,125,126,127,128,129,130,131,132,133,134,135,136,137,138,139,140,141,142,143] 6 87 h fun σ w next h=>zs<|zr<|yb h fun _ w h=>zn<|zk<|zs<|yC h (fun h=>?_) fun h=>?_
 · refine sim_skip<|zk<|zs<|sim_block<|zs<|zr<|yv h fun _ w h=>yv h fun _ w h=>yv h fun _ w h=>yu h fun w h=>zn<|zk<|zs<|yh [14,91,92,93,94,95,96,97,98,99,100,101,102,103,104] h fun C hC h=>ye 0 hC h fun _ h=>?_
   refine ye 1 hC h fun _ h=>?_
   refine ye 2 hC h fun _ h=>?_
   refine ye 3 hC h fun _ h=>?_
   refine ye 4 hC h fun _ h=>?_
   refine ye 5 hC h fun _ h=>?_
   refine ye 6 hC h fun _ h=>?_
   refine ye 8 hC h fun _ h=>?_
   refine ye 9 hC h fun _ h=>?_
   refine yr 7 ?_
   refine yc h c47 fun _ w h=>zn ?_
   obtain ⟨C7,hs,hC,h⟩:=h
   refine ⟨C7,hs,hC,?_⟩
   refine ye 10 hC h fun _ h=>?_
   refine ye 11 hC h fun _ h=>?_
   refine ye 12 hC h fun _ h=>?_
   refine yo 13 ?_
   refine yS h fun _ w h=>zn ?_
   obtain ⟨hC,h⟩:=h
   refine ⟨hC,?_⟩
   refine yw 14 hC ?_
   refine yz<|zk<|zs<|zs<|yh [105,106,107,108,109] h fun C hC h=>ye 1 hC h fun _ h=>?_
   refine ye 2 hC h fun _ h=>?_
   refine yr 0 ?_
   refine yc h c47 fun _ w h=>zn ?_
   obtain ⟨C9,hs,hC,h⟩:=h
   refine ⟨C9,hs,hC,?_⟩
   refine ye 3 hC h fun _ h=>?_
   refine ye 4 hC h fun _ h=>?_
   refine yz<|zk<|yJ1 [14,110,111,112,113,114,115,116,117,118] 14 h (fun _ _ hkK10 h=>?_) fun σ w h=>?_
   · refine yC h (fun h=>?_) fun h=>?_
     · refine zr<|zm<|yv h fun _ w h=>yv h fun _ w h=>yv h fun _ w h=>yv h fun _ w h=>yv h fun _ w h=>yv h fun _ w h=>yS h fun _ w h=>yx h fun _ w h=>zm<|zn<|zk ?_
       exact zt hkK10 h
     refine sim_skip<|zk ?_
     exact zt hkK10 h
   refine zk<|zs<|zs<|zr<|yv h fun _ w h=>yv h fun _ w h=>yb h fun _ w h=>zn<|zk<|yJ1 [14,122,123,124,125,126,127,128,129,130,131,132,133,134,135,136,137] 14 h (fun _ _ hkK11 h=>?_) fun σ w h=>?_
   · refine yC h (fun h=>?_) fun h=>?_
     · refine zr<|zm<|yv h fun _ w h=>yv h fun _ w h=>yv h fun _ w h=>yv h fun _ w h=>yv h fun _ w h=>yv h fun _ w h=>yv h fun _ w h=>yv h fun _ w h=>yv h fun _ w h=>yv h fun _ w h=>yv h fun _ w h=>yv h fun _ w h=>yv h fun _ w h=>?_
       refine yS h fun _ w h=>yx h fun _ w h=>zm<|zn<|zk ?_
       exact zt hkK11 h
     refine sim_skip<|zk ?_
     exact zt hkK11 h
   refine zk<|zr<|zm<|zm<|yc h c46 fun _ w h=>yS h fun _ w h=>yx h fun _ w h=>zm<|zn<|sim_block_normal<|zk<|zr<|yb h fun _ w h=>zm<|zn ?_
   exact zk<|⟨rfl,h⟩
 exact sim_exit<|sim_then_exit<|sim_then_exit<|sim_block_hit<|zk<|zs<|zr<|zm<|yc h c48 fun _ w h=>zm<|zm<|zn<|zk<|sim_ret<|body_ret2 rfl rfl rfl h
def n11 (t0:Value) (R:RT) (w:World):Prop :=
 R (.returned t0) w
theorem n11s {t0:Value} {R:RT} {w:World} (h:n11 t0 R w):Calls Pg 15 #[t0] w R:=by
 refine yD Tryz.func15 ?_
 exact zs<|zr<|zm<|zn<|zk<|zs<|zr<|zm<|zm<|zn<|zk<|sim_ret<|body_ret1 rfl rfl h
section
variable {w0 W w:World} {R:RT} {base:Nat} {v:Value} {ls:List ByteArray}
theorem print_state {next2:Value→Value→World→Prop} {A:Option Addr} {c n k:Nat} {l:List StaD} {x:StaD} (hS:StasOf W (.slice A l.length c) l) (hx:l[k]?=some x) (hk:l.length≤1000000) (hT:TabOK W) (hox:x.name.size≤100000 ∧ -9223372036854775808≤x.wait∧x.wait≤9223372036854775807) (e:Ext W w) (hO:OwnS w base v ls) (hb:base≤w.heap.size) (h0:W.heap.size≤base) (hl:ls.length≤1000000)
 (hK:∀ v' w',Ext W w'→OwnS w' base v' (ls++[lineA (staL x)])→base≤w'.heap.size→next2 v' (.int .i64 ((k+1:Nat):Int)) w') :
 n44c17 v (.slice A l.length c) (.int .i64 (k:Int)) next2 R w:=by
 obtain ⟨A',c',hv,_,_,_,hel⟩:=SliceOf.open hS
 injection hv with h1 _ h2
 subst h1 h2
 obtain ⟨b,o,cs,rfl,_,hA,rfl⟩:=hel k x hx
 have hkl:=(List.getElem?_eq_some_iff.1 hx).1
 have dk:(k:Int) < (l.length:Int):=by omega
 have hw:IntKind.i64.wrap ((k:Int)+1)=((k+1:Nat):Int):=by rw [wrap_ok (by omega) (by omega)];omega
 unfold n44c17
 simp (disch:=try exact DI) only [↓PR,QR,simprocAttr,hA.c3 e]
 simp only [World.size_setCell,World.size_alloc]
 generalize hV:World.alloc _ (Obj.cells #[Value.iface 9 (.string ⟨#[115,116,97,116,101]⟩),Value.iface 9 (.string x.name)] 20)=V
 have eV:Ext w V:=by rw [← hV];exact ee
 have o10:V.heap[w.heap.size]?=some (.cells (staCells x).toArray 50 (0,0)):=by rw [← hV];simp (disch:=try exact DI) only [↓PR,QR,simprocAttr]
 have o11:V.heap[w.heap.size+1]?=some (.cells (([.str ⟨#[115,116,97,116,101]⟩,.str x.name]:List AnyD).map anyV).toArray 20 (0,0)):=by rw [← hV];simp (disch:=try exact DI) only [↓PR,QR,simprocAttr,List.map_cons,List.map_nil,anyV]
 clear hV
 have OA:OwnA V (w.heap.size+1) (.slice (some ⟨w.heap.size+1,0,none⟩) 2 2) [.str ⟨#[115,116,97,116,101]⟩,.str x.name]:=own_anyH o11 (Nat.le_refl _) (by simp)
 have sV:=(Array.getElem?_eq_some_iff.1 o11).1
 generalize hq:w.heap.size+1=q at OA sV ⊢
 generalize hp:w.heap.size=p at *
 have okS:∀ y∈staL x,OkA y:=by
  intro y hy
  unfold staL at hy
  simp only [List.mem_append,List.mem_cons,List.not_mem_nil,or_false] at hy
  rcases hy with ((rfl | rfl) | hy) | hy
  · show (⟨#[115,116,97,116,101]⟩:ByteArray).size≤100000;decide
  · exact hox.1
  · split at hy
    · simp only [List.mem_cons,List.not_mem_nil,or_false] at hy
      rcases hy with rfl | rfl
      · show (⟨#[119,97,105,116]⟩:ByteArray).size≤100000;decide
      · exact hox.2
    · cases hy
  · split at hy
    · simp only [List.mem_cons,List.not_mem_nil,or_false] at hy
      subst hy
      show (⟨#[102,105,110,97,108]⟩:ByteArray).size≤100000;decide
    · cases hy
 have fin:∀ (u:Value) (w':World),Ext w w'→OwnA w' q u (staL x)→callK Pg 46 #[u] (panK R) w' fun t80 w=>n44c2 v (.int .i64 (k:Int)) t80 next2 R w:=by
  intro u w' e' hA'
  have E':=e.trans e'
  refine zcr (line_ret w' u (staL x) (own_anys hA') (hT.ext E') okS (by unfold staL;simp) (by unfold staL;split<;>split<;>simp)) fun w2 e2=>?_
  unfold n44c2
  have E2:=E'.trans e2
  refine app_line (w0:=W) (lineA (staL x)) (hO.ext (e'.trans e2)) (by have:=(e'.trans e2).size;omega) hl E2 h0 fun v' w3 hO' e3 hb'=>?_
  simp (disch:=try exact DI) only [↓PR,QR,simprocAttr,hw]
  exact hK v' w3 e3 hO' hb'
 have tail:∀ (u:Value) (w':World),Ext w w'→w'.heap[p]?=some (.cells (staCells x).toArray 50 (0,0))→q≤w'.heap.size→OwnA w' q u ([.str ⟨#[115,116,97,116,101]⟩,.str x.name]++(if 0 < x.wait then [.str ⟨#[119,97,105,116]⟩,.num x.wait] else []))→n44c4 v (.pointer (some ⟨p,0,none⟩)) u (.int .i64 (k:Int)) next2 R w':=by
  intro u w' e' h10 hqw hA'
  have c10:=cells_of_heap h10
  unfold n44c4
  unfold staL at fin
  cases hfn:x.final with
  | false =>
   rw [hfn] at fin
   simp (disch:=try exact DI) only [↓PR,QR,simprocAttr,c10.1,hfn]
   exact fin u w' e' (by simpa using hA')
  | true =>
   rw [hfn] at fin
   simp (disch:=try exact DI) only [↓PR,QR,simprocAttr,c10.1,hfn,↓n44c3]
   generalize hY:World.alloc w' _=Y
   have eY:Ext w' Y:=by rw [← hY];exact (Ext.refl w').alloc _
   have oY:Y.heap[w'.heap.size]?=some (.cells (([.str ⟨#[102,105,110,97,108]⟩]:List AnyD).map anyV).toArray 20 (0,0)):=by rw [← hY];exact heap_new _ _ _
   clear hY
   have sY:=eY.size
   refine append_any [.str ⟨#[102,105,110,97,108]⟩] rfl (hA'.ext eY) (fun j y hy=>by rw [(cells_of_heap oY).1,List.getElem?_toArray,List.getElem?_map,hy];rfl) (by omega) (by split<;>simp) ?_
   intro v' w2 hO' hg
   exact fin v' w2 ((e'.trans eY).grown hg fun b hb=>by have:=(World.ownsRow.lt hA' b hb).1;omega) hO'
 by_cases hwt:0 < x.wait
 · have d1:decide (0 < x.wait)=true:=decide_eq_true hwt
   rw [if_pos hwt] at tail
   simp (disch:=try exact DI) only [↓PR,QR,simprocAttr,d1,↓n44c5,(cells_of_heap o10).1]
   generalize hY:World.alloc V _=Y
   have eY:Ext V Y:=by rw [← hY];exact (Ext.refl V).alloc _
   have oY:Y.heap[V.heap.size]?=some (.cells (([.str ⟨#[119,97,105,116]⟩,.num x.wait]:List AnyD).map anyV).toArray 20 (0,0)):=by rw [← hY];exact heap_new _ _ _
   clear hY
   have sY:=eY.size
   refine append_any [.str ⟨#[119,97,105,116]⟩,.num x.wait] rfl (OA.ext eY) (fun j y hy=>by rw [(cells_of_heap oY).1,List.getElem?_toArray,List.getElem?_map,hy];rfl) (by omega) (by simp) ?_
   intro v' w2 hO' hg
   have hlo:∀ b,(Value.slice (some ⟨q,0,none⟩) 2 2).ownBlock=some b→q≤b:=fun b hb=>(World.ownsRow.lt OA b hb).1
   exact tail v' w2 ((eV.trans eY).grown hg fun b hb=>by have:=hlo b hb;omega) ((hg.block p (by omega) fun h=>by have:=hlo p h.symm;omega).trans (eY.obj o10)) (by have:=hg.size;omega) hO'
 · have d1:decide (0 < x.wait)=false:=decide_eq_false hwt
   rw [if_neg hwt] at tail
   simp (disch:=try exact DI) only [↓PR,QR,simprocAttr,d1]
   exact tail _ V eV o10 (by omega) (by simpa using OA)
end
section
variable {w0 W w:World} {R:RT} {base:Nat} {v:Value} {ls:List ByteArray}
theorem qV_kind1 {D:World} {m c:Nat} {L:List (Int×Value×Nat)} {k:Value→Prop} (hM:MapB D m kEnc L c) (s:Int):qV Pg (EC D) (Instr.lookup 90 (.map (some m)) (.int .i64 s) false) k=k ((Sw.look L s).getD (.agg zeroK)):=qV_eqC fun w' e=>run_of_op fun QP k=>op_lookup1 (enc:=kEnc) Tryz.underlying90 (KeyOK.int Tryz.underlying69) ty89 (hM.ext e) s
theorem kwB_size (k:Int):(kwB k).size≤100:=by
 unfold kwB
 repeat' split
 all_goals decide
theorem print_step {next5:Value→Value→World→Prop} {A:Option Addr} {c k:Nat} {l:List StpD} {x:StpD} (hS:StpsOf W (.slice A l.length c) l) (hx:l[k]?=some x) (hk:l.length≤1000000) (hT:TabOK W) (hox:StpSm x∧(-9223372036854775808≤x.low∧x.low≤9223372036854775807)∧(-9223372036854775808≤x.high∧x.high≤9223372036854775807) ∧ -9223372036854775808≤x.add∧x.add≤9223372036854775807) (hki:1≤x.kind∧x.kind≤4) (e:Ext W w) (hO:OwnS w base v ls) (hb:base≤w.heap.size) (h0:W.heap.size≤base) (hl:ls.length≤1000000)
 (hK:∀ v' w',Ext W w'→OwnS w' base v' (ls++[lineA (stpL x)])→base≤w'.heap.size→next5 v' (.int .i64 ((k+1:Nat):Int)) w') :
 n44c14 v (.slice A l.length c) (.int .i64 (k:Int)) next5 R w:=by
 obtain ⟨A',c',hv,_,_,_,hel⟩:=SliceOf.open hS
 injection hv with h1 _ h2
 subst h1 h2
 obtain ⟨b,o,cs,rfl,_,hA,rfl⟩:=hel k x hx
 have hkl:=(List.getElem?_eq_some_iff.1 hx).1
 have dk:(k:Int) < (l.length:Int):=by omega
 have hw:IntKind.i64.wrap ((k:Int)+1)=((k+1:Nat):Int):=by rw [wrap_ok (by omega) (by omega)];omega
 have hkw:=kwB_size x.kind
 have okS:∀ y∈stpL x,OkA y:=by
  intro y hy
  obtain ⟨⟨s1,s2,s3,s4,s5⟩,n1,n2,n3⟩:=hox
  unfold stpL stpL1 stpC at hy
  simp only [List.mem_append,List.mem_cons,List.not_mem_nil,or_false] at hy
  rcases hy with ((rfl | rfl | rfl | rfl) | hy) | hy
  · show (⟨#[115,116,101,112]⟩:ByteArray).size≤100000;decide
  · exact s1
  · exact s2
  · show (kwB x.kind).size≤100000;omega
  · split at hy
    · simp only [List.mem_cons,List.not_mem_nil,or_false] at hy
      rcases hy with rfl | rfl
      · exact s3
      · exact s4
    · cases hy
  · split at hy
    · simp only [List.mem_cons,List.not_mem_nil,or_false] at hy
      rcases hy with rfl | rfl | rfl | rfl | rfl
      · show (⟨#[119,104,101,110]⟩:ByteArray).size≤100000;decide
      · exact s5
      · exact n1
      · exact n2
      · exact n3
    · cases hy
 unfold n44c14
 simp (disch:=try exact DI) only [↓PR,QR,simprocAttr,hA.c9 e]
 generalize hV:World.alloc w _=V
 have o13:V.heap[w.heap.size]?=some (.cells (stpCells x).toArray 71 (0,0)):=by rw [← hV];exact heap_new _ _ _
 have eV:Ext w V:=by rw [← hV];exact (Ext.refl w).alloc _
 have sV:V.heap.size=w.heap.size+1:=by rw [← hV];simp only [World.size_alloc]
 clear hV
 generalize hp:w.heap.size=p at *
 have fin:∀ (q:Nat) (u:Value) (w':World),Ext w w'→OwnA w' q u (stpL x)→callK Pg 46 #[u] (panK R) w' fun t140 w=>n44c6 v (.int .i64 (k:Int)) t140 next5 R w:=by
  intro q u w' e' hA'
  have E':=e.trans e'
  refine zcr (line_ret w' u (stpL x) (own_anys hA') (hT.ext E') okS (by unfold stpL stpL1;simp) (by unfold stpL stpL1 stpC;split<;>split<;>simp)) fun w2 e2=>?_
  unfold n44c6
  have E2:=E'.trans e2
  refine app_line (w0:=W) (lineA (stpL x)) (hO.ext (e'.trans e2)) (by have:=(e'.trans e2).size;omega) hl E2 h0 fun v' w3 hO' e3 hb'=>?_
  simp (disch:=try exact DI) only [↓PR,QR,simprocAttr,hw]
  exact hK v' w3 e3 hO' hb'
 have tail:∀ (q:Nat) (u:Value) (w':World),p < q→Ext w w'→w'.heap[p]?=some (.cells (stpCells x).toArray 71 (0,0))→q≤w'.heap.size→OwnA w' q u (stpL1 x)→n44c8 v (.pointer (some ⟨p,0,none⟩)) u (.int .i64 (k:Int)) next5 R w':=by
  intro q u w' hpq e' h10 hqw hA'
  have c10:=cells_of_heap h10
  unfold n44c8
  unfold stpL at fin
  by_cases hc:x.counter=⟨#[]⟩
  · have d1:decide (x.counter=⟨#[]⟩)=true:=by simp [hc]
    have hcc:stpC x=[]:=by unfold stpC;rw [if_neg (by simp [hc])]
    rw [hcc,List.append_nil] at fin
    simp (disch:=try exact DI) only [↓PR,QR,simprocAttr,c10.1,d1]
    exact fin q u w' e' hA'
  · have d1:decide (x.counter=⟨#[]⟩)=false:=by simp [hc]
    have hcc:stpC x=[.str ⟨#[119,104,101,110]⟩,.str x.counter,.num x.low,.num x.high,.num x.add]:=by unfold stpC;rw [if_pos hc]
    rw [hcc] at fin
    simp (disch:=try exact DI) only [↓PR,QR,simprocAttr,c10.1,d1,↓n44c7]
    generalize hY:World.alloc w' _=Y
    have eY:Ext w' Y:=by rw [← hY];exact (Ext.refl w').alloc _
    have oY:Y.heap[w'.heap.size]?=some (.cells (([.str ⟨#[119,104,101,110]⟩,.str x.counter,.num x.low,.num x.high,.num x.add]:List AnyD).map anyV).toArray 20 (0,0)):=by rw [← hY];exact heap_new _ _ _
    clear hY
    have sY:=eY.size
    refine append_any [.str ⟨#[119,104,101,110]⟩,.str x.counter,.num x.low,.num x.high,.num x.add] rfl (hA'.ext eY) (fun j y hy=>by rw [(cells_of_heap oY).1,List.getElem?_toArray,List.getElem?_map,hy];rfl) (by omega) (by unfold stpL1;split<;>simp) ?_
    intro v' w2 hO' hg
    exact fin q v' w2 ((e'.trans eY).grown hg fun b hb=>by have:=(World.ownsRow.lt hA' b hb).1;omega) hO'
 refine drawK_intro ?_
 have eD:Ext V (Sw.drew V):=(Ext.refl V).drew
 generalize (Sw.drew V)=D at eD ⊢
 have d13:=eD.obj o13
 have ED:=eV.trans eD
 have c13:=cells_of_heap d13
 unfold n44c13
 simp (disch:=try exact DI) only [↓PR,QR,simprocAttr,c13.1]
 refine callK_ret (kinds_ret _) ?_
 rintro _ w1 ⟨m,L,cc,rfl,hm,hM,hL,e1⟩
 refine narrowK_EC e1 ?_
 unfold n44c12
 rw [qV_kind1 hM,hL,if_pos hki,Option.getD_some]
 simp (disch:=try exact DI) only [↓PR,QR,simprocAttr]
 generalize hY:World.alloc w1 _=Y
 have eY:Ext w1 Y:=by rw [← hY];exact (Ext.refl w1).alloc _
 have oY:Y.heap[w1.heap.size]?=some (.cells (([.str ⟨#[115,116,101,112]⟩,.str x.fr,.str x.to,.str (kwB x.kind)]:List AnyD).map anyV).toArray 20 (0,0)):=by rw [← hY];exact heap_new _ _ _
 clear hY
 have s1:=e1.size
 have sD:=eD.size
 have OA:OwnA Y w1.heap.size (.slice (some ⟨w1.heap.size,0,none⟩) 4 4) [.str ⟨#[115,116,101,112]⟩,.str x.fr,.str x.to,.str (kwB x.kind)]:=own_anyH oY (Nat.le_refl _) (by simp)
 refine ⟨eY,?_⟩
 have lq:=(Array.getElem?_eq_some_iff.1 oY).1
 have hpq:p < w1.heap.size:=by omega
 generalize w1.heap.size=q at OA lq hpq ⊢
 have E1:=ED.trans (e1.trans eY)
 have y13:=(e1.trans eY).obj d13
 refine drawK_intro ?_
 have eD2:Ext Y (Sw.drew Y):=(Ext.refl Y).drew
 generalize (Sw.drew Y)=D2 at eD2 ⊢
 unfold n44c11
 simp (disch:=try exact DI) only [↓PR,QR,simprocAttr,(cells_of_heap (eD2.obj y13)).1]
 refine callK_ret (kinds_ret _) ?_
 rintro _ w3 ⟨m2,L2,cc2,rfl,hm2,hM2,hL2,e3⟩
 refine narrowK_EC e3 ?_
 have E3:=E1.trans (eD2.trans e3)
 have y33:=(eD2.trans e3).obj y13
 have OA3:=OA.ext (eD2.trans e3)
 have sq:=(eD2.trans e3).size
 unfold n44c10
 rw [qV_kind1 hM2,hL2,if_pos hki,Option.getD_some]
 unfold stpL1 at tail
 cases hsp:speaksB x.kind with
 | false =>
  rw [hsp,if_neg (by simp)] at tail
  simp (disch:=try exact DI) only [↓PR,QR,simprocAttr,hsp]
  exact tail q _ w3 hpq E3 y33 (by omega) (by simpa using OA3)
 | true =>
  rw [hsp,if_pos rfl] at tail
  simp (disch:=try exact DI) only [↓PR,QR,simprocAttr,hsp,↓n44c9,(cells_of_heap y33).1]
  generalize hZ:World.alloc w3 _=Z
  have eZ:Ext w3 Z:=by rw [← hZ];exact (Ext.refl w3).alloc _
  have oZ:Z.heap[w3.heap.size]?=some (.cells (([.str x.message,.str x.peer]:List AnyD).map anyV).toArray 20 (0,0)):=by rw [← hZ];exact heap_new _ _ _
  clear hZ
  have sZ:=eZ.size
  refine append_any [.str x.message,.str x.peer] rfl (OA3.ext eZ) (fun j y hy=>by rw [(cells_of_heap oZ).1,List.getElem?_toArray,List.getElem?_map,hy];rfl) (by omega) (by simp) ?_
  intro v' w4 hO' hg
  have hlo:∀ b,(Value.slice (some ⟨q,0,none⟩) 4 4).ownBlock=some b→q≤b:=fun b hb=>(World.ownsRow.lt OA3 b hb).1
  exact tail q v' w4 hpq ((E3.trans eZ).grown hg fun b hb=>by have:=hlo b hb;omega) ((hg.block p (by omega) fun h=>by have:=hlo p h.symm;omega).trans (eZ.obj y33)) (by have:=hg.size;omega) hO'
end
theorem few_neg {n least most:Nat} {ok:Nat→Bool} (h:¬ 0≤fewP n least most ok):least≤n∧n≤most∧∀ i,i < n→ok i=true:=by
 unfold fewP at h
 by_cases h1:n < least
 · rw [if_pos h1] at h;omega
 rw [if_neg h1] at h
 by_cases h2:most < n
 · rw [if_pos h2] at h;omega
 rw [if_neg h2] at h
 refine ⟨by omega,by omega,fun i hi=>?_⟩
 cases hc:ok i with
 | true=>rfl
 | false =>
  have:=idx_le (p:=fun i=>!ok i) (range_at hi) (by rw [hc];rfl)
  omega
theorem check_parts {r:RolD} (h:(checkR r).2=0):nameB r.name=true∧(r.counters.length≤4∧∀ i,i < r.counters.length→cntB r i=true)∧((1≤r.states.length∧r.states.length≤24)∧∀ i,i < r.states.length→staB r i=true)∧r.steps.length≤80∧∀ i,i < r.steps.length→stpB r i=true:=by
 unfold checkR at h
 cases hn:nameB r.name with
 | false=>rw [hn,if_pos rfl] at h;simp at h
 | true =>
 rw [hn,if_neg (by simp)] at h
 by_cases h1:0≤fewP r.counters.length 0 4 (cntB r)
 · rw [if_pos h1] at h;simp at h
 rw [if_neg h1] at h
 by_cases h2:0≤fewP r.states.length 1 24 (staB r)
 · rw [if_pos h2] at h;simp at h
 rw [if_neg h2] at h
 by_cases h3:0≤fewP r.steps.length 0 80 (stpB r)
 · rw [if_pos h3] at h;simp at h
 obtain ⟨_,a1,a2⟩:=few_neg h1
 obtain ⟨b0,b1,b2⟩:=few_neg h2
 obtain ⟨_,c1,c2⟩:=few_neg h3
 exact ⟨rfl,⟨a1,a2⟩,⟨⟨b0,b1⟩,b2⟩,c1,c2⟩
theorem step_kind {r:RolD} (h:(checkR r).2=0) {k:Nat} {x:StpD} (hx:r.steps[k]?=some x):1≤x.kind∧x.kind≤4:=by
 have:=(check_parts h).2.2.2.2 k (List.getElem?_eq_some_iff.1 hx).1
 unfold stpB at this
 rw [hx] at this
 unfold allowB at this
 simp only [Bool.and_eq_true,decide_eq_true_eq] at this
 exact this.1
theorem lines_size {l:List ByteArray} (h:∀ x∈l,x.size≤2000020) (hl:l.length≤200):(joinW ⟨#[10]⟩ l).size≤1000000000:=by
 have h1:=joinW_size (sep:=⟨#[10]⟩) (B:=2000020) (xs:=l) h
 have h3:(⟨#[10]⟩:ByteArray).size=1:=rfl
 rw [h3] at h1
 have:l.length*(2000020+1)≤200*(2000020+1):=Nat.mul_le_mul_right _ hl
 omega
theorem sta_ok {x:StaD} (hox:x.name.size≤100000 ∧ -9223372036854775808≤x.wait∧x.wait≤9223372036854775807):∀ y∈staL x,OkA y:=by
 intro y hy
 unfold staL at hy
 simp only [List.mem_append,List.mem_cons,List.not_mem_nil,or_false] at hy
 rcases hy with ((rfl | rfl) | hy) | hy
 · show (⟨#[115,116,97,116,101]⟩:ByteArray).size≤100000;decide
 · exact hox.1
 · split at hy
   · simp only [List.mem_cons,List.not_mem_nil,or_false] at hy
     rcases hy with rfl | rfl
     · show (⟨#[119,97,105,116]⟩:ByteArray).size≤100000;decide
     · exact hox.2
   · cases hy
 · split at hy
   · simp only [List.mem_cons,List.not_mem_nil,or_false] at hy
     subst hy
     show (⟨#[102,105,110,97,108]⟩:ByteArray).size≤100000;decide
   · cases hy
theorem stp_ok {x:StpD} (hox:StpSm x∧(-9223372036854775808≤x.low∧x.low≤9223372036854775807)∧(-9223372036854775808≤x.high∧x.high≤9223372036854775807) ∧ -9223372036854775808≤x.add∧x.add≤9223372036854775807):∀ y∈stpL x,OkA y:=by
 have hkw:=kwB_size x.kind
 intro y hy
 obtain ⟨⟨s1,s2,s3,s4,s5⟩,n1,n2,n3⟩:=hox
 unfold stpL stpL1 stpC at hy
 simp only [List.mem_append,List.mem_cons,List.not_mem_nil,or_false] at hy
 rcases hy with ((rfl | rfl | rfl | rfl) | hy) | hy
 · show (⟨#[115,116,101,112]⟩:ByteArray).size≤100000;decide
 · exact s1
 · exact s2
 · show (kwB x.kind).size≤100000;omega
 · split at hy
   · simp only [List.mem_cons,List.not_mem_nil,or_false] at hy
     rcases hy with rfl | rfl
     · exact s3
     · exact s4
   · cases hy
 · split at hy
   · simp only [List.mem_cons,List.not_mem_nil,or_false] at hy
     rcases hy with rfl | rfl | rfl | rfl | rfl
     · show (⟨#[119,104,101,110]⟩:ByteArray).size≤100000;decide
     · exact s5
     · exact n1
     · exact n2
     · exact n3
   · cases hy
theorem sta_len (x:StaD):(staL x).length≤20:=by unfold staL;split<;>split<;>simp
theorem stp_len (x:StpD):(stpL x).length≤20:=by unfold stpL stpL1 stpC;split<;>split<;>simp
theorem Print_ret (w0:World) (v:Value) (r:RolD) (hr:RolVal w0 v r) (hok:RolOk r) (hT:TabOK w0):Ret Pg 14 #[v] w0 fun u w'=>u = .tuple #[.string (printR r),.int .i64 (checkR r).2]∧Ext w0 w':=by
 obtain ⟨sv,cv,tv,rfl,hS,hC,hT',o1,o2,o3⟩:=hr.op
 obtain ⟨k1,k2,k3,k4,k5⟩:=hok
 obtain ⟨A1,c1,rfl,_⟩:=SliceOf.open hS
 obtain ⟨A2,c2,rfl,_,_,_,helC⟩:=SliceOf.open hC
 obtain ⟨A3,c3,rfl,_⟩:=SliceOf.open hT'
 refine n44s (R:=retR _) ?_;unfold n44
 rw [op_boxA]
 have hp:=heap_new w0 (rolCells r (.slice A1 r.states.length c1) (.slice A2 r.counters.length c2) (.slice A3 r.steps.length c3)).toArray 26
 have eW:Ext w0 (w0.alloc (.cells (rolCells r (.slice A1 r.states.length c1) (.slice A2 r.counters.length c2) (.slice A3 r.steps.length c3)).toArray 26)):=ee
 generalize (w0.alloc (.cells (rolCells r (.slice A1 r.states.length c1) (.slice A2 r.counters.length c2) (.slice A3 r.steps.length c3)).toArray 26))=W0 at hp eW ⊢
 generalize w0.heap.size=p at hp ⊢
 simp (disch:=try exact DI) only [↓PR,QR,simprocAttr,(cells_of_heap hp).1]
 refine zcr (Check_ret W0 _ r ⟨_,_,_,rfl,hS.ext eW,hC.ext eW,hT'.ext eW⟩ (fun x hx=>(k4 x hx).1) k5) fun W e1=>?_
 have E1:=eW.trans e1
 have h1:=e1.obj hp
 unfold printR
 by_cases hc:(checkR r).2=0
 case neg =>
  have d1:((checkR r).2 != 0)=true:=by simp [hc]
  rw [if_neg hc]
  simp (disch:=try exact DI) only [↓PR,QR,simprocAttr,↓n44c22,d1]
  exact ⟨by trivial,E1⟩
 have hp':=check_parts hc
 obtain ⟨_,⟨lc,_⟩,⟨⟨_,lst⟩,_⟩,lsp,_⟩:=hp'
 rw [if_pos hc,hc]
 simp (disch:=try exact DI) only [↓PR,QR,simprocAttr,↓n44c22,↓n44c21,(cells_of_heap h1).1]
 have hS1:=hS.ext E1
 have hC1:=hC.ext E1
 have hT1:=hT'.ext E1
 have tb:=hT.ext E1
 have okC:∀ x∈r.counters,∀ y∈cntL x,OkA y:=by
  intro x hx y hy
  obtain ⟨s1,s2⟩:=k2 x hx
  unfold cntL at hy
  simp only [List.mem_cons,List.not_mem_nil,or_false] at hy
  rcases hy with rfl | rfl | rfl
  · show (⟨#[99,111,117,110,116,101,114]⟩:ByteArray).size≤100000;decide
  · exact s1
  · exact s2
 generalize hY:World.alloc W _=Y
 have eY:Ext W Y:=by rw [← hY];exact (Ext.refl W).alloc _
 have oY:Y.heap[W.heap.size]?=some (.cells (([.str ⟨#[114,111,108,101]⟩,.str r.name]:List AnyD).map anyV).toArray 20 (0,0)):=by rw [← hY];exact heap_new _ _ _
 clear hY
 have OA:OwnA Y W.heap.size (.slice (some ⟨W.heap.size,0,none⟩) 2 2) [.str ⟨#[114,111,108,101]⟩,.str r.name]:=own_anyH oY (Nat.le_refl _) (by simp)
 have okH:∀ y∈([.str ⟨#[114,111,108,101]⟩,.str r.name]:List AnyD),OkA y:=by
  intro y hy
  simp only [List.mem_cons,List.not_mem_nil,or_false] at hy
  rcases hy with rfl | rfl
  · show (⟨#[114,111,108,101]⟩:ByteArray).size≤100000;decide
  · exact k1
 refine zcr (line_ret Y _ _ (own_anys OA) (tb.ext eY) okH (by simp) (by simp)) fun w3 e3=>?_
 have E3:=eY.trans e3
 unfold n44c20
 simp (disch:=try exact DI) only [↓PR,QR,simprocAttr,fun o=>(cells_of_heap ((E3.trans ((Ext.refl w3).alloc o)).obj h1)).1]
 generalize hZ:World.alloc w3 _=Z
 have eZ:Ext w3 Z:=by rw [← hZ];exact (Ext.refl w3).alloc _
 have OZ:OwnS Z w3.heap.size (.slice (some ⟨w3.heap.size,0,none⟩) 1 1) [lineA [.str ⟨#[114,111,108,101]⟩,.str r.name]]:=by rw [← hZ];exact OwnE.new w3 9 1 strEnc [lineA [.str ⟨#[114,111,108,101]⟩,.str r.name]] (fun _=>rfl) (by simp)
 have sZ:w3.heap.size≤Z.heap.size:=eZ.size
 clear hZ
 have EZ:=E3.trans eZ
 have hbase:=E3.size
 have oks:∀ x∈r.states,∀ y∈staL x,True:=fun _ _ _ _=>trivial
 have hC3:=hC1.ext E3
 have tb3:=tb.ext E3
 have hS3:=hS1.ext E3
 have hT3:=hT1.ext E3
 have h3:=E3.obj h1
 have EW3:=E1.trans E3
 clear OA oY eY e3 E3 oks
 generalize hbs:w3.heap.size=base at *
 have hhdz:=lineA_size okH (by simp)
 generalize hhd:lineA [.str ⟨#[114,111,108,101]⟩,.str r.name]=hd at OZ hhdz
 have hlines:linesR r=(([hd]++r.counters.map fun x=>lineA (cntL x))++r.states.map fun x=>lineA (staL x))++r.steps.map fun x=>lineA (stpL x):=by rw [← hhd];rfl
 rw [hlines]
 clear hlines hhd
 have steps:∀ v w,Ext w3 w→OwnS w base v (([hd]++r.counters.map fun x=>lineA (cntL x))++r.states.map fun x=>lineA (staL x))→base≤w.heap.size→n44c16 (.pointer (some ⟨p,0,none⟩)) v (retR fun u w'=>u = .tuple #[.string (joinW ⟨#[10]⟩ ((([hd]++r.counters.map fun x=>lineA (cntL x))++r.states.map fun x=>lineA (staL x))++r.steps.map fun x=>lineA (stpL x))),.int .i64 0]∧Ext w0 w') w:=by
  intro v w e hO hb
  unfold n44c16
  simp (disch:=try exact DI) only [↓PR,QR,simprocAttr,(cells_of_heap (e.obj h3)).1]
  refine loop2_intro (fun a b w=>∃ k:Nat,b = .int .i64 k∧k≤r.steps.length∧Ext w3 w∧OwnS w base a ((([hd]++r.counters.map fun x=>lineA (cntL x))++r.states.map fun x=>lineA (staL x))++(r.steps.take k).map fun x=>lineA (stpL x))∧base≤w.heap.size) (fun _ b _=>r.steps.length - (intOf b).toNat) ⟨0,rfl,by omega,e,by simpa using hO,hb⟩ ?_
  rintro a _ w ⟨k,rfl,hk,e,hO,hb⟩
  unfold n44c15
  by_cases hlt:k < r.steps.length
  · obtain ⟨x,hx⟩:=getElem?_lt hlt
    have d1:decide ((k:Int) < (r.steps.length:Int))=true:=decide_eq_true (by omega)
    simp (disch:=try exact DI) only [↓PR,QR,simprocAttr,d1]
    refine print_step hT3 hx (by omega) tb3 (k4 x (List.mem_of_getElem? hx)) (step_kind hc hx) e hO hb (by omega) (by simp;omega) fun v' w' e' hO' hb'=>?_
    exact ⟨⟨k+1,rfl,by omega,e',by rw [take_snoc hx,List.map_append,← List.append_assoc];exact hO',hb'⟩,meas_lt (kd := .i64) hlt⟩
  · obtain rfl:k=r.steps.length:=by omega
    have d1:decide ((r.steps.length:Int) < (r.steps.length:Int))=false:=decide_eq_false (by omega)
    rw [List.take_length] at hO
    simp (disch:=try exact DI) only [↓PR,QR,simprocAttr,d1]
    refine callK_ret (Join_ret hO ⟨#[10]⟩ (by simp) (by simp;omega) (lines_size ?_ (by simp;omega))) ?_
    · intro y hy
      simp only [List.mem_append,List.mem_singleton,List.mem_map] at hy
      rcases hy with ((rfl | ⟨x,hx,rfl⟩) | ⟨x,hx,rfl⟩) | ⟨x,hx,rfl⟩
      · exact hhdz
      · exact lineA_size (okC x hx) (by simp [cntL])
      · exact lineA_size (sta_ok (k3 x hx)) (sta_len x)
      · exact lineA_size (stp_ok (k4 x hx)) (stp_len x)
    rintro _ w4 ⟨rfl,e4⟩
    simp (disch:=try exact DI) only [↓PR,QR,simprocAttr]
    exact ⟨by trivial,EW3.trans (e.trans e4)⟩
 have states:∀ v w,Ext w3 w→OwnS w base v ([hd]++r.counters.map fun x=>lineA (cntL x))→base≤w.heap.size→n44c18 (.pointer (some ⟨p,0,none⟩)) v (retR fun u w'=>u = .tuple #[.string (joinW ⟨#[10]⟩ ((([hd]++r.counters.map fun x=>lineA (cntL x))++r.states.map fun x=>lineA (staL x))++r.steps.map fun x=>lineA (stpL x))),.int .i64 0]∧Ext w0 w') w:=by
  intro v w e hO hb
  unfold n44c18
  simp (disch:=try exact DI) only [↓PR,QR,simprocAttr,(cells_of_heap (e.obj h3)).1]
  refine loop2_intro (fun a b w=>∃ k:Nat,b = .int .i64 k∧k≤r.states.length∧Ext w3 w∧OwnS w base a (([hd]++r.counters.map fun x=>lineA (cntL x))++(r.states.take k).map fun x=>lineA (staL x))∧base≤w.heap.size) (fun _ b _=>r.states.length - (intOf b).toNat) ⟨0,rfl,by omega,e,by simpa using hO,hb⟩ ?_
  rintro a _ w ⟨k,rfl,hk,e,hO,hb⟩
  by_cases hlt:k < r.states.length
  · obtain ⟨x,hx⟩:=getElem?_lt hlt
    have d1:decide ((k:Int) < (r.states.length:Int))=true:=decide_eq_true (by omega)
    simp (disch:=try exact DI) only [↓PR,QR,simprocAttr,d1]
    refine print_state (n:=0) hS3 hx (by omega) tb3 (k3 x (List.mem_of_getElem? hx)) e hO hb (by omega) (by simp;omega) fun v' w' e' hO' hb'=>?_
    exact ⟨⟨k+1,rfl,by omega,e',by rw [take_snoc hx,List.map_append,← List.append_assoc];exact hO',hb'⟩,meas_lt (kd := .i64) hlt⟩
  · obtain rfl:k=r.states.length:=by omega
    have d1:decide ((r.states.length:Int) < (r.states.length:Int))=false:=decide_eq_false (by omega)
    rw [List.take_length] at hO
    simp (disch:=try exact DI) only [↓PR,QR,simprocAttr,d1]
    exact steps a w e hO hb
 refine loop2_intro (fun a b w=>∃ k:Nat,b = .int .i64 k∧k≤r.counters.length∧Ext w3 w∧OwnS w base a ([hd]++(r.counters.take k).map fun x=>lineA (cntL x))∧base≤w.heap.size) (fun _ b _=>r.counters.length - (intOf b).toNat) ⟨0,rfl,by omega,eZ,by simpa using OZ,sZ⟩ ?_
 rintro a _ w ⟨k,rfl,hk,e,hO,hb⟩
 by_cases hlt:k < r.counters.length
 · obtain ⟨x,hx⟩:=getElem?_lt hlt
   obtain ⟨b,o,cs,rfl,_,hA,rfl⟩:=helC k x hx
   have dk:(k:Int) < (r.counters.length:Int):=by omega
   have d1:decide ((k:Int) < (r.counters.length:Int))=true:=decide_eq_true dk
   have hw:IntKind.i64.wrap ((k:Int)+1)=((k+1:Nat):Int):=by rw [wrap_ok (by omega) (by omega)];omega
   simp (disch:=try exact DI) only [↓PR,QR,simprocAttr,d1,↓n44c19,hA.c2 (EW3.trans e)]
   generalize hV:World.alloc (World.alloc w _) _=V
   have eV:Ext w V:=by rw [← hV];exact ((Ext.refl w).alloc _).alloc _
   have oV:V.heap[w.heap.size+1]?=some (.cells ((cntL x).map anyV).toArray 20 (0,0)):=by
    rw [← hV]
    have:=heap_new (w.alloc (.cells #[Value.string x.name,Value.int .i64 x.limit] 52)) ((cntL x).map anyV).toArray 20
    rw [World.size_alloc] at this
    exact this
   clear hV
   have OV:OwnA V (w.heap.size+1) (.slice (some ⟨w.heap.size+1,0,none⟩) 3 3) (cntL x):=own_anyH oV (Nat.le_refl _) (by simp [cntL])
   have sV:=eV.size
   refine zcr (line_ret V _ _ (own_anys OV) (tb3.ext (e.trans eV)) (okC x (List.mem_of_getElem? hx)) (by simp [cntL]) (by simp [cntL])) fun w4 e4=>?_
   have e04:=eV.trans e4
   unfold n44c1
   refine app_line (w0:=w3) (lineA (cntL x)) (hO.ext e04) (by have:=e04.size;omega) (by simp;omega) (e.trans e04) (by omega) fun v' w5 hO' e5 hb'=>?_
   simp (disch:=try exact DI) only [↓PR,QR,simprocAttr,hw]
   exact ⟨⟨k+1,rfl,by omega,e5,by rw [take_snoc hx,List.map_append,← List.append_assoc];exact hO',hb'⟩,meas_lt (kd := .i64) hlt⟩
 · obtain rfl:k=r.counters.length:=by omega
   have d1:decide ((r.counters.length:Int) < (r.counters.length:Int))=false:=decide_eq_false (by omega)
   rw [List.take_length] at hO
   simp (disch:=try exact DI) only [↓PR,QR,simprocAttr,d1]
   exact states a w e hO hb
end Go.Proofs.YtngflmjncplkaaaGreatDoor
namespace Go.Sw
class Szb (a:ByteArray) (n:outParam Nat):Prop where
 le:a.size≤n
instance szbLit (a:Array UInt8):Szb ⟨a⟩ a.size:=⟨Nat.le_refl _⟩
instance szbApp (a b:ByteArray) (n m:Nat) [Szb a n] [Szb b m]:Szb (a++b) (n+m):=⟨by rw [ByteArray.size_append];exact Nat.add_le_add Szb.le Szb.le⟩
section
variable {P:Program} {QP:List PanicEntry→World→Prop} {w:World}
theorem op_saddB (t:TypeId) (c:Bool) (a b:ByteArray) {n m:Nat} [ha:Szb a n] [hb:Szb b m] (h:Nat.ble (n+m) 9223372036854775807=true) {k:Value→World→Prop}:opV P (binS .add t c (.string a) (.string b)) QP w k=k (.string (a++b)) w:=by
 have h:=Nat.le_of_ble_eq_true h
 have h1:=ha.le
 have h2:=hb.le
 refine opV_ok ?_
 have h1:¬ (((a.size+b.size:Nat):Int) > IntKind.i64.max):=by
  have:IntKind.i64.max=9223372036854775807:=rfl
  omega
 simp [binS,binOp,Op.stringOp,h1]
 omega
theorem q_saddB {C:World→Prop} [ClassNe C] (t:TypeId) (c:Bool) (a b:ByteArray) {n m:Nat} [Szb a n] [Szb b m] (h:Nat.ble (n+m) 9223372036854775807=true) {k:Value→Prop}:qV P C (binS .add t c (.string a) (.string b)) k=k (.string (a++b)):=qV_of fun QP w kk=>op_saddB (k:=kk) t c a b h
end
end Go.Sw
namespace Go.Proofs.YtngflmjncplkaaaGreatDoor
open Sw
open Go.RowKit (intOf Below)
theorem dec_one {n:Nat} (h:n < 10):decB n=⟨#[UInt8.ofNat (48+n)]⟩:=by
 unfold decB
 rw [Go.Lib.itoa_nonneg,Go.Lib.decDigits_one h]
theorem dec_more {n:Nat} (h:10≤n):decB n=decB (n / 10:Nat)++decB (n % 10:Nat):=by
 refine bytes_ext ?_
 unfold decB
 rw [Go.Lib.itoa_nonneg,Go.Lib.itoa_nonneg,Go.Lib.itoa_nonneg,Go.Lib.decDigits_one (i:=n % 10) (by omega)]
 rw [ByteArray.data_append,Array.toList_append]
 simp only [List.toList_toArray]
 rw [Go.Lib.decDigits,dif_neg (by omega)]
theorem dec_neg {n:Nat} (h:0 < n):decB (-(n:Int))=⟨#[45]⟩++decB n:=by
 refine bytes_ext ?_
 unfold decB Go.Lib.itoa
 rw [if_pos (by omega),if_neg (by omega),ByteArray.data_append,Array.toList_append]
 simp
theorem op_oneB {w:World} {QP:List PanicEntry→World→Prop} {k:Value→World→Prop} {b:Nat} {T:TypeId} {x:Int} (h:w.heap[b]?=some (.cells #[.int .u8 x] T (0,0))):opV Pg (Go.convert 94 9 (.slice (some ⟨b,0,none⟩) 1 1)) QP w k=k (.string ⟨#[UInt8.ofNat x.toNat]⟩) w:=by
 refine opV_ok ?_
 rw [run_convert_bytes_string w _ _ 5 _ 1 1 Tryz.underlying94 Tryz.underlying5 Tryz.underlying9]
 refine run_bytesToString w ⟨b,0,none⟩ 1 1 [x] ?_
 have:=Sw.run_loadCellsFrom (P:=Pg) (w:=w) ⟨b,0,none⟩ 1 0 #[] [.int .u8 x] rfl (fun j v hv=>by
  rw [Addr.add_lit,Nat.zero_add,Nat.zero_add,(cells_of_heap h).1];simpa using hv)
 simpa [loadCells] using this
theorem rDigits_nat:∀ (n:Nat) (w:World),n≤9223372036854775807→Ret Pg 49 #[.int .i64 (n:Int)] w fun r w'=>r = .string (decB n)∧Ext w w':=by
 intro n
 induction n using Nat.strongRecOn with
 | _ n ih =>
  intro w hn
  refine n15s (R:=retR _) ?_;unfold n15
  have d0:decide ((n:Int) < 0)=false:=decide_eq_false (by omega)
  have hr:(n:Int).tmod 10=((n % 10:Nat):Int):=by rw [Int.tmod_eq_emod_of_nonneg (by omega)];omega
  have hw:IntKind.i64.wrap (48+((n % 10:Nat):Int))=((48+n % 10:Nat):Int):=by rw [wrap_ok (by omega) (by omega)];omega
  have hu:IntKind.u8.wrap ((48+n % 10:Nat):Int)=((48+n % 10:Nat):Int):=by
   have key:∀ n:Fin 10,IntKind.u8.wrap ((48+n.val:Nat):Int)=((48+n.val:Nat):Int):=by decide +kernel
   exact key ⟨n % 10,Nat.mod_lt _ (by omega)⟩
  simp (disch:=try exact DI) only [↓PR,QR,simprocAttr,d0,↓n15c3,hr,hw]
  rw [hu]
  have o1:=heap_new w #[.int .u8 ((48+n % 10:Nat):Int)] 5
  have e1:Ext w (w.alloc (.cells #[.int .u8 ((48+n % 10:Nat):Int)] 5)):=ee
  generalize World.alloc w _=W at o1 e1 ⊢
  rw [op_oneB o1]
  have hlast:(⟨#[UInt8.ofNat (((48+n % 10:Nat):Int)).toNat]⟩:ByteArray)=decB (n % 10:Nat):=by rw [Int.toNat_natCast,dec_one (Nat.mod_lt _ (by omega))]
  rw [hlast]
  by_cases h:n < 10
  · have d1:decide ((n:Int) < 10)=true:=decide_eq_true (by omega)
    simp (disch:=try exact DI) only [↓PR,QR,simprocAttr,d1]
    exact ⟨by rw [Nat.mod_eq_of_lt h],e1⟩
  · have d1:decide ((n:Int) < 10)=false:=decide_eq_false (by omega)
    have hq:IntKind.i64.wrap ((n:Int).tdiv 10)=((n / 10:Nat):Int):=by
     have:(n:Int).tdiv 10=((n / 10:Nat):Int):=by rw [Int.tdiv_eq_ediv_of_nonneg (by omega)];omega
     rw [this,wrap_ok (by omega) (by omega)]
    simp (disch:=try exact DI) only [↓PR,QR,simprocAttr,d1,↓n15c1]
    rw [op_quo _ _ _ _ _ (by decide),hq]
    refine zcr (ih (n / 10) (by omega) W (by omega)) fun w2 e2=>?_
    have s1:=decB_size (n:=((n / 10:Nat):Int)) (by omega) (by omega)
    have s2:=decB_size (n:=((n % 10:Nat):Int)) (by omega) (by omega)
    rw [op_saddR _ _ _ _ (by omega)]
    exact ⟨_,rfl,by rw [dec_more (n:=n) (by omega)],e1.trans e2⟩
theorem rDigits_ret (w:World) (n:Int) (h0 : -9223372036854775807≤n) (h1:n≤9223372036854775807):Ret Pg 49 #[.int .i64 n] w fun r w'=>r = .string (decB n)∧Ext w w':=by
 by_cases hn:n < 0
 · obtain ⟨m,rfl⟩:∃ m:Nat,n = -(m:Int):=⟨n.natAbs,by omega⟩
   have hm:0 < m:=by omega
   refine n15s (R:=retR _) ?_;unfold n15
   have d0:decide (-(m:Int) < 0)=true:=decide_eq_true hn
   have hw:IntKind.i64.wrap (0 - -(m:Int))=(m:Int):=by rw [wrap_ok (by omega) (by omega)];omega
   simp (disch:=try exact DI) only [↓PR,QR,simprocAttr,d0,↓n15c2,hw]
   refine zcr (rDigits_nat m w (by omega)) fun w2 e2=>?_
   have s1:=decB_size (n:=(m:Int)) (by omega) (by omega)
   have h45:(⟨#[45]⟩:ByteArray).size=1:=rfl
   rw [op_saddR _ _ _ _ (by omega)]
   exact ⟨_,rfl,by rw [dec_neg hm],e2⟩
 · obtain ⟨m,rfl⟩:∃ m:Nat,n=(m:Int):=⟨n.toNat,by omega⟩
   exact rDigits_nat m w (by omega)
def cntT (s:ByteArray) (x:CntD):ByteArray:=s++⟨#[10,99,111,117,110,116,101,114,32]⟩++x.name++⟨#[32]⟩++decB x.limit
def staT1 (s:ByteArray) (x:StaD):ByteArray:=s++⟨#[10,115,116,97,116,101,32]⟩++x.name
def staT2 (s:ByteArray) (x:StaD):ByteArray:=if 0 < x.wait then staT1 s x++⟨#[32,119,97,105,116,32]⟩++decB x.wait else staT1 s x
def staT (s:ByteArray) (x:StaD):ByteArray:=if x.final then staT2 s x++⟨#[32,102,105,110,97,108]⟩ else staT2 s x
def stpT1 (s:ByteArray) (x:StpD):ByteArray:=s++⟨#[10,115,116,101,112,32]⟩++x.fr++⟨#[32]⟩++x.to++⟨#[32]⟩++kwB x.kind
def stpT2 (s:ByteArray) (x:StpD):ByteArray:=if speaksB x.kind then stpT1 s x++⟨#[32]⟩++x.message++⟨#[32]⟩++x.peer else stpT1 s x
def stpT (s:ByteArray) (x:StpD):ByteArray:=if x.counter≠⟨#[]⟩ then stpT2 s x++⟨#[32,119,104,101,110,32]⟩++x.counter++⟨#[32]⟩++decB x.low++⟨#[32]⟩++decB x.high++⟨#[32]⟩++decB x.add else stpT2 s x
def textP (r:RolD):ByteArray:=r.steps.foldl stpT (r.states.foldl staT (r.counters.foldl cntT (⟨#[114,111,108,101,32]⟩++r.name)))
theorem app_assoc (a b c:ByteArray):a++b++c=a++(b++c):=ByteArray.append_assoc
theorem lit_app (a b:Array UInt8):(⟨a⟩++⟨b⟩:ByteArray)=⟨a++b⟩:=bytes_ext (by rw [ByteArray.data_append])
theorem joinW_two (sep x y:ByteArray) (l:List ByteArray):joinW sep (x::y::l)=x++sep++joinW sep (y::l):=by
 refine bytes_ext ?_
 unfold joinW
 simp only [List.map_cons,Go.Lib.join_cons,ByteArray.data_append,Array.toList_append]
 unfold Go.Lib.joinTail
 simp
theorem cntT_line (s:ByteArray) (x:CntD):cntT s x=s++⟨#[10]⟩++lineA (cntL x):=by
 unfold cntT lineA cntL
 simp only [List.map_cons,List.map_nil,wordA,joinW_two,joinW_one]
 rw [show (⟨#[10,99,111,117,110,116,101,114,32]⟩:ByteArray)=⟨#[10]⟩++(⟨#[99,111,117,110,116,101,114]⟩++⟨#[32]⟩) from by rw [lit_app,lit_app];rfl]
 simp only [app_assoc]
theorem staT_line (s:ByteArray) (x:StaD):staT s x=s++⟨#[10]⟩++lineA (staL x):=by
 have h1:staT1 s x=s++⟨#[10]⟩++joinW ⟨#[32]⟩ [⟨#[115,116,97,116,101]⟩,x.name]:=by
  unfold staT1
  rw [joinW_two,joinW_one,show (⟨#[10,115,116,97,116,101,32]⟩:ByteArray)=⟨#[10]⟩++(⟨#[115,116,97,116,101]⟩++⟨#[32]⟩) from by rw [lit_app,lit_app];rfl]
  simp only [app_assoc]
 have w6:(⟨#[32,119,97,105,116,32]⟩:ByteArray)=⟨#[32]⟩++(⟨#[119,97,105,116]⟩++⟨#[32]⟩):=by rw [lit_app,lit_app];rfl
 have f6:(⟨#[32,102,105,110,97,108]⟩:ByteArray)=⟨#[32]⟩++⟨#[102,105,110,97,108]⟩:=by rw [lit_app];rfl
 unfold staT staT2 lineA staL
 rw [h1,w6,f6]
 cases x.final with
 | true =>
  by_cases hw:0 < x.wait
  · simp only [hw,if_true,List.map_append,List.map_cons,List.map_nil,wordA,List.cons_append,List.nil_append,joinW_two,joinW_one,app_assoc]
  · simp only [hw,if_true,if_false,List.map_append,List.map_cons,List.map_nil,wordA,List.cons_append,List.nil_append,List.append_nil,joinW_two,joinW_one,app_assoc]
 | false =>
  by_cases hw:0 < x.wait
  · simp only [hw,if_true,List.map_append,List.map_cons,List.map_nil,wordA,List.cons_append,List.nil_append,List.append_nil,joinW_two,joinW_one,app_assoc,Bool.false_eq_true,if_false]
  · simp only [hw,if_false,List.map_append,List.map_cons,List.map_nil,wordA,List.cons_append,List.nil_append,List.append_nil,joinW_two,joinW_one,app_assoc,Bool.false_eq_true]
theorem stpT_line (s:ByteArray) (x:StpD):stpT s x=s++⟨#[10]⟩++lineA (stpL x):=by
 have h1:stpT1 s x=s++⟨#[10]⟩++joinW ⟨#[32]⟩ [⟨#[115,116,101,112]⟩,x.fr,x.to,kwB x.kind]:=by
  unfold stpT1
  rw [joinW_two,joinW_two,joinW_two,joinW_one,show (⟨#[10,115,116,101,112,32]⟩:ByteArray)=⟨#[10]⟩++(⟨#[115,116,101,112]⟩++⟨#[32]⟩) from by rw [lit_app,lit_app];rfl]
  simp only [app_assoc]
 have w6:(⟨#[32,119,104,101,110,32]⟩:ByteArray)=⟨#[32]⟩++(⟨#[119,104,101,110]⟩++⟨#[32]⟩):=by rw [lit_app,lit_app];rfl
 unfold stpT stpT2 lineA stpL stpL1 stpC
 rw [h1,w6]
 cases speaksB x.kind with
 | true =>
  by_cases hc:x.counter=⟨#[]⟩
  · simp only [hc,ne_eq,not_true_eq_false,if_true,if_false,List.map_append,List.map_cons,List.map_nil,wordA,List.cons_append,List.nil_append,List.append_nil,joinW_two,joinW_one,app_assoc]
  · simp only [hc,ne_eq,not_false_eq_true,if_true,List.map_append,List.map_cons,List.map_nil,wordA,List.cons_append,List.nil_append,List.append_nil,joinW_two,joinW_one,app_assoc]
 | false =>
  by_cases hc:x.counter=⟨#[]⟩
  · simp only [hc,ne_eq,not_true_eq_false,if_false,List.map_append,List.map_cons,List.map_nil,wordA,List.cons_append,List.nil_append,List.append_nil,joinW_two,joinW_one,app_assoc,Bool.false_eq_true]
  · simp only [hc,ne_eq,not_false_eq_true,if_true,List.map_append,List.map_cons,List.map_nil,wordA,List.cons_append,List.nil_append,List.append_nil,joinW_two,joinW_one,app_assoc,Bool.false_eq_true,if_false]
theorem fold_lines {α:Type} {f:ByteArray→α→ByteArray} {g:α→ByteArray} (hf:∀ s x,f s x=s++⟨#[10]⟩++g x):∀ (l:List α) (ls:List ByteArray),ls≠[]→l.foldl f (joinW ⟨#[10]⟩ ls)=joinW ⟨#[10]⟩ (ls++l.map g)
 | [],ls,_=>by simp
 | x::l,ls,h=>by
  rw [List.foldl_cons,hf,← joinW_snoc _ h,fold_lines hf l _ (by simp),List.map_cons,List.append_assoc]
  rfl
theorem textP_eq (r:RolD):textP r=joinW ⟨#[10]⟩ (linesR r):=by
 unfold textP linesR
 have h0:(⟨#[114,111,108,101,32]⟩:ByteArray)++r.name=joinW ⟨#[10]⟩ [lineA [.str ⟨#[114,111,108,101]⟩,.str r.name]]:=by
  unfold lineA
  simp only [List.map_cons,List.map_nil,wordA,joinW_two,joinW_one]
  rw [show (⟨#[114,111,108,101,32]⟩:ByteArray)=⟨#[114,111,108,101]⟩++⟨#[32]⟩ from by rw [lit_app];rfl]
 rw [h0,fold_lines cntT_line _ _ (by simp),fold_lines staT_line _ _ (by simp),fold_lines stpT_line _ _ (by simp)]
structure Save (lo hi:Nat) (w w':World):Prop where
 os:w'.os=w.os
 tape:w'.tape=w.tape
 output:w'.output=w.output
 size:w.heap.size≤w'.heap.size
 block:∀ k,k < w.heap.size→(k < lo∨hi≤k)→w'.heap[k]?=w.heap[k]?
section
variable {lo hi:Nat} {w w' w1 w2:World}
theorem Save.refl (lo hi:Nat) (w:World):Save lo hi w w:=⟨rfl,rfl,rfl,Nat.le_refl _,fun _ _ _=>rfl⟩
theorem Save.ext (h:Save lo hi w w1) (e:Ext w1 w2):Save lo hi w w2:=⟨e.os.trans h.os,e.tape.trans h.tape,e.output.trans h.output,Nat.le_trans h.size e.size,fun k hk hb=>(e.block k (Nat.lt_of_lt_of_le hk h.size)).trans (h.block k hk hb)⟩
theorem Save.of_ext (e:Ext w w'):Save lo hi w w':=(Save.refl lo hi w).ext e
theorem Save.trans (h:Save lo hi w w1) (k:Save lo hi w1 w2):Save lo hi w w2:=⟨k.os.trans h.os,k.tape.trans h.tape,k.output.trans h.output,Nat.le_trans h.size k.size,fun i hi' hb=>(k.block i (Nat.lt_of_lt_of_le hi' h.size) hb).trans (h.block i hi' hb)⟩
theorem Save.setCell (h:Save lo hi w w1) {b o:Nat} (h1:lo≤b) (h2:b < hi) (v:Value):Save lo hi w (w1.setCell ⟨b,o,none⟩ v) :=
 ⟨h.os,h.tape,h.output,by rw [World.size_setCell];exact h.size,fun k hk hb=>(Only.setCell w1 b o v k (by omega)).trans (h.block k hk hb)⟩
theorem Save.to_ext {a:World} (h:Save lo hi w w') (e:Ext a w) (hl:a.heap.size≤lo):Ext a w':=⟨h.os.trans e.os,h.tape.trans e.tape,h.output.trans e.output,Nat.le_trans e.size h.size,fun k hk=>(h.block k (Nat.lt_of_lt_of_le hk e.size) (.inl (by omega))).trans (e.block k hk)⟩
theorem Save.obj (h:Save lo hi w w') {b:Nat} {o:Obj} (hb:w.heap[b]?=some o) (hr:b < lo∨hi≤b):w'.heap[b]?=some o:=(h.block b (Array.getElem?_eq_some_iff.1 hb).1 hr).trans hb
end
abbrev TR:TypeId:=109
abbrev rdCells (lv wv:Value) (at_:Nat):List Value:=[lv,.int .i64 (at_:Int),wv]
structure RdAt (w:World) (p:Nat) (lines:List ByteArray) (at_:Nat) (ws:List ByteArray) (lv:Value) (B:Nat) (wv:Value):Prop where
 obj:w.heap[p]?=some (.cells (rdCells lv wv at_).toArray TR (0,0))
 ls:SliceOf w 1 EStr lv lines
 wd:SliceOf w 1 EStr wv ws
 lp:∀ A n c,lv = .slice (some A) n c→A.block≠p
 wb:∀ A n c,wv = .slice (some A) n c→A.block=B
 bp:B≠p
def Rd (w:World) (p:Nat) (lines:List ByteArray) (at_:Nat) (ws:List ByteArray) (lv:Value) (B:Nat):Prop:=∃ wv,RdAt w p lines at_ ws lv B wv
section
variable {w w':World} {p at_ B:Nat} {lines ws:List ByteArray} {lv wv:Value}
theorem RdAt.wp (h:RdAt w p lines at_ ws lv B wv):∀ A n c,wv = .slice (some A) n c→A.block≠p:=fun A n c e=>by rw [h.wb A n c e];exact h.bp
theorem RdAt.ext (h:RdAt w p lines at_ ws lv B wv) (e:Ext w w'):RdAt w' p lines at_ ws lv B wv:=⟨e.obj h.obj,SliceOf.ext keptStr h.ls e,SliceOf.ext keptStr h.wd e,h.lp,h.wb,h.bp⟩
theorem Rd.ext (h:Rd w p lines at_ ws lv B) (e:Ext w w'):Rd w' p lines at_ ws lv B:=let ⟨wv,h⟩:=h; ⟨wv,h.ext e⟩
theorem RdAt.setW (h:RdAt w p lines at_ ws lv B wv) {u:Value} {us:List ByteArray} {B':Nat} (hu:SliceOf w 1 EStr u us) (hb:∀ A n c,u = .slice (some A) n c→A.block=B') (hB:B'≠p):RdAt (w.setCell ⟨p,2,none⟩ u) p lines at_ us lv B' u :=
 ⟨by simpa using heap_set (o:=2) h.obj u,h.ls.setOther u h.lp (fun _ _ h=>h),hu.setOther u (fun A n c e=>by rw [hb A n c e];exact hB) (fun _ _ h=>h),h.lp,hb,hB⟩
theorem RdAt.setAt (h:RdAt w p lines at_ ws lv B wv) (n:Nat):RdAt (w.setCell ⟨p,1,none⟩ (.int .i64 (n:Int))) p lines n ws lv B wv :=
 ⟨by simpa using heap_set (o:=1) h.obj (.int .i64 (n:Int)),h.ls.setOther _ h.lp (fun _ _ h=>h),h.wd.setOther _ h.wp (fun _ _ h=>h),h.lp,h.wb,h.bp⟩
theorem Rd.other (h:Rd w p lines at_ ws lv B) {q o:Nat} (v:Value) (hp:q≠p) (hB:q≠B) (hl:∀ A n c,lv = .slice (some A) n c→A.block≠q):Rd (w.setCell ⟨q,o,none⟩ v) p lines at_ ws lv B:=by
 obtain ⟨wv,h⟩:=h
 exact ⟨wv,by rw [Only.setCell w q o v p (Ne.symm hp)];exact h.obj,h.ls.setOther v hl (fun _ _ h=>h),h.wd.setOther v (fun A n c e=>by rw [h.wb A n c e];exact Ne.symm hB) (fun _ _ h=>h),h.lp,h.wb,h.bp⟩
theorem saveW (w:World) (p o:Nat) (v:Value):Save p (p+1) w (w.setCell ⟨p,o,none⟩ v):=(Save.refl p (p+1) w).setCell (Nat.le_refl _) (Nat.lt_succ_self _) v
end
abbrev wrongE (n:Int):List PanicEntry:=[{ v := .iface 133 (.int .i64 n),recovered:=false }]
def WrR (w0:World) (p:Nat) (lines:List ByteArray) (at_:Nat) (lv:Value) (B:Nat) (o:Option (Value×List ByteArray)):Ending→World→Prop:=fun e w'=>Save p (p+1) w0 w'∧((∃ v ws,o=some (v,ws)∧e = .returned v∧Rd w' p lines at_ ws lv B)∨(o=none∧e = .panicked (wrongE at_)))
section
variable {w w0 w':World} {p at_ B:Nat} {lines ws:List ByteArray} {lv wv:Value} {o:Option (Value×List ByteArray)}
theorem callK_wr {f:FuncId} {args:Array Value} {QP:List PanicEntry→World→Prop} {k:Value→World→Prop} (h:Calls Pg f args w (WrR w p lines at_ lv B o)) (hk:∀ v ws w',o=some (v,ws)→Rd w' p lines at_ ws lv B→Save p (p+1) w w'→k v w') (hp:∀ w',o=none→Save p (p+1) w w'→QP (wrongE at_) w'):callK Pg f args QP w k :=
 callK_calls h (fun v w' ⟨hs,h⟩=>by
  rcases h with ⟨v',ws,ho,he,hr⟩ | ⟨_,he⟩
  · injection he with he;subst he;exact hk _ _ _ ho hr hs
  · cases he) (fun ch w' ⟨hs,h⟩=>by
  rcases h with ⟨v',ws,ho,he,hr⟩ | ⟨ho,he⟩
  · cases he
  · injection he with he;subst he;exact hp _ ho hs) (fun w' ⟨_,h⟩=>by
  rcases h with ⟨_,_,_,he,_⟩ | ⟨_,he⟩<;>cases he)
theorem wr_ret {v:Value} (hs:Save p (p+1) w0 w) (ho:o=some (v,ws)) (h:Rd w p lines at_ ws lv B):WrR w0 p lines at_ lv B o (.returned v) w:=⟨hs,.inl ⟨v,ws,ho,rfl,h⟩⟩
theorem wr_pan (hs:Save p (p+1) w0 w) (ho:o=none):panK (WrR w0 p lines at_ lv B o) (wrongE at_) w:=⟨hs,.inr ⟨ho,rfl⟩⟩
theorem must_wr (h:Rd w p lines at_ ws lv B) (b:Bool):Calls Pg 66 #[.pointer (some ⟨p,0,none⟩),.bool b] w (WrR w p lines at_ lv B (if b then some (.tuple #[],ws) else none)):=by
 obtain ⟨wv,h⟩:=h
 refine n63s ?_;unfold n63
 cases b with
 | true =>
  simp (disch:=try exact DI) only [↓PR,QR,simprocAttr]
  exact wr_ret (Save.refl _ _ _) rfl ⟨wv,h⟩
 | false =>
  simp (disch:=try exact DI) only [↓PR,QR,simprocAttr,↓n63c1,(cells_of_heap h.obj).1]
  rw [op_panic]
  exact wr_pan (Save.refl _ _ _) rfl
def tailV (b o len cap:Nat):Value := .slice (some ⟨b,if cap=1 then o else o+1,none⟩) (len - 1) (cap - 1)
theorem op_tailV {QP:List PanicEntry→World→Prop} {k:Value→World→Prop} (b o len cap:Nat) (hl:0 < len) (hc:len≤cap):opV Pg (Instr.sliceAt 73 (.slice (some ⟨b,o,none⟩) len cap) (some (.int .i64 1)) none none) QP w k=k (tailV b o len cap) w:=by
 have h1:(1:Int)≤(len:Int):=by omega
 have h2:(len:Int)≤(cap:Int):=by omega
 refine opV_ok ?_
 unfold tailV
 by_cases hc1:cap=1
 · simp [Instr.sliceAt,run_underlying Tryz.underlying73,Instr.slice,Instr.sliceBounds,run_sliceBound,h1,h2,hc1,Sw.run_sizeOf ty9,Addr.add_lit]
 · simp [Instr.sliceAt,run_underlying Tryz.underlying73,Instr.slice,Instr.sliceBounds,run_sliceBound,h1,h2,hc1,Sw.run_sizeOf ty9,Addr.add_lit]
theorem tail_of {b o cap:Nat} {x:ByteArray} {l:List ByteArray} {len:Nat} (hn:len=l.length+1) (h:SliceOf w 1 EStr (.slice (some ⟨b,o,none⟩) len cap) (x::l)):SliceOf w 1 EStr (tailV b o len cap) l∧w.cell? ⟨b,o,none⟩=some (.string x):=by
 subst hn
 obtain ⟨A,c,hv,h1,h2,h3⟩:=h
 injection hv with hv1 _ hv2
 subst hv1 hv2
 obtain ⟨b',o',hA,hel⟩:=h3 (by simp)
 injection hA with hA
 injection hA with hb ho
 subst hb ho
 rw [List.length_cons] at h1
 refine ⟨⟨_,_,rfl,by omega,by omega,fun hne=>?_⟩,?_⟩
 · have hl:0 < l.length:=List.length_pos_iff.2 hne
   refine ⟨b,o+1,by rw [if_neg (by omega)],fun k y hy=>?_⟩
   obtain ⟨cs,a1,a2,a3⟩:=hel (k+1) y (by simpa using hy)
   exact ⟨cs,a1,by rw [show o+1+k*1=o+(k+1)*1 by omega];exact a2,a3⟩
 · obtain ⟨cs,a1,a2,rfl⟩:=hel 0 x rfl
   simpa using a2 0 _ rfl
def popW:List ByteArray→Option (Value×List ByteArray)
 | x::l=>some (.string x,l)
 | []=>none
theorem word_wr (h:Rd w p lines at_ ws lv B):Calls Pg 69 #[.pointer (some ⟨p,0,none⟩)] w (WrR w p lines at_ lv B (popW ws)):=by
 obtain ⟨wv,h⟩:=h
 have ho:=SliceOf.oneCell h.wd
 have ho2:=SliceOf.oneCell h.ls
 obtain ⟨A,c,hwv,hlc,hcm,_⟩:=SliceOf.open h.wd
 subst hwv
 refine n71s ?_;unfold n71
 cases ws with
 | nil =>
  have d1:decide (((([]:List ByteArray).length:Nat):Int) > 0)=false:=by simp
  simp (disch:=try exact DI) only [↓PR,QR,simprocAttr,(cells_of_heap h.obj).1,d1]
  refine callK_wr (must_wr ⟨_,h⟩ false) (fun v ws w' ho=>by simp at ho) fun w' _ hs=>wr_pan hs rfl
 | cons x l =>
  have d1:decide ((((x::l).length:Nat):Int) > 0)=true:=decide_eq_true (by rw [List.length_cons];omega)
  simp (disch:=try exact DI) only [↓PR,QR,simprocAttr,(cells_of_heap h.obj).1,d1]
  refine callK_wr (must_wr ⟨_,h⟩ true) (fun v ws w' ho hr hs=>?_) fun w' ho=>by simp at ho
  simp only [if_true,Option.some.injEq,Prod.mk.injEq] at ho
  obtain ⟨rfl,rfl⟩:=ho
  obtain ⟨wv,h⟩:=hr
  refine drawK_intro ?_
  have eD:Ext w' (Sw.drew w'):=(Ext.refl w').drew
  have hs:=hs.ext eD
  have h:=h.ext eD
  generalize (Sw.drew w')=D at hs h ⊢
  clear eD
  obtain ⟨A,c,hwv,hlc,hcm,_,hel⟩:=SliceOf.open h.wd
  subst hwv
  obtain ⟨b,o,cs,rfl,_⟩:=hel 0 x rfl
  obtain ⟨hT,hx⟩:=tail_of List.length_cons h.wd
  have hpb:b=B:=h.wb _ _ _ rfl
  have hTb:∀ A n c',tailV b o (x::l).length c = .slice (some A) n c'→A.block=B:=fun A n c' hv=>by
   unfold tailV at hv
   injection hv with hv _ _
   injection hv with hv
   subst hv;exact hpb
  have ho3:=SliceOf.oneCell h.ls
  have hq:∀ K:Value→Prop,qV Pg (EC D) (Instr.sliceAt 73 (.slice (some ⟨b,o,none⟩) (x::l).length c) (some (.int .i64 1)) none none) K=K (tailV b o (x::l).length c):=fun K=>qV_of fun QP w k=>op_tailV b o _ c (by simp) hlc
  have d0:(0:Int) < ((x::l).length:Int):=by rw [List.length_cons];omega
  have hx0:∀ K:Value→Prop,qV Pg (EC D) (Instr.indexAt 73 (.slice (some ⟨b,o,none⟩) (x::l).length c) (.int .i64 0)) K=K (.pointer (some ⟨b,o,none⟩)):=fun K=>qV_eqC fun w' _=>run_of_op fun QP kk=>(op_indexN Tryz.underlying73 ty9 b o _ c .i64 0 (by simp)).trans (by rw [Nat.zero_mul,Nat.add_zero])
  have hto:(tailV b o (x::l).length c).oneCell'=true:=rfl
  unfold n71c1
  simp (disch:=try exact DI) only [↓PR,QR,simprocAttr,(cells_of_heap h.obj).1,hq,hx0,hx,(cells_of_heap h.obj).2]
  refine turnK_intro ?_
  exact wr_ret (hs.trans (saveW _ _ _ _)) rfl ⟨_,h.setW hT hTb h.bp⟩
def popN:List ByteArray→Option (Value×List ByteArray)
 | x::l=>if nameB x then some (.string x,l) else none
 | []=>none
theorem name_wr (h:Rd w p lines at_ ws lv B):Calls Pg 67 #[.pointer (some ⟨p,0,none⟩)] w (WrR w p lines at_ lv B (popN ws)):=by
 refine n64s ?_;unfold n64
 refine callK_wr (word_wr h) (fun v us w1 ho hr hs=>?_) fun w1 ho hs=>?_
 · cases ws with
   | nil=>cases ho
   | cons x l =>
    injection ho with ho
    injection ho with h1 h2
    subst h1 h2
    refine zcr (Name_ret w1 x) fun w2 e2=>?_
    refine callK_wr (must_wr (hr.ext e2) (nameB x)) (fun v us w3 ho hr2 hs3=>?_) fun w3 ho hs3=>?_
    · cases hn:nameB x with
      | false=>rw [hn] at ho;cases ho
      | true =>
       rw [hn] at ho
       injection ho with ho
       injection ho with _ h2
       subst h2
       exact wr_ret ((hs.ext e2).trans hs3) (by show (if nameB x=true then some (Value.string x,l) else none)=_;rw [hn];rfl) hr2
    · cases hn:nameB x with
      | true=>rw [hn] at ho;cases ho
      | false=>exact wr_pan ((hs.ext e2).trans hs3) (by show (if nameB x=true then some (Value.string x,l) else none)=_;rw [hn];rfl)
 · cases ws with
   | nil=>exact wr_pan hs rfl
   | cons x l=>cases ho
theorem end_wr (h:Rd w p lines at_ ws lv B):Calls Pg 71 #[.pointer (some ⟨p,0,none⟩)] w (WrR w p lines at_ lv B (if ws=[] then some (.tuple #[],[]) else none)):=by
 obtain ⟨wv,h⟩:=h
 have ho:=SliceOf.oneCell h.wd
 have ho2:=SliceOf.oneCell h.ls
 obtain ⟨A,c,hwv,hlc,hcm,_⟩:=SliceOf.open h.wd
 subst hwv
 refine n62s ?_;unfold n62
 have d1:(((ws.length:Nat):Int) == 0)=decide (ws=[]):=by
  cases ws with
  | nil=>rfl
  | cons x l=>simp;omega
 simp (disch:=try exact DI) only [↓PR,QR,simprocAttr,(cells_of_heap h.obj).1,d1]
 refine callK_wr (must_wr ⟨_,h⟩ (decide (ws=[]))) (fun v us w3 ho hr2 hs3=>?_) fun w3 ho hs3=>?_
 · by_cases hw:ws=[]
   · rw [decide_eq_true hw] at ho
     injection ho with ho
     injection ho with _ h2
     subst h2
     subst hw
     exact wr_ret hs3 rfl hr2
   · rw [decide_eq_false hw] at ho;cases ho
 · by_cases hw:ws=[]
   · rw [decide_eq_true hw] at ho;cases ho
   · exact wr_pan hs3 (if_neg hw)
def skipB (s:ByteArray):List ByteArray→Bool
 | x::_=>decide (x=s)
 | []=>false
theorem skip_ret (h:Rd w p lines at_ ws lv B) (s:ByteArray):Ret Pg 107 #[.pointer (some ⟨p,0,none⟩),.string s] w fun r w'=>r = .bool (skipB s ws)∧Rd w' p lines at_ (if skipB s ws then ws.tail else ws) lv B∧Save p (p+1) w w':=by
 obtain ⟨wv,h⟩:=h
 have ho:=SliceOf.oneCell h.wd
 have ho2:=SliceOf.oneCell h.ls
 have h0:=h
 obtain ⟨A,c,hwv,hlc,hcm,_,hel⟩:=SliceOf.open h.wd
 subst hwv
 refine n68s (R:=retR _) ?_;unfold n68
 cases ws with
 | nil =>
  have d1:(((([]:List ByteArray).length:Nat):Int) == 0)=true:=rfl
  simp (disch:=try exact DI) only [↓PR,QR,simprocAttr,(cells_of_heap h.obj).1,d1]
  exact ⟨by trivial,⟨_,h0⟩,Save.refl _ _ _⟩
 | cons x l =>
  have d1:((((x::l).length:Nat):Int) == 0)=false:=by simp;omega
  obtain ⟨b,o,cs,rfl,_⟩:=hel 0 x rfl
  obtain ⟨hT,hx⟩:=tail_of List.length_cons h.wd
  have hpb:b=B:=h.wb _ _ _ rfl
  have hTb:∀ A n c',tailV b o (x::l).length c = .slice (some A) n c'→A.block=B:=fun A n c' hv=>by
   unfold tailV at hv
   injection hv with hv _ _
   injection hv with hv
   subst hv;exact hpb
  have hto:(tailV b o (x::l).length c).oneCell'=true:=rfl
  have hx0:∀ (QP:List PanicEntry→World→Prop) (K:Value→World→Prop),opV Pg (Instr.indexAt 73 (.slice (some ⟨b,o,none⟩) (x::l).length c) (.int .i64 0)) QP w K=K (.pointer (some ⟨b,o,none⟩)) w:=fun QP K=>(op_indexN Tryz.underlying73 ty9 b o _ c .i64 0 (by simp)).trans (by rw [Nat.zero_mul,Nat.add_zero])
  have hq:∀ (QP:List PanicEntry→World→Prop) (K:Value→World→Prop),opV Pg (Instr.sliceAt 73 (.slice (some ⟨b,o,none⟩) (x::l).length c) (some (.int .i64 1)) none none) QP w K=K (tailV b o (x::l).length c) w:=fun QP K=>op_tailV b o _ c (by simp) hlc
  by_cases hxs:x=s
  · have d2:decide (x=s)=true:=decide_eq_true hxs
    simp (disch:=try exact DI) only [↓PR,QR,simprocAttr,(cells_of_heap h.obj).1,d1,hx0,hx,d2,↓n68c1,hq,(cells_of_heap h.obj).2]
    have hsk:skipB s (x::l)=true:=d2
    rw [hsk,if_pos rfl]
    refine ⟨rfl,?_,saveW _ _ _ _⟩
    exact ⟨_,h.setW hT hTb h.bp⟩
  · have d2:decide (x=s)=false:=decide_eq_false hxs
    simp (disch:=try exact DI) only [↓PR,QR,simprocAttr,(cells_of_heap h.obj).1,d1,hx0,hx,d2]
    have hsk:skipB s (x::l)=false:=d2
    rw [hsk]
    refine ⟨rfl,?_,Save.refl _ _ _⟩
    exact ⟨_,h0⟩
end
end Go.Proofs.YtngflmjncplkaaaGreatDoor
