/-
  Lemmas for the claim.
-/
import Derived.Test.YtfdecdnmooaegaaGreatDoorRd2
set_option linter.all false
set_option maxHeartbeats 4000000
set_option maxRecDepth 100000
namespace Go.Proofs.YtfdecdnmooaegaaGreatDoor
open Sw
def n134 (t0 t1:Value) (R:RT) (w:World):Prop :=
 callK Pg 116 #[t0,t1] (panK R) w fun t7 w =>
 opV Pg (binS .geq 3 true t7 (.int .i64 0)) (panK R) w fun t8 w =>
 R (.returned t8) w
theorem n134s {t0 t1:Value} {R:RT} {w:World} (h:n134 t0 t1 R w):Calls Pg 99 #[t0,t1] w R:=by
 refine yD Tryz.func99 ?_
 refine zs<|zr<|zm<|zn<|zk<|zs<|zr<|zm<|zm<|yc h c116 fun _ w h=>yb h fun _ w h=>zm<|zn<|zk<|sim_ret ?_
 exact body_ret1 rfl rfl h
def n60 (t0 t1:Value) (R:RT) (w:World):Prop :=
 opV Pg (Instr.box 113 t0) (panK R) w fun t2 w =>
 opV Pg (Instr.fieldAt 113 t2 0) (panK R) w fun t4 w =>
 opV Pg (Instr.loadAt 9 t4) (panK R) w fun t5 w =>
 opV Pg (Instr.loadAt 9 t1) (panK R) w fun t6 w =>
 opV Pg (binS .eql 9 false t5 t6) (panK R) w fun t7 w =>
 R (.returned t7) w
theorem n60s {t0 t1:Value} {R:RT} {w:World} (h:n60 t0 t1 R w):Calls Pg 100 #[t0,t1] w R:=by
 refine yD Tryz.func100 ?_
 refine zs<|zr<|yv h fun _ w h=>zm<|zn<|zk<|zs<|zr<|yv h fun _ w h=>yv h fun _ w h=>yv h fun _ w h=>yb h fun _ w h=>zm<|zn<|zk ?_
 exact sim_ret<|body_ret1 rfl rfl h
def n84c1 (t0 t1 t3:Value) (K1:World→Prop) (R:RT) (w:World):Prop :=
 opV Pg (Instr.typeAssert t3 20 92 true) (panK R) w fun t8 w =>
 opV Pg (Instr.extract t8 0) (panK R) w fun t9 w =>
 opV Pg (Instr.extract t8 1) (panK R) w fun t10 w =>
 opU Pg (Instr.storeAt 92 t0 t9) (panK R) w fun w =>
 opU Pg (Instr.storeAt 4 t1 t10) (panK R) w fun w =>
 opV Pg (Instr.loadAt 4 t1) (panK R) w fun t11 w =>
 opV Pg (Op.unary .not t11) (panK R) w fun t12 w =>
 condP t12 (
 opV Pg (Instr.panic t3) (panK R) w fun _ w =>
 False) (
 K1 w)
def n84 (t0 t1 t3:Value) (R:RT) (w:World):Prop :=
 opV Pg (binS .neq 20 true t3 .nilIface) (panK R) w fun t5 w =>
 joinK (fun (w:World) =>
 R (.returned (.tuple #[])) w) fun K1 =>
 condP t5 (
 n84c1 t0 t1 t3 K1 R w) (
 K1 w)
theorem n84s {t0 t1:Value} {u:FrameMode} {R:Ending→FrameMode→World→Prop} {w:World} (h:n84 t0 t1 (Sw.recM u).1 (fun e w=>R e (Sw.recM u).2 w) w):CallsDIn Fence.wide 0 Pg 104 #[t0,t1] u w R:=by
 refine calls_of_denR (args:=[t0,t1]) (d:=3) Tryz.func104 rfl (Nat.le_of_ble_eq_true rfl) rfl rfl rfl rfl ?_
 generalize (recM u).1=t3 at h ⊢
 generalize hR:(fun e w=>R e (recM u).2 w)=R' at h ⊢
 clear hR
 revert h
 generalize R'=R
 intro h
 unfold n84 at h
 refine zm<|zn<|zs<|zr<|zm<|yb h fun _ w h=>zn<|zk<|yJ0 [6,7,8,9,10,11,12,13] h (fun _ _ hkK1 h=>?_) fun σ w h=>?_
 · refine yC h (fun h=>?_) fun h=>?_
   · refine zs<|zr<|zm<|yv h fun _ w h=>zm<|yv h fun _ w h=>yv h fun _ w h=>yu h fun w h=>yu h fun w h=>zn<|zk<|zs<|zr<|yv h fun _ w h=>yv h fun _ w h=>?_
     refine zn<|zk<|yC h (fun h=>zr<|zm<|yv h fun _ w h=>zn<|h.elim) fun h=>sim_skip<|zk ?_
     exact zt hkK1 h
   refine sim_skip<|zk ?_
   exact zt hkK1 h
 exact body_normal<|body_ret0 rfl h
def n78c1 (t0 t2:Value) (C1:World→Prop) (R:RT) (w:World):Prop :=
 qN Pg C1 (nilN t0) fun t9 =>
 qV Pg C1 (Instr.fieldAt 175 t9 3) fun t10 =>
 qV Pg C1 (Instr.loadAt 3 t10) fun t11 =>
 qN Pg C1 (nilN t0) fun t13 =>
 qV Pg C1 (Instr.fieldAt 175 t13 4) fun t14 =>
 qV Pg C1 (Instr.loadAt 3 t14) fun t15 =>
 qV Pg C1 (Instr.build 92 #[(0,t11),(1,t15),(2,t2)]) fun t17 =>
 qV Pg C1 (Instr.makeInterface 92 t17) fun t18 =>
 opV Pg (Instr.panic t18) (panK R) w fun _ w =>
 False
def n78 (t0 t1 t2:Value) (R:RT) (w:World):Prop :=
 opV Pg (Op.unary .not t1) (panK R) w fun t7 w =>
 condP t7 (
 drawK w fun C1 w =>
 n78c1 t0 t2 C1 R w) (
 R (.returned (.tuple #[])) w)
theorem n78s {t0 t1 t2:Value} {R:RT} {w:World} (h:n78 t0 t1 t2 R w):Calls Pg 105 #[t0,t1,t2] w R:=by
 refine yD Tryz.func105 ?_
 refine zs<|zr<|zm<|yv h fun _ w h=>zn<|zk<|yC h (fun h=>?_) fun h=>?_
 · refine yh [8,9,10,11,12,13,14,15,16,17,18] h fun C hC h=>yw 0 hC ?_
   refine yn 1 hC h fun _ h=>?_
   refine ye 2 hC h fun _ h=>?_
   refine ye 3 hC h fun _ h=>?_
   refine yw 4 hC ?_
   refine yn 5 hC h fun _ h=>?_
   refine ye 6 hC h fun _ h=>?_
   refine ye 7 hC h fun _ h=>?_
   refine yw 8 hC ?_
   refine ye 9 hC h fun _ h=>?_
   refine ye 10 hC h fun _ h=>?_
   refine yo 11 ?_
   exact yv h fun _ w h=>zn<|h.elim
 exact sim_skip<|body_normal<|body_ret0 rfl h
def n117c1 (t0 t11 t15:Value) (R:RT) (w:World):Prop :=
 pickK t11 t15 (.bool false) fun t16 =>
 joinK (fun (t22:Value) (w:World) =>
 pickK t16 t22 (.bool false) fun t23 =>
 R (.returned t23) w) fun K2 =>
 guardP t16 true (
 opV Pg (Go.convert 9 126 t0) (panK R) w fun t19 w =>
 callK Pg 125 #[t19,(.func (.func 121) #[] #[])] (panK R) w fun t21 w =>
 opV Pg (Op.unary .not t21) (panK R) w fun t22 w =>
 K2 t22 w) (
 K2 undef w)
def n117c2 (t0 t11:Value) (R:RT) (w:World):Prop :=
 joinK (fun (t15:Value) (w:World) =>
 n117c1 t0 t11 t15 R w) fun K1 =>
 guardP t11 true (
 opV Pg (Instr.index 9 t0 (.int .i64 0)) (panK R) w fun t14 w =>
 callK Pg 122 #[t14] (panK R) w fun t15 w =>
 K1 t15 w) (
 K1 undef w)
def n117 (t0:Value) (R:RT) (w:World):Prop :=
 opV Pg (Builtin.len_ #[9] 3 #[t0]) (panK R) w fun t5 w =>
 opV Pg (binS .geq 3 true t5 (.int .i64 1)) (panK R) w fun t6 w =>
 opV Pg (Builtin.len_ #[9] 3 #[t0]) (panK R) w fun t8 w =>
 opV Pg (binS .leq 3 true t8 (.int .i64 32)) (panK R) w fun t9 w =>
 opV Pg (Instr.buildSlice 75 2 #[(0,t6),(1,t9)]) (panK R) w fun t10 w =>
 callK Pg 124 #[t10] (panK R) w fun t11 w =>
 n117c2 t0 t11 R w
theorem n117s {t0:Value} {R:RT} {w:World} (h:n117 t0 R w):Calls Pg 106 #[t0] w R:=by
 refine yD Tryz.func106 ?_
 refine zs<|zr<|zm<|zn<|zk<|zs<|zr<|zm<|zn<|zk<|zs<|sim_regionG<|yG 9<|zm<|yx h fun _ w h=>?_
 refine yb h fun _ w h=>zm<|yx h fun _ w h=>yb h fun _ w h=>yS h fun _ w h=>yc h c124 fun _ w h=>zm<|zn<|yg1 3 8 true [13,14,15] 15 h (fun _ T hT h=>?_) fun σ w h=>?_
 · refine zm<|yv h fun _ w h=>yc h c122 fun _ w h=>zn ?_
   exact zt hT h
 refine yG 2<|yp h fun _ h=>zm<|zn<|yg1 5 13 true [18,19,20,21,22] 22 h (fun _ T hT h=>?_) fun σ w h=>?_
 · refine zm<|yv h fun _ w h=>zm<|yc h c125 fun _ w h=>yv h fun _ w h=>zn ?_
   exact zt hT h
 exact yG 2<|yp h fun _ h=>zm<|zn<|sim_end<|zk<|sim_ret<|body_ret1 rfl rfl h
def n79c1 (t6 t52 t64 t68:Value) (next6:KV) (ds:List Deferred) (R:RT) (w:World):Prop :=
 pickK t64 t68 (.bool false) fun t69 =>
 opU Pg (Instr.storeAt 4 t6 t69) (outQ Pg ds [] R) w fun w =>
 opV Pg (binS .add 3 true t52 (.int .i64 1)) (outQ Pg ds [] R) w fun t70 w =>
 next6 t70 w
def n79c2 (t6 t8 t52:Value) (next6:KV) (ds:List Deferred) (R:RT) (w:World):Prop :=
 opV Pg (Instr.loadAt 4 t6) (outQ Pg ds [] R) w fun t64 w =>
 joinK (fun (t68:Value) (w:World) =>
 n79c1 t6 t52 t64 t68 next6 ds R w) fun K7 =>
 guardP t64 true (
 opV Pg (Instr.fieldAt 71 t8 4) (outQ Pg ds [] R) w fun t66 w =>
 opV Pg (Instr.loadAt 4 t66) (outQ Pg ds [] R) w fun t67 w =>
 opV Pg (Op.unary .not t67) (outQ Pg ds [] R) w fun t68 w =>
 K7 t68 w) (
 K7 undef w)
def n79c3 (t2 t6 t76:Value) (Kr8:World→Prop) (Qr8:List PanicEntry→World→Prop) (R:RT) (w:World):Prop :=
 opV Pg (Instr.loadAt 4 t6) Qr8 w fun t85 w =>
 joinK (fun (t92:Value) (w:World) =>
 pickK t85 t92 (.bool false) fun t93 =>
 opU Pg (Instr.storeAt 4 t6 t93) Qr8 w fun w =>
 Kr8 w) fun K11 =>
 guardP t85 true (
 opV Pg (Instr.loadAt 151 t2) Qr8 w fun t87 w =>
 opN Pg (nilN t87) Qr8 w fun t88 w =>
 opV Pg (Instr.fieldAt 175 t88 2) Qr8 w fun t89 w =>
 opV Pg (Instr.loadAt 99 t89) Qr8 w fun t90 w =>
 opV Pg (Instr.lookup 99 t90 t76 false) Qr8 w fun t92 w =>
 K11 t92 w) (
 K11 undef w)
def n79c4 (t2 t6 t9 t76:Value) (C9:World→Prop) (Kr8:World→Prop) (Qr8:List PanicEntry→World→Prop) (R:RT) (w:World):Prop :=
 qV Pg C9 (Instr.loadAt 3 t9) fun t77 =>
 qV Pg C9 (Instr.loadAt 151 t2) fun t78 =>
 qN Pg C9 (nilN t78) fun t79 =>
 qV Pg C9 (Instr.fieldAt 175 t79 1) fun t80 =>
 qV Pg C9 (Instr.loadAt 59 t80) fun t81 =>
 qV Pg C9 (Instr.lookup 59 t81 t76 false) fun t83 =>
 qV Pg C9 (Builtin.max_ #[3,3] 3 #[t77,t83]) fun t84 =>
 opU Pg (Instr.storeAt 3 t9 t84) Qr8 w fun w =>
 turnK w fun C10 w =>
 n79c3 t2 t6 t76 Kr8 Qr8 R w
def n79c5 (t2 t9:Value) (ds:List Deferred) (R:RT) (w:World):Prop :=
 opV Pg (Instr.loadAt 151 t2) (outQ Pg ds [] R) w fun t113 w =>
 opV Pg (Instr.loadAt 3 t9) (outQ Pg ds [] R) w fun t114 w =>
 opV Pg (binS .lss 3 true t114 (.int .i64 16)) (outQ Pg ds [] R) w fun t115 w =>
 callK Pg 105 #[t113,t115,(.int .i64 10)] (outQ Pg ds [] R) w fun t116 w =>
 outX Pg ds [] R w
def n79c6 (t2 t9 t103 t108 t111:Value) (C12:World→Prop) (ds:List Deferred) (R:RT) (w:World):Prop :=
 qV Pg C12 (Instr.extract t111 1) fun t112 =>
 opU Pg (Instr.entryStore 99 t103 t112 t108) (outQ Pg ds [] R) w fun w =>
 turnK w fun C13 w =>
 n79c5 t2 t9 ds R w
def n79c7 (t2 t9 t97 t103 t105 t107 t108 t109:Value) (C12:World→Prop) (ds:List Deferred) (R:RT) (w:World):Prop :=
 qV Pg C12 (Instr.extract t109 1) fun t110 =>
 opU Pg (Instr.entryStore 59 t97 t110 t107) (outQ Pg ds [] R) w fun w =>
 C12 w∧(
 opV Pg (Instr.mapEntry 99 t103 t105) (outQ Pg ds [] R) w fun t111 w =>
 C12 w∧(
 n79c6 t2 t9 t103 t108 t111 C12 ds R w))
def n79c8 (t2 t3 t6 t9:Value) (C12:World→Prop) (ds:List Deferred) (R:RT) (w:World):Prop :=
 qV Pg C12 (Instr.loadAt 151 t2) fun t94 =>
 qN Pg C12 (nilN t94) fun t95 =>
 qV Pg C12 (Instr.fieldAt 175 t95 1) fun t96 =>
 qV Pg C12 (Instr.loadAt 59 t96) fun t97 =>
 qV Pg C12 (Instr.fieldAt 53 t3 0) fun t98 =>
 qV Pg C12 (Instr.loadAt 9 t98) fun t99 =>
 qV Pg C12 (Instr.loadAt 151 t2) fun t100 =>
 qN Pg C12 (nilN t100) fun t101 =>
 qV Pg C12 (Instr.fieldAt 175 t101 2) fun t102 =>
 qV Pg C12 (Instr.loadAt 99 t102) fun t103 =>
 qV Pg C12 (Instr.fieldAt 53 t3 0) fun t104 =>
 qV Pg C12 (Instr.loadAt 9 t104) fun t105 =>
 qV Pg C12 (Instr.loadAt 3 t9) fun t106 =>
 qV Pg C12 (binS .add 3 true t106 (.int .i64 1)) fun t107 =>
 qV Pg C12 (Instr.loadAt 4 t6) fun t108 =>
 opV Pg (Instr.mapEntry 59 t97 t99) (outQ Pg ds [] R) w fun t109 w =>
 C12 w∧(
 n79c7 t2 t9 t97 t103 t105 t107 t108 t109 C12 ds R w)
def n79c9 (t2 t3 t6 t9 t75:Value) (ds:List Deferred) (R:RT) (w:World):Prop :=
 rangeN Pg t75 ds (fun l8 t76 w Kr8 Xr8 Qr8 =>
 busyK l8 w fun w =>
 drawK w fun C9 w =>
 n79c4 t2 t6 t9 t76 C9 Kr8 Qr8 R w) (fun ch ds w=>outQ Pg ds [] R ch w) w (fun ds w =>
 drawK w fun C12 w =>
 n79c8 t2 t3 t6 t9 C12 ds R w) []
def n79c10 (t2 t3 t6:Value) (ds:List Deferred) (R:RT) (w:World):Prop :=
 opV Pg (Instr.loadAt 151 t2) (outQ Pg ds [] R) w fun t71 w =>
 opN Pg (nilN t71) (outQ Pg ds [] R) w fun t72 w =>
 opV Pg (Instr.fieldAt 175 t72 4) (outQ Pg ds [] R) w fun t73 w =>
 opU Pg (Instr.storeAt 3 t73 (.int .i64 (-1))) (outQ Pg ds [] R) w fun w =>
 opV Pg (Instr.alloc 3 true (.tuple #[])) (outQ Pg ds [] R) w fun t9 w =>
 opU Pg (Instr.storeAt 3 t9 (.int .i64 0)) (outQ Pg ds [] R) w fun w =>
 opV Pg (Instr.loadAt 53 t3) (outQ Pg ds [] R) w fun t74 w =>
 callK Pg 75 #[t74] (outQ Pg ds [] R) w fun t75 w =>
 n79c9 t2 t3 t6 t9 t75 ds R w
def n79c11 (t2 t6 t50 t52:Value) (next6:KV) (ds:List Deferred) (R:RT) (w:World):Prop :=
 opV Pg (Instr.indexAt 51 t50 t52) (outQ Pg ds [] R) w fun t55 w =>
 opV Pg (Instr.loadAt 71 t55) (outQ Pg ds [] R) w fun t56 w =>
 opV Pg (Instr.alloc 71 true (.tuple #[])) (outQ Pg ds [] R) w fun t8 w =>
 opU Pg (Instr.storeAt 71 t8 t56) (outQ Pg ds [] R) w fun w =>
 opV Pg (Instr.loadAt 151 t2) (outQ Pg ds [] R) w fun t57 w =>
 opN Pg (nilN t57) (outQ Pg ds [] R) w fun t59 w =>
 opV Pg (Instr.fieldAt 175 t59 4) (outQ Pg ds [] R) w fun t60 w =>
 opU Pg (Instr.storeAt 3 t60 t52) (outQ Pg ds [] R) w fun w =>
 opV Pg (Instr.loadAt 151 t2) (outQ Pg ds [] R) w fun t61 w =>
 opV Pg (Instr.loadAt 71 t8) (outQ Pg ds [] R) w fun t62 w =>
 callK Pg 126 #[t61,t62] (outQ Pg ds [] R) w fun t63 w =>
 n79c2 t6 t8 t52 next6 ds R w
def n79c12 (t2 t3 t6 t50 t51 t52:Value) (next6:KV) (ds:List Deferred) (R:RT) (w:World):Prop :=
 opV Pg (binS .lss 3 false t52 t51) (outQ Pg ds [] R) w fun t53 w =>
 condP t53 (
 n79c11 t2 t6 t50 t52 next6 ds R w) (
 n79c10 t2 t3 t6 ds R w)
def n79c13 (t2 t3:Value) (ds:List Deferred) (R:RT) (w:World):Prop :=
 opV Pg (Instr.alloc 4 true (.tuple #[])) (outQ Pg ds [] R) w fun t6 w =>
 opU Pg (Instr.storeAt 4 t6 (.bool true)) (outQ Pg ds [] R) w fun w =>
 opV Pg (Instr.fieldAt 53 t3 1) (outQ Pg ds [] R) w fun t49 w =>
 opV Pg (Instr.loadAt 51 t49) (outQ Pg ds [] R) w fun t50 w =>
 opV Pg (Builtin.len_ #[51] 3 #[t50]) (outQ Pg ds [] R) w fun t51 w =>
 loop1 (fun t52 w next6 =>
 n79c12 t2 t3 t6 t50 t51 t52 next6 ds R w) (.int .i64 0) w
def n79c14 (t2 t3:Value) (ds:List Deferred) (R:RT) (w:World):Prop :=
 opV Pg (Instr.loadAt 151 t2) (outQ Pg ds [] R) w fun t37 w =>
 opV Pg (Instr.fieldAt 53 t3 1) (outQ Pg ds [] R) w fun t38 w =>
 opV Pg (Instr.loadAt 51 t38) (outQ Pg ds [] R) w fun t39 w =>
 opV Pg (Builtin.len_ #[51] 3 #[t39]) (outQ Pg ds [] R) w fun t40 w =>
 opV Pg (binS .geq 3 true t40 (.int .i64 1)) (outQ Pg ds [] R) w fun t41 w =>
 joinK (fun (t46:Value) (w:World) =>
 pickK t41 t46 (.bool false) fun t47 =>
 callK Pg 105 #[t37,t47,(.int .i64 3)] (outQ Pg ds [] R) w fun t48 w =>
 n79c13 t2 t3 ds R w) fun K5 =>
 guardP t41 true (
 opV Pg (Instr.fieldAt 53 t3 1) (outQ Pg ds [] R) w fun t43 w =>
 opV Pg (Instr.loadAt 51 t43) (outQ Pg ds [] R) w fun t44 w =>
 opV Pg (Builtin.len_ #[51] 3 #[t44]) (outQ Pg ds [] R) w fun t45 w =>
 opV Pg (binS .leq 3 true t45 (.int .i64 40)) (outQ Pg ds [] R) w fun t46 w =>
 K5 t46 w) (
 K5 undef w)
def n79c15 (t2 t3:Value) (C4:World→Prop) (ds:List Deferred) (R:RT) (w:World):Prop :=
 qV Pg C4 (Instr.loadAt 151 t2) fun t24 =>
 qN Pg C4 (nilN t24) fun t25 =>
 qV Pg C4 (Instr.fieldAt 175 t25 1) fun t26 =>
 qV Pg C4 (Instr.loadAt 59 t26) fun t27 =>
 qV Pg C4 (Instr.fieldAt 53 t3 0) fun t28 =>
 qV Pg C4 (Instr.loadAt 9 t28) fun t29 =>
 qV Pg C4 (Instr.lookup 59 t27 t29 true) fun t30 =>
 qV Pg C4 (Instr.extract t30 0) fun t31 =>
 qV Pg C4 (Instr.extract t30 1) fun t32 =>
 opV Pg (Instr.loadAt 151 t2) (outQ Pg ds [] R) w fun t33 w =>
 opV Pg (Op.unary .not t32) (outQ Pg ds [] R) w fun t35 w =>
 callK Pg 105 #[t33,t35,(.int .i64 2)] (outQ Pg ds [] R) w fun t36 w =>
 n79c14 t2 t3 ds R w
def n79c16 (t2 t3:Value) (C3:World→Prop) (ds:List Deferred) (R:RT) (w:World):Prop :=
 qV Pg C3 (Instr.loadAt 151 t2) fun t18 =>
 qV Pg C3 (Instr.fieldAt 53 t3 0) fun t19 =>
 qV Pg C3 (Instr.loadAt 9 t19) fun t20 =>
 callK Pg 106 #[t20] (outQ Pg ds [] R) w fun t21 w =>
 C3 w∧(
 callK Pg 105 #[t18,t21,(.int .i64 1)] (outQ Pg ds [] R) w fun t22 w =>
 C3 w∧(
 drawK w fun C4 w =>
 n79c15 t2 t3 C4 ds R w))
def n79c17 (t2 t3 t12:Value) (C1:World→Prop) (ds:List Deferred) (R:RT) (w:World):Prop :=
 qN Pg C1 (nilN t12) fun t16 =>
 qV Pg C1 (Instr.fieldAt 175 t16 4) fun t17 =>
 opU Pg (Instr.storeAt 3 t17 (.int .i64 (-1))) (outQ Pg ds [] R) w fun w =>
 turnK w fun C2 w =>
 drawK w fun C3 w =>
 n79c16 t2 t3 C3 ds R w
def n79c18 (t2 t3:Value) (C1:World→Prop) (ds:List Deferred) (R:RT) (w:World):Prop :=
 qV Pg C1 (Instr.loadAt 151 t2) fun t11 =>
 qV Pg C1 (Instr.loadAt 151 t2) fun t12 =>
 qV Pg C1 (Instr.loadAt 53 t3) fun t13 =>
 qN Pg C1 (nilN t11) fun t14 =>
 qV Pg C1 (Instr.fieldAt 175 t14 5) fun t15 =>
 opU Pg (Instr.storeAt 53 t15 t13) (outQ Pg ds [] R) w fun w =>
 C1 w∧(
 n79c17 t2 t3 t12 C1 ds R w)
def n79 (t0 t1:Value) (R:RT) (w:World):Prop :=
 (fun (ds:List Deferred) =>
 opV Pg (Instr.box 151 t0) (outQ Pg ds [] R) w fun t2 w =>
 opV Pg (Instr.box 53 t1) (outQ Pg ds [] R) w fun t3 w =>
 drawK w fun C1 w =>
 n79c18 t2 t3 C1 ds R w) []
set_option maxHeartbeats 40000000 in
theorem n79s {t0 t1:Value} {R:RT} {w:World} (h:n79 t0 t1 R w):Calls Pg 107 #[t0,t1] w R:=by
 refine yE Tryz.func107 ?_
 unfold n79 at h
 dsimp only at h
 refine zs<|zr<|yv h fun _ w h=>yv h fun _ w h=>zn<|zk<|zs<|yh [11,12,13,14,15,16,17] h fun C hC h=>ye 0 hC h fun _ h=>?_
 refine ye 1 hC h fun _ h=>?_
 refine ye 2 hC h fun _ h=>?_
 refine yn 3 hC h fun _ h=>?_
 refine ye 4 hC h fun _ h=>?_
 refine yo 5 ?_
 refine yu h fun w h=>zn ?_
 obtain ⟨hC,h⟩:=h
 refine ⟨hC,?_⟩
 refine yn 6 hC h fun _ h=>?_
 refine ye 7 hC h fun _ h=>?_
 refine yq 8 2 ?_
 refine yu h fun w h=>zn ?_
 obtain ⟨C2,hC,h⟩:=h
 refine ⟨C2,hC,?_⟩
 refine yz<|zk<|zs<|yh [18,19,20,21,22] h fun C hC h=>ye 0 hC h fun _ h=>?_
 refine ye 1 hC h fun _ h=>?_
 refine ye 2 hC h fun _ h=>?_
 refine yo 3 ?_
 refine yc h c106 fun _ w h=>zn ?_
 obtain ⟨hC,h⟩:=h
 refine ⟨hC,?_⟩
 refine yo 4 ?_
 refine yc h c105 fun _ w h=>zn ?_
 obtain ⟨hC,h⟩:=h
 refine ⟨hC,?_⟩
 refine yz<|zk<|zs<|yh [4,5,23,24,25,26,27,28,29,30,31,32] h fun C hC h=>ye 0 hC h fun _ h=>?_
 refine yn 1 hC h fun _ h=>?_
 refine ye 2 hC h fun _ h=>?_
 refine ye 3 hC h fun _ h=>?_
 refine ye 4 hC h fun _ h=>?_
 refine ye 5 hC h fun _ h=>?_
 refine ye 6 hC h fun _ h=>?_
 refine yw 7 hC ?_
 refine ye 8 hC h fun _ h=>?_
 refine ye 9 hC h fun _ h=>?_
 refine yw 10 hC ?_
 refine yw 11 hC ?_
 refine yz<|zk<|zs<|zr<|yv h fun _ w h=>zm<|yv h fun _ w h=>yc h c105 fun _ w h=>zn<|zk<|zs<|sim_regionG<|yG 6<|yv h fun _ w h=>yv h fun _ w h=>?_
 refine yv h fun _ w h=>yx h fun _ w h=>yb h fun _ w h=>zm<|zn<|yg1 4 5 true [43,44,45,46] 46 h (fun _ T hT h=>?_) fun σ w h=>?_
 · refine yv h fun _ w h=>yv h fun _ w h=>yx h fun _ w h=>yb h fun _ w h=>zn ?_
   exact zt hT h
 refine yG 2<|yp h fun _ h=>yc h c105 fun _ w h=>zn<|sim_end<|zk<|zs<|zr<|yv h fun _ w h=>yu h fun w h=>zn<|zk<|zs<|zs<|zr ?_
 refine yv h fun _ w h=>yv h fun _ w h=>yx h fun _ w h=>zm<|zn<|zk<|sim_block<|yl1 [7,8,52,53,54,55,56,57,58,59,60,61,62,63,64,65,66,67,68,69,70] 52 h fun σ w next h=>zs<|zr<|yb h fun _ w h=>zn<|zk<|zs<|yC h (fun h=>?_) fun h=>?_
 · refine sim_skip<|zk<|zs<|sim_block<|zs<|zr<|zm<|yv h fun _ w h=>yv h fun _ w h=>yv h fun _ w h=>zm<|yu h fun w h=>zn<|zk<|zs ?_
   refine zr<|yv h fun _ w h=>zm<|yN h fun _ w h=>yv h fun _ w h=>yu h fun w h=>zn<|zk<|zs<|zr<|yv h fun _ w h=>yv h fun _ w h=>yc h c126 fun _ w h=>zn<|zk ?_
   refine sim_regionG<|yG 2<|yv h fun _ w h=>zm<|zn<|yg1 3 1 true [66,67,68] 68 h (fun _ T hT h=>?_) fun σ w h=>?_
   · refine yv h fun _ w h=>yv h fun _ w h=>yv h fun _ w h=>zn ?_
     exact zt hT h
   exact yG 2<|yp h fun _ h=>yu h fun w h=>zn<|sim_end<|sim_block_normal<|zk<|zr<|yb h fun _ w h=>zm<|zn<|zk<|⟨rfl,h⟩
 refine sim_exit<|sim_then_exit<|sim_then_exit<|sim_block_hit<|zk<|zs<|zr<|yv h fun _ w h=>yN h fun _ w h=>yv h fun _ w h=>yu h fun w h=>zn<|zk<|zs<|zr ?_
 refine yv h fun _ w h=>yu h fun w h=>zn<|zk<|zs<|zs<|zr<|yv h fun _ w h=>yc h c75 fun _ w h=>zn<|zk<|sim_block<|sim_range [] h rfl (fun l8 t76 w Kr8 Xr8 Qr8 h=>?_) (fun ds w h=>?_) (fun c ds w h=>?_) (fun ch ds w h=>outQ_of rfl h)
 · refine zr<|zm<|zn<|zk ?_
   obtain ⟨hr,h⟩:=h
   refine ⟨rfl,hr,fun w hb=>?_⟩
   have h:=h w hb
   refine sim_block<|zs<|yh [77,78,79,80,81,82,83,84] h fun C hC h=>ye 0 hC h fun _ h=>?_
   refine ye 1 hC h fun _ h=>?_
   refine yn 2 hC h fun _ h=>?_
   refine ye 3 hC h fun _ h=>?_
   refine ye 4 hC h fun _ h=>?_
   refine yw 5 hC ?_
   refine ye 6 hC h fun _ h=>?_
   refine ye 7 hC h fun _ h=>?_
   refine yq 8 1 ?_
   refine yu h fun w h=>zn ?_
   obtain ⟨C10,hC,h⟩:=h
   refine ⟨C10,hC,?_⟩
   refine yz<|zk<|sim_regionG<|yG 2<|yv h fun _ w h=>zm<|zn<|yg1 6 1 true [87,88,89,90,91,92] 92 h (fun _ T hT h=>?_) fun σ w h=>?_
   · refine yv h fun _ w h=>yN h fun _ w h=>yv h fun _ w h=>yv h fun _ w h=>zm<|yv h fun _ w h=>zn ?_
     exact zt hT h
   exact yG 2<|yp h fun _ h=>yu h fun w h=>zn<|sim_end<|sim_block_normal<|⟨rfl,h⟩
 · refine sim_block_normal<|zk<|zs<|yh [94,95,96,97,98,99,100,101,102,103,104,105,106,107,108,109,110,111,112] h fun C hC h=>ye 0 hC h fun _ h=>?_
   refine yn 1 hC h fun _ h=>?_
   refine ye 2 hC h fun _ h=>?_
   refine ye 3 hC h fun _ h=>?_
   refine ye 4 hC h fun _ h=>?_
   refine ye 5 hC h fun _ h=>?_
   refine ye 6 hC h fun _ h=>?_
   refine yn 7 hC h fun _ h=>?_
   refine ye 8 hC h fun _ h=>?_
   refine ye 9 hC h fun _ h=>?_
   refine ye 10 hC h fun _ h=>?_
   refine ye 11 hC h fun _ h=>?_
   refine ye 12 hC h fun _ h=>?_
   refine ye 13 hC h fun _ h=>?_
   refine ye 14 hC h fun _ h=>?_
   refine yo 15 ?_
   refine yv h fun _ w h=>zn ?_
   obtain ⟨hC,h⟩:=h
   refine ⟨hC,?_⟩
   refine ye 16 hC h fun _ h=>?_
   refine yo 17 ?_
   refine yu h fun w h=>zn ?_
   obtain ⟨hC,h⟩:=h
   refine ⟨hC,?_⟩
   refine yo 18 ?_
   refine yv h fun _ w h=>zn ?_
   obtain ⟨hC,h⟩:=h
   refine ⟨hC,?_⟩
   refine ye 19 hC h fun _ h=>?_
   refine yq 20 1 ?_
   refine yu h fun w h=>zn ?_
   obtain ⟨C13,hC,h⟩:=h
   refine ⟨C13,hC,?_⟩
   exact yz<|zk<|zr<|yv h fun _ w h=>yv h fun _ w h=>yb h fun _ w h=>yc h c105 fun _ w h=>zn<|bodyM_normal<|bodyM_ret rfl h
 exact h.elim
def n8 (t0 t1:Value) (R:RT) (w:World):Prop :=
 opV Pg (Instr.box 71 t0) (panK R) w fun t2 w =>
 opV Pg (Instr.fieldAt 71 t2 2) (panK R) w fun t6 w =>
 opV Pg (Instr.loadAt 3 t6) (panK R) w fun t7 w =>
 opV Pg (binS .add 3 false t1 t7) (panK R) w fun t8 w =>
 R (.returned t8) w
theorem n8s {t0 t1:Value} {R:RT} {w:World} (h:n8 t0 t1 R w):Calls Pg 108 #[t0,t1] w R:=by
 refine yD Tryz.func108 ?_
 refine zs<|zr<|yv h fun _ w h=>zm<|zn<|zk<|zs<|zr<|zm<|yv h fun _ w h=>yv h fun _ w h=>yb h fun _ w h=>zm<|zn<|zk ?_
 exact sim_ret<|body_ret1 rfl rfl h
def n9 (t0 t1:Value) (R:RT) (w:World):Prop :=
 opV Pg (Instr.box 71 t0) (panK R) w fun t2 w =>
 opV Pg (Instr.fieldAt 71 t2 2) (panK R) w fun t6 w =>
 opV Pg (Instr.loadAt 3 t6) (panK R) w fun t7 w =>
 callK Pg 110 #[t1,t7] (panK R) w fun t8 w =>
 R (.returned t8) w
theorem n9s {t0 t1:Value} {R:RT} {w:World} (h:n9 t0 t1 R w):Calls Pg 109 #[t0,t1] w R:=by
 refine yD Tryz.func109 ?_
 refine zs<|zr<|yv h fun _ w h=>zm<|zn<|zk<|zs<|zr<|zm<|yv h fun _ w h=>yv h fun _ w h=>yc h c110 fun _ w h=>zm<|zn<|zk ?_
 exact sim_ret<|body_ret1 rfl rfl h
def n13 (t0 t1:Value) (R:RT) (w:World):Prop :=
 opV Pg (binS .add 3 false t0 t1) (panK R) w fun t7 w =>
 opV Pg (binS .sub 3 true t7 (.int .i64 1)) (panK R) w fun t8 w =>
 opV Pg (binS .quo 3 false t8 t1) (panK R) w fun t10 w =>
 opV Pg (binS .mul 3 false t10 t1) (panK R) w fun t12 w =>
 R (.returned t12) w
theorem n13s {t0 t1:Value} {R:RT} {w:World} (h:n13 t0 t1 R w):Calls Pg 110 #[t0,t1] w R:=by
 refine yD Tryz.func110 ?_
 refine zs<|zr<|zm<|zn<|zk<|zs<|zr<|zm<|zm<|yb h fun _ w h=>yb h fun _ w h=>zm<|yb h fun _ w h=>zm<|yb h fun _ w h=>?_
 exact zm<|zn<|zk<|sim_ret<|body_ret1 rfl rfl h
def n85c1 (t9:Value) (R:RT) (w:World):Prop :=
 opV Pg (Builtin.max_ #[3,3] 3 #[t9,(.int .i64 0)]) (panK R) w fun t11 w =>
 opV Pg (binS .geq 3 true t9 (.int .i64 0)) (panK R) w fun t13 w =>
 R (.returned (.tuple #[t11,t13])) w
def n85 (t0 t1:Value) (R:RT) (w:World):Prop :=
 callK Pg 115 #[t0,t1] (panK R) w fun t9 w =>
 n85c1 t9 R w
theorem n85s {t0 t1:Value} {R:RT} {w:World} (h:n85 t0 t1 R w):Calls Pg 111 #[t0,t1] w R:=by
 refine yD Tryz.func111 ?_
 refine zs<|zr<|zm<|zm<|zn<|zk<|zs<|zr<|zm<|zm<|yc h c115 fun _ w h=>zm<|zn<|zk<|zs ?_
 exact zr<|zm<|yx h fun _ w h=>zm<|yb h fun _ w h=>zm<|zm<|zn<|zk<|sim_ret<|body_ret2 rfl rfl rfl h
def n66 (t0 t1:Value) (R:RT) (w:World):Prop :=
 opV Pg (Instr.box 71 t0) (panK R) w fun t2 w =>
 opV Pg (Instr.fieldAt 71 t2 0) (panK R) w fun t4 w =>
 opV Pg (Instr.loadAt 9 t4) (panK R) w fun t5 w =>
 opV Pg (Instr.loadAt 9 t1) (panK R) w fun t6 w =>
 opV Pg (binS .eql 9 false t5 t6) (panK R) w fun t7 w =>
 R (.returned t7) w
theorem n66s {t0 t1:Value} {R:RT} {w:World} (h:n66 t0 t1 R w):Calls Pg 112 #[t0,t1] w R:=by
 refine yD Tryz.func112 ?_
 refine zs<|zr<|yv h fun _ w h=>zm<|zn<|zk<|zs<|zr<|yv h fun _ w h=>yv h fun _ w h=>yv h fun _ w h=>yb h fun _ w h=>zm<|zn<|zk ?_
 exact sim_ret<|body_ret1 rfl rfl h
def n147c1 (t0 t1 t8:Value) (next1:KV) (R:RT) (w:World):Prop :=
 opV Pg (Instr.indexAt 163 t0 t8) (panK R) w fun t14 w =>
 opV Pg (Instr.loadAt 26 t14) (panK R) w fun t15 w =>
 callV Pg t1 #[t15] (panK R) w fun t16 w =>
 condP t16 (
 R (.returned t8) w) (
 opV Pg (binS .add 3 true t8 (.int .i64 1)) (panK R) w fun t18 w =>
 next1 t18 w)
def n147 (t0 t1:Value) (R:RT) (w:World):Prop :=
 opV Pg (Builtin.len_ #[163] 3 #[t0]) (panK R) w fun t7 w =>
 loop1 (fun t8 w next1 =>
 opV Pg (binS .lss 3 false t8 t7) (panK R) w fun t9 w =>
 condP t9 (
 n147c1 t0 t1 t8 next1 R w) (
 R (.returned (.int .i64 (-1))) w)) (.int .i64 0) w
theorem n147s {t0 t1:Value} {R:RT} {w:World} (h:n147 t0 t1 R w):Calls Pg 113 #[t0,t1] w R:=by
 refine yD Tryz.func113 ?_
 refine zs<|zr<|zm<|zn<|zk<|zs<|zs<|zr<|zm<|yx h fun _ w h=>zm<|zn<|zk<|sim_block<|yl1 [4,5,8,9,10,11,12,13,14,15,16,17,18] 8 h fun σ w next h=>?_
 refine zs<|zr<|yb h fun _ w h=>zn<|zk<|zs<|yC h (fun h=>?_) fun h=>?_
 · refine sim_skip<|zk<|zs<|sim_block<|zs<|zr<|zm<|zm<|zn<|zk<|zs<|zr<|zm<|zm<|zm ?_
   refine yv h fun _ w h=>yv h fun _ w h=>yV h fun _ w h=>zn<|zk<|yC h (fun h=>zs<|zr<|zm<|zm<|zn<|zk<|sim_ret<|sim_block_ret<|sim_then_ret<|sim_then_ret<|sim_block_ret<|sim_then_ret<|body_ret1 rfl rfl h) fun h=>sim_skip<|sim_block_normal<|zk<|zr<|yb h fun _ w h=>zm<|zn<|zk ?_
   exact ⟨rfl,h⟩
 exact sim_exit<|sim_then_exit<|sim_then_exit<|sim_block_hit<|zk<|zs<|zr<|zm<|zn<|zk<|sim_ret<|body_ret1 rfl rfl h
def n148c1 (t0 t1 t8:Value) (next1:KV) (R:RT) (w:World):Prop :=
 opV Pg (Instr.indexAt 75 t0 t8) (panK R) w fun t14 w =>
 opV Pg (Instr.loadAt 4 t14) (panK R) w fun t15 w =>
 opV Pg (binS .eql 4 false t1 t15) (panK R) w fun t16 w =>
 condP t16 (
 R (.returned t8) w) (
 opV Pg (binS .add 3 true t8 (.int .i64 1)) (panK R) w fun t18 w =>
 next1 t18 w)
def n148 (t0 t1:Value) (R:RT) (w:World):Prop :=
 opV Pg (Builtin.len_ #[75] 3 #[t0]) (panK R) w fun t7 w =>
 loop1 (fun t8 w next1 =>
 opV Pg (binS .lss 3 false t8 t7) (panK R) w fun t9 w =>
 condP t9 (
 n148c1 t0 t1 t8 next1 R w) (
 R (.returned (.int .i64 (-1))) w)) (.int .i64 0) w
theorem n148s {t0 t1:Value} {R:RT} {w:World} (h:n148 t0 t1 R w):Calls Pg 138 #[t0,t1] w R:=by
 refine yD Tryz.func138 ?_
 refine zs<|zr<|zm<|zn<|zk<|zs<|zs<|zr<|zm<|yx h fun _ w h=>zm<|zn<|zk<|sim_block<|yl1 [4,5,8,9,10,11,12,13,14,15,16,17,18] 8 h fun σ w next h=>?_
 refine zs<|zr<|yb h fun _ w h=>zn<|zk<|zs<|yC h (fun h=>?_) fun h=>?_
 · refine sim_skip<|zk<|zs<|sim_block<|zs<|zr<|zm<|zm<|zn<|zk<|zs<|zr<|zm<|zm<|zm ?_
   refine yv h fun _ w h=>yv h fun _ w h=>yb h fun _ w h=>zn<|zk<|yC h (fun h=>zs<|zr<|zm<|zm<|zn<|zk<|sim_ret<|sim_block_ret<|sim_then_ret<|sim_then_ret<|sim_block_ret<|sim_then_ret<|body_ret1 rfl rfl h) fun h=>sim_skip<|sim_block_normal<|zk<|zr<|yb h fun _ w h=>zm<|zn<|zk ?_
   exact ⟨rfl,h⟩
 exact sim_exit<|sim_then_exit<|sim_then_exit<|sim_block_hit<|zk<|zs<|zr<|zm<|zn<|zk<|sim_ret<|body_ret1 rfl rfl h
def n88 (t0:Value) (R:RT) (w:World):Prop :=
 opN Pg (nilN t0) (panK R) w fun t6 w =>
 opV Pg (Instr.fieldAt 71 t6 2) (panK R) w fun t7 w =>
 opU Pg (Instr.storeAt 3 t7 (.int .i64 0)) (panK R) w fun w =>
 opN Pg (nilN t0) (panK R) w fun t8 w =>
 opV Pg (Instr.fieldAt 71 t8 3) (panK R) w fun t9 w =>
 opU Pg (Instr.storeAt 4 t9 (.bool false)) (panK R) w fun w =>
 opN Pg (nilN t0) (panK R) w fun t10 w =>
 opV Pg (Instr.fieldAt 71 t10 5) (panK R) w fun t11 w =>
 opU Pg (Instr.storeAt 3 t11 (.int .i64 0)) (panK R) w fun w =>
 opN Pg (nilN t0) (panK R) w fun t12 w =>
 opV Pg (Instr.fieldAt 71 t12 6) (panK R) w fun t13 w =>
 opU Pg (Instr.storeAt 3 t13 (.int .i64 0)) (panK R) w fun w =>
 R (.returned (.tuple #[])) w
theorem n88s {t0:Value} {R:RT} {w:World} (h:n88 t0 R w):Calls Pg 139 #[t0] w R:=by
 refine yD Tryz.func139 ?_
 refine zr<|zm<|zm<|zm<|zm<|yN h fun _ w h=>yv h fun _ w h=>yu h fun w h=>yN h fun _ w h=>yv h fun _ w h=>yu h fun w h=>yN h fun _ w h=>yv h fun _ w h=>yu h fun w h=>yN h fun _ w h=>?_
 exact yv h fun _ w h=>yu h fun w h=>zn<|body_normal<|body_ret0 rfl h
def n99c1 (t0 t3:Value) (C1:World→Prop) (R:RT) (w:World):Prop :=
 qV Pg C1 (Instr.fieldAt 71 t3 2) fun t8 =>
 qV Pg C1 (Instr.loadAt 3 t8) fun t9 =>
 qV Pg C1 (binS .shl 3 true (.int .i64 1) t9) fun t10 =>
 qV Pg C1 (binS .sub 3 true t10 (.int .i64 1)) fun t11 =>
 qV Pg C1 (Instr.fieldAt 71 t3 5) fun t12 =>
 qV Pg C1 (Instr.loadAt 3 t12) fun t13 =>
 qV Pg C1 (Instr.fieldAt 71 t3 6) fun t14 =>
 qV Pg C1 (Instr.loadAt 3 t14) fun t15 =>
 opV Pg (Instr.buildSlice 217 2 #[(0,t13),(1,t15)]) (panK R) w fun t16 w =>
 C1 w∧(
 callK Pg 142 #[t0,(.int .i64 0),t11,t16] (panK R) w fun t17 w =>
 C1 w∧(
 R (.returned (.tuple #[])) w))
def n99 (t0 t1:Value) (R:RT) (w:World):Prop :=
 opV Pg (Instr.box 71 t1) (panK R) w fun t3 w =>
 opV Pg (Instr.loadAt 71 t3) (panK R) w fun t5 w =>
 callK Pg 141 #[t0,t5] (panK R) w fun t6 w =>
 drawK w fun C1 w =>
 n99c1 t0 t3 C1 R w
theorem n99s {t0 t1:Value} {R:RT} {w:World} (h:n99 t0 t1 R w):Calls Pg 140 #[t0,t1] w R:=by
 refine yD Tryz.func140 ?_
 refine zs<|zr<|yv h fun _ w h=>zn<|zk<|zs<|zr<|zm<|yv h fun _ w h=>yc h c141 fun _ w h=>zn<|zk<|yh [7,8,9,10,11,12,13,14,15,16,17] h fun C hC h=>yw 0 hC ?_
 refine ye 1 hC h fun _ h=>?_
 refine ye 2 hC h fun _ h=>?_
 refine ye 3 hC h fun _ h=>?_
 refine ye 4 hC h fun _ h=>?_
 refine ye 5 hC h fun _ h=>?_
 refine ye 6 hC h fun _ h=>?_
 refine ye 7 hC h fun _ h=>?_
 refine ye 8 hC h fun _ h=>?_
 refine yo 9 ?_
 refine yS h fun _ w h=>zn ?_
 obtain ⟨hC,h⟩:=h
 refine ⟨hC,?_⟩
 refine yo 10 ?_
 refine yc h c142 fun _ w h=>zn ?_
 obtain ⟨hC,h⟩:=h
 refine ⟨hC,?_⟩
 exact yz<|body_normal<|body_ret0 rfl h
def n74c1 (t0 t12 t17 t26:Value) (R:RT) (w:World):Prop :=
 joinK (fun (t27:Value) (w:World) =>
 pickK t12 t27 (.bool false) fun t28 =>
 callK Pg 105 #[t0,t28,(.int .i64 6)] (panK R) w fun t29 w =>
 R (.returned (.tuple #[])) w) fun K6 =>
 guardP t12 true (
 pickK t17 (.bool true) t26 fun t27 =>
 K6 t27 w) (
 K6 undef w)
def n74c2 (t0 t3 t12 t17 t21:Value) (R:RT) (w:World):Prop :=
 joinK (fun (t25:Value) (w:World) =>
 joinK (fun (t26:Value) (w:World) =>
 n74c1 t0 t12 t17 t26 R w) fun K5 =>
 guardP t17 false (
 pickK t21 t25 (.bool false) fun t26 =>
 K5 t26 w) (
 K5 undef w)) fun K4 =>
 guardP t21 true (
 opV Pg (Instr.fieldAt 71 t3 2) (panK R) w fun t22 w =>
 opV Pg (Instr.loadAt 3 t22) (panK R) w fun t23 w =>
 opV Pg (binS .rem 3 true t23 (.int .i64 8)) (panK R) w fun t24 w =>
 opV Pg (binS .eql 3 true t24 (.int .i64 0)) (panK R) w fun t25 w =>
 K4 t25 w) (
 K4 undef w)
def n74c3 (t0 t3 t12 t17:Value) (R:RT) (w:World):Prop :=
 joinK (fun (t21:Value) (w:World) =>
 n74c2 t0 t3 t12 t17 t21 R w) fun K3 =>
 guardP t17 false (
 opV Pg (Instr.fieldAt 71 t3 2) (panK R) w fun t18 w =>
 opV Pg (Instr.loadAt 3 t18) (panK R) w fun t19 w =>
 opV Pg (binS .gtr 3 true t19 (.int .i64 8)) (panK R) w fun t20 w =>
 K3 t20 w) (
 K3 undef w)
def n74c4 (t0 t3 t7 t11:Value) (R:RT) (w:World):Prop :=
 pickK t7 t11 (.bool false) fun t12 =>
 joinK (fun (t17:Value) (w:World) =>
 n74c3 t0 t3 t12 t17 R w) fun K2 =>
 guardP t12 true (
 opV Pg (Instr.fieldAt 71 t3 3) (panK R) w fun t14 w =>
 opV Pg (Instr.loadAt 4 t14) (panK R) w fun t15 w =>
 opV Pg (Op.unary .not t15) (panK R) w fun t16 w =>
 K2 t16 w) (
 K2 undef w)
def n74 (t0 t1:Value) (R:RT) (w:World):Prop :=
 opV Pg (Instr.box 71 t1) (panK R) w fun t3 w =>
 opV Pg (Instr.fieldAt 71 t3 2) (panK R) w fun t5 w =>
 opV Pg (Instr.loadAt 3 t5) (panK R) w fun t6 w =>
 opV Pg (binS .geq 3 true t6 (.int .i64 1)) (panK R) w fun t7 w =>
 joinK (fun (t11:Value) (w:World) =>
 n74c4 t0 t3 t7 t11 R w) fun K1 =>
 guardP t7 true (
 opV Pg (Instr.fieldAt 71 t3 2) (panK R) w fun t9 w =>
 opV Pg (Instr.loadAt 3 t9) (panK R) w fun t10 w =>
 opV Pg (binS .leq 3 true t10 (.int .i64 32)) (panK R) w fun t11 w =>
 K1 t11 w) (
 K1 undef w)
theorem n74s {t0 t1:Value} {R:RT} {w:World} (h:n74 t0 t1 R w):Calls Pg 141 #[t0,t1] w R:=by
 refine yD Tryz.func141 ?_
 refine zs<|zr<|yv h fun _ w h=>zn<|zk<|sim_regionG<|yG 5<|zm<|yv h fun _ w h=>yv h fun _ w h=>yb h fun _ w h=>zm<|zn<|yg1 3 4 true [9,10,11] 11 h (fun _ T hT h=>?_) fun σ w h=>?_
 · refine yv h fun _ w h=>yv h fun _ w h=>yb h fun _ w h=>zn ?_
   exact zt hT h
 refine yG 2<|yp h fun _ h=>zm<|zn<|yg1 4 9 true [14,15,16,17] 17 h (fun _ T hT h=>?_) fun σ w h=>?_
 · refine yv h fun _ w h=>yv h fun _ w h=>yv h fun _ w h=>zm<|zn ?_
   exact zt hT h
 refine yg1 4 13 false [18,19,20,21] 21 h (fun _ T hT h=>?_) fun σ w h=>?_
 · refine yv h fun _ w h=>yv h fun _ w h=>yb h fun _ w h=>zm<|zn ?_
   exact zt hT h
 refine yg1 4 17 true [22,23,24,25] 25 h (fun _ T hT h=>?_) fun σ w h=>?_
 · refine yv h fun _ w h=>yv h fun _ w h=>yb h fun _ w h=>yb h fun _ w h=>zn ?_
   exact zt hT h
 refine yg1 1 13 false [26] 26 h (fun _ T hT h=>?_) fun σ w h=>?_
 · refine yp h fun _ h=>zn ?_
   exact zt hT h
 refine yg1 1 9 true [27] 27 h (fun _ T hT h=>?_) fun σ w h=>?_
 · refine yp h fun _ h=>zn ?_
   exact zt hT h
 exact yG 2<|yp h fun _ h=>yc h c105 fun _ w h=>zn<|sim_end<|body_normal<|body_ret0 rfl h
def n82c1 (t0 t12 t15 t19 t23:Value) (next1:KW) (R:RT) (w:World):Prop :=
 pickK t19 t23 (.bool false) fun t24 =>
 callK Pg 105 #[t0,t24,(.int .i64 7)] (panK R) w fun t25 w =>
 opV Pg (binS .add 3 true t12 (.int .i64 1)) (panK R) w fun t27 w =>
 next1 t15 t27 w
def n82c2 (t0 t1 t2 t3 t12:Value) (next1:KW) (R:RT) (w:World):Prop :=
 opV Pg (Instr.indexAt 217 t3 t12) (panK R) w fun t14 w =>
 opV Pg (Instr.loadAt 3 t14) (panK R) w fun t15 w =>
 opV Pg (binS .geq 3 false t15 t1) (panK R) w fun t19 w =>
 joinK (fun (t23:Value) (w:World) =>
 n82c1 t0 t12 t15 t19 t23 next1 R w) fun K2 =>
 guardP t19 true (
 opV Pg (binS .leq 3 false t15 t2) (panK R) w fun t23 w =>
 K2 t23 w) (
 K2 undef w)
def n82 (t0 t1 t2 t3:Value) (R:RT) (w:World):Prop :=
 opV Pg (Builtin.len_ #[217] 3 #[t3]) (panK R) w fun t11 w =>
 loop2 (fun t1 t12 w next1 =>
 opV Pg (binS .lss 3 false t12 t11) (panK R) w fun t13 w =>
 condP t13 (
 n82c2 t0 t1 t2 t3 t12 next1 R w) (
 R (.returned (.tuple #[])) w)) t1 (.int .i64 0) w
theorem n82s {t0 t1 t2 t3:Value} {R:RT} {w:World} (h:n82 t0 t1 t2 t3 R w):Calls Pg 142 #[t0,t1,t2,t3] w R:=by
 refine yD Tryz.func142 ?_
 refine zs<|zr<|zm<|yx h fun _ w h=>zm<|zn<|zk<|sim_block<|yl2 [1,9,12,13,14,15,16,17,18,19,20,21,22,23,24,25,26,27] 1 12 h fun σ w next h=>zs<|zr<|yb h fun _ w h=>zn<|zk<|zs ?_
 refine yC h (fun h=>?_) fun h=>?_
 · refine sim_skip<|zk<|zs<|sim_block<|zs<|zr<|yv h fun _ w h=>yv h fun _ w h=>zm<|zn<|zk<|zs<|sim_regionG<|yG 5<|zm ?_
   refine zm<|zm<|yb h fun _ w h=>zm<|zn<|yg1 3 4 true [21,22,23] 23 h (fun _ T hT h=>?_) fun σ w h=>?_
   · refine zm<|zm<|yb h fun _ w h=>zn ?_
     exact zt hT h
   refine yG 2<|yp h fun _ h=>yc h c105 fun _ w h=>zn<|sim_end<|zk<|zr<|zm<|zm<|zn<|sim_block_normal<|zk<|zr<|yb h fun _ w h=>zm ?_
   exact zn<|zk<|⟨rfl,h⟩
 exact sim_exit<|sim_then_exit<|sim_then_exit<|sim_block_hit<|body_normal<|body_ret0 rfl h
def n103 (t0:Value) (R:RT) (w:World):Prop :=
 opN Pg (nilN t0) (panK R) w fun t5 w =>
 opV Pg (Instr.fieldAt 71 t5 2) (panK R) w fun t6 w =>
 opU Pg (Instr.storeAt 3 t6 (.int .i64 0)) (panK R) w fun w =>
 opN Pg (nilN t0) (panK R) w fun t7 w =>
 opV Pg (Instr.fieldAt 71 t7 3) (panK R) w fun t8 w =>
 opU Pg (Instr.storeAt 4 t8 (.bool false)) (panK R) w fun w =>
 opN Pg (nilN t0) (panK R) w fun t9 w =>
 opV Pg (Instr.fieldAt 71 t9 5) (panK R) w fun t10 w =>
 opU Pg (Instr.storeAt 3 t10 (.int .i64 0)) (panK R) w fun w =>
 R (.returned (.tuple #[])) w
theorem n103s {t0:Value} {R:RT} {w:World} (h:n103 t0 R w):Calls Pg 143 #[t0] w R:=by
 refine yD Tryz.func143 ?_
 refine zr<|zm<|zm<|zm<|yN h fun _ w h=>yv h fun _ w h=>yu h fun w h=>yN h fun _ w h=>yv h fun _ w h=>yu h fun w h=>yN h fun _ w h=>yv h fun _ w h=>yu h fun w h=>zn<|body_normal ?_
 exact body_ret0 rfl h
def n104c1 (t0 t3:Value) (C1:World→Prop) (R:RT) (w:World):Prop :=
 qV Pg C1 (Instr.fieldAt 71 t3 2) fun t8 =>
 qV Pg C1 (Instr.loadAt 3 t8) fun t9 =>
 qV Pg C1 (binS .shl 3 true (.int .i64 1) t9) fun t10 =>
 qV Pg C1 (binS .sub 3 true t10 (.int .i64 1)) fun t11 =>
 qV Pg C1 (Instr.fieldAt 71 t3 5) fun t12 =>
 qV Pg C1 (Instr.loadAt 3 t12) fun t13 =>
 opV Pg (Instr.buildSlice 217 1 #[(0,t13)]) (panK R) w fun t14 w =>
 C1 w∧(
 callK Pg 142 #[t0,(.int .i64 0),t11,t14] (panK R) w fun t15 w =>
 C1 w∧(
 R (.returned (.tuple #[])) w))
def n104 (t0 t1:Value) (R:RT) (w:World):Prop :=
 opV Pg (Instr.box 71 t1) (panK R) w fun t3 w =>
 opV Pg (Instr.loadAt 71 t3) (panK R) w fun t5 w =>
 callK Pg 141 #[t0,t5] (panK R) w fun t6 w =>
 drawK w fun C1 w =>
 n104c1 t0 t3 C1 R w
theorem n104s {t0 t1:Value} {R:RT} {w:World} (h:n104 t0 t1 R w):Calls Pg 144 #[t0,t1] w R:=by
 refine yD Tryz.func144 ?_
 refine zs<|zr<|yv h fun _ w h=>zn<|zk<|zs<|zr<|zm<|yv h fun _ w h=>yc h c141 fun _ w h=>zn<|zk<|yh [7,8,9,10,11,12,13,14,15] h fun C hC h=>yw 0 hC ?_
 refine ye 1 hC h fun _ h=>?_
 refine ye 2 hC h fun _ h=>?_
 refine ye 3 hC h fun _ h=>?_
 refine ye 4 hC h fun _ h=>?_
 refine ye 5 hC h fun _ h=>?_
 refine ye 6 hC h fun _ h=>?_
 refine yo 7 ?_
 refine yS h fun _ w h=>zn ?_
 obtain ⟨hC,h⟩:=h
 refine ⟨hC,?_⟩
 refine yo 8 ?_
 refine yc h c142 fun _ w h=>zn ?_
 obtain ⟨hC,h⟩:=h
 refine ⟨hC,?_⟩
 exact yz<|body_normal<|body_ret0 rfl h
def n105 (t0:Value) (R:RT) (w:World):Prop :=
 opN Pg (nilN t0) (panK R) w fun t5 w =>
 opV Pg (Instr.fieldAt 71 t5 4) (panK R) w fun t6 w =>
 opU Pg (Instr.storeAt 4 t6 (.bool false)) (panK R) w fun w =>
 opN Pg (nilN t0) (panK R) w fun t7 w =>
 opV Pg (Instr.fieldAt 71 t7 5) (panK R) w fun t8 w =>
 opU Pg (Instr.storeAt 3 t8 (.int .i64 0)) (panK R) w fun w =>
 opN Pg (nilN t0) (panK R) w fun t9 w =>
 opV Pg (Instr.fieldAt 71 t9 6) (panK R) w fun t10 w =>
 opU Pg (Instr.storeAt 3 t10 (.int .i64 0)) (panK R) w fun w =>
 R (.returned (.tuple #[])) w
theorem n105s {t0:Value} {R:RT} {w:World} (h:n105 t0 R w):Calls Pg 145 #[t0] w R:=by
 refine yD Tryz.func145 ?_
 refine zr<|zm<|zm<|zm<|yN h fun _ w h=>yv h fun _ w h=>yu h fun w h=>yN h fun _ w h=>yv h fun _ w h=>yu h fun w h=>yN h fun _ w h=>yv h fun _ w h=>yu h fun w h=>zn<|body_normal ?_
 exact body_ret0 rfl h
def n106 (t0 t1:Value) (R:RT) (w:World):Prop :=
 opV Pg (Instr.box 71 t1) (panK R) w fun t3 w =>
 opV Pg (Instr.fieldAt 71 t3 5) (panK R) w fun t5 w =>
 opV Pg (Instr.loadAt 3 t5) (panK R) w fun t6 w =>
 opV Pg (Instr.fieldAt 71 t3 6) (panK R) w fun t7 w =>
 opV Pg (Instr.loadAt 3 t7) (panK R) w fun t8 w =>
 opV Pg (Instr.buildSlice 217 2 #[(0,t6),(1,t8)]) (panK R) w fun t9 w =>
 callK Pg 142 #[t0,(.int .i64 0),(.int .i64 34359738367),t9] (panK R) w fun t10 w =>
 R (.returned (.tuple #[])) w
theorem n106s {t0 t1:Value} {R:RT} {w:World} (h:n106 t0 t1 R w):Calls Pg 146 #[t0,t1] w R:=by
 refine yD Tryz.func146 ?_
 refine zs<|zr<|yv h fun _ w h=>zn<|zk<|zr<|zm<|yv h fun _ w h=>yv h fun _ w h=>yv h fun _ w h=>yv h fun _ w h=>yS h fun _ w h=>yc h c142 fun _ w h=>zn<|body_normal ?_
 exact body_ret0 rfl h
def n107 (t0:Value) (R:RT) (w:World):Prop :=
 opV Pg (Instr.build 68 #[]) (panK R) w fun t3 w =>
 opN Pg (nilN t0) (panK R) w fun t4 w =>
 opV Pg (Instr.fieldAt 71 t4 7) (panK R) w fun t5 w =>
 opU Pg (Instr.storeAt 68 t5 t3) (panK R) w fun w =>
 R (.returned (.tuple #[])) w
theorem n107s {t0:Value} {R:RT} {w:World} (h:n107 t0 R w):Calls Pg 147 #[t0] w R:=by
 refine yD Tryz.func147 ?_
 exact zr<|zm<|yB h fun _ w h=>yN h fun _ w h=>yv h fun _ w h=>yu h fun w h=>zn<|body_normal<|body_ret0 rfl h
def n81c1 (t2 t4 t21:Value) (Kr2:World→Prop) (Qr2:List PanicEntry→World→Prop) (R:RT) (w:World):Prop :=
 opV Pg (Instr.loadAt 219 t4) Qr2 w fun t23 w =>
 opV Pg (Instr.lookup 219 t23 t21 true) Qr2 w fun t25 w =>
 opV Pg (Instr.extract t25 0) Qr2 w fun t26 w =>
 opV Pg (Instr.extract t25 1) Qr2 w fun t27 w =>
 opV Pg (Instr.alloc 223 true (.tuple #[])) Qr2 w fun t6 w =>
 opU Pg (Instr.storeAt 223 t6 t26) Qr2 w fun w =>
 opV Pg (Instr.loadAt 151 t2) Qr2 w fun t28 w =>
 callK Pg 105 #[t28,t27,(.int .i64 8)] Qr2 w fun t30 w =>
 Kr2 w
def n81c2 (t8 t38 t40 t44:Value) (ds:List Deferred) (R:RT) (w:World):Prop :=
 pickK t40 t44 (.bool false) fun t45 =>
 joinK (fun (t49:Value) (w:World) =>
 pickK t45 t49 (.bool false) fun t50 =>
 callK Pg 105 #[t38,t50,(.int .i64 9)] (outQ Pg ds [] R) w fun t51 w =>
 outX Pg ds [] R w) fun K4 =>
 guardP t45 true (
 opV Pg (Instr.fieldAt 223 t8 1) (outQ Pg ds [] R) w fun t47 w =>
 opV Pg (Instr.loadAt 3 t47) (outQ Pg ds [] R) w fun t48 w =>
 opV Pg (binS .leq 3 true t48 (.int .i64 1048576)) (outQ Pg ds [] R) w fun t49 w =>
 K4 t49 w) (
 K4 undef w)
def n81c3 (t2 t35:Value) (ds:List Deferred) (R:RT) (w:World):Prop :=
 opV Pg (Instr.extract t35 0) (outQ Pg ds [] R) w fun t36 w =>
 opV Pg (Instr.extract t35 1) (outQ Pg ds [] R) w fun t37 w =>
 opV Pg (Instr.alloc 223 true (.tuple #[])) (outQ Pg ds [] R) w fun t8 w =>
 opU Pg (Instr.storeAt 223 t8 t36) (outQ Pg ds [] R) w fun w =>
 opV Pg (Instr.loadAt 151 t2) (outQ Pg ds [] R) w fun t38 w =>
 opV Pg (binS .eql 37 true t37 (.int .i64 0)) (outQ Pg ds [] R) w fun t40 w =>
 joinK (fun (t44:Value) (w:World) =>
 n81c2 t8 t38 t40 t44 ds R w) fun K3 =>
 guardP t40 true (
 opV Pg (Instr.fieldAt 223 t8 0) (outQ Pg ds [] R) w fun t42 w =>
 opV Pg (Instr.loadAt 3 t42) (outQ Pg ds [] R) w fun t43 w =>
 opV Pg (binS .geq 3 true t43 (.int .i64 0)) (outQ Pg ds [] R) w fun t44 w =>
 K3 t44 w) (
 K3 undef w)
def n81c4 (t2 t3 t4:Value) (ds:List Deferred) (R:RT) (w:World):Prop :=
 opV Pg (Instr.fieldAt 71 t3 7) (outQ Pg ds [] R) w fun t32 w =>
 opV Pg (Instr.loadAt 68 t32) (outQ Pg ds [] R) w fun t33 w =>
 opV Pg (Instr.loadAt 219 t4) (outQ Pg ds [] R) w fun t34 w =>
 callK Pg 169 #[t33,t34] (outQ Pg ds [] R) w fun t35 w =>
 n81c3 t2 t35 ds R w
def n81c5 (t2 t3 t4 t20:Value) (ds:List Deferred) (R:RT) (w:World):Prop :=
 rangeN Pg t20 ds (fun l2 t21 w Kr2 Xr2 Qr2 =>
 busyK l2 w fun w =>
 n81c1 t2 t4 t21 Kr2 Qr2 R w) (fun ch ds w=>outQ Pg ds [] R ch w) w (fun ds w =>
 n81c4 t2 t3 t4 ds R w) []
def n81c6 (t2 t3 t17:Value) (ds:List Deferred) (R:RT) (w:World):Prop :=
 opV Pg (Instr.alloc 219 true (.tuple #[])) (outQ Pg ds [] R) w fun t4 w =>
 opU Pg (Instr.storeAt 219 t4 t17) (outQ Pg ds [] R) w fun w =>
 opV Pg (Instr.fieldAt 71 t3 7) (outQ Pg ds [] R) w fun t18 w =>
 opV Pg (Instr.loadAt 68 t18) (outQ Pg ds [] R) w fun t19 w =>
 callK Pg 168 #[t19] (outQ Pg ds [] R) w fun t20 w =>
 n81c5 t2 t3 t4 t20 ds R w
def n81c7 (t2 t3:Value) (ds:List Deferred) (R:RT) (w:World):Prop :=
 opV Pg (Instr.loadAt 151 t2) (outQ Pg ds [] R) w fun t15 w =>
 callK Pg 134 #[t15] (outQ Pg ds [] R) w fun t16 w =>
 callK Pg 167 #[t16] (outQ Pg ds [] R) w fun t17 w =>
 n81c6 t2 t3 t17 ds R w
def n81c8 (t2 t3:Value) (C1:World→Prop) (ds:List Deferred) (R:RT) (w:World):Prop :=
 qV Pg C1 (Instr.loadAt 151 t2) fun t10 =>
 qV Pg C1 (Instr.fieldAt 71 t3 7) fun t11 =>
 qV Pg C1 (Instr.loadAt 68 t11) fun t12 =>
 callK Pg 166 #[t12] (outQ Pg ds [] R) w fun t13 w =>
 C1 w∧(
 callK Pg 105 #[t10,t13,(.int .i64 9)] (outQ Pg ds [] R) w fun t14 w =>
 C1 w∧(
 n81c7 t2 t3 ds R w))
def n81 (t0 t1:Value) (R:RT) (w:World):Prop :=
 (fun (ds:List Deferred) =>
 opV Pg (Instr.box 151 t0) (outQ Pg ds [] R) w fun t2 w =>
 opV Pg (Instr.box 71 t1) (outQ Pg ds [] R) w fun t3 w =>
 drawK w fun C1 w =>
 n81c8 t2 t3 C1 ds R w) []
theorem n81s {t0 t1:Value} {R:RT} {w:World} (h:n81 t0 t1 R w):Calls Pg 148 #[t0,t1] w R:=by
 refine yE Tryz.func148 ?_
 unfold n81 at h
 dsimp only at h
 refine zs<|zr<|yv h fun _ w h=>yv h fun _ w h=>zn<|zk<|zs<|yh [10,11,12,13,14] h fun C hC h=>ye 0 hC h fun _ h=>?_
 refine ye 1 hC h fun _ h=>?_
 refine ye 2 hC h fun _ h=>?_
 refine yo 3 ?_
 refine yc h c166 fun _ w h=>zn ?_
 obtain ⟨hC,h⟩:=h
 refine ⟨hC,?_⟩
 refine yo 4 ?_
 refine yc h c105 fun _ w h=>zn ?_
 obtain ⟨hC,h⟩:=h
 refine ⟨hC,?_⟩
 refine yz<|zk<|zs<|zr<|yv h fun _ w h=>yc h c134 fun _ w h=>yc h c167 fun _ w h=>yv h fun _ w h=>yu h fun w h=>zn<|zk<|zs<|zs<|zr<|yv h fun _ w h=>?_
 refine yv h fun _ w h=>yc h c168 fun _ w h=>zn<|zk<|sim_block<|sim_range [] h rfl (fun l2 t21 w Kr2 Xr2 Qr2 h=>?_) (fun ds w h=>?_) (fun c ds w h=>?_) (fun ch ds w h=>outQ_of rfl h)
 · refine zr<|zm<|zn<|zk ?_
   obtain ⟨hr,h⟩:=h
   refine ⟨rfl,hr,fun w hb=>?_⟩
   have h:=h w hb
   refine sim_block<|zs<|zr<|yv h fun _ w h=>zm<|yv h fun _ w h=>zm<|yv h fun _ w h=>yv h fun _ w h=>yv h fun _ w h=>yu h fun w h=>zm<|zn<|zk<|zr ?_
   exact yv h fun _ w h=>zm<|yc h c105 fun _ w h=>zn<|sim_block_normal<|⟨rfl,h⟩
 · refine sim_block_normal<|zk<|zs<|zr<|yv h fun _ w h=>yv h fun _ w h=>yv h fun _ w h=>yc h c169 fun _ w h=>zm<|yv h fun _ w h=>yv h fun _ w h=>yv h fun _ w h=>yu h fun w h=>zm<|zn ?_
   refine zk<|sim_regionG<|yG 4<|yv h fun _ w h=>zm<|yb h fun _ w h=>zm<|zn<|yg1 3 3 true [42,43,44] 44 h (fun _ T hT h=>?_) fun σ w h=>?_
   · refine yv h fun _ w h=>yv h fun _ w h=>yb h fun _ w h=>zn ?_
     exact zt hT h
   refine yG 2<|yp h fun _ h=>zm<|zn<|yg1 3 8 true [47,48,49] 49 h (fun _ T hT h=>?_) fun σ w h=>?_
   · refine yv h fun _ w h=>yv h fun _ w h=>yb h fun _ w h=>zn ?_
     exact zt hT h
   exact yG 2<|yp h fun _ h=>yc h c105 fun _ w h=>zn<|sim_end<|bodyM_normal<|bodyM_ret rfl h
 exact h.elim
def n108 (t0:Value) (R:RT) (w:World):Prop :=
 opN Pg (nilN t0) (panK R) w fun t4 w =>
 opV Pg (Instr.fieldAt 71 t4 5) (panK R) w fun t5 w =>
 opU Pg (Instr.storeAt 3 t5 (.int .i64 0)) (panK R) w fun w =>
 opN Pg (nilN t0) (panK R) w fun t6 w =>
 opV Pg (Instr.fieldAt 71 t6 6) (panK R) w fun t7 w =>
 opU Pg (Instr.storeAt 3 t7 (.int .i64 0)) (panK R) w fun w =>
 R (.returned (.tuple #[])) w
theorem n108s {t0:Value} {R:RT} {w:World} (h:n108 t0 R w):Calls Pg 149 #[t0] w R:=by
 refine yD Tryz.func149 ?_
 exact zr<|zm<|zm<|yN h fun _ w h=>yv h fun _ w h=>yu h fun w h=>yN h fun _ w h=>yv h fun _ w h=>yu h fun w h=>zn<|body_normal<|body_ret0 rfl h
def n109c1 (t0 t3:Value) (R:RT) (w:World):Prop :=
 opV Pg (Instr.fieldAt 71 t3 6) (panK R) w fun t10 w =>
 opV Pg (Instr.loadAt 3 t10) (panK R) w fun t11 w =>
 opV Pg (Instr.buildSlice 217 1 #[(0,t11)]) (panK R) w fun t12 w =>
 callK Pg 142 #[t0,(.int .i64 0),(.int .i64 1048576),t12] (panK R) w fun t13 w =>
 R (.returned (.tuple #[])) w
def n109 (t0 t1:Value) (R:RT) (w:World):Prop :=
 opV Pg (Instr.box 71 t1) (panK R) w fun t3 w =>
 opV Pg (Instr.fieldAt 71 t3 5) (panK R) w fun t5 w =>
 opV Pg (Instr.loadAt 3 t5) (panK R) w fun t6 w =>
 opV Pg (Instr.buildSlice 217 1 #[(0,t6)]) (panK R) w fun t7 w =>
 callK Pg 142 #[t0,(.int .i64 0),(.int .i64 255),t7] (panK R) w fun t8 w =>
 n109c1 t0 t3 R w
theorem n109s {t0 t1:Value} {R:RT} {w:World} (h:n109 t0 t1 R w):Calls Pg 150 #[t0,t1] w R:=by
 refine yD Tryz.func150 ?_
 refine zs<|zr<|yv h fun _ w h=>zn<|zk<|zs<|zr<|zm<|yv h fun _ w h=>yv h fun _ w h=>yS h fun _ w h=>yc h c142 fun _ w h=>zn<|zk<|zr ?_
 exact zm<|yv h fun _ w h=>yv h fun _ w h=>yS h fun _ w h=>yc h c142 fun _ w h=>zn<|body_normal<|body_ret0 rfl h
def n89 (t0:Value) (R:RT) (w:World):Prop :=
 opN Pg (nilN t0) (panK R) w fun t4 w =>
 opV Pg (Instr.fieldAt 71 t4 4) (panK R) w fun t5 w =>
 opU Pg (Instr.storeAt 4 t5 (.bool false)) (panK R) w fun w =>
 opN Pg (nilN t0) (panK R) w fun t6 w =>
 opV Pg (Instr.fieldAt 71 t6 6) (panK R) w fun t7 w =>
 opU Pg (Instr.storeAt 3 t7 (.int .i64 0)) (panK R) w fun w =>
 R (.returned (.tuple #[])) w
theorem n89s {t0:Value} {R:RT} {w:World} (h:n89 t0 R w):Calls Pg 151 #[t0] w R:=by
 refine yD Tryz.func151 ?_
 exact zr<|zm<|zm<|yN h fun _ w h=>yv h fun _ w h=>yu h fun w h=>yN h fun _ w h=>yv h fun _ w h=>yu h fun w h=>zn<|body_normal<|body_ret0 rfl h
def n90 (t0 t1:Value) (R:RT) (w:World):Prop :=
 opV Pg (Instr.box 71 t1) (panK R) w fun t3 w =>
 opV Pg (Instr.fieldAt 71 t3 6) (panK R) w fun t5 w =>
 opV Pg (Instr.loadAt 3 t5) (panK R) w fun t6 w =>
 opV Pg (Instr.buildSlice 217 1 #[(0,t6)]) (panK R) w fun t7 w =>
 callK Pg 142 #[t0,(.int .i64 2),(.int .i64 1048576),t7] (panK R) w fun t8 w =>
 R (.returned (.tuple #[])) w
theorem n90s {t0 t1:Value} {R:RT} {w:World} (h:n90 t0 t1 R w):Calls Pg 152 #[t0,t1] w R:=by
 refine yD Tryz.func152 ?_
 exact zs<|zr<|yv h fun _ w h=>zn<|zk<|zr<|zm<|yv h fun _ w h=>yv h fun _ w h=>yS h fun _ w h=>yc h c142 fun _ w h=>zn<|body_normal<|body_ret0 rfl h
def n91 (t0:Value) (R:RT) (w:World):Prop :=
 opV Pg (Instr.build 68 #[]) (panK R) w fun t4 w =>
 opN Pg (nilN t0) (panK R) w fun t5 w =>
 opV Pg (Instr.fieldAt 71 t5 8) (panK R) w fun t6 w =>
 opU Pg (Instr.storeAt 9 t6 (.string { data := #[] })) (panK R) w fun w =>
 opN Pg (nilN t0) (panK R) w fun t7 w =>
 opV Pg (Instr.fieldAt 71 t7 7) (panK R) w fun t8 w =>
 opU Pg (Instr.storeAt 68 t8 t4) (panK R) w fun w =>
 R (.returned (.tuple #[])) w
theorem n91s {t0:Value} {R:RT} {w:World} (h:n91 t0 R w):Calls Pg 153 #[t0] w R:=by
 refine yD Tryz.func153 ?_
 exact zr<|zm<|zm<|yB h fun _ w h=>yN h fun _ w h=>yv h fun _ w h=>yu h fun w h=>yN h fun _ w h=>yv h fun _ w h=>yu h fun w h=>zn<|body_normal<|body_ret0 rfl h
def n92 (t0 t1:Value) (R:RT) (w:World):Prop :=
 opV Pg (Instr.box 71 t1) (panK R) w fun t3 w =>
 opV Pg (Instr.fieldAt 71 t3 8) (panK R) w fun t5 w =>
 opV Pg (Instr.loadAt 9 t5) (panK R) w fun t6 w =>
 callK Pg 155 #[t0,t6] (panK R) w fun t7 w =>
 opV Pg (Instr.loadAt 71 t3) (panK R) w fun t9 w =>
 callK Pg 148 #[t0,t9] (panK R) w fun t10 w =>
 R (.returned (.tuple #[])) w
theorem n92s {t0 t1:Value} {R:RT} {w:World} (h:n92 t0 t1 R w):Calls Pg 154 #[t0,t1] w R:=by
 refine yD Tryz.func154 ?_
 refine zs<|zr<|yv h fun _ w h=>zn<|zk<|zs<|zr<|zm<|yv h fun _ w h=>yv h fun _ w h=>yc h c155 fun _ w h=>zn<|zk<|zr<|zm ?_
 exact yv h fun _ w h=>yc h c148 fun _ w h=>zn<|body_normal<|body_ret0 rfl h
def n80 (t0 t1:Value) (R:RT) (w:World):Prop :=
 opN Pg (nilN t0) (panK R) w fun t8 w =>
 opV Pg (Instr.fieldAt 175 t8 1) (panK R) w fun t9 w =>
 opV Pg (Instr.loadAt 59 t9) (panK R) w fun t10 w =>
 opV Pg (Instr.lookup 59 t10 t1 true) (panK R) w fun t12 w =>
 opV Pg (Instr.extract t12 0) (panK R) w fun t13 w =>
 opV Pg (Instr.extract t12 1) (panK R) w fun t14 w =>
 callK Pg 105 #[t0,t14,(.int .i64 8)] (panK R) w fun t17 w =>
 R (.returned (.tuple #[])) w
theorem n80s {t0 t1:Value} {R:RT} {w:World} (h:n80 t0 t1 R w):Calls Pg 155 #[t0,t1] w R:=by
 refine yD Tryz.func155 ?_
 refine zs<|zr<|zm<|yN h fun _ w h=>yv h fun _ w h=>yv h fun _ w h=>zm<|yv h fun _ w h=>zm<|yv h fun _ w h=>yv h fun _ w h=>zm<|zm<|zn<|zk ?_
 exact zr<|zm<|zm<|yc h c105 fun _ w h=>zn<|body_normal<|body_ret0 rfl h
def n93 (t0:Value) (R:RT) (w:World):Prop :=
 opN Pg (nilN t0) (panK R) w fun t3 w =>
 opV Pg (Instr.fieldAt 71 t3 8) (panK R) w fun t4 w =>
 opU Pg (Instr.storeAt 9 t4 (.string { data := #[] })) (panK R) w fun w =>
 R (.returned (.tuple #[])) w
theorem n93s {t0:Value} {R:RT} {w:World} (h:n93 t0 R w):Calls Pg 156 #[t0] w R:=by
 refine yD Tryz.func156 ?_
 exact zr<|zm<|yN h fun _ w h=>yv h fun _ w h=>yu h fun w h=>zn<|body_normal<|body_ret0 rfl h
def n94 (t0 t1:Value) (R:RT) (w:World):Prop :=
 opV Pg (Instr.box 71 t1) (panK R) w fun t3 w =>
 opV Pg (Instr.fieldAt 71 t3 8) (panK R) w fun t5 w =>
 opV Pg (Instr.loadAt 9 t5) (panK R) w fun t6 w =>
 callK Pg 155 #[t0,t6] (panK R) w fun t7 w =>
 R (.returned (.tuple #[])) w
theorem n94s {t0 t1:Value} {R:RT} {w:World} (h:n94 t0 t1 R w):Calls Pg 157 #[t0,t1] w R:=by
 refine yD Tryz.func157 ?_
 exact zs<|zr<|yv h fun _ w h=>zn<|zk<|zr<|zm<|yv h fun _ w h=>yv h fun _ w h=>yc h c155 fun _ w h=>zn<|body_normal<|body_ret0 rfl h
def n95 (t0:Value) (R:RT) (w:World):Prop :=
 opN Pg (nilN t0) (panK R) w fun t4 w =>
 opV Pg (Instr.fieldAt 71 t4 9) (panK R) w fun t5 w =>
 opU Pg (Instr.storeAt 9 t5 (.string { data := #[] })) (panK R) w fun w =>
 opN Pg (nilN t0) (panK R) w fun t6 w =>
 opV Pg (Instr.fieldAt 71 t6 11) (panK R) w fun t7 w =>
 opU Pg (Instr.storeAt 69 t7 (Value.slice none 0 0)) (panK R) w fun w =>
 R (.returned (.tuple #[])) w
theorem n95s {t0:Value} {R:RT} {w:World} (h:n95 t0 R w):Calls Pg 158 #[t0] w R:=by
 refine yD Tryz.func158 ?_
 exact zr<|zm<|zm<|yN h fun _ w h=>yv h fun _ w h=>yu h fun w h=>yN h fun _ w h=>yv h fun _ w h=>yu h fun w h=>zn<|body_normal<|body_ret0 rfl h
def n75c1 (t9 t47:Value) (next5:KW) (R:RT) (w:World):Prop :=
 opV Pg (Instr.fieldAt 85 t9 1) (panK R) w fun t65 w =>
 opV Pg (Instr.loadAt 3 t65) (panK R) w fun t66 w =>
 opV Pg (binS .add 3 true t66 (.int .i64 1)) (panK R) w fun t67 w =>
 opV Pg (binS .add 3 true t47 (.int .i64 1)) (panK R) w fun t68 w =>
 next5 t67 t68 w
def n75c2 (t0 t9 t47:Value) (next5:KW) (R:RT) (w:World):Prop :=
 opV Pg (Instr.fieldAt 85 t9 2) (panK R) w fun t62 w =>
 opV Pg (Instr.loadAt 9 t62) (panK R) w fun t63 w =>
 callK Pg 155 #[t0,t63] (panK R) w fun t64 w =>
 n75c1 t9 t47 next5 R w
def n75c3 (t0 t4 t7 t45 t47:Value) (next5:KW) (R:RT) (w:World):Prop :=
 opV Pg (Instr.indexAt 69 t45 t47) (panK R) w fun t49 w =>
 opV Pg (Instr.loadAt 85 t49) (panK R) w fun t50 w =>
 opV Pg (Instr.alloc 85 true (.tuple #[])) (panK R) w fun t9 w =>
 opU Pg (Instr.storeAt 85 t9 t50) (panK R) w fun w =>
 opV Pg (Instr.fieldAt 223 t4 1) (panK R) w fun t53 w =>
 opV Pg (Instr.loadAt 3 t53) (panK R) w fun t54 w =>
 opV Pg (Instr.fieldAt 85 t9 0) (panK R) w fun t55 w =>
 opV Pg (Instr.loadAt 3 t55) (panK R) w fun t56 w =>
 opV Pg (Instr.fieldAt 85 t9 1) (panK R) w fun t57 w =>
 opV Pg (Instr.loadAt 3 t57) (panK R) w fun t58 w =>
 opV Pg (Instr.buildSlice 217 2 #[(0,t56),(1,t58)]) (panK R) w fun t59 w =>
 callK Pg 142 #[t0,t7,t54,t59] (panK R) w fun t60 w =>
 n75c2 t0 t9 t47 next5 R w
def n75c4 (t0 t3 t4:Value) (R:RT) (w:World):Prop :=
 opV Pg (Instr.fieldAt 223 t4 0) (panK R) w fun t42 w =>
 opV Pg (Instr.loadAt 3 t42) (panK R) w fun t43 w =>
 opV Pg (Instr.fieldAt 71 t3 11) (panK R) w fun t44 w =>
 opV Pg (Instr.loadAt 69 t44) (panK R) w fun t45 w =>
 opV Pg (Builtin.len_ #[69] 3 #[t45]) (panK R) w fun t46 w =>
 loop2 (fun t7 t47 w next5 =>
 opV Pg (binS .lss 3 false t47 t46) (panK R) w fun t48 w =>
 condP t48 (
 n75c3 t0 t4 t7 t45 t47 next5 R w) (
 R (.returned (.tuple #[])) w)) t43 (.int .i64 0) w
def n75c5 (t0 t3 t4:Value) (R:RT) (w:World):Prop :=
 opV Pg (Instr.fieldAt 71 t3 11) (panK R) w fun t31 w =>
 opV Pg (Instr.loadAt 69 t31) (panK R) w fun t32 w =>
 opV Pg (Builtin.len_ #[69] 3 #[t32]) (panK R) w fun t33 w =>
 opV Pg (binS .geq 3 true t33 (.int .i64 1)) (panK R) w fun t34 w =>
 joinK (fun (t39:Value) (w:World) =>
 pickK t34 t39 (.bool false) fun t40 =>
 callK Pg 105 #[t0,t40,(.int .i64 3)] (panK R) w fun t41 w =>
 n75c4 t0 t3 t4 R w) fun K4 =>
 guardP t34 true (
 opV Pg (Instr.fieldAt 71 t3 11) (panK R) w fun t36 w =>
 opV Pg (Instr.loadAt 69 t36) (panK R) w fun t37 w =>
 opV Pg (Builtin.len_ #[69] 3 #[t37]) (panK R) w fun t38 w =>
 opV Pg (binS .leq 3 true t38 (.int .i64 40)) (panK R) w fun t39 w =>
 K4 t39 w) (
 K4 undef w)
def n75c6 (t0 t3 t4 t5 t22:Value) (R:RT) (w:World):Prop :=
 joinK (fun (t27:Value) (w:World) =>
 pickK t5 t27 (.bool false) fun t28 =>
 callK Pg 105 #[t0,t28,(.int .i64 8)] (panK R) w fun t29 w =>
 n75c5 t0 t3 t4 R w) fun K3 =>
 guardP t5 true (
 opV Pg (Op.unary .not t22) (panK R) w fun t27 w =>
 K3 t27 w) (
 K3 undef w)
def n75c7 (t0 t3 t4 t5:Value) (R:RT) (w:World):Prop :=
 callK Pg 134 #[t0] (panK R) w fun t20 w =>
 opV Pg (Instr.makeFunc (.func 170) #[] #[t3]) (panK R) w fun t21 w =>
 callK Pg 97 #[t20,t21] (panK R) w fun t22 w =>
 n75c6 t0 t3 t4 t5 t22 R w
def n75c8 (t13 t15:Value) (C7:World→Prop) (K2:KW) (R:RT) (w:World):Prop :=
 qV Pg C7 (Instr.lookup 219 t13 t15 true) fun t16 =>
 qV Pg C7 (Instr.extract t16 0) fun t17 =>
 qV Pg C7 (Instr.extract t16 1) fun t18 =>
 opV Pg (Instr.alloc 223 true (.tuple #[])) (panK R) w fun t4 w =>
 C7 w∧(
 opU Pg (Instr.storeAt 223 t4 t17) (panK R) w fun w =>
 C7 w∧(
 K2 t4 t18 w))
def n75c9 (t4 t13 t15:Value) (C8:World→Prop) (K2:KW) (R:RT) (w:World):Prop :=
 qV Pg C8 (Instr.lookup 219 t13 t15 true) fun t16 =>
 qV Pg C8 (Instr.extract t16 0) fun t17 =>
 qV Pg C8 (Instr.extract t16 1) fun t18 =>
 opU Pg (Instr.storeAt 223 t4 t17) (panK R) w fun w =>
 C8 w∧(
 K2 t4 t18 w)
def n75c10 (t12 t15:Value) (C6:World→Prop) (K2:KW) (R:RT) (w:World):Prop :=
 (
 callK Pg 167 #[t12] (panK R) w fun t13 w =>
 narrowK C6 w fun C7 w =>
 n75c8 t13 t15 C7 K2 R w)∧(
 opV Pg (Instr.alloc 223 true (.tuple #[])) (panK R) w fun t4 w =>
 C6 w∧(
 callK Pg 167 #[t12] (panK R) w fun t13 w =>
 narrowK C6 w fun C8 w =>
 n75c9 t4 t13 t15 C8 K2 R w))
def n75c11 (t4 t13 t15:Value) (C10:World→Prop) (K2:KW) (R:RT) (w:World):Prop :=
 qV Pg C10 (Instr.lookup 219 t13 t15 true) fun t16 =>
 qV Pg C10 (Instr.extract t16 0) fun t17 =>
 qV Pg C10 (Instr.extract t16 1) fun t18 =>
 opU Pg (Instr.storeAt 223 t4 t17) (panK R) w fun w =>
 C10 w∧(
 K2 t4 t18 w)
def n75c12 (t0 t4 t15:Value) (C1:World→Prop) (K2:KW) (R:RT) (w:World):Prop :=
 callK Pg 134 #[t0] (panK R) w fun t12 w =>
 narrowK C1 w fun C9 w =>
 callK Pg 167 #[t12] (panK R) w fun t13 w =>
 narrowK C9 w fun C10 w =>
 n75c11 t4 t13 t15 C10 K2 R w
def n75c13 (t0 t3:Value) (C1:World→Prop) (R:RT) (w:World):Prop :=
 qV Pg C1 (Instr.fieldAt 71 t3 9) fun t14 =>
 qV Pg C1 (Instr.loadAt 9 t14) fun t15 =>
 joinK (fun (t4:Value) (t5:Value) (w:World) =>
 n75c7 t0 t3 t4 t5 R w) fun K2 =>
 (
 callK Pg 134 #[t0] (panK R) w fun t12 w =>
 narrowK C1 w fun C6 w =>
 n75c10 t12 t15 C6 K2 R w)∧(
 opV Pg (Instr.alloc 223 true (.tuple #[])) (panK R) w fun t4 w =>
 C1 w∧(
 n75c12 t0 t4 t15 C1 K2 R w))
def n75 (t0 t1:Value) (R:RT) (w:World):Prop :=
 opV Pg (Instr.box 71 t1) (panK R) w fun t3 w =>
 drawK w fun C1 w =>
 n75c13 t0 t3 C1 R w
set_option maxHeartbeats 40000000 in
theorem n75s {t0 t1:Value} {R:RT} {w:World} (h:n75 t0 t1 R w):Calls Pg 159 #[t0,t1] w R:=by
 refine yD Tryz.func159 ?_
 refine zs<|zr<|yv h fun _ w h=>zn<|zk<|zs<|yh [4,5,10,11,12,13,14,15,16,17,18] h fun C hC h=>yw 0 hC ?_
 refine ye 3 hC h fun _ h=>?_
 refine ye 4 hC h fun _ h=>?_
 refine joinK_elim h (fun K2 hK h=>?_)
 refine sim_dmeet [4,5,10,12,13,16,17,18] (fun ρ w=>K2 (ρ 4) (ρ 5) w) (fun T hT=>?_) (fun σ w h=>?_)
 · obtain ⟨h0,h1⟩:=h
   refine sim_dloud2 1 9 rfl rfl (by kernel_rfl) (fun _ _=>rfl) (fun _ _=>rfl) ?_ ?_
   · have h:=h0
     refine yc h c134 fun _ w h=>zn ?_
     obtain ⟨C6,hs,hC,h⟩:=h
     refine ⟨C6,hs,hC,?_⟩
     obtain ⟨h0,h1⟩:=h
     refine sim_dloud2 2 9 rfl rfl (by kernel_rfl) (fun _ _=>rfl) (fun _ _=>rfl) ?_ ?_
     · have h:=h0
       refine yc h c167 fun _ w h=>zn ?_
       obtain ⟨C7,hs,hC,h⟩:=h
       refine ⟨C7,hs,hC,?_⟩
       refine ye 5 hC h fun _ h=>?_
       refine yw 6 hC ?_
       refine ye 7 hC h fun _ h=>?_
       refine ye 8 hC h fun _ h=>?_
       refine yo 9 ?_
       refine yv h fun _ w h=>zn ?_
       obtain ⟨hC,h⟩:=h
       refine ⟨hC,?_⟩
       refine yo 10 ?_
       refine yu h fun w h=>zn ?_
       obtain ⟨hC,h⟩:=h
       refine ⟨hC,?_⟩
       refine yw 11 hC ?_
       refine yz ?_
       exact zt hT h
     have h:=h1
     refine yv h fun _ w h=>zn ?_
     obtain ⟨hC,h⟩:=h
     refine ⟨_,fun _ h=>h,hC,?_⟩
     refine yr 2 ?_
     refine yc h c167 fun _ w h=>zn ?_
     obtain ⟨C8,hs,hC,h⟩:=h
     refine ⟨C8,hs,hC,?_⟩
     refine ye 5 hC h fun _ h=>?_
     refine yw 6 hC ?_
     refine ye 7 hC h fun _ h=>?_
     refine ye 8 hC h fun _ h=>?_
     refine yo 10 ?_
     refine yu h fun w h=>zn ?_
     obtain ⟨hC,h⟩:=h
     refine ⟨hC,?_⟩
     refine yw 11 hC ?_
     refine yz ?_
     exact zt hT h
   have h:=h1
   refine yv h fun _ w h=>zn ?_
   obtain ⟨hC,h⟩:=h
   refine ⟨_,fun _ h=>h,hC,?_⟩
   refine yr 1 ?_
   refine yc h c134 fun _ w h=>zn ?_
   obtain ⟨C9,hs,hC,h⟩:=h
   refine ⟨C9,hs,hC,?_⟩
   refine yr 2 ?_
   refine yc h c167 fun _ w h=>zn ?_
   obtain ⟨C10,hs,hC,h⟩:=h
   refine ⟨C10,hs,hC,?_⟩
   refine ye 5 hC h fun _ h=>?_
   refine yw 6 hC ?_
   refine ye 7 hC h fun _ h=>?_
   refine ye 8 hC h fun _ h=>?_
   refine yo 10 ?_
   refine yu h fun w h=>zn ?_
   obtain ⟨hC,h⟩:=h
   refine ⟨hC,?_⟩
   refine yw 11 hC ?_
   refine yz ?_
   exact zt hT h
 subst hK
 refine zk<|zs<|zr<|zm<|yc h c134 fun _ w h=>yF h fun _ w h=>yc h c97 fun _ w h=>zm<|zn<|zk<|zs<|sim_regionG<|yG 3<|zm<|zm ?_
 refine zm<|zn<|yg1 2 2 true [26,27] 27 h (fun _ T hT h=>?_) fun σ w h=>?_
 · refine zm<|yv h fun _ w h=>zn ?_
   exact zt hT h
 refine yG 2<|yp h fun _ h=>yc h c105 fun _ w h=>zn<|sim_end<|zk<|zs<|sim_regionG<|yG 6<|zm<|yv h fun _ w h=>yv h fun _ w h=>yx h fun _ w h=>yb h fun _ w h=>zm ?_
 refine zn<|yg1 4 5 true [36,37,38,39] 39 h (fun _ T hT h=>?_) fun σ w h=>?_
 · refine yv h fun _ w h=>yv h fun _ w h=>yx h fun _ w h=>yb h fun _ w h=>zn ?_
   exact zt hT h
 refine yG 2<|yp h fun _ h=>yc h c105 fun _ w h=>zn<|sim_end<|zk<|zs<|zr<|yv h fun _ w h=>yv h fun _ w h=>zm<|zn<|zk<|zs<|zr ?_
 refine yv h fun _ w h=>yv h fun _ w h=>yx h fun _ w h=>zm<|zn<|zk<|sim_block<|yl2 [7,9,47,48,49,50,51,52,53,54,55,56,57,58,59,60,61,62,63,64,65,66,67,68] 7 47 h fun σ w next h=>zs<|zr<|yb h fun _ w h=>zn<|zk<|zs<|yC h (fun h=>?_) fun h=>?_
 · refine sim_skip<|zk<|zs<|sim_block<|zs<|zr<|yv h fun _ w h=>yv h fun _ w h=>yv h fun _ w h=>yu h fun w h=>zn<|zk<|zs<|zr<|zm ?_
   refine zm<|yv h fun _ w h=>yv h fun _ w h=>yv h fun _ w h=>yv h fun _ w h=>yv h fun _ w h=>yv h fun _ w h=>yS h fun _ w h=>yc h c142 fun _ w h=>zn<|zk<|zs<|zr<|zm<|yv h fun _ w h=>?_
   refine yv h fun _ w h=>yc h c155 fun _ w h=>zn<|zk<|zr<|yv h fun _ w h=>yv h fun _ w h=>yb h fun _ w h=>zm<|zn<|sim_block_normal<|zk<|zr<|yb h fun _ w h=>zm ?_
   exact zn<|zk<|⟨rfl,h⟩
 exact sim_exit<|sim_then_exit<|sim_then_exit<|sim_block_hit<|body_normal<|body_ret0 rfl h
def n96 (t0:Value) (R:RT) (w:World):Prop :=
 opN Pg (nilN t0) (panK R) w fun t3 w =>
 opV Pg (Instr.fieldAt 71 t3 2) (panK R) w fun t4 w =>
 opU Pg (Instr.storeAt 3 t4 (.int .i64 0)) (panK R) w fun w =>
 R (.returned (.tuple #[])) w
theorem n96s {t0:Value} {R:RT} {w:World} (h:n96 t0 R w):Calls Pg 160 #[t0] w R:=by
 refine yD Tryz.func160 ?_
 exact zr<|zm<|yN h fun _ w h=>yv h fun _ w h=>yu h fun w h=>zn<|body_normal<|body_ret0 rfl h
def n97c1 (t0 t12 t22 t26:Value) (R:RT) (w:World):Prop :=
 joinK (fun (t27:Value) (w:World) =>
 pickK t12 (.bool true) t27 fun t28 =>
 callK Pg 105 #[t0,t28,(.int .i64 6)] (panK R) w fun t29 w =>
 R (.returned (.tuple #[])) w) fun K6 =>
 guardP t12 false (
 pickK t22 t26 (.bool false) fun t27 =>
 K6 t27 w) (
 K6 undef w)
def n97c2 (t0 t3 t12 t22:Value) (R:RT) (w:World):Prop :=
 joinK (fun (t26:Value) (w:World) =>
 n97c1 t0 t12 t22 t26 R w) fun K5 =>
 guardP t22 true (
 opV Pg (Instr.fieldAt 71 t3 2) (panK R) w fun t23 w =>
 opV Pg (Instr.loadAt 3 t23) (panK R) w fun t24 w =>
 opV Pg (binS .rem 3 true t24 (.int .i64 8)) (panK R) w fun t25 w =>
 opV Pg (binS .eql 3 true t25 (.int .i64 0)) (panK R) w fun t26 w =>
 K5 t26 w) (
 K5 undef w)
def n97c3 (t0 t3 t12 t17:Value) (R:RT) (w:World):Prop :=
 joinK (fun (t20:Value) (w:World) =>
 joinK (fun (t22:Value) (w:World) =>
 n97c2 t0 t3 t12 t22 R w) fun K4 =>
 guardP t12 false (
 pickK t17 t20 (.bool false) fun t21 =>
 K4 t21 w) (
 K4 undef w)) fun K3 =>
 guardP t17 true (
 opV Pg (Instr.fieldAt 71 t3 2) (panK R) w fun t18 w =>
 opV Pg (Instr.loadAt 3 t18) (panK R) w fun t19 w =>
 opV Pg (binS .leq 3 true t19 (.int .i64 512)) (panK R) w fun t20 w =>
 K3 t20 w) (
 K3 undef w)
def n97c4 (t0 t3 t7 t11:Value) (R:RT) (w:World):Prop :=
 pickK t7 (.bool true) t11 fun t12 =>
 joinK (fun (t17:Value) (w:World) =>
 n97c3 t0 t3 t12 t17 R w) fun K2 =>
 guardP t12 false (
 opV Pg (Instr.fieldAt 71 t3 2) (panK R) w fun t14 w =>
 opV Pg (Instr.loadAt 3 t14) (panK R) w fun t15 w =>
 opV Pg (binS .geq 3 true t15 (.int .i64 8)) (panK R) w fun t16 w =>
 K2 t16 w) (
 K2 undef w)
def n97 (t0 t1:Value) (R:RT) (w:World):Prop :=
 opV Pg (Instr.box 71 t1) (panK R) w fun t3 w =>
 opV Pg (Instr.fieldAt 71 t3 2) (panK R) w fun t5 w =>
 opV Pg (Instr.loadAt 3 t5) (panK R) w fun t6 w =>
 opV Pg (binS .eql 3 true t6 (.int .i64 2)) (panK R) w fun t7 w =>
 joinK (fun (t11:Value) (w:World) =>
 n97c4 t0 t3 t7 t11 R w) fun K1 =>
 guardP t7 false (
 opV Pg (Instr.fieldAt 71 t3 2) (panK R) w fun t9 w =>
 opV Pg (Instr.loadAt 3 t9) (panK R) w fun t10 w =>
 opV Pg (binS .eql 3 true t10 (.int .i64 4)) (panK R) w fun t11 w =>
 K1 t11 w) (
 K1 undef w)
theorem n97s {t0 t1:Value} {R:RT} {w:World} (h:n97 t0 t1 R w):Calls Pg 161 #[t0,t1] w R:=by
 refine yD Tryz.func161 ?_
 refine zs<|zr<|yv h fun _ w h=>zn<|zk<|sim_regionG<|yG 5<|zm<|yv h fun _ w h=>yv h fun _ w h=>yb h fun _ w h=>zm<|zn<|yg1 3 4 false [9,10,11] 11 h (fun _ T hT h=>?_) fun σ w h=>?_
 · refine yv h fun _ w h=>yv h fun _ w h=>yb h fun _ w h=>zn ?_
   exact zt hT h
 refine yG 2<|yp h fun _ h=>zm<|zn<|yg1 4 9 false [14,15,16,17] 17 h (fun _ T hT h=>?_) fun σ w h=>?_
 · refine yv h fun _ w h=>yv h fun _ w h=>yb h fun _ w h=>zm<|zn ?_
   exact zt hT h
 refine yg1 3 13 true [18,19,20] 20 h (fun _ T hT h=>?_) fun σ w h=>?_
 · refine yv h fun _ w h=>yv h fun _ w h=>yb h fun _ w h=>zn ?_
   exact zt hT h
 refine yg1 2 9 false [21,22] 22 h (fun _ T hT h=>?_) fun σ w h=>?_
 · refine yp h fun _ h=>zm<|zn ?_
   exact zt hT h
 refine yg1 4 18 true [23,24,25,26] 26 h (fun _ T hT h=>?_) fun σ w h=>?_
 · refine yv h fun _ w h=>yv h fun _ w h=>yb h fun _ w h=>yb h fun _ w h=>zn ?_
   exact zt hT h
 refine yg1 1 9 false [27] 27 h (fun _ T hT h=>?_) fun σ w h=>?_
 · refine yp h fun _ h=>zn ?_
   exact zt hT h
 exact yG 2<|yp h fun _ h=>yc h c105 fun _ w h=>zn<|sim_end<|body_normal<|body_ret0 rfl h
def n98 (t0:Value) (R:RT) (w:World):Prop :=
 opN Pg (nilN t0) (panK R) w fun t4 w =>
 opV Pg (Instr.fieldAt 71 t4 10) (panK R) w fun t5 w =>
 opU Pg (Instr.storeAt 9 t5 (.string { data := #[] })) (panK R) w fun w =>
 opN Pg (nilN t0) (panK R) w fun t6 w =>
 opV Pg (Instr.fieldAt 71 t6 12) (panK R) w fun t7 w =>
 opU Pg (Instr.storeAt 3 t7 (.int .i64 0)) (panK R) w fun w =>
 R (.returned (.tuple #[])) w
theorem n98s {t0:Value} {R:RT} {w:World} (h:n98 t0 R w):Calls Pg 162 #[t0] w R:=by
 refine yD Tryz.func162 ?_
 exact zr<|zm<|zm<|yN h fun _ w h=>yv h fun _ w h=>yu h fun w h=>yN h fun _ w h=>yv h fun _ w h=>yu h fun w h=>zn<|body_normal<|body_ret0 rfl h
def n100c1 (t0 t17:Value) (C1:World→Prop) (R:RT) (w:World):Prop :=
 qV Pg C1 (Instr.extract t17 0) fun t18 =>
 qV Pg C1 (Instr.extract t17 1) fun t19 =>
 callK Pg 105 #[t0,t19,(.int .i64 8)] (panK R) w fun t22 w =>
 R (.returned (.tuple #[])) w
def n100c2 (t0 t3:Value) (C1:World→Prop) (R:RT) (w:World):Prop :=
 qV Pg C1 (Instr.fieldAt 71 t3 10) fun t15 =>
 qV Pg C1 (Instr.loadAt 9 t15) fun t16 =>
 callK Pg 134 #[t0] (panK R) w fun t13 w =>
 C1 w∧(
 qV Pg C1 (Instr.build 53 #[(1,t13)]) fun t14 =>
 callK Pg 91 #[t14,t16] (panK R) w fun t17 w =>
 C1 w∧(
 n100c1 t0 t17 C1 R w))
def n100 (t0 t1:Value) (R:RT) (w:World):Prop :=
 opV Pg (Instr.box 71 t1) (panK R) w fun t3 w =>
 opV Pg (Instr.fieldAt 71 t3 12) (panK R) w fun t7 w =>
 opV Pg (Instr.loadAt 3 t7) (panK R) w fun t8 w =>
 opV Pg (Instr.buildSlice 217 1 #[(0,t8)]) (panK R) w fun t9 w =>
 callK Pg 142 #[t0,(.int .i64 1),(.int .i64 3),t9] (panK R) w fun t10 w =>
 drawK w fun C1 w =>
 n100c2 t0 t3 C1 R w
theorem n100s {t0 t1:Value} {R:RT} {w:World} (h:n100 t0 t1 R w):Calls Pg 163 #[t0,t1] w R:=by
 refine yD Tryz.func163 ?_
 refine zs<|zr<|yv h fun _ w h=>zn<|zk<|zs<|zr<|zm<|yv h fun _ w h=>yv h fun _ w h=>yS h fun _ w h=>yc h c142 fun _ w h=>zn<|zk<|zs ?_
 refine yh [4,5,11,12,13,14,15,16,17,18,19] h fun C hC h=>yw 0 hC ?_
 refine ye 3 hC h fun _ h=>?_
 refine ye 4 hC h fun _ h=>?_
 refine yo 1 ?_
 refine yc h c134 fun _ w h=>zn ?_
 obtain ⟨hC,h⟩:=h
 refine ⟨hC,?_⟩
 refine ye 2 hC h fun _ h=>?_
 refine yo 5 ?_
 refine yc h c91 fun _ w h=>zn ?_
 obtain ⟨hC,h⟩:=h
 refine ⟨hC,?_⟩
 refine yw 6 hC ?_
 refine ye 7 hC h fun _ h=>?_
 refine ye 8 hC h fun _ h=>?_
 refine yw 9 hC ?_
 refine yw 10 hC ?_
 exact yz<|zk<|zr<|zm<|zm<|yc h c105 fun _ w h=>zn<|body_normal<|body_ret0 rfl h
def n101 (t0:Value) (R:RT) (w:World):Prop :=
 opV Pg (Instr.build 68 #[]) (panK R) w fun t5 w =>
 opN Pg (nilN t0) (panK R) w fun t6 w =>
 opV Pg (Instr.fieldAt 71 t6 8) (panK R) w fun t7 w =>
 opU Pg (Instr.storeAt 9 t7 (.string { data := #[] })) (panK R) w fun w =>
 opN Pg (nilN t0) (panK R) w fun t8 w =>
 opV Pg (Instr.fieldAt 71 t8 7) (panK R) w fun t9 w =>
 opU Pg (Instr.storeAt 68 t9 t5) (panK R) w fun w =>
 opN Pg (nilN t0) (panK R) w fun t10 w =>
 opV Pg (Instr.fieldAt 71 t10 13) (panK R) w fun t11 w =>
 opU Pg (Instr.storeAt 3 t11 (.int .i64 0)) (panK R) w fun w =>
 R (.returned (.tuple #[])) w
theorem n101s {t0:Value} {R:RT} {w:World} (h:n101 t0 R w):Calls Pg 164 #[t0] w R:=by
 refine yD Tryz.func164 ?_
 refine zr<|zm<|zm<|zm<|yB h fun _ w h=>yN h fun _ w h=>yv h fun _ w h=>yu h fun w h=>yN h fun _ w h=>yv h fun _ w h=>yu h fun w h=>yN h fun _ w h=>yv h fun _ w h=>yu h fun w h=>zn ?_
 exact body_normal<|body_ret0 rfl h
def n102c1 (t0 t3:Value) (C1:World→Prop) (R:RT) (w:World):Prop :=
 qN Pg C1 (nilN t0) fun t11 =>
 qV Pg C1 (Instr.fieldAt 175 t11 2) fun t12 =>
 qV Pg C1 (Instr.loadAt 99 t12) fun t13 =>
 qV Pg C1 (Instr.fieldAt 71 t3 8) fun t14 =>
 qV Pg C1 (Instr.loadAt 9 t14) fun t15 =>
 qV Pg C1 (Instr.lookup 99 t13 t15 false) fun t16 =>
 callK Pg 105 #[t0,t16,(.int .i64 8)] (panK R) w fun t17 w =>
 C1 w∧(
 opV Pg (Instr.loadAt 71 t3) (panK R) w fun t19 w =>
 callK Pg 148 #[t0,t19] (panK R) w fun t20 w =>
 R (.returned (.tuple #[])) w)
def n102 (t0 t1:Value) (R:RT) (w:World):Prop :=
 opV Pg (Instr.box 71 t1) (panK R) w fun t3 w =>
 opV Pg (Instr.fieldAt 71 t3 13) (panK R) w fun t5 w =>
 opV Pg (Instr.loadAt 3 t5) (panK R) w fun t6 w =>
 opV Pg (Instr.buildSlice 217 1 #[(0,t6)]) (panK R) w fun t7 w =>
 callK Pg 142 #[t0,(.int .i64 0),(.int .i64 4294967295),t7] (panK R) w fun t8 w =>
 drawK w fun C1 w =>
 n102c1 t0 t3 C1 R w
theorem n102s {t0 t1:Value} {R:RT} {w:World} (h:n102 t0 t1 R w):Calls Pg 165 #[t0,t1] w R:=by
 refine yD Tryz.func165 ?_
 refine zs<|zr<|yv h fun _ w h=>zn<|zk<|zs<|zr<|zm<|yv h fun _ w h=>yv h fun _ w h=>yS h fun _ w h=>yc h c142 fun _ w h=>zn<|zk<|zs ?_
 refine yh [9,10,11,12,13,14,15,16,17] h fun C hC h=>yw 0 hC ?_
 refine yw 1 hC ?_
 refine yn 2 hC h fun _ h=>?_
 refine ye 3 hC h fun _ h=>?_
 refine ye 4 hC h fun _ h=>?_
 refine ye 5 hC h fun _ h=>?_
 refine ye 6 hC h fun _ h=>?_
 refine ye 7 hC h fun _ h=>?_
 refine yo 8 ?_
 refine yc h c105 fun _ w h=>zn ?_
 obtain ⟨hC,h⟩:=h
 refine ⟨hC,?_⟩
 exact yz<|zk<|zr<|zm<|yv h fun _ w h=>yc h c148 fun _ w h=>zn<|body_normal<|body_ret0 rfl h
def n121c1 (t1 t6 t15:Value) (C1:World→Prop) (R:RT) (w:World):Prop :=
 joinK (fun (t21:Value) (w:World) =>
 pickK t15 t21 (.bool false) fun t22 =>
 R (.returned t22) w) fun K2 =>
 guardP t15 true (
 qV Pg C1 (Instr.fieldAt 68 t1 1) fun t17 =>
 qV Pg C1 (Instr.loadAt 66 t17) fun t18 =>
 callK Pg 99 #[t18,t6] (panK R) w fun t20 w =>
 C1 w∧(
 qV Pg C1 (Op.unary .not t20) fun t21 =>
 K2 t21 w)) (
 K2 undef w)
def n121c2 (t1 t6 t9 t13:Value) (C1:World→Prop) (R:RT) (w:World):Prop :=
 C1 w∧(
 opV Pg (Instr.buildSlice 75 2 #[(0,t9),(1,t13)]) (panK R) w fun t14 w =>
 C1 w∧(
 callK Pg 124 #[t14] (panK R) w fun t15 w =>
 C1 w∧(
 n121c1 t1 t6 t15 C1 R w)))
def n121c3 (t1 t6:Value) (C1:World→Prop) (R:RT) (w:World):Prop :=
 qV Pg C1 (Instr.fieldAt 68 t1 0) fun t7 =>
 qV Pg C1 (Instr.loadAt 3 t7) fun t8 =>
 qV Pg C1 (Instr.fieldAt 68 t1 1) fun t10 =>
 qV Pg C1 (Instr.loadAt 66 t10) fun t11 =>
 qV Pg C1 (Builtin.len_ #[66] 3 #[t11]) fun t12 =>
 qV Pg C1 (binS .leq 3 true t12 (.int .i64 4)) fun t13 =>
 callK Pg 172 #[t8] (panK R) w fun t9 w =>
 n121c2 t1 t6 t9 t13 C1 R w
def n121 (t0:Value) (R:RT) (w:World):Prop :=
 opV Pg (Instr.box 68 t0) (panK R) w fun t1 w =>
 opV Pg (Instr.makeMap 99 none) (panK R) w fun t5 w =>
 opV Pg (Instr.alloc 99 true (.tuple #[])) (panK R) w fun t3 w =>
 opU Pg (Instr.storeAt 99 t3 t5) (panK R) w fun w =>
 opV Pg (Instr.makeFunc (.func 171) #[] #[t3]) (panK R) w fun t6 w =>
 drawK w fun C1 w =>
 n121c3 t1 t6 C1 R w
theorem n121s {t0:Value} {R:RT} {w:World} (h:n121 t0 R w):Calls Pg 166 #[t0] w R:=by
 refine yD Tryz.func166 ?_
 refine zs<|zr<|yv h fun _ w h=>zm<|zn<|zk<|zs<|zr<|yv h fun _ w h=>yv h fun _ w h=>yu h fun w h=>zn<|zk<|zs<|zr ?_
 refine yF h fun _ w h=>zm<|zn<|zk<|zs<|yh [2,7,8,9,10,11,12,13,14,15,16,17,18,19,20,21,22] h fun C hC h=>ye 0 hC h fun _ h=>?_
 refine ye 1 hC h fun _ h=>?_
 refine ye 3 hC h fun _ h=>?_
 refine ye 4 hC h fun _ h=>?_
 refine ye 5 hC h fun _ h=>?_
 refine ye 6 hC h fun _ h=>?_
 refine yo 2 ?_
 refine yc h c172 fun _ w h=>zn ?_
 obtain ⟨hC,h⟩:=h
 refine ⟨hC,?_⟩
 refine yo 7 ?_
 refine yS h fun _ w h=>zn ?_
 obtain ⟨hC,h⟩:=h
 refine ⟨hC,?_⟩
 refine yo 8 ?_
 refine yc h c124 fun _ w h=>zn ?_
 obtain ⟨hC,h⟩:=h
 refine ⟨hC,?_⟩
 refine yw 9 hC ?_
 refine yj1 2 [14,13,12,11,10,9,8,7,2,6,5,4,3,1,0] [17,18,19,20,21] 21 h (fun _ hT hb h=>?_) (fun _ hT hb h=>?_) fun σ w hC h=>?_
 · refine ye 10 hC h fun _ h=>?_
   refine ye 11 hC h fun _ h=>?_
   refine yw 12 hC ?_
   refine yo 13 ?_
   refine yc h c99 fun _ w h=>zn ?_
   obtain ⟨hC,h⟩:=h
   refine ⟨hC,?_⟩
   refine ye 14 hC h fun _ h=>?_
   exact yt hT hC h
 · refine yi 10 hC ?_
   refine yi 11 hC ?_
   refine yi 12 hC ?_
   refine yi 13 hC ?_
   refine yi 14 hC ?_
   exact yt hT hC h
 refine yP 15 hC h fun _ h=>?_
 refine yw 16 hC ?_
 exact yz<|zk<|sim_ret<|body_ret1 rfl rfl h
def n111c1 (t5 t6 t8:Value) (K2:World→Prop) (R:RT) (w:World):Prop :=
 opV Pg (Instr.fieldAt 71 t5 0) (panK R) w fun t23 w =>
 opV Pg (Instr.loadAt 9 t23) (panK R) w fun t24 w =>
 opV Pg (Instr.loadAt 223 t6) (panK R) w fun t25 w =>
 opU Pg (Instr.mapUpdate 219 t8 t24 t25) (panK R) w fun w =>
 K2 w
def n111c2 (t5 t8 t11 t17:Value) (next1:KV) (R:RT) (w:World):Prop :=
 opV Pg (Instr.extract t17 0) (panK R) w fun t18 w =>
 opV Pg (Instr.extract t17 1) (panK R) w fun t19 w =>
 opV Pg (Instr.alloc 223 true (.tuple #[])) (panK R) w fun t6 w =>
 opU Pg (Instr.storeAt 223 t6 t18) (panK R) w fun w =>
 opV Pg (binS .eql 37 true t19 (.int .i64 0)) (panK R) w fun t21 w =>
 joinK (fun (w:World) =>
 opV Pg (binS .add 3 true t11 (.int .i64 1)) (panK R) w fun t26 w =>
 next1 t26 w) fun K2 =>
 condP t21 (
 n111c1 t5 t6 t8 K2 R w) (
 K2 w)
def n111c3 (t0 t8 t11:Value) (next1:KV) (R:RT) (w:World):Prop :=
 opV Pg (Instr.indexAt 51 t0 t11) (panK R) w fun t13 w =>
 opV Pg (Instr.loadAt 71 t13) (panK R) w fun t14 w =>
 opV Pg (Instr.alloc 71 true (.tuple #[])) (panK R) w fun t5 w =>
 opU Pg (Instr.storeAt 71 t5 t14) (panK R) w fun w =>
 opV Pg (Instr.loadAt 71 t5) (panK R) w fun t16 w =>
 callK Pg 173 #[t16] (panK R) w fun t17 w =>
 n111c2 t5 t8 t11 t17 next1 R w
def n111 (t0:Value) (R:RT) (w:World):Prop :=
 opV Pg (Instr.makeMap 219 none) (panK R) w fun t8 w =>
 opV Pg (Builtin.len_ #[51] 3 #[t0]) (panK R) w fun t10 w =>
 loop1 (fun t11 w next1 =>
 opV Pg (binS .lss 3 false t11 t10) (panK R) w fun t12 w =>
 condP t12 (
 n111c3 t0 t8 t11 next1 R w) (
 R (.returned t8) w)) (.int .i64 0) w
theorem n111s {t0:Value} {R:RT} {w:World} (h:n111 t0 R w):Calls Pg 167 #[t0] w R:=by
 refine yD Tryz.func167 ?_
 refine zs<|zr<|zm<|zn<|zk<|zs<|zr<|yv h fun _ w h=>zm<|zn<|zk<|zs<|zs<|zr<|zm ?_
 refine yx h fun _ w h=>zm<|zn<|zk<|sim_block<|yl1 [5,6,7,11,12,13,14,15,16,17,18,19,20,21,22,23,24,25,26] 11 h fun σ w next h=>zs<|zr<|yb h fun _ w h=>zn<|zk<|zs<|yC h (fun h=>?_) fun h=>?_
 · refine sim_skip<|zk<|zs<|sim_block<|zs<|zr<|yv h fun _ w h=>yv h fun _ w h=>yv h fun _ w h=>yu h fun w h=>zn<|zk<|zs<|zr<|yv h fun _ w h=>?_
   refine yc h c173 fun _ w h=>zm<|yv h fun _ w h=>yv h fun _ w h=>yv h fun _ w h=>yu h fun w h=>zm<|zn<|zk<|zs<|zr<|zm<|yb h fun _ w h=>zn<|zk ?_
   refine yJ0 [22,23,24,25] h (fun _ _ hkK2 h=>?_) fun σ w h=>?_
   · refine yC h (fun h=>?_) fun h=>?_
     · refine zr<|zm<|yv h fun _ w h=>yv h fun _ w h=>yv h fun _ w h=>yu h fun w h=>zn<|zk ?_
       exact zt hkK2 h
     refine sim_skip<|zk ?_
     exact zt hkK2 h
   exact sim_block_normal<|zk<|zr<|yb h fun _ w h=>zm<|zn<|zk<|⟨rfl,h⟩
 exact sim_exit<|sim_then_exit<|sim_then_exit<|sim_block_hit<|zk<|zs<|zr<|zm<|zm<|zn<|zk<|sim_ret<|body_ret1 rfl rfl h
def n119c1 (t1 t3:Value) (K1:World→Prop) (R:RT) (w:World):Prop :=
 opV Pg (Instr.fieldAt 68 t1 1) (panK R) w fun t6 w =>
 opV Pg (Instr.loadAt 66 t6) (panK R) w fun t7 w =>
 callK Pg 54 #[t7] (panK R) w fun t8 w =>
 opU Pg (Instr.storeAt 66 t3 t8) (panK R) w fun w =>
 K1 w
def n119 (t0:Value) (R:RT) (w:World):Prop :=
 opV Pg (Instr.box 68 t0) (panK R) w fun t1 w =>
 opV Pg (Instr.alloc 66 true (.tuple #[])) (panK R) w fun t3 w =>
 opV Pg (Instr.loadAt 68 t1) (panK R) w fun t4 w =>
 callK Pg 166 #[t4] (panK R) w fun t5 w =>
 joinK (fun (w:World) =>
 opV Pg (Instr.makeFunc (.func 174) #[] #[t3]) (panK R) w fun t9 w =>
 R (.returned t9) w) fun K1 =>
 condP t5 (
 n119c1 t1 t3 K1 R w) (
 K1 w)
theorem n119s {t0:Value} {R:RT} {w:World} (h:n119 t0 R w):Calls Pg 168 #[t0] w R:=by
 refine yD Tryz.func168 ?_
 refine zs<|zr<|yv h fun _ w h=>zm<|zn<|zk<|zs<|zr<|yv h fun _ w h=>zn<|zk<|zs<|zs<|zr<|yv h fun _ w h=>?_
 refine yc h c166 fun _ w h=>zn<|zk<|yJ0 [6,7,8] h (fun _ _ hkK1 h=>?_) fun σ w h=>?_
 · refine yC h (fun h=>?_) fun h=>?_
   · refine zr<|yv h fun _ w h=>yv h fun _ w h=>yc h c54 fun _ w h=>yu h fun w h=>zn<|zk ?_
     exact zt hkK1 h
   refine sim_skip<|zk ?_
   exact zt hkK1 h
 exact zk<|zs<|zr<|yF h fun _ w h=>zm<|zn<|zk<|sim_ret<|body_ret1 rfl rfl h
def n113c1 (t4 t19 t21:Value) (R:RT) (w:World):Prop :=
 opV Pg (Instr.build 223 #[(0,t19),(1,t21)]) (panK R) w fun t22 w =>
 opU Pg (Instr.storeAt 223 t4 t22) (panK R) w fun w =>
 qW Pg 223 t4 w fun r0 =>
 R (.returned (.tuple #[r0,(.int .i64 0)])) w
def n113c2 (t2 t3 t4:Value) (R:RT) (w:World):Prop :=
 opV Pg (Instr.makeFunc (.func 177) #[] #[t2,t3]) (panK R) w fun t17 w =>
 callV Pg t17 #[(.bool true)] (panK R) w fun t19 w =>
 callV Pg t17 #[(.bool false)] (panK R) w fun t21 w =>
 n113c1 t4 t19 t21 R w
def n113c3 (t2 t3 t4 t12:Value) (R:RT) (w:World):Prop :=
 opV Pg (binS .neq 37 true t12 (.int .i64 0)) (panK R) w fun t14 w =>
 condP t14 (
 opV Pg (Instr.build 223 #[]) (panK R) w fun t15 w =>
 opU Pg (Instr.storeAt 223 t4 t15) (panK R) w fun w =>
 qW Pg 223 t4 w fun r0 =>
 R (.returned (.tuple #[r0,t12])) w) (
 n113c2 t2 t3 t4 R w)
def n113 (t0 t1:Value) (R:RT) (w:World):Prop :=
 opV Pg (Instr.box 68 t0) (panK R) w fun t2 w =>
 opV Pg (Instr.box 219 t1) (panK R) w fun t3 w =>
 opV Pg (Instr.alloc 223 true (.tuple #[])) (panK R) w fun t4 w =>
 opV Pg (Instr.loadAt 68 t2) (panK R) w fun t9 w =>
 opV Pg (Instr.loadAt 219 t3) (panK R) w fun t10 w =>
 callK Pg 176 #[t9,(.string { data := #[] }),t10,(.func (.func 175) #[] #[])] (panK R) w fun t12 w =>
 n113c3 t2 t3 t4 t12 R w
theorem n113s {t0 t1:Value} {R:RT} {w:World} (h:n113 t0 t1 R w):Calls Pg 169 #[t0,t1] w R:=by
 refine yD Tryz.func169 ?_
 refine zs<|zr<|yv h fun _ w h=>yv h fun _ w h=>yv h fun _ w h=>zm<|zn<|zk<|zs<|zr<|zm<|zn<|zk<|zs<|zs ?_
 refine zr<|yv h fun _ w h=>yv h fun _ w h=>zm<|yc h c176 fun _ w h=>zm<|zn<|zk<|zs<|zr<|zm<|yb h fun _ w h=>zn<|zk<|yC h (fun h=>zs<|zr<|yB h fun _ w h=>zm<|yu h fun w h=>zm<|zn<|zk<|sim_ret<|sim_then_ret<|body_retCT rfl rfl rfl h) fun h=>?_
 refine sim_skip<|zk<|zs<|zr<|yF h fun _ w h=>zm<|zn<|zk<|zs<|zr<|zm<|yV h fun _ w h=>zm<|yV h fun _ w h=>yB h fun _ w h=>?_
 exact yu h fun w h=>zm<|zn<|zk<|sim_ret<|body_retCT rfl rfl rfl h
def n76 (t0 t1:Value) (R:RT) (w:World):Prop :=
 opV Pg (Instr.box 71 t0) (panK R) w fun t2 w =>
 opV Pg (Instr.fieldAt 71 t2 1) (panK R) w fun t4 w =>
 opV Pg (Instr.loadAt 65 t4) (panK R) w fun t5 w =>
 opV Pg (binS .eql 65 true t5 (.int .i64 9)) (panK R) w fun t6 w =>
 joinK (fun (t12:Value) (w:World) =>
 pickK t6 t12 (.bool false) fun t13 =>
 R (.returned t13) w) fun K1 =>
 guardP t6 true (
 opV Pg (Instr.fieldAt 71 t2 9) (panK R) w fun t8 w =>
 opV Pg (Instr.loadAt 9 t8) (panK R) w fun t9 w =>
 opV Pg (Instr.fieldAt 71 t1 9) (panK R) w fun t10 w =>
 opV Pg (Instr.loadAt 9 t10) (panK R) w fun t11 w =>
 opV Pg (binS .eql 9 false t9 t11) (panK R) w fun t12 w =>
 K1 t12 w) (
 K1 undef w)
theorem n76s {t0 t1:Value} {R:RT} {w:World} (h:n76 t0 t1 R w):Calls Pg 170 #[t0,t1] w R:=by
 refine yD Tryz.func170 ?_
 refine zs<|zr<|yv h fun _ w h=>zm<|zn<|zk<|zs<|sim_regionG<|yG 4<|yv h fun _ w h=>yv h fun _ w h=>yb h fun _ w h=>zm<|zn<|yg1 5 3 true [8,9,10,11,12] 12 h (fun _ T hT h=>?_) fun σ w h=>?_
 · refine yv h fun _ w h=>yv h fun _ w h=>yv h fun _ w h=>yv h fun _ w h=>yb h fun _ w h=>zn ?_
   exact zt hT h
 exact yG 2<|yp h fun _ h=>zm<|zn<|sim_end<|zk<|sim_ret<|body_ret1 rfl rfl h
def n122c1 (t16 t19 t22:Value) (C1:World→Prop) (K2:KV) (R:RT) (w:World):Prop :=
 opV Pg (Instr.buildSlice 75 3 #[(0,t16),(1,t19),(2,t22)]) (panK R) w fun t23 w =>
 C1 w∧(
 callK Pg 124 #[t23] (panK R) w fun t24 w =>
 C1 w∧(
 qV Pg C1 (Op.unary .not t24) fun t25 =>
 K2 t25 w))
def n122c2 (t2:Value) (C1:World→Prop) (K2:KV) (R:RT) (w:World):Prop :=
 qV Pg C1 (Instr.fieldAt 113 t2 0) fun t14 =>
 qV Pg C1 (Instr.loadAt 9 t14) fun t15 =>
 qV Pg C1 (Instr.fieldAt 113 t2 1) fun t17 =>
 qV Pg C1 (Instr.loadAt 3 t17) fun t18 =>
 qV Pg C1 (binS .neq 3 true t18 (.int .i64 0)) fun t19 =>
 qV Pg C1 (Instr.fieldAt 113 t2 1) fun t20 =>
 qV Pg C1 (Instr.loadAt 3 t20) fun t21 =>
 callK Pg 106 #[t15] (panK R) w fun t16 w =>
 C1 w∧(
 callK Pg 172 #[t21] (panK R) w fun t22 w =>
 C1 w∧(
 n122c1 t16 t19 t22 C1 K2 R w))
def n122 (t0 t1:Value) (R:RT) (w:World):Prop :=
 opV Pg (Instr.box 113 t0) (panK R) w fun t2 w =>
 opV Pg (Instr.loadAt 99 t1) (panK R) w fun t5 w =>
 opV Pg (Instr.fieldAt 113 t2 0) (panK R) w fun t6 w =>
 opV Pg (Instr.loadAt 9 t6) (panK R) w fun t7 w =>
 opV Pg (Instr.lookup 99 t5 t7 false) (panK R) w fun t8 w =>
 opV Pg (Instr.loadAt 99 t1) (panK R) w fun t9 w =>
 opV Pg (Instr.fieldAt 113 t2 0) (panK R) w fun t10 w =>
 opV Pg (Instr.loadAt 9 t10) (panK R) w fun t11 w =>
 opU Pg (Instr.mapUpdate 99 t9 t11 (.bool true)) (panK R) w fun w =>
 drawK w fun C1 w =>
 joinK (fun (t25:Value) (w:World) =>
 pickK t8 (.bool true) t25 fun t26 =>
 R (.returned t26) w) fun K2 =>
 guardP t8 false (
 n122c2 t2 C1 K2 R w) (
 K2 undef w)
theorem n122s {t0 t1:Value} {R:RT} {w:World} (h:n122 t0 t1 R w):Calls Pg 171 #[t0,t1] w R:=by
 refine yD Tryz.func171 ?_
 refine zs<|zr<|yv h fun _ w h=>zm<|zn<|zk<|zs<|zr<|yv h fun _ w h=>yv h fun _ w h=>yv h fun _ w h=>yv h fun _ w h=>zm<|zn<|zk ?_
 refine zs<|zr<|yv h fun _ w h=>yv h fun _ w h=>yv h fun _ w h=>yu h fun w h=>zn<|zk<|zs<|yh [3,12,13,14,15,16,17,18,19,20,21,22,23,24,25,26] h fun C hC h=>yw 0 hC ?_
 refine yw 1 hC ?_
 refine yj1 2 [13,12,11,10,4,9,8,7,6,5,3,2,1,0] [14,15,16,17,18,19,20,21,22,23,24,25] 25 h (fun _ hT hb h=>?_) (fun _ hT hb h=>?_) fun σ w hC h=>?_
 · refine ye 2 hC h fun _ h=>?_
   refine ye 3 hC h fun _ h=>?_
   refine ye 5 hC h fun _ h=>?_
   refine ye 6 hC h fun _ h=>?_
   refine ye 7 hC h fun _ h=>?_
   refine ye 8 hC h fun _ h=>?_
   refine ye 9 hC h fun _ h=>?_
   refine yo 4 ?_
   refine yc h c106 fun _ w h=>zn ?_
   obtain ⟨hC,h⟩:=h
   refine ⟨hC,?_⟩
   refine yo 10 ?_
   refine yc h c172 fun _ w h=>zn ?_
   obtain ⟨hC,h⟩:=h
   refine ⟨hC,?_⟩
   refine yo 11 ?_
   refine yS h fun _ w h=>zn ?_
   obtain ⟨hC,h⟩:=h
   refine ⟨hC,?_⟩
   refine yo 12 ?_
   refine yc h c124 fun _ w h=>zn ?_
   obtain ⟨hC,h⟩:=h
   refine ⟨hC,?_⟩
   refine ye 13 hC h fun _ h=>?_
   exact yt hT hC h
 · refine yi 2 hC ?_
   refine yi 3 hC ?_
   refine yi 5 hC ?_
   refine yi 6 hC ?_
   refine yi 7 hC ?_
   refine yi 8 hC ?_
   refine yi 9 hC ?_
   refine yi 4 hC ?_
   refine yi 10 hC ?_
   refine yi 11 hC ?_
   refine yi 12 hC ?_
   refine yi 13 hC ?_
   exact yt hT hC h
 refine yP 14 hC h fun _ h=>?_
 refine yw 15 hC ?_
 exact yz<|zk<|sim_ret<|body_ret1 rfl rfl h
def n128 (t0:Value) (R:RT) (w:World):Prop :=
 opV Pg (binS .geq 3 true t0 (.int .i64 (-1048576))) (panK R) w fun t4 w =>
 joinK (fun (t7:Value) (w:World) =>
 pickK t4 t7 (.bool false) fun t8 =>
 R (.returned t8) w) fun K1 =>
 guardP t4 true (
 opV Pg (binS .leq 3 true t0 (.int .i64 1048576)) (panK R) w fun t7 w =>
 K1 t7 w) (
 K1 undef w)
theorem n128s {t0:Value} {R:RT} {w:World} (h:n128 t0 R w):Calls Pg 172 #[t0] w R:=by
 refine yD Tryz.func172 ?_
 refine zs<|zr<|zm<|zn<|zk<|zs<|sim_regionG<|yG 3<|zm<|yb h fun _ w h=>zm<|zn<|yg1 2 2 true [6,7] 7 h (fun _ T hT h=>?_) fun σ w h=>?_
 · refine zm<|yb h fun _ w h=>zn ?_
   exact zt hT h
 exact yG 2<|yp h fun _ h=>zm<|zn<|sim_end<|zk<|sim_ret<|body_ret1 rfl rfl h
def n70c1 (t1 t2:Value) (R:RT) (w:World):Prop :=
 opV Pg (Instr.fieldAt 71 t1 5) (panK R) w fun t13 w =>
 opV Pg (Instr.loadAt 3 t13) (panK R) w fun t14 w =>
 opV Pg (Instr.fieldAt 71 t1 5) (panK R) w fun t15 w =>
 opV Pg (Instr.loadAt 3 t15) (panK R) w fun t16 w =>
 opV Pg (Instr.build 223 #[(0,t14),(1,t16)]) (panK R) w fun t17 w =>
 opU Pg (Instr.storeAt 223 t2 t17) (panK R) w fun w =>
 qW Pg 223 t2 w fun r0 =>
 R (.returned (.tuple #[r0,(.int .i64 0)])) w
def n70c2 (t1 t2:Value) (R:RT) (w:World):Prop :=
 opV Pg (Instr.fieldAt 71 t1 5) (panK R) w fun t18 w =>
 opV Pg (Instr.loadAt 3 t18) (panK R) w fun t19 w =>
 opV Pg (Instr.fieldAt 71 t1 6) (panK R) w fun t20 w =>
 opV Pg (Instr.loadAt 3 t20) (panK R) w fun t21 w =>
 opV Pg (Instr.build 223 #[(0,t19),(1,t21)]) (panK R) w fun t22 w =>
 opU Pg (Instr.storeAt 223 t2 t22) (panK R) w fun w =>
 qW Pg 223 t2 w fun r0 =>
 R (.returned (.tuple #[r0,(.int .i64 0)])) w
def n70c3 (t2:Value) (R:RT) (w:World):Prop :=
 opV Pg (Instr.build 223 #[]) (panK R) w fun t8 w =>
 opU Pg (Instr.storeAt 223 t2 t8) (panK R) w fun w =>
 qW Pg 223 t2 w fun r0 =>
 R (.returned (.tuple #[r0,(.int .i64 2)])) w
def n70c4 (t1 t2:Value) (R:RT) (w:World):Prop :=
 opV Pg (Instr.fieldAt 71 t1 1) (panK R) w fun t10 w =>
 opV Pg (Instr.loadAt 65 t10) (panK R) w fun t11 w =>
 opV Pg (binS .eql 65 true t11 (.int .i64 2)) (panK R) w fun t12 w =>
 condP t12 (
 n70c1 t1 t2 R w) (
 n70c2 t1 t2 R w)
def n70 (t0:Value) (R:RT) (w:World):Prop :=
 opV Pg (Instr.box 71 t0) (panK R) w fun t1 w =>
 opV Pg (Instr.alloc 223 true (.tuple #[])) (panK R) w fun t2 w =>
 opV Pg (Instr.loadAt 71 t1) (panK R) w fun t5 w =>
 callK Pg 76 #[t5] (panK R) w fun t6 w =>
 opV Pg (Op.unary .not t6) (panK R) w fun t7 w =>
 condP t7 (
 n70c3 t2 R w) (
 n70c4 t1 t2 R w)
theorem n70s {t0:Value} {R:RT} {w:World} (h:n70 t0 R w):Calls Pg 173 #[t0] w R:=by
 refine yD Tryz.func173 ?_
 refine zs<|zr<|yv h fun _ w h=>yv h fun _ w h=>zm<|zn<|zk<|zs<|sim_block<|zs<|zr<|yv h fun _ w h=>yc h c76 fun _ w h=>yv h fun _ w h=>zm ?_
 refine zn<|zk<|yC h (fun h=>zs<|zr<|yB h fun _ w h=>yu h fun w h=>zm<|zn<|zk<|sim_ret<|sim_block_ret<|sim_then_ret<|body_retCT rfl rfl rfl h) fun h=>zs<|zr<|yv h fun _ w h=>yv h fun _ w h=>yb h fun _ w h=>zm<|zn<|zk<|yC h (fun h=>zs<|zr<|yv h fun _ w h=>yv h fun _ w h=>yv h fun _ w h=>yv h fun _ w h=>yB h fun _ w h=>yu h fun w h=>zm<|zn<|zk<|sim_ret<|sim_block_ret<|sim_then_ret<|body_retCT rfl rfl rfl h) fun h=>sim_skip ?_
 exact sim_block_normal<|zk<|zs<|zr<|yv h fun _ w h=>yv h fun _ w h=>yv h fun _ w h=>yv h fun _ w h=>yB h fun _ w h=>yu h fun w h=>zm<|zn<|zk<|sim_ret<|body_retCT rfl rfl rfl h
def n120c1 (t7 t14:Value) (next1:KV) (R:RT) (w:World):Prop :=
 opV Pg (Op.unary .not t14) (panK R) w fun t15 w =>
 condP t15 (
 R (.returned (.tuple #[])) w) (
 opV Pg (binS .add 3 true t7 (.int .i64 1)) (panK R) w fun t16 w =>
 next1 t16 w)
def n120c2 (t0 t5 t7:Value) (next1:KV) (R:RT) (w:World):Prop :=
 opV Pg (Instr.indexAt 66 t5 t7) (panK R) w fun t9 w =>
 opV Pg (Instr.loadAt 113 t9) (panK R) w fun t10 w =>
 opV Pg (Instr.alloc 113 true (.tuple #[])) (panK R) w fun t4 w =>
 opU Pg (Instr.storeAt 113 t4 t10) (panK R) w fun w =>
 opV Pg (Instr.fieldAt 113 t4 0) (panK R) w fun t12 w =>
 opV Pg (Instr.loadAt 9 t12) (panK R) w fun t13 w =>
 callV Pg t0 #[t13] (panK R) w fun t14 w =>
 n120c1 t7 t14 next1 R w
def n120 (t0 t1:Value) (R:RT) (w:World):Prop :=
 opV Pg (Instr.loadAt 66 t1) (panK R) w fun t5 w =>
 opV Pg (Builtin.len_ #[66] 3 #[t5]) (panK R) w fun t6 w =>
 loop1 (fun t7 w next1 =>
 opV Pg (binS .lss 3 false t7 t6) (panK R) w fun t8 w =>
 condP t8 (
 n120c2 t0 t5 t7 next1 R w) (
 R (.returned (.tuple #[])) w)) (.int .i64 0) w
theorem n120s {t0 t1:Value} {R:RT} {w:World} (h:n120 t0 t1 R w):Calls Pg 174 #[t0,t1] w R:=by
 refine yD Tryz.func174 ?_
 refine zs<|zr<|yv h fun _ w h=>yx h fun _ w h=>zm<|zn<|zk<|sim_block<|yl1 [4,7,8,9,10,11,12,13,14,15,16] 7 h fun σ w next h=>zs<|zr<|yb h fun _ w h=>zn<|zk<|zs ?_
 refine yC h (fun h=>?_) fun h=>?_
 · refine sim_skip<|zk<|zs<|sim_block<|zs<|zr<|yv h fun _ w h=>yv h fun _ w h=>yv h fun _ w h=>yu h fun w h=>zn<|zk<|zs<|zr<|zm ?_
   refine yv h fun _ w h=>yv h fun _ w h=>yV h fun _ w h=>yv h fun _ w h=>zn<|zk<|yC h (fun h=>sim_ret<|sim_block_ret<|sim_then_ret<|sim_then_ret<|sim_block_ret<|body_ret0 rfl h) fun h=>sim_skip<|sim_block_normal<|zk<|zr<|yb h fun _ w h=>zm<|zn ?_
   exact zk<|⟨rfl,h⟩
 exact sim_exit<|sim_then_exit<|sim_then_exit<|sim_block_hit<|body_normal<|body_ret0 rfl h
def n114 (t0:Value) (R:RT) (w:World):Prop :=
 opV Pg (Instr.box 223 t0) (panK R) w fun t1 w =>
 opV Pg (Instr.fieldAt 223 t1 0) (panK R) w fun t3 w =>
 opV Pg (Instr.loadAt 3 t3) (panK R) w fun t4 w =>
 opV Pg (binS .geq 3 true t4 (.int .i64 0)) (panK R) w fun t5 w =>
 opV Pg (Instr.fieldAt 223 t1 0) (panK R) w fun t6 w =>
 opV Pg (Instr.loadAt 3 t6) (panK R) w fun t7 w =>
 opV Pg (Instr.fieldAt 223 t1 1) (panK R) w fun t8 w =>
 opV Pg (Instr.loadAt 3 t8) (panK R) w fun t9 w =>
 opV Pg (binS .leq 3 false t7 t9) (panK R) w fun t10 w =>
 opV Pg (Instr.fieldAt 223 t1 1) (panK R) w fun t11 w =>
 opV Pg (Instr.loadAt 3 t11) (panK R) w fun t12 w =>
 opV Pg (binS .lss 3 true t12 (.int .i64 34359738368)) (panK R) w fun t13 w =>
 opV Pg (Instr.buildSlice 75 3 #[(0,t5),(1,t10),(2,t13)]) (panK R) w fun t14 w =>
 callK Pg 124 #[t14] (panK R) w fun t15 w =>
 R (.returned t15) w
theorem n114s {t0:Value} {R:RT} {w:World} (h:n114 t0 R w):Calls Pg 175 #[t0] w R:=by
 refine yD Tryz.func175 ?_
 refine zs<|zr<|yv h fun _ w h=>zm<|zn<|zk<|zs<|zr<|yv h fun _ w h=>yv h fun _ w h=>yb h fun _ w h=>yv h fun _ w h=>yv h fun _ w h=>yv h fun _ w h=>yv h fun _ w h=>?_
 exact yb h fun _ w h=>yv h fun _ w h=>yv h fun _ w h=>yb h fun _ w h=>yS h fun _ w h=>yc h c124 fun _ w h=>zm<|zn<|zk<|sim_ret<|body_ret1 rfl rfl h
def n124c1 (t7 t8 t11:Value) (K2:World→Prop) (Qr1:List PanicEntry→World→Prop) (Xr1:Nat→World→Prop) (R:RT) (w:World):Prop :=
 opV Pg (Instr.loadAt 228 t7) Qr1 w fun t33 w =>
 opV Pg (Instr.loadAt 223 t11) Qr1 w fun t34 w =>
 callV Pg t33 #[t34] Qr1 w fun t35 w =>
 opV Pg (Op.unary .not t35) Qr1 w fun t36 w =>
 condP t36 (
 opU Pg (Instr.storeAt 37 t8 (.int .i64 2)) Qr1 w fun w =>
 Xr1 0 w) (
 K2 w)
def n124c2 (t5 t6 t7 t8 t9 t18:Value) (Kr1:World→Prop) (Qr1:List PanicEntry→World→Prop) (Xr1:Nat→World→Prop) (R:RT) (w:World):Prop :=
 opV Pg (Instr.loadAt 219 t6) Qr1 w fun t20 w =>
 opV Pg (Instr.lookup 219 t20 t18 true) Qr1 w fun t22 w =>
 opV Pg (Instr.extract t22 0) Qr1 w fun t23 w =>
 opV Pg (Instr.extract t22 1) Qr1 w fun t24 w =>
 opV Pg (Instr.alloc 223 true (.tuple #[])) Qr1 w fun t11 w =>
 opU Pg (Instr.storeAt 223 t11 t23) Qr1 w fun w =>
 opV Pg (Instr.loadAt 9 t5) Qr1 w fun t27 w =>
 opV Pg (binS .eql 9 false t18 t27) Qr1 w fun t28 w =>
 joinK (fun (w:World) =>
 Kr1 w) fun K2 =>
 condP t28 (
 K2 w) (
 opV Pg (Op.unary .not t24) Qr1 w fun t31 w =>
 condP t31 (
 opU Pg (Instr.storeAt 4 t9 (.bool true)) Qr1 w fun w =>
 K2 w) (
 n124c1 t7 t8 t11 K2 Qr1 Xr1 R w))
def n124c3 (t8 t9:Value) (ds:List Deferred) (R:RT) (w:World):Prop :=
 opV Pg (Instr.loadAt 4 t9) (outQ Pg ds [(some 37,t8)] R) w fun t37 w =>
 condP t37 (
 opU Pg (Instr.storeAt 37 t8 (.int .i64 9)) (outQ Pg ds [(some 37,t8)] R) w fun w =>
 outX Pg ds [(some 37,t8)] R w) (
 opU Pg (Instr.storeAt 37 t8 (.int .i64 0)) (outQ Pg ds [(some 37,t8)] R) w fun w =>
 outX Pg ds [(some 37,t8)] R w)
def n124c4 (t5 t6 t7 t8 t9 t17:Value) (ds:List Deferred) (R:RT) (w:World):Prop :=
 rangeN Pg t17 ds (fun l1 t18 w Kr1 Xr1 Qr1 =>
 busyK l1 w fun w =>
 n124c2 t5 t6 t7 t8 t9 t18 Kr1 Qr1 Xr1 R w) (fun ch ds w=>outQ Pg ds [(some 37,t8)] R ch w) w (fun ds w =>
 n124c3 t8 t9 ds R w) [fun ds w =>
 outX Pg ds [(some 37,t8)] R w]
def n124c5 (t4 t5 t6 t7 t8:Value) (ds:List Deferred) (R:RT) (w:World):Prop :=
 opV Pg (Instr.alloc 4 true (.tuple #[])) (outQ Pg ds [(some 37,t8)] R) w fun t9 w =>
 opU Pg (Instr.storeAt 4 t9 (.bool false)) (outQ Pg ds [(some 37,t8)] R) w fun w =>
 opV Pg (Instr.loadAt 68 t4) (outQ Pg ds [(some 37,t8)] R) w fun t16 w =>
 callK Pg 168 #[t16] (outQ Pg ds [(some 37,t8)] R) w fun t17 w =>
 n124c4 t5 t6 t7 t8 t9 t17 ds R w
def n124c6 (t4 t5 t6 t7 t8 t14:Value) (ds:List Deferred) (R:RT) (w:World):Prop :=
 opV Pg (Op.unary .not t14) (outQ Pg ds [(some 37,t8)] R) w fun t15 w =>
 condP t15 (
 opU Pg (Instr.storeAt 37 t8 (.int .i64 2)) (outQ Pg ds [(some 37,t8)] R) w fun w =>
 outX Pg ds [(some 37,t8)] R w) (
 n124c5 t4 t5 t6 t7 t8 ds R w)
def n124 (t0 t1 t2 t3:Value) (R:RT) (w:World):Prop :=
 (fun (ds:List Deferred) =>
 opV Pg (Instr.box 68 t0) (outQ Pg ds [(some 37,undef)] R) w fun t4 w =>
 opV Pg (Instr.box 9 t1) (outQ Pg ds [(some 37,undef)] R) w fun t5 w =>
 opV Pg (Instr.box 219 t2) (outQ Pg ds [(some 37,undef)] R) w fun t6 w =>
 opV Pg (Instr.box 228 t3) (outQ Pg ds [(some 37,undef)] R) w fun t7 w =>
 opV Pg (Instr.alloc 37 true (.tuple #[])) (outQ Pg ds [(some 37,undef)] R) w fun t8 w =>
 opV Pg (Instr.loadAt 68 t4) (outQ Pg ds [(some 37,t8)] R) w fun t13 w =>
 callK Pg 166 #[t13] (outQ Pg ds [(some 37,t8)] R) w fun t14 w =>
 n124c6 t4 t5 t6 t7 t8 t14 ds R w) []
theorem n124s {t0 t1 t2 t3:Value} {R:RT} {w:World} (h:n124 t0 t1 t2 t3 R w):Calls Pg 176 #[t0,t1,t2,t3] w R:=by
 refine yE Tryz.func176 ?_
 unfold n124 at h
 dsimp only at h
 refine zs<|zr<|yv h fun _ w h=>yv h fun _ w h=>yv h fun _ w h=>yv h fun _ w h=>yv h fun _ w h=>zn<|zk<|zs<|zs<|zr<|yv h fun _ w h=>yc h c166 fun _ w h=>yv h fun _ w h=>?_
 refine zn<|zk<|yC h (fun h=>zs<|zr<|yu h fun w h=>zn<|zk<|sim_ret<|sim_then_ret<|bodyM_ret rfl h) fun h=>sim_skip<|zk<|zs<|zr<|yv h fun _ w h=>yu h fun w h=>zn<|zk<|zs<|zs<|zr ?_
 refine yv h fun _ w h=>yc h c168 fun _ w h=>zn<|zk<|sim_block<|sim_range [.ret] h rfl (fun l1 t18 w Kr1 Xr1 Qr1 h=>?_) (fun ds w h=>?_) (fun c ds w h=>?_) (fun ch ds w h=>outQ_of rfl h)
 · refine zr<|zm<|zn<|zk ?_
   obtain ⟨hr,h⟩:=h
   refine ⟨rfl,hr,fun w hb=>?_⟩
   have h:=h w hb
   refine sim_block<|zs<|zr<|yv h fun _ w h=>zm<|yv h fun _ w h=>zm<|yv h fun _ w h=>yv h fun _ w h=>yv h fun _ w h=>yu h fun w h=>zm<|zn<|zk<|sim_block ?_
   refine zs<|zr<|zm<|yv h fun _ w h=>yb h fun _ w h=>zm<|zn<|zk<|yJ0 [29,30,31,32,33,34,35,36] h (fun _ _ hkK2 h=>?_) fun σ w h=>?_
   · refine yC h (fun h=>?_) fun h=>?_
     · refine sim_skip<|zk ?_
       exact zt hkK2 h
     refine zs<|zr<|zm<|yv h fun _ w h=>zm<|zn<|zk<|yC h (fun h=>?_) fun h=>?_
     · refine zr<|yu h fun w h=>zn<|zk ?_
       exact zt hkK2 h
     refine zs<|zr<|yv h fun _ w h=>yv h fun _ w h=>yV h fun _ w h=>yv h fun _ w h=>zm<|zn<|zk<|yC h (fun h=>zs<|zr<|yu h fun w h=>zn<|zk<|sim_ret<|sim_then_ret<|sim_block_ret<|sim_block_ret<|⟨rfl,0,rfl,h⟩) fun h=>sim_skip<|zk ?_
     exact zt hkK2 h
   exact sim_block_normal<|sim_block_normal<|⟨rfl,h⟩
 · refine sim_block_normal<|zk<|zs<|zs<|zr<|yv h fun _ w h=>zn<|zk<|yC h (fun h=>zs<|zr<|yu h fun w h=>zn<|zk<|sim_ret<|sim_then_ret<|bodyM_ret rfl h) fun h=>sim_skip<|zk<|zs<|zr<|yu h fun w h=>?_
   exact zn<|zk<|sim_ret<|bodyM_ret rfl h
 rcases c with _ | c
 · refine ⟨_,rfl,.inl ⟨rfl,?_⟩⟩
   exact sim_block_ret<|sim_then_ret<|bodyM_ret rfl h
 exact h.elim
def n115 (t0 t1 t2:Value) (R:RT) (w:World):Prop :=
 opV Pg (Instr.box 4 t0) (panK R) w fun t3 w =>
 opV Pg (Instr.loadAt 68 t1) (panK R) w fun t5 w =>
 opV Pg (Instr.makeFunc (.func 179) #[] #[t2,t3]) (panK R) w fun t6 w =>
 callK Pg 178 #[t5,t6] (panK R) w fun t7 w =>
 R (.returned t7) w
theorem n115s {t0 t1 t2:Value} {R:RT} {w:World} (h:n115 t0 t1 t2 R w):Calls Pg 177 #[t0,t1,t2] w R:=by
 refine yD Tryz.func177 ?_
 refine zs<|zr<|yv h fun _ w h=>zm<|zn<|zk<|zs<|zr<|yv h fun _ w h=>yF h fun _ w h=>yc h c178 fun _ w h=>zm<|zn<|zk<|sim_ret ?_
 exact body_ret1 rfl rfl h
def n127c1 (t5 t13 t19 t22:Value) (C2:World→Prop) (next1:KW) (R:RT) (w:World):Prop :=
 qV Pg C2 (binS .mul 3 false t19 t22) fun t23 =>
 qV Pg C2 (binS .add 3 false t5 t23) fun t24 =>
 opV Pg (binS .add 3 true t13 (.int .i64 1)) (panK R) w fun t25 w =>
 next1 t24 t25 w
def n127c2 (t1 t5 t7 t13:Value) (C2:World→Prop) (next1:KW) (R:RT) (w:World):Prop :=
 qV Pg C2 (Instr.fieldAt 113 t7 1) fun t18 =>
 qV Pg C2 (Instr.loadAt 3 t18) fun t19 =>
 qV Pg C2 (Instr.loadAt 113 t7) fun t21 =>
 callV Pg t1 #[t21] (panK R) w fun t22 w =>
 C2 w∧(
 n127c1 t5 t13 t19 t22 C2 next1 R w)
def n127c3 (t1 t5 t11 t13:Value) (next1:KW) (R:RT) (w:World):Prop :=
 opV Pg (Instr.indexAt 66 t11 t13) (panK R) w fun t15 w =>
 opV Pg (Instr.loadAt 113 t15) (panK R) w fun t16 w =>
 opV Pg (Instr.alloc 113 true (.tuple #[])) (panK R) w fun t7 w =>
 opU Pg (Instr.storeAt 113 t7 t16) (panK R) w fun w =>
 drawK w fun C2 w =>
 n127c2 t1 t5 t7 t13 C2 next1 R w
def n127 (t0 t1:Value) (R:RT) (w:World):Prop :=
 opV Pg (Instr.box 68 t0) (panK R) w fun t2 w =>
 opV Pg (Instr.fieldAt 68 t2 0) (panK R) w fun t8 w =>
 opV Pg (Instr.loadAt 3 t8) (panK R) w fun t9 w =>
 opV Pg (Instr.fieldAt 68 t2 1) (panK R) w fun t10 w =>
 opV Pg (Instr.loadAt 66 t10) (panK R) w fun t11 w =>
 opV Pg (Builtin.len_ #[66] 3 #[t11]) (panK R) w fun t12 w =>
 loop2 (fun t5 t13 w next1 =>
 opV Pg (binS .lss 3 false t13 t12) (panK R) w fun t14 w =>
 condP t14 (
 n127c3 t1 t5 t11 t13 next1 R w) (
 R (.returned t5) w)) t9 (.int .i64 0) w
theorem n127s {t0 t1:Value} {R:RT} {w:World} (h:n127 t0 t1 R w):Calls Pg 178 #[t0,t1] w R:=by
 refine yD Tryz.func178 ?_
 refine zs<|zr<|yv h fun _ w h=>zm<|zn<|zk<|zs<|zr<|yv h fun _ w h=>yv h fun _ w h=>zm<|zn<|zk<|zs<|zs ?_
 refine zr<|yv h fun _ w h=>yv h fun _ w h=>yx h fun _ w h=>zm<|zn<|zk<|sim_block<|yl2 [5,7,13,14,15,16,17,18,19,20,21,22,23,24,25] 5 13 h fun σ w next h=>zs<|zr<|yb h fun _ w h=>zn<|zk<|zs ?_
 refine yC h (fun h=>?_) fun h=>?_
 · refine sim_skip<|zk<|zs<|sim_block<|zs<|zr<|yv h fun _ w h=>yv h fun _ w h=>yv h fun _ w h=>yu h fun w h=>zn<|zk<|yh [5,17,18,19,20,21,22,23,24] h fun C hC h=>yw 0 hC ?_
   refine ye 1 hC h fun _ h=>?_
   refine ye 2 hC h fun _ h=>?_
   refine yw 3 hC ?_
   refine ye 4 hC h fun _ h=>?_
   refine yo 5 ?_
   refine yV h fun _ w h=>zn ?_
   obtain ⟨hC,h⟩:=h
   refine ⟨hC,?_⟩
   refine ye 6 hC h fun _ h=>?_
   refine ye 7 hC h fun _ h=>?_
   refine yw 8 hC ?_
   exact yz<|sim_block_normal<|zk<|zr<|yb h fun _ w h=>zm<|zn<|zk<|⟨rfl,h⟩
 exact sim_exit<|sim_then_exit<|sim_then_exit<|sim_block_hit<|zk<|zs<|zr<|zm<|zm<|zn<|zk<|sim_ret<|body_ret1 rfl rfl h
def n116c1 (t1 t3:Value) (R:RT) (w:World):Prop :=
 opV Pg (Instr.loadAt 219 t1) (panK R) w fun t17 w =>
 opV Pg (Instr.fieldAt 113 t3 0) (panK R) w fun t18 w =>
 opV Pg (Instr.loadAt 9 t18) (panK R) w fun t19 w =>
 opV Pg (Instr.lookup 219 t17 t19 false) (panK R) w fun t20 w =>
 opV Pg (Instr.field 223 t20 1) (panK R) w fun t21 w =>
 R (.returned t21) w
def n116 (t0 t1 t2:Value) (R:RT) (w:World):Prop :=
 opV Pg (Instr.box 113 t0) (panK R) w fun t3 w =>
 opV Pg (Instr.loadAt 219 t1) (panK R) w fun t6 w =>
 opV Pg (Instr.fieldAt 113 t3 0) (panK R) w fun t7 w =>
 opV Pg (Instr.loadAt 9 t7) (panK R) w fun t8 w =>
 opV Pg (Instr.lookup 219 t6 t8 false) (panK R) w fun t9 w =>
 opV Pg (Instr.alloc 223 true (.tuple #[])) (panK R) w fun t5 w =>
 opU Pg (Instr.storeAt 223 t5 t9) (panK R) w fun w =>
 opV Pg (Instr.loadAt 4 t2) (panK R) w fun t10 w =>
 opV Pg (Instr.fieldAt 113 t3 1) (panK R) w fun t11 w =>
 opV Pg (Instr.loadAt 3 t11) (panK R) w fun t12 w =>
 opV Pg (binS .gtr 3 true t12 (.int .i64 0)) (panK R) w fun t13 w =>
 opV Pg (binS .eql 4 false t10 t13) (panK R) w fun t14 w =>
 condP t14 (
 opV Pg (Instr.fieldAt 223 t5 0) (panK R) w fun t15 w =>
 opV Pg (Instr.loadAt 3 t15) (panK R) w fun t16 w =>
 R (.returned t16) w) (
 n116c1 t1 t3 R w)
theorem n116s {t0 t1 t2:Value} {R:RT} {w:World} (h:n116 t0 t1 t2 R w):Calls Pg 179 #[t0,t1,t2] w R:=by
 refine yD Tryz.func179 ?_
 refine zs<|zr<|yv h fun _ w h=>zm<|zn<|zk<|zs<|zs<|zr<|yv h fun _ w h=>yv h fun _ w h=>yv h fun _ w h=>yv h fun _ w h=>yv h fun _ w h=>yu h fun w h=>?_
 refine zn<|zk<|zs<|zr<|yv h fun _ w h=>yv h fun _ w h=>yv h fun _ w h=>yb h fun _ w h=>yb h fun _ w h=>zn<|zk<|yC h (fun h=>zs<|zr<|yv h fun _ w h=>yv h fun _ w h=>zm<|zn<|zk<|sim_ret<|sim_then_ret<|body_ret1 rfl rfl h) fun h=>sim_skip<|zk ?_
 exact zs<|zr<|yv h fun _ w h=>yv h fun _ w h=>yv h fun _ w h=>yv h fun _ w h=>yv h fun _ w h=>zm<|zn<|zk<|sim_ret<|body_ret1 rfl rfl h
open Go.RowKit (intOf)
def letterB (c:UInt8):Bool:=(decide (65≤(c.toNat:Int))&&decide ((c.toNat:Int)≤90))||(decide (97≤(c.toNat:Int))&&decide ((c.toNat:Int)≤122))
def digitB (c:UInt8):Bool:=decide (48≤(c.toNat:Int))&&decide ((c.toNat:Int)≤57)
def wordB (c:UInt8):Bool:=letterB c||digitB c||((c.toNat:Int) == 95)
def smallB (v:Int):Bool:=decide (-1048576≤v)&&decide (v≤1048576)
def nameB (s:ByteArray):Bool:=decide (1≤(s.size:Int))&&decide ((s.size:Int)≤32)&&(match s.data.toList with | []=>false | c::_=>letterB c)&&s.data.toList.all wordB
theorem letter_ret (w0:World) (c:UInt8):Ret Pg 122 #[.int .u8 c.toNat] w0 fun r w'=>r = .bool (letterB c)∧Ext w0 w':=by
 refine n126s (R:=retR _) ?_;unfold n126
 simp (disch:=try exact DI) only [↓PR,QR,simprocAttr,↓n126c1,↓n126c2]
 unfold letterB
 have e:=Ext.refl w0
 generalize decide (65≤(c.toNat:Int))=b1
 generalize decide ((c.toNat:Int)≤90)=b2
 generalize decide (97≤(c.toNat:Int))=b3
 generalize decide ((c.toNat:Int)≤122)=b4
 cases b1<;>cases b2<;>cases b3<;>cases b4<;>simp (disch:=try exact DI) only [↓PR,QR,simprocAttr,↓n126c1,↓n126c2]<;>exact ⟨by trivial,e⟩
theorem digit_ret (w0:World) (c:UInt8):Ret Pg 123 #[.int .u8 c.toNat] w0 fun r w'=>r = .bool (digitB c)∧Ext w0 w':=by
 refine n125s (R:=retR _) ?_;unfold n125
 simp (disch:=try exact DI) only [↓PR,QR,simprocAttr,Sw.joinK_eq]
 unfold digitB
 have e:=Ext.refl w0
 generalize decide (48≤(c.toNat:Int))=b1
 generalize decide ((c.toNat:Int)≤57)=b2
 cases b1<;>cases b2<;>simp (disch:=try exact DI) only [↓PR,QR,simprocAttr,Sw.joinK_eq]<;>exact ⟨by trivial,e⟩
theorem small_ret (w0:World) (v:Int):Ret Pg 172 #[.int .i64 v] w0 fun r w'=>r = .bool (smallB v)∧Ext w0 w':=by
 refine n128s (R:=retR _) ?_;unfold n128
 simp (disch:=try exact DI) only [↓PR,QR,simprocAttr,Sw.joinK_eq]
 unfold smallB
 have e:=Ext.refl w0
 generalize decide (-1048576≤v)=b1
 generalize decide (v≤1048576)=b2
 cases b1<;>cases b2<;>simp (disch:=try exact DI) only [↓PR,QR,simprocAttr,Sw.joinK_eq]<;>exact ⟨by trivial,e⟩
def BoolsOf (w:World) (v:Value) (l:List Bool):Prop:=SliceOf w 1 EBool v l
theorem Index_bool_ret (w0:World) (v:Value) (l:List Bool) (x:Bool) (hs:BoolsOf w0 v l) :
 Ret Pg 138 #[v,.bool x] w0 fun r w'=>r = .int .i64 (idx (x == ·) l)∧Ext w0 w':=by
 obtain ⟨A,c,rfl,hlc,hcm,hlm,hel⟩:=SliceOf.open hs
 refine n148s (R:=retR _) ?_;unfold n148
 simp (disch:=try exact DI) only [↓PR,QR,simprocAttr]
 refine loop1_intro (fun i w=>∃ k:Nat,i = .int .i64 k∧k≤l.length∧Ext w0 w∧∀ (j:Nat) y,j < k→l[j]?=some y→(x == y)=false) (fun i _=>l.length - (intOf i).toNat) ⟨0,rfl,by omega,Ext.refl _,fun j y h=>by omega⟩ ?_
 rintro i w ⟨k,rfl,hk,e,hb⟩
 by_cases hlt:k < l.length
 · obtain ⟨y,hy⟩:=getElem?_lt hlt
   obtain ⟨b,o,cs,rfl,hl,hA,rfl⟩:=hel k y hy
   have hd:decide ((k:Int) < (l.length:Int))=true:=by simp;omega
   have hc:w.cell? ⟨b,o+k*1,none⟩=some (.bool y):=(hA.ext e).cell 0 rfl
   simp (disch:=try exact DI) only [↓PR,QR,simprocAttr,hd,hc,↓n148c1]
   cases hp:(x == y) with
   | true =>
    simp (disch:=try exact DI) only [↓PR,QR,simprocAttr]
    exact ⟨by rw [idx_here hy hp hb],e⟩
   | false =>
    simp (disch:=try exact DI) only [↓PR,QR,simprocAttr]
    exact ⟨⟨k+1,rfl,by omega,e,before_succ hb hy hp⟩,by simp [intOf];omega⟩
 · have hd:decide ((k:Int) < (l.length:Int))=false:=by simp;omega
   simp (disch:=try exact DI) only [↓PR,QR,simprocAttr,hd,↓n148c1]
   exact ⟨by rw [idx_none fun j y hy=>hb j y (by have:=(List.getElem?_eq_some_iff.1 hy).1;omega) hy],e⟩
theorem Contains_bool_ret (w0:World) (v:Value) (l:List Bool) (x:Bool) (hs:BoolsOf w0 v l) :
 Ret Pg 132 #[v,.bool x] w0 fun r w'=>r = .bool (l.any (x == ·))∧Ext w0 w':=by
 refine n137s (R:=retR _) ?_;unfold n137
 refine callK_ret (Index_bool_ret _ _ l x hs) ?_
 rintro r w' ⟨rfl,e⟩
 simp (disch:=try exact DI) only [↓PR,QR,simprocAttr,Sw.joinK_eq]
 exact ⟨by rw [idx_neg],e⟩
theorem all_ret (w0:World) (v:Value) (l:List Bool) (hs:BoolsOf w0 v l) :
 Ret Pg 124 #[v] w0 fun r w'=>r = .bool (l.all id)∧Ext w0 w':=by
 refine n123s (R:=retR _) ?_;unfold n123
 refine callK_ret (Contains_bool_ret _ _ l false hs) ?_
 rintro r w' ⟨rfl,e⟩
 simp (disch:=try exact DI) only [↓PR,QR,simprocAttr,Sw.joinK_eq]
 refine ⟨?_,e⟩
 congr 1
 clear hs
 induction l with
 | nil=>rfl
 | cons a l ih=>cases a<;>simp_all
theorem NameS1_ret (w0:World) (c:UInt8):Ret Pg 121 #[.int .u8 c.toNat] w0 fun r w'=>r = .bool (!wordB c)∧Ext w0 w':=by
 refine n118s (R:=retR _) ?_;unfold n118
 refine callK_ret (letter_ret _ c) ?_
 rintro r w' ⟨rfl,e⟩
 simp (disch:=try exact DI) only [↓PR,QR,simprocAttr,↓n118c1,↓n118c2]
 unfold wordB
 cases letterB c with
 | true=>simp (disch:=try exact DI) only [↓PR,QR,simprocAttr,↓n118c1,↓n118c2];exact ⟨by trivial,e⟩
 | false =>
  simp (disch:=try exact DI) only [↓PR,QR,simprocAttr,↓n118c1,↓n118c2]
  refine callK_ret (digit_ret _ c) ?_
  rintro r w2 ⟨rfl,e2⟩
  have e3:=e.trans e2
  cases digitB c with
  | true=>simp (disch:=try exact DI) only [↓PR,QR,simprocAttr,↓n118c1,↓n118c2];exact ⟨by trivial,e3⟩
  | false=>simp (disch:=try exact DI) only [↓PR,QR,simprocAttr,↓n118c1,↓n118c2];exact ⟨by trivial,e3⟩
def BytesOf (w:World) (v:Value) (l:List UInt8):Prop:=SliceOf w 1 EByte v l
theorem ContainsFunc_byte_ret (w0:World) (v:Value) (l:List UInt8) (g:FuncId) (caps:Array Value) (p:UInt8→Bool) (hs:BytesOf w0 v l) (hg:Callable Pg g) (hc:Tests w0 (fun _ v x=>v = .int .u8 (x.toNat:Int)) g caps p l) :
 Ret Pg 125 #[v,.func (.func g) #[] caps] w0 fun r w'=>r = .bool (l.any p)∧Ext w0 w':=by
 refine n135s (R:=retR _) ?_;unfold n135
 refine callK_ret (IndexFunc_byte_ret _ _ l g caps p hs hg hc) ?_
 rintro r w' ⟨rfl,e⟩
 simp (disch:=try exact DI) only [↓PR,QR,simprocAttr,Sw.joinK_eq]
 exact ⟨by rw [idx_neg],e⟩
theorem boolsNew (w:World) (l:List Bool) (T:TypeId) (hl:l.length≤9223372036854775807):BoolsOf (w.alloc (.cells (l.map Value.bool).toArray T)) (.slice (some ⟨w.heap.size,0,none⟩) l.length l.length) l:=SliceOf.new1 _ (fun _ _=>rfl) w l T hl
theorem all2_ret {w:World} {p:Nat} (hp:p=w.heap.size) (a b:Bool) (T:TypeId):Ret Pg 124 #[.slice (some ⟨p,0,none⟩) 2 2] (w.alloc (.cells #[.bool a,.bool b] T)) fun r w'=>r = .bool (a&&b)∧Ext (w.alloc (.cells #[.bool a,.bool b] T)) w':=by
 subst hp
 have h:=all_ret _ _ [a,b] (boolsNew w [a,b] T (by simp))
 simpa using h
theorem all3_ret {w:World} {p:Nat} (hp:p=w.heap.size) (a b c:Bool) (T:TypeId):Ret Pg 124 #[.slice (some ⟨p,0,none⟩) 3 3] (w.alloc (.cells #[.bool a,.bool b,.bool c] T)) fun r w'=>r = .bool (a&&b&&c)∧Ext (w.alloc (.cells #[.bool a,.bool b,.bool c] T)) w':=by
 subst hp
 have h:=all_ret _ _ [a,b,c] (boolsNew w [a,b,c] T (by simp))
 simpa [Bool.and_assoc] using h
theorem Name_ret (w0:World) (s:ByteArray):Ret Pg 106 #[.string s] w0 fun r w'=>r = .bool (nameB s)∧Ext w0 w':=by
 refine n117s (R:=retR _) ?_;unfold n117
 simp (disch:=try exact DI) only [↓PR,QR,simprocAttr,↓n117c1,↓n117c2]
 have e1:Ext w0 (w0.alloc (.cells #[.bool (decide (1≤(s.size:Int))),.bool (decide ((s.size:Int)≤32))] 4)):=(Ext.refl w0).alloc _
 refine callK_ret (all_ret _ _ [decide (1≤(s.size:Int)),decide ((s.size:Int)≤32)] (boolsNew w0 [decide (1≤(s.size:Int)),decide ((s.size:Int)≤32)] 4 (by simp))) ?_
 rintro r w1 ⟨rfl,e2⟩
 have e:=e1.trans e2
 have hall:[decide (1≤(s.size:Int)),decide ((s.size:Int)≤32)].all id=(decide (1≤(s.size:Int))&&decide ((s.size:Int)≤32)):=by simp
 rw [hall]
 unfold nameB
 cases h1:(decide (1≤(s.size:Int))&&decide ((s.size:Int)≤32)) with
 | false=>simp (disch:=try exact DI) only [↓PR,QR,simprocAttr,↓n117c1,↓n117c2];exact ⟨by trivial,e⟩
 | true =>
  simp (disch:=try exact DI) only [↓PR,QR,simprocAttr,↓n117c1,↓n117c2]
  have hlen:s.size≤9223372036854775807:=by simp only [Bool.and_eq_true,decide_eq_true_eq] at h1;omega
  obtain ⟨c,cs,hcs⟩:∃ c cs,s.data.toList=c::cs:=by
   simp only [Bool.and_eq_true,decide_eq_true_eq] at h1
   cases hd:s.data.toList with
   | nil =>
    have:s.data.size=0:=by rw [← Array.length_toList,hd];rfl
    have h0:s.size=s.data.size:=rfl
    omega
   | cons c cs=>exact ⟨c,cs,rfl⟩
  rw [op_indexS0 Tryz.underlying9 s .i64 (b:=c) (by rw [hcs];rfl)]
  refine callK_ret (letter_ret _ c) ?_
  rintro r w2 ⟨rfl,e3⟩
  have e:=e.trans e3
  rw [hcs]
  cases hl:letterB c with
  | false=>simp (disch:=try exact DI) only [↓PR,QR,simprocAttr,↓n117c1,↓n117c2];exact ⟨by rw [hl];rfl,e⟩
  | true =>
   simp (disch:=try exact DI) only [↓PR,QR,simprocAttr,↓n117c1,↓n117c2]
   refine op_bytes Tryz.underlying9 Tryz.underlying126 Tryz.underlying5 s hlen ?_
   rintro v w3 e4 ⟨A,cp,rfl,hc1,hc2,b,rfl,hcell⟩
   have hsz:s.data.toList.length=s.size:=by rw [Array.length_toList];rfl
   have hB:BytesOf w3 (.slice (some ⟨b,0,none⟩) s.size cp) s.data.toList:=by
    rw [← hsz]
    refine ⟨_,_,rfl,by omega,hc2,fun _=>⟨_,_,rfl,fun k x hx=>⟨[.int .u8 x.toNat],rfl,fun j v hv=>?_,rfl⟩⟩⟩
    cases j with
    | zero=>injection hv with hv;subst hv;simpa using hcell k x hx
    | succ j=>cases hv
   have e:=e.trans e4
   refine callK_ret (ContainsFunc_byte_ret _ _ s.data.toList _ _ (fun x=>!wordB x) hB c121 ?_) ?_
   · rintro w v x _ _ rfl
     exact NameS1_ret w x
   · rintro r w4 ⟨rfl,e5⟩
     simp (disch:=try exact DI) only [↓PR,QR,simprocAttr,↓n117c1,↓n117c2]
     refine ⟨?_,e.trans e5⟩
     rw [hcs,hl]
     congr 1
     generalize c::cs=l
     clear hall
     induction l with
     | nil=>rfl
     | cons a l ih=>simp only [List.any_cons,List.all_cons,Bool.not_or,Bool.not_not,Bool.true_and] at *;rw [ih]
def termB (t:TermD):Bool:=nameB t.field&&(t.factor != 0)&&smallB t.factor
theorem ValidS1_ret (w:World) (t:TermD) (pb r:Nat) (names:List ByteArray) (hcell:w.cell? ⟨pb,0,none⟩=some (.map (some r))) (hm:SetOf w r names) :
 Ret Pg 171 #[termVal t,.pointer (some ⟨pb,0,none⟩)] w fun v w'=>v = .bool (memB names t.field||!termB t)∧SetOf w' r (names++[t.field])∧w'.cell? ⟨pb,0,none⟩=some (.map (some r)) ∧
  ∀ w0,Ext w0 w→w0.heap.size≤r→Ext w0 w':=by
 have hpb:pb < w.heap.size:=World.block_lt_of_cell? w _ hcell
 obtain ⟨L,c,hM,hl⟩:=hm
 refine n122s (R:=retR _) ?_;unfold n122
 unfold termVal
 simp (disch:=try exact DI) only [↓PR,QR,simprocAttr,hcell]
 have e1:Ext w (w.alloc (.cells #[.string t.field,.int .i64 t.factor] 113)):=(Ext.refl w).alloc _
 rw [op_lookup1S Tryz.underlying99 Tryz.underlying9 ty4 (hM.ext e1)]
 simp (disch:=try exact DI) only [↓PR,QR,simprocAttr,hcell]
 rw [op_mapUpdateS Tryz.underlying99 Tryz.underlying9 (hM.ext e1)]
 obtain ⟨W,hW⟩:∃ W,((w.alloc (.cells #[.string t.field,.int .i64 t.factor] 113)).putObj r (mapObjS (putL L c t.field (.bool true)) (putC L c t.field)))=W:=⟨_,rfl⟩
 have hS:SetOf W r (names++[t.field]):=by rw [← hW];exact SetOf.put (hM.ext e1) hl _
 have hC:W.cell? ⟨pb,0,none⟩=some (.map (some r)):=by rw [← hW,cell_putMap (hM.ext e1)];exact e1.cell hcell
 have hE:∀ w0,Ext w0 w→w0.heap.size≤r→Ext w0 W:=fun w0 h0 hr=>by rw [← hW];exact (h0.trans e1).putObj hr _
 have hA0:W.cell? ⟨w.heap.size,0,none⟩=some (.string t.field):=by rw [← hW,cell_putMap (hM.ext e1),cell_new];rfl
 have hA1:W.cell? ⟨w.heap.size,1,none⟩=some (.int .i64 t.factor):=by rw [← hW,cell_putMap (hM.ext e1),cell_new];rfl
 rw [hW]
 refine drawK_intro ?_
 have ht8:(Sw.look L t.field).getD (.bool false) = .bool (memB names t.field):=by rw [hl];cases memB names t.field<;>rfl
 rw [ht8]
 have fin:∀ b w',Ext W w'→b=(memB names t.field||!termB t)→(Value.bool b = .bool (memB names t.field||!termB t)∧SetOf w' r (names++[t.field])∧w'.cell? ⟨pb,0,none⟩=some (.map (some r))∧∀ w0,Ext w0 w→w0.heap.size≤r→Ext w0 w') :=
  fun b w' e hb=>⟨by rw [hb],hS.ext e,e.cell hC,fun w0 h0 hr=>(hE w0 h0 hr).trans e⟩
 cases hmem:memB names t.field with
 | true =>
  simp (disch:=try exact DI) only [↓PR,QR,simprocAttr,↓n122c1,↓n122c2]
  exact ⟨trivial,(fin (true||!termB t) _ (Ext.refl _).wdrew (by rw [hmem])).2⟩
 | false =>
  simp (disch:=try exact DI) only [↓PR,QR,simprocAttr,↓n122c1,↓n122c2,hA0,hA1]
  refine zcr (Name_ret _ t.field) fun w1 e2=>?_
  refine ⟨e2,?_⟩
  refine zcr (small_ret _ t.factor) fun w2 e3=>?_
  refine ⟨e2.trans e3,?_⟩
  simp (disch:=try exact DI) only [↓PR,QR,simprocAttr,↓n122c1,↓n122c2]
  have e:=e2.trans e3
  refine ⟨e.alloc _,?_⟩
  refine zcr (all3_ret rfl _ _ _ _) fun w3 e4=>?_
  refine ⟨(e.alloc _).trans e4,?_⟩
  simp (disch:=try exact DI) only [↓PR,QR,simprocAttr,↓n122c1,↓n122c2]
  exact ⟨rfl,(fin (!termB t) w3 (((Ext.refl _).wdrew).trans ((e.alloc _).trans e4)) (by rw [hmem];rfl)).2⟩
def termsB:List ByteArray→List TermD→Bool
 | _,[]=>true
 | seen,t::ts=>!(memB seen t.field)&&termB t&&termsB (seen++[t.field]) ts
theorem termsB_iff:∀ (ts:List TermD) (seen:List ByteArray),termsB seen ts=true↔∀ k x,ts[k]?=some x→(memB (seen++(ts.take k).map (·.field)) x.field||!termB x)=false
 | [],seen=>by simp [termsB]
 | t::ts,seen=>by
  simp only [termsB,Bool.and_eq_true,termsB_iff ts]
  constructor
  · rintro ⟨⟨h1,h2⟩,h3⟩ k x hx
    cases k with
    | zero=>simp at hx;subst hx;simpa using ⟨by simpa using h1,h2⟩
    | succ k=>have:=h3 k x (by simpa using hx);simpa using this
  · intro h
    refine ⟨?_,fun k x hx=>by simpa using h (k+1) x (by simpa using hx)⟩
    have:=h 0 t rfl
    simp at this
    exact ⟨by rw [this.1];rfl,this.2⟩
theorem ContainsFunc_Term_st (w0 w1:World) (v:Value) (l:List TermD) (g:FuncId) (caps:Array Value) (p:Nat→Bool) (J:Nat→World→Prop) (hs:TermsOf w0 v l) (hg:Callable Pg g) (hJ:∀ k w,J k w→Ext w0 w) (h0:J 0 w1)
 (hc:∀ k x w u,l[k]?=some x→J k w→(fun _ v x=>v=termVal x) w u x→Ret Pg g (#[u]++caps) w fun r w'=>r = .bool (p k)∧J (k+1) w') :
 Ret Pg 99 #[v,.func (.func g) #[] caps] w1 fun r w'=>r = .bool ((List.range l.length).any p)∧∃ k,J k w':=by
 refine n134s (R:=retR _) ?_;unfold n134
 refine callK_ret (IndexFunc_Term_st w0 _ _ l g caps p J hs hg hJ h0 hc) ?_
 rintro r w' ⟨rfl,e⟩
 simp (disch:=try exact DI) only [↓PR,QR,simprocAttr,Sw.joinK_eq]
 exact ⟨by rw [idx_neg],e⟩
def sizeB (base:Int) (ts:List TermD):Bool:=smallB base&&decide (ts.length≤4)&&termsB [] ts
theorem Valid_ret (w0:World) (v:Value) (base:Int) (ts:List TermD) (hs:SizeVal w0 v base ts) :
 Ret Pg 166 #[v] w0 fun r w'=>r = .bool (sizeB base ts)∧Ext w0 w':=by
 obtain ⟨tv,rfl,hT⟩:=hs
 refine n121s (R:=retR _) ?_;unfold n121
 simp (disch:=try exact DI) only [↓PR,QR,simprocAttr]
 obtain ⟨A,c,rfl,hlc,hcm,hlm,hel⟩:=SliceOf.open hT
 obtain ⟨W1,hW1⟩:∃ W1,w0.alloc (.cells #[.int .i64 base,.slice A ts.length c] 68)=W1:=⟨_,rfl⟩
 have e0:Ext w0 W1:=by rw [← hW1];exact (Ext.refl w0).alloc _
 have hc0:W1.cell? ⟨w0.heap.size,0,none⟩=some (.int .i64 base):=by rw [← hW1];simp (disch:=try exact DI) only [↓PR,QR,simprocAttr]
 have hc1:W1.cell? ⟨w0.heap.size,1,none⟩=some (.slice A ts.length c):=by rw [← hW1];simp (disch:=try exact DI) only [↓PR,QR,simprocAttr]
 have hsz:w0.heap.size+1=W1.heap.size:=by rw [← hW1];simp (disch:=try exact DI) only [↓PR,QR,simprocAttr]
 simp only [hW1,hsz]
 refine drawK_introE (w1:=W1) (((Ext.refl W1).alloc _).alloc _) ?_
 simp (disch:=try exact DI) only [↓PR,QR,simprocAttr,↓n121c1,↓n121c2,↓n121c3,hc0,hc1]
 generalize hW:(World.drew _)=W
 have e1:Ext W1 W:=by rw [← hW];exact (((Ext.refl W1).alloc _).alloc _).wdrew
 have hpb:W.cell? ⟨W1.heap.size+1,0,none⟩=some (.map (some W1.heap.size)):=by rw [← hW];simp (disch:=try exact DI) only [↓PR,QR,simprocAttr]
 have hset:SetOf W W1.heap.size []:=by
  rw [← hW]
  have h:=(MapS.new W1).ext (((Ext.refl _).alloc (Obj.cells (#[Value.map none].setIfInBounds 0 (Value.map (some W1.heap.size))) 99)).wdrew)
  exact ⟨[],0,by simpa using h,fun s=>rfl⟩
 clear hW
 refine zcr (small_ret _ base) fun w1 e2=>?_
 refine ⟨e1.trans e2,?_⟩
 simp (disch:=try exact DI) only [↓PR,QR,simprocAttr]
 refine ⟨e1.trans (e2.alloc _),?_⟩
 refine zcr (all2_ret rfl _ _ _) fun w2 e3=>?_
 replace e2:=(e2.alloc _).trans e3
 refine ⟨e1.trans e2,?_⟩
 simp (disch:=try exact DI) only [↓PR,QR,simprocAttr,↓n121c1,↓n121c2,↓n121c3]
 unfold sizeB
 cases hb:(smallB base&&decide (ts.length≤4)) with
 | false =>
  have hb':(smallB base&&decide ((ts.length:Int)≤4))=false:=by rw [← hb];congr 1;simp;omega
  rw [hb']
  simp (disch:=try exact DI) only [↓PR,QR,simprocAttr,↓n121c1,↓n121c2,↓n121c3,hc0,hc1]
  exact ⟨by trivial,e0.trans (e1.trans e2)⟩
 | true =>
  have hb':(smallB base&&decide ((ts.length:Int)≤4))=true:=by rw [← hb];congr 1;simp;omega
  rw [hb']
  simp (disch:=try exact DI) only [↓PR,QR,simprocAttr,↓n121c1,↓n121c2,↓n121c3,hc0,hc1]
  refine callK_ret (ContainsFunc_Term_st W1 w2 _ ts 171 _ (fun k=>match ts[k]? with | some t=>memB ((ts.take k).map (·.field)) t.field||!termB t | none=>true) (fun k w=>SetOf w W1.heap.size ((ts.take k).map (·.field))∧w.cell? ⟨W1.heap.size+1,0,none⟩=some (.map (some W1.heap.size))∧Ext W1 w) (hT.ext e0) c171 (fun k w h=>h.2.2) ⟨hset.ext e2,e2.cell hpb,e1.trans e2⟩ ?_) ?_
  · rintro k x w u hx ⟨h1,h2,h3⟩ rfl
    simp only [hsz]
    refine Ret.mono (ValidS1_ret w x _ _ _ h2 h1) ?_
    rintro v w' ⟨rfl,h4,h5,h6⟩
    refine ⟨by rw [hx],?_,h5,h6 _ h3 (Nat.le_refl _)⟩
    rw [List.take_add_one,hx]
    simpa using h4
  · rintro _ w3 ⟨rfl,k,h1,h2,h3⟩
    refine ⟨h3,?_⟩
    simp (disch:=try exact DI) only [↓PR,QR,simprocAttr,↓n121c1,↓n121c2,↓n121c3]
    refine ⟨?_,e0.trans h3⟩
    congr 1
    rw [Bool.eq_iff_iff,termsB_iff,Bool.not_eq_true',List.any_eq_false]
    simp only [List.mem_range,List.nil_append]
    constructor
    · intro h k x hx
      have:=h k (List.getElem?_eq_some_iff.1 hx).1
      rw [hx] at this
      simpa using this
    · intro h k hk
      rw [List.getElem?_eq_getElem hk]
      have:=h k _ (List.getElem?_eq_getElem hk)
      simpa using this
def n53c1 (t3 t6:Value) (R:RT) (w:World):Prop :=
 opV Pg (Instr.loadAt 96 t3) (panK R) w fun t51 w =>
 opV Pg (Instr.loadAt 36 t6) (panK R) w fun t52 w =>
 callK Pg 40 #[t51,t52] (panK R) w fun t53 w =>
 R (.returned (.tuple #[])) w
def n53c2 (t3 t7:Value) (C7:World→Prop) (K4:World→Prop) (R:RT) (w:World):Prop :=
 qV Pg C7 (Instr.fieldAt 96 t3 0) fun t42 =>
 qV Pg C7 (Instr.loadAt 27 t42) fun t43 =>
 qN Pg C7 (nilN t43) fun t44 =>
 qV Pg C7 (Instr.fieldAt 61 t44 3) fun t45 =>
 qV Pg C7 (Instr.loadAt 59 t45) fun t46 =>
 qV Pg C7 (Instr.fieldAt 53 t7 0) fun t47 =>
 qV Pg C7 (Instr.loadAt 9 t47) fun t48 =>
 qV Pg C7 (Instr.lookup 59 t46 t48 false) fun t49 =>
 qV Pg C7 (binS .add 3 true t49 (.int .i64 1)) fun t50 =>
 opU Pg (Instr.mapUpdate 59 t46 t48 t50) (panK R) w fun w =>
 turnK w fun C8 w =>
 K4 w
def n53c3 (t3 t6 t7:Value) (C5:World→Prop) (K4:World→Prop) (R:RT) (w:World):Prop :=
 qV Pg C5 (Instr.fieldAt 96 t3 0) fun t33 =>
 qV Pg C5 (Instr.loadAt 27 t33) fun t34 =>
 qN Pg C5 (nilN t34) fun t35 =>
 qV Pg C5 (Instr.fieldAt 61 t35 3) fun t36 =>
 qV Pg C5 (Instr.loadAt 59 t36) fun t37 =>
 qV Pg C5 (Instr.fieldAt 53 t7 0) fun t38 =>
 qV Pg C5 (Instr.loadAt 9 t38) fun t39 =>
 qV Pg C5 (Instr.lookup 59 t37 t39 false) fun t40 =>
 qV Pg C5 (Instr.fieldAt 36 t6 3) fun t41 =>
 opU Pg (Instr.storeAt 3 t41 t40) (panK R) w fun w =>
 turnK w fun C6 w =>
 drawK w fun C7 w =>
 n53c2 t3 t7 C7 K4 R w
def n53c4 (t3 t6 t7 t26 t31:Value) (R:RT) (w:World):Prop :=
 pickK t26 t31 (.bool false) fun t32 =>
 joinK (fun (w:World) =>
 n53c1 t3 t6 R w) fun K4 =>
 condP t32 (
 drawK w fun C5 w =>
 n53c3 t3 t6 t7 C5 K4 R w) (
 K4 w)
def n53c5 (t3 t5 t6 t7 t26:Value) (R:RT) (w:World):Prop :=
 joinK (fun (t31:Value) (w:World) =>
 n53c4 t3 t6 t7 t26 t31 R w) fun K3 =>
 guardP t26 true (
 opV Pg (Instr.loadAt 53 t7) (panK R) w fun t28 w =>
 opV Pg (Instr.fieldAt 71 t5 0) (panK R) w fun t29 w =>
 opV Pg (Instr.loadAt 9 t29) (panK R) w fun t30 w =>
 callK Pg 77 #[t28,t30] (panK R) w fun t31 w =>
 K3 t31 w) (
 K3 undef w)
def n53c6 (t3 t5 t6 t7 t24:Value) (R:RT) (w:World):Prop :=
 opU Pg (Instr.storeAt 53 t7 t24) (panK R) w fun w =>
 turnK w fun C2 w =>
 opV Pg (Instr.loadAt 71 t5) (panK R) w fun t25 w =>
 callK Pg 76 #[t25] (panK R) w fun t26 w =>
 n53c5 t3 t5 t6 t7 t26 R w
def n53c7 (t3 t5 t6:Value) (C1:World→Prop) (R:RT) (w:World):Prop :=
 qV Pg C1 (Instr.fieldAt 96 t3 0) fun t14 =>
 qV Pg C1 (Instr.loadAt 27 t14) fun t15 =>
 qN Pg C1 (nilN t15) fun t16 =>
 qV Pg C1 (Instr.fieldAt 61 t16 0) fun t17 =>
 qV Pg C1 (Instr.fieldAt 58 t17 0) fun t18 =>
 qV Pg C1 (Instr.fieldAt 24 t18 1) fun t19 =>
 qV Pg C1 (Instr.loadAt 22 t19) fun t20 =>
 qV Pg C1 (Instr.fieldAt 96 t3 1) fun t21 =>
 qV Pg C1 (Instr.loadAt 3 t21) fun t22 =>
 qV Pg C1 (Instr.indexAt 22 t20 t22) fun t23 =>
 qV Pg C1 (Instr.loadAt 53 t23) fun t24 =>
 opV Pg (Instr.alloc 53 true (.tuple #[])) (panK R) w fun t7 w =>
 C1 w∧(
 n53c6 t3 t5 t6 t7 t24 R w)
def n53c8 (t1 t3 t5 t8:Value) (R:RT) (w:World):Prop :=
 opV Pg (Instr.alloc 36 true (.tuple #[])) (panK R) w fun t6 w =>
 opU Pg (Instr.storeAt 36 t6 t8) (panK R) w fun w =>
 opV Pg (Instr.fieldAt 96 t3 1) (panK R) w fun t9 w =>
 opV Pg (Instr.loadAt 3 t9) (panK R) w fun t10 w =>
 opV Pg (Instr.fieldAt 36 t6 1) (panK R) w fun t12 w =>
 opU Pg (Instr.storeAt 3 t12 t10) (panK R) w fun w =>
 opV Pg (Instr.fieldAt 36 t6 2) (panK R) w fun t13 w =>
 opU Pg (Instr.storeAt 3 t13 t1) (panK R) w fun w =>
 drawK w fun C1 w =>
 n53c7 t3 t5 t6 C1 R w
def n53 (t0 t1 t2:Value) (R:RT) (w:World):Prop :=
 opV Pg (Instr.box 96 t0) (panK R) w fun t3 w =>
 opV Pg (Instr.box 71 t2) (panK R) w fun t5 w =>
 callK Pg 41 #[(.int .i64 4)] (panK R) w fun t8 w =>
 n53c8 t1 t3 t5 t8 R w
theorem n53s {t0 t1 t2:Value} {R:RT} {w:World} (h:n53 t0 t1 t2 R w):Calls Pg 48 #[t0,t1,t2] w R:=by
 refine yD Tryz.func48 ?_
 refine zs<|zr<|yv h fun _ w h=>yv h fun _ w h=>zn<|zk<|zs<|zr<|yc h c41 fun _ w h=>yv h fun _ w h=>yu h fun w h=>zn<|zk<|zs<|zr ?_
 refine yv h fun _ w h=>yv h fun _ w h=>zm<|yv h fun _ w h=>yu h fun w h=>yv h fun _ w h=>yu h fun w h=>zn<|zk<|zs<|zs<|yh [7,14,15,16,17,18,19,20,21,22,23,24] h fun C hC h=>ye 0 hC h fun _ h=>?_
 refine ye 1 hC h fun _ h=>?_
 refine yn 2 hC h fun _ h=>?_
 refine ye 3 hC h fun _ h=>?_
 refine ye 4 hC h fun _ h=>?_
 refine ye 5 hC h fun _ h=>?_
 refine ye 6 hC h fun _ h=>?_
 refine ye 7 hC h fun _ h=>?_
 refine ye 8 hC h fun _ h=>?_
 refine ye 9 hC h fun _ h=>?_
 refine ye 10 hC h fun _ h=>?_
 refine yo 11 ?_
 refine yv h fun _ w h=>zn ?_
 obtain ⟨hC,h⟩:=h
 refine ⟨hC,?_⟩
 refine yq 12 1 ?_
 refine yu h fun w h=>zn ?_
 obtain ⟨C2,hC,h⟩:=h
 refine ⟨C2,hC,?_⟩
 refine yz<|zk<|zs<|sim_regionG<|yG 3<|yv h fun _ w h=>yc h c76 fun _ w h=>zm<|zn<|yg1 4 2 true [28,29,30,31] 31 h (fun _ T hT h=>?_) fun σ w h=>?_
 · refine yv h fun _ w h=>yv h fun _ w h=>yv h fun _ w h=>yc h c77 fun _ w h=>zn ?_
   exact zt hT h
 refine yG 1<|yp h fun _ h=>zn<|sim_end<|zk<|yJ0 [33,34,35,36,37,38,39,40,41,42,43,44,45,46,47,48,49,50] h (fun _ _ hkK4 h=>?_) fun σ w h=>?_
 · refine yC h (fun h=>?_) fun h=>?_
   · refine zs<|yh [33,34,35,36,37,38,39,40,41] h fun C hC h=>ye 0 hC h fun _ h=>?_
     refine ye 1 hC h fun _ h=>?_
     refine yn 2 hC h fun _ h=>?_
     refine ye 3 hC h fun _ h=>?_
     refine ye 4 hC h fun _ h=>?_
     refine ye 5 hC h fun _ h=>?_
     refine ye 6 hC h fun _ h=>?_
     refine ye 7 hC h fun _ h=>?_
     refine ye 8 hC h fun _ h=>?_
     refine yq 9 1 ?_
     refine yu h fun w h=>zn ?_
     obtain ⟨C6,hC,h⟩:=h
     refine ⟨C6,hC,?_⟩
     refine yz<|zk<|yh [42,43,44,45,46,47,48,49,50] h fun C hC h=>ye 0 hC h fun _ h=>?_
     refine ye 1 hC h fun _ h=>?_
     refine yn 2 hC h fun _ h=>?_
     refine ye 3 hC h fun _ h=>?_
     refine ye 4 hC h fun _ h=>?_
     refine ye 5 hC h fun _ h=>?_
     refine ye 6 hC h fun _ h=>?_
     refine ye 7 hC h fun _ h=>?_
     refine ye 8 hC h fun _ h=>?_
     refine yq 9 1 ?_
     refine yu h fun w h=>zn ?_
     obtain ⟨C8,hC,h⟩:=h
     refine ⟨C8,hC,?_⟩
     refine yz<|zk ?_
     exact zt hkK4 h
   refine sim_skip<|zk ?_
   exact zt hkK4 h
 exact zk<|zr<|yv h fun _ w h=>yv h fun _ w h=>yc h c40 fun _ w h=>zn<|body_normal<|body_ret0 rfl h
def n44c1 (t1 t14:Value) (R:RT) (w:World):Prop :=
 opV Pg (Instr.lookup 59 t14 t1 true) (panK R) w fun t16 w =>
 opV Pg (Instr.extract t16 0) (panK R) w fun t17 w =>
 opV Pg (Instr.extract t16 1) (panK R) w fun t18 w =>
 opV Pg (Op.unary .not t18) (panK R) w fun t20 w =>
 condP t20 (
 R (.returned (.tuple #[(.int .i64 0),(.int .i64 9)])) w) (
 R (.returned (.tuple #[t17,(.int .i64 0)])) w)
def n44 (t0 t1 t2:Value) (R:RT) (w:World):Prop :=
 callK Pg 36 #[t0] (panK R) w fun t11 w =>
 condP t11 (
 R (.returned (.tuple #[(.int .i64 0),(.int .i64 1)])) w) (
 callV Pg t2 #[] (panK R) w fun t14 w =>
 n44c1 t1 t14 R w)
theorem n44s {t0 t1 t2:Value} {R:RT} {w:World} (h:n44 t0 t1 t2 R w):Calls Pg 49 #[t0,t1,t2] w R:=by
 refine yD Tryz.func49 ?_
 refine zs<|zr<|zm<|zm<|zn<|zk<|zs<|zs<|zr<|zm<|yc h c36 fun _ w h=>zn<|zk<|yC h (fun h=>zs<|zr<|zm<|zm<|zn<|zk<|sim_ret<|sim_then_ret<|body_ret2 rfl rfl rfl h) fun h=>?_
 refine sim_skip<|zk<|zs<|zr<|zm<|yV h fun _ w h=>zm<|yv h fun _ w h=>zm<|yv h fun _ w h=>yv h fun _ w h=>zm<|zm<|zn<|zk ?_
 refine zs<|zs<|zr<|zm<|yv h fun _ w h=>zn<|zk<|yC h (fun h=>zs<|zr<|zm<|zm<|zn<|zk<|sim_ret<|sim_then_ret<|body_ret2 rfl rfl rfl h) fun h=>sim_skip<|zk<|zs<|zr<|zm<|zm ?_
 exact zm<|zn<|zk<|sim_ret<|body_ret2 rfl rfl rfl h
def n40 (t0:Value) (R:RT) (w:World):Prop :=
 opV Pg (Instr.loadAt 27 t0) (panK R) w fun t2 w =>
 opN Pg (nilN t2) (panK R) w fun t3 w =>
 opV Pg (Instr.fieldAt 61 t3 3) (panK R) w fun t4 w =>
 opV Pg (Instr.loadAt 59 t4) (panK R) w fun t5 w =>
 R (.returned t5) w
theorem n40s {t0:Value} {R:RT} {w:World} (h:n40 t0 R w):Calls Pg 50 #[t0] w R:=by
 refine yD Tryz.func50 ?_
 refine zs<|zr<|zm<|zn<|zk<|zs<|zr<|yv h fun _ w h=>yN h fun _ w h=>yv h fun _ w h=>yv h fun _ w h=>zm<|zn<|zk<|sim_ret ?_
 exact body_ret1 rfl rfl h
def n42 (t0:Value) (R:RT) (w:World):Prop :=
 opV Pg (Instr.loadAt 27 t0) (panK R) w fun t2 w =>
 opN Pg (nilN t2) (panK R) w fun t3 w =>
 opV Pg (Instr.fieldAt 61 t3 2) (panK R) w fun t4 w =>
 opV Pg (Instr.loadAt 59 t4) (panK R) w fun t5 w =>
 R (.returned t5) w
theorem n42s {t0:Value} {R:RT} {w:World} (h:n42 t0 R w):Calls Pg 51 #[t0] w R:=by
 refine yD Tryz.func51 ?_
 refine zs<|zr<|zm<|zn<|zk<|zs<|zr<|yv h fun _ w h=>yN h fun _ w h=>yv h fun _ w h=>yv h fun _ w h=>zm<|zn<|zk<|sim_ret ?_
 exact body_ret1 rfl rfl h
def n131 (t0:Value) (R:RT) (w:World):Prop :=
 opV Pg (binS .eql 22 true t0 (Value.slice none 0 0)) (panK R) w fun t4 w =>
 condP t4 (
 R (.returned (Value.slice none 0 0)) w) (
 opV Pg (Instr.buildSlice 22 0 #[]) (panK R) w fun t5 w =>
 opV Pg (Builtin.append_ #[22,22] 22 #[t5,t0]) (panK R) w fun t7 w =>
 R (.returned t7) w)
theorem n131s {t0:Value} {R:RT} {w:World} (h:n131 t0 R w):Calls Pg 52 #[t0] w R:=by
 refine yD Tryz.func52 ?_
 refine zs<|zr<|zm<|zn<|zk<|zs<|zs<|zr<|zm<|yb h fun _ w h=>zn<|zk<|yC h (fun h=>zs<|zr<|zm<|zn<|zk<|sim_ret<|sim_then_ret<|body_ret1 rfl rfl h) fun h=>sim_skip ?_
 exact zk<|zs<|zr<|yS h fun _ w h=>zm<|yx h fun _ w h=>zm<|zn<|zk<|sim_ret<|body_ret1 rfl rfl h
def n130 (t0:Value) (R:RT) (w:World):Prop :=
 opV Pg (binS .eql 51 true t0 (Value.slice none 0 0)) (panK R) w fun t4 w =>
 condP t4 (
 R (.returned (Value.slice none 0 0)) w) (
 opV Pg (Instr.buildSlice 51 0 #[]) (panK R) w fun t5 w =>
 opV Pg (Builtin.append_ #[51,51] 51 #[t5,t0]) (panK R) w fun t7 w =>
 R (.returned t7) w)
theorem n130s {t0:Value} {R:RT} {w:World} (h:n130 t0 R w):Calls Pg 53 #[t0] w R:=by
 refine yD Tryz.func53 ?_
 refine zs<|zr<|zm<|zn<|zk<|zs<|zs<|zr<|zm<|yb h fun _ w h=>zn<|zk<|yC h (fun h=>zs<|zr<|zm<|zn<|zk<|sim_ret<|sim_then_ret<|body_ret1 rfl rfl h) fun h=>sim_skip ?_
 exact zk<|zs<|zr<|yS h fun _ w h=>zm<|yx h fun _ w h=>zm<|zn<|zk<|sim_ret<|body_ret1 rfl rfl h
def n132 (t0:Value) (R:RT) (w:World):Prop :=
 opV Pg (binS .eql 66 true t0 (Value.slice none 0 0)) (panK R) w fun t4 w =>
 condP t4 (
 R (.returned (Value.slice none 0 0)) w) (
 opV Pg (Instr.buildSlice 66 0 #[]) (panK R) w fun t5 w =>
 opV Pg (Builtin.append_ #[66,66] 66 #[t5,t0]) (panK R) w fun t7 w =>
 R (.returned t7) w)
theorem n132s {t0:Value} {R:RT} {w:World} (h:n132 t0 R w):Calls Pg 54 #[t0] w R:=by
 refine yD Tryz.func54 ?_
 refine zs<|zr<|zm<|zn<|zk<|zs<|zs<|zr<|zm<|yb h fun _ w h=>zn<|zk<|yC h (fun h=>zs<|zr<|zm<|zn<|zk<|sim_ret<|sim_then_ret<|body_ret1 rfl rfl h) fun h=>sim_skip ?_
 exact zk<|zs<|zr<|yS h fun _ w h=>zm<|yx h fun _ w h=>zm<|zn<|zk<|sim_ret<|body_ret1 rfl rfl h
def n129 (t0:Value) (R:RT) (w:World):Prop :=
 opV Pg (binS .eql 69 true t0 (Value.slice none 0 0)) (panK R) w fun t4 w =>
 condP t4 (
 R (.returned (Value.slice none 0 0)) w) (
 opV Pg (Instr.buildSlice 69 0 #[]) (panK R) w fun t5 w =>
 opV Pg (Builtin.append_ #[69,69] 69 #[t5,t0]) (panK R) w fun t7 w =>
 R (.returned t7) w)
theorem n129s {t0:Value} {R:RT} {w:World} (h:n129 t0 R w):Calls Pg 55 #[t0] w R:=by
 refine yD Tryz.func55 ?_
 refine zs<|zr<|zm<|zn<|zk<|zs<|zs<|zr<|zm<|yb h fun _ w h=>zn<|zk<|yC h (fun h=>zs<|zr<|zm<|zn<|zk<|sim_ret<|sim_then_ret<|body_ret1 rfl rfl h) fun h=>sim_skip ?_
 exact zk<|zs<|zr<|yS h fun _ w h=>zm<|yx h fun _ w h=>zm<|zn<|zk<|sim_ret<|body_ret1 rfl rfl h
def n140c1 (t17 t29:Value) (next1:KV) (R:RT) (w:World):Prop :=
 opV Pg (Op.unary .not t29) (panK R) w fun t30 w =>
 condP t30 (
 R (.returned (.bool false)) w) (
 opV Pg (binS .add 3 true t17 (.int .i64 1)) (panK R) w fun t31 w =>
 next1 t31 w)
def n140c2 (t0 t1 t2 t17:Value) (next1:KV) (R:RT) (w:World):Prop :=
 opV Pg (Instr.indexAt 22 t0 t17) (panK R) w fun t20 w =>
 opV Pg (Instr.loadAt 53 t20) (panK R) w fun t21 w =>
 opV Pg (Instr.alloc 53 true (.tuple #[])) (panK R) w fun t8 w =>
 opU Pg (Instr.storeAt 53 t8 t21) (panK R) w fun w =>
 opV Pg (Instr.indexAt 22 t1 t17) (panK R) w fun t24 w =>
 opV Pg (Instr.loadAt 53 t24) (panK R) w fun t25 w =>
 opV Pg (Instr.alloc 53 true (.tuple #[])) (panK R) w fun t9 w =>
 opU Pg (Instr.storeAt 53 t9 t25) (panK R) w fun w =>
 opV Pg (Instr.loadAt 53 t8) (panK R) w fun t27 w =>
 opV Pg (Instr.loadAt 53 t9) (panK R) w fun t28 w =>
 callV Pg t2 #[t27,t28] (panK R) w fun t29 w =>
 n140c1 t17 t29 next1 R w
def n140c3 (t0 t1 t2:Value) (R:RT) (w:World):Prop :=
 opV Pg (Builtin.len_ #[22] 3 #[t0]) (panK R) w fun t16 w =>
 loop1 (fun t17 w next1 =>
 opV Pg (binS .lss 3 false t17 t16) (panK R) w fun t18 w =>
 condP t18 (
 n140c2 t0 t1 t2 t17 next1 R w) (
 R (.returned (.bool true)) w)) (.int .i64 0) w
def n140 (t0 t1 t2:Value) (R:RT) (w:World):Prop :=
 opV Pg (Builtin.len_ #[22] 3 #[t0]) (panK R) w fun t11 w =>
 opV Pg (Builtin.len_ #[22] 3 #[t1]) (panK R) w fun t13 w =>
 opV Pg (binS .neq 3 false t11 t13) (panK R) w fun t14 w =>
 condP t14 (
 R (.returned (.bool false)) w) (
 n140c3 t0 t1 t2 R w)
theorem n140s {t0 t1 t2:Value} {R:RT} {w:World} (h:n140 t0 t1 t2 R w):Calls Pg 56 #[t0,t1,t2] w R:=by
 refine yD Tryz.func56 ?_
 refine zs<|zr<|zm<|zn<|zk<|zs<|zs<|zr<|zm<|yx h fun _ w h=>zm<|yx h fun _ w h=>yb h fun _ w h=>zn<|zk ?_
 refine yC h (fun h=>zs<|zr<|zm<|zn<|zk<|sim_ret<|sim_then_ret<|body_ret1 rfl rfl h) fun h=>sim_skip<|zk<|zs<|zs<|zr<|zm<|yx h fun _ w h=>zm<|zn<|zk<|sim_block<|yl1 [6,7,8,9,17,18,19,20,21,22,23,24,25,26,27,28,29,30,31] 17 h fun σ w next h=>zs ?_
 refine zr<|yb h fun _ w h=>zn<|zk<|zs<|yC h (fun h=>?_) fun h=>?_
 · refine sim_skip<|zk<|zs<|sim_block<|zs<|zr<|zm<|yv h fun _ w h=>yv h fun _ w h=>yv h fun _ w h=>zm<|yu h fun w h=>zn<|zk<|zs ?_
   refine zr<|zm<|zm<|yv h fun _ w h=>yv h fun _ w h=>yv h fun _ w h=>yu h fun w h=>zn<|zk<|zs<|zr<|zm<|yv h fun _ w h=>yv h fun _ w h=>yV h fun _ w h=>?_
   exact yv h fun _ w h=>zn<|zk<|yC h (fun h=>zs<|zr<|zm<|zn<|zk<|sim_ret<|sim_block_ret<|sim_then_ret<|sim_then_ret<|sim_block_ret<|sim_then_ret<|body_ret1 rfl rfl h) fun h=>sim_skip<|sim_block_normal<|zk<|zr<|yb h fun _ w h=>zm<|zn<|zk<|⟨rfl,h⟩
 exact sim_exit<|sim_then_exit<|sim_then_exit<|sim_block_hit<|zk<|zs<|zr<|zm<|zn<|zk<|sim_ret<|body_ret1 rfl rfl h
def n64 (t0 t1:Value) (R:RT) (w:World):Prop :=
 opV Pg (Instr.box 53 t0) (panK R) w fun t2 w =>
 opV Pg (Instr.box 53 t1) (panK R) w fun t3 w =>
 opV Pg (Instr.fieldAt 53 t2 0) (panK R) w fun t5 w =>
 opV Pg (Instr.loadAt 9 t5) (panK R) w fun t6 w =>
 opV Pg (Instr.fieldAt 53 t3 0) (panK R) w fun t7 w =>
 opV Pg (Instr.loadAt 9 t7) (panK R) w fun t8 w =>
 opV Pg (binS .eql 9 false t6 t8) (panK R) w fun t9 w =>
 joinK (fun (t15:Value) (w:World) =>
 pickK t9 t15 (.bool false) fun t16 =>
 R (.returned t16) w) fun K1 =>
 guardP t9 true (
 opV Pg (Instr.fieldAt 53 t2 1) (panK R) w fun t11 w =>
 opV Pg (Instr.loadAt 51 t11) (panK R) w fun t12 w =>
 opV Pg (Instr.fieldAt 53 t3 1) (panK R) w fun t13 w =>
 opV Pg (Instr.loadAt 51 t13) (panK R) w fun t14 w =>
 callK Pg 58 #[t12,t14,(.func (.func 59) #[] #[])] (panK R) w fun t15 w =>
 K1 t15 w) (
 K1 undef w)
theorem n64s {t0 t1:Value} {R:RT} {w:World} (h:n64 t0 t1 R w):Calls Pg 57 #[t0,t1] w R:=by
 refine yD Tryz.func57 ?_
 refine zs<|zr<|yv h fun _ w h=>yv h fun _ w h=>zm<|zn<|zk<|zs<|sim_regionG<|yG 6<|yv h fun _ w h=>yv h fun _ w h=>yv h fun _ w h=>yv h fun _ w h=>yb h fun _ w h=>?_
 refine zm<|zn<|yg1 5 5 true [11,12,13,14,15] 15 h (fun _ T hT h=>?_) fun σ w h=>?_
 · refine yv h fun _ w h=>yv h fun _ w h=>yv h fun _ w h=>yv h fun _ w h=>yc h c58 fun _ w h=>zn ?_
   exact zt hT h
 exact yG 2<|yp h fun _ h=>zm<|zn<|sim_end<|zk<|sim_ret<|body_ret1 rfl rfl h
def n139c1 (t17 t29:Value) (next1:KV) (R:RT) (w:World):Prop :=
 opV Pg (Op.unary .not t29) (panK R) w fun t30 w =>
 condP t30 (
 R (.returned (.bool false)) w) (
 opV Pg (binS .add 3 true t17 (.int .i64 1)) (panK R) w fun t31 w =>
 next1 t31 w)
def n139c2 (t0 t1 t2 t17:Value) (next1:KV) (R:RT) (w:World):Prop :=
 opV Pg (Instr.indexAt 51 t0 t17) (panK R) w fun t20 w =>
 opV Pg (Instr.loadAt 71 t20) (panK R) w fun t21 w =>
 opV Pg (Instr.alloc 71 true (.tuple #[])) (panK R) w fun t8 w =>
 opU Pg (Instr.storeAt 71 t8 t21) (panK R) w fun w =>
 opV Pg (Instr.indexAt 51 t1 t17) (panK R) w fun t24 w =>
 opV Pg (Instr.loadAt 71 t24) (panK R) w fun t25 w =>
 opV Pg (Instr.alloc 71 true (.tuple #[])) (panK R) w fun t9 w =>
 opU Pg (Instr.storeAt 71 t9 t25) (panK R) w fun w =>
 opV Pg (Instr.loadAt 71 t8) (panK R) w fun t27 w =>
 opV Pg (Instr.loadAt 71 t9) (panK R) w fun t28 w =>
 callV Pg t2 #[t27,t28] (panK R) w fun t29 w =>
 n139c1 t17 t29 next1 R w
def n139c3 (t0 t1 t2:Value) (R:RT) (w:World):Prop :=
 opV Pg (Builtin.len_ #[51] 3 #[t0]) (panK R) w fun t16 w =>
 loop1 (fun t17 w next1 =>
 opV Pg (binS .lss 3 false t17 t16) (panK R) w fun t18 w =>
 condP t18 (
 n139c2 t0 t1 t2 t17 next1 R w) (
 R (.returned (.bool true)) w)) (.int .i64 0) w
def n139 (t0 t1 t2:Value) (R:RT) (w:World):Prop :=
 opV Pg (Builtin.len_ #[51] 3 #[t0]) (panK R) w fun t11 w =>
 opV Pg (Builtin.len_ #[51] 3 #[t1]) (panK R) w fun t13 w =>
 opV Pg (binS .neq 3 false t11 t13) (panK R) w fun t14 w =>
 condP t14 (
 R (.returned (.bool false)) w) (
 n139c3 t0 t1 t2 R w)
theorem n139s {t0 t1 t2:Value} {R:RT} {w:World} (h:n139 t0 t1 t2 R w):Calls Pg 58 #[t0,t1,t2] w R:=by
 refine yD Tryz.func58 ?_
 refine zs<|zr<|zm<|zn<|zk<|zs<|zs<|zr<|zm<|yx h fun _ w h=>zm<|yx h fun _ w h=>yb h fun _ w h=>zn<|zk ?_
 refine yC h (fun h=>zs<|zr<|zm<|zn<|zk<|sim_ret<|sim_then_ret<|body_ret1 rfl rfl h) fun h=>sim_skip<|zk<|zs<|zs<|zr<|zm<|yx h fun _ w h=>zm<|zn<|zk<|sim_block<|yl1 [6,7,8,9,17,18,19,20,21,22,23,24,25,26,27,28,29,30,31] 17 h fun σ w next h=>zs ?_
 refine zr<|yb h fun _ w h=>zn<|zk<|zs<|yC h (fun h=>?_) fun h=>?_
 · refine sim_skip<|zk<|zs<|sim_block<|zs<|zr<|zm<|yv h fun _ w h=>yv h fun _ w h=>yv h fun _ w h=>zm<|yu h fun w h=>zn<|zk<|zs ?_
   refine zr<|zm<|zm<|yv h fun _ w h=>yv h fun _ w h=>yv h fun _ w h=>yu h fun w h=>zn<|zk<|zs<|zr<|zm<|yv h fun _ w h=>yv h fun _ w h=>yV h fun _ w h=>?_
   exact yv h fun _ w h=>zn<|zk<|yC h (fun h=>zs<|zr<|zm<|zn<|zk<|sim_ret<|sim_block_ret<|sim_then_ret<|sim_then_ret<|sim_block_ret<|sim_then_ret<|body_ret1 rfl rfl h) fun h=>sim_skip<|sim_block_normal<|zk<|zr<|yb h fun _ w h=>zm<|zn<|zk<|⟨rfl,h⟩
 exact sim_exit<|sim_then_exit<|sim_then_exit<|sim_block_hit<|zk<|zs<|zr<|zm<|zn<|zk<|sim_ret<|body_ret1 rfl rfl h
def n112c1 (t2 t3 t9 t17:Value) (C1:World→Prop) (R:RT) (w:World):Prop :=
 pickK t9 t17 (.bool false) fun t18 =>
 joinK (fun (t24:Value) (w:World) =>
 pickK t18 t24 (.bool false) fun t25 =>
 R (.returned t25) w) fun K3 =>
 guardP t18 true (
 qV Pg C1 (Instr.fieldAt 71 t2 11) fun t20 =>
 qV Pg C1 (Instr.loadAt 69 t20) fun t21 =>
 qV Pg C1 (Instr.fieldAt 71 t3 11) fun t22 =>
 qV Pg C1 (Instr.loadAt 69 t22) fun t23 =>
 callK Pg 80 #[t21,t23] (panK R) w fun t24 w =>
 C1 w∧(
 K3 t24 w)) (
 K3 undef w)
def n112c2 (t2 t3 t6 t8:Value) (C1:World→Prop) (R:RT) (w:World):Prop :=
 qV Pg C1 (binS .eql 145 false t6 t8) fun t9 =>
 joinK (fun (t17:Value) (w:World) =>
 n112c1 t2 t3 t9 t17 C1 R w) fun K2 =>
 guardP t9 true (
 qV Pg C1 (Instr.fieldAt 71 t2 7) fun t11 =>
 qV Pg C1 (Instr.fieldAt 68 t11 1) fun t12 =>
 qV Pg C1 (Instr.loadAt 66 t12) fun t13 =>
 qV Pg C1 (Instr.fieldAt 71 t3 7) fun t14 =>
 qV Pg C1 (Instr.fieldAt 68 t14 1) fun t15 =>
 qV Pg C1 (Instr.loadAt 66 t15) fun t16 =>
 callK Pg 79 #[t13,t16] (panK R) w fun t17 w =>
 C1 w∧(
 K2 t17 w)) (
 K2 undef w)
def n112c3 (t2 t3:Value) (C1:World→Prop) (R:RT) (w:World):Prop :=
 qV Pg C1 (Instr.loadAt 71 t2) fun t5 =>
 qV Pg C1 (Instr.loadAt 71 t3) fun t7 =>
 callK Pg 78 #[t5] (panK R) w fun t6 w =>
 C1 w∧(
 callK Pg 78 #[t7] (panK R) w fun t8 w =>
 C1 w∧(
 n112c2 t2 t3 t6 t8 C1 R w))
def n112 (t0 t1:Value) (R:RT) (w:World):Prop :=
 opV Pg (Instr.box 71 t0) (panK R) w fun t2 w =>
 opV Pg (Instr.box 71 t1) (panK R) w fun t3 w =>
 drawK w fun C1 w =>
 n112c3 t2 t3 C1 R w
theorem n112s {t0 t1:Value} {R:RT} {w:World} (h:n112 t0 t1 R w):Calls Pg 59 #[t0,t1] w R:=by
 refine yD Tryz.func59 ?_
 refine zs<|zr<|yv h fun _ w h=>yv h fun _ w h=>zm<|zn<|zk<|zs<|yh [4,5,6,7,8,9,10,11,12,13,14,15,16,17,18,19,20,21,22,23,24,25] h fun C hC h=>ye 0 hC h fun _ h=>?_
 refine ye 2 hC h fun _ h=>?_
 refine yo 1 ?_
 refine yc h c78 fun _ w h=>zn ?_
 obtain ⟨hC,h⟩:=h
 refine ⟨hC,?_⟩
 refine yo 3 ?_
 refine yc h c78 fun _ w h=>zn ?_
 obtain ⟨hC,h⟩:=h
 refine ⟨hC,?_⟩
 refine ye 4 hC h fun _ h=>?_
 refine yw 5 hC ?_
 refine yj1 9 [12,11,10,9,8,7,6,5,4,3,1,2,0] [11,12,13,14,15,16,17] 17 h (fun _ hT hb h=>?_) (fun _ hT hb h=>?_) fun σ w hC h=>?_
 · refine ye 6 hC h fun _ h=>?_
   refine ye 7 hC h fun _ h=>?_
   refine ye 8 hC h fun _ h=>?_
   refine ye 9 hC h fun _ h=>?_
   refine ye 10 hC h fun _ h=>?_
   refine ye 11 hC h fun _ h=>?_
   refine yo 12 ?_
   refine yc h c79 fun _ w h=>zn ?_
   obtain ⟨hC,h⟩:=h
   refine ⟨hC,?_⟩
   exact yt hT hC h
 · refine yi 6 hC ?_
   refine yi 7 hC ?_
   refine yi 8 hC ?_
   refine yi 9 hC ?_
   refine yi 10 hC ?_
   refine yi 11 hC ?_
   refine yi 12 hC ?_
   exact yt hT hC h
 refine yP 13 hC h fun _ h=>?_
 refine yw 14 hC ?_
 refine yj1 2 [19,18,17,16,15,14,13,12,11,10,9,8,7,6,5,4,3,1,2,0] [20,21,22,23,24] 24 h (fun _ hT hb h=>?_) (fun _ hT hb h=>?_) fun σ w hC h=>?_
 · refine ye 15 hC h fun _ h=>?_
   refine ye 16 hC h fun _ h=>?_
   refine ye 17 hC h fun _ h=>?_
   refine ye 18 hC h fun _ h=>?_
   refine yo 19 ?_
   refine yc h c80 fun _ w h=>zn ?_
   obtain ⟨hC,h⟩:=h
   refine ⟨hC,?_⟩
   exact yt hT hC h
 · refine yi 15 hC ?_
   refine yi 16 hC ?_
   refine yi 17 hC ?_
   refine yi 18 hC ?_
   refine yi 19 hC ?_
   exact yt hT hC h
 refine yP 20 hC h fun _ h=>?_
 refine yw 21 hC ?_
 exact yz<|zk<|sim_ret<|body_ret1 rfl rfl h
def n86c1 (t9:Value) (R:RT) (w:World):Prop :=
 opV Pg (Builtin.max_ #[3,3] 3 #[t9,(.int .i64 0)]) (panK R) w fun t11 w =>
 opV Pg (binS .geq 3 true t9 (.int .i64 0)) (panK R) w fun t13 w =>
 R (.returned (.tuple #[t11,t13])) w
def n86 (t0 t1:Value) (R:RT) (w:World):Prop :=
 callK Pg 81 #[t0,t1] (panK R) w fun t9 w =>
 n86c1 t9 R w
theorem n86s {t0 t1:Value} {R:RT} {w:World} (h:n86 t0 t1 R w):Calls Pg 60 #[t0,t1] w R:=by
 refine yD Tryz.func60 ?_
 refine zs<|zr<|zm<|zm<|zn<|zk<|zs<|zr<|zm<|zm<|yc h c81 fun _ w h=>zm<|zn<|zk<|zs ?_
 exact zr<|zm<|yx h fun _ w h=>zm<|yb h fun _ w h=>zm<|zm<|zn<|zk<|sim_ret<|body_ret2 rfl rfl rfl h
def n68 (t0 t1:Value) (R:RT) (w:World):Prop :=
 opV Pg (Instr.box 53 t0) (panK R) w fun t2 w =>
 opV Pg (Instr.fieldAt 53 t2 0) (panK R) w fun t4 w =>
 opV Pg (Instr.loadAt 9 t4) (panK R) w fun t5 w =>
 opV Pg (Instr.loadAt 9 t1) (panK R) w fun t6 w =>
 opV Pg (binS .eql 9 false t5 t6) (panK R) w fun t7 w =>
 R (.returned t7) w
theorem n68s {t0 t1:Value} {R:RT} {w:World} (h:n68 t0 t1 R w):Calls Pg 61 #[t0,t1] w R:=by
 refine yD Tryz.func61 ?_
 refine zs<|zr<|yv h fun _ w h=>zm<|zn<|zk<|zs<|zr<|yv h fun _ w h=>yv h fun _ w h=>yv h fun _ w h=>yb h fun _ w h=>zm<|zn<|zk ?_
 exact sim_ret<|body_ret1 rfl rfl h
def n25c1 (t1 t3 t7:Value) (next1:KV) (R:RT) (w:World):Prop :=
 opV Pg (Instr.fieldAt 24 t3 1) (panK R) w fun t13 w =>
 opV Pg (Instr.loadAt 22 t13) (panK R) w fun t14 w =>
 opV Pg (Instr.indexAt 22 t14 t7) (panK R) w fun t16 w =>
 opV Pg (Instr.fieldAt 53 t16 0) (panK R) w fun t17 w =>
 opV Pg (Instr.loadAt 9 t17) (panK R) w fun t18 w =>
 opV Pg (binS .eql 9 false t18 t1) (panK R) w fun t20 w =>
 condP t20 (
 R (.returned t7) w) (
 opV Pg (binS .add 3 true t7 (.int .i64 1)) (panK R) w fun t12 w =>
 next1 t12 w)
def n25 (t0 t1 t2:Value) (R:RT) (w:World):Prop :=
 opV Pg (Instr.box 24 t0) (panK R) w fun t3 w =>
 loop1 (fun t7 w next1 =>
 opV Pg (binS .lss 3 false t7 t2) (panK R) w fun t10 w =>
 condP t10 (
 n25c1 t1 t3 t7 next1 R w) (
 R (.returned (.int .i64 (-1))) w)) (.int .i64 0) w
theorem n25s {t0 t1 t2:Value} {R:RT} {w:World} (h:n25 t0 t1 t2 R w):Calls Pg 62 #[t0,t1,t2] w R:=by
 refine yD Tryz.func62 ?_
 refine zs<|zr<|yv h fun _ w h=>zm<|zn<|zk<|zs<|zs<|zr<|zm<|zn<|zk<|sim_block<|yl1 [6,7,8,9,10,11,12,13,14,15,16,17,18,19,20,21] 7 h fun σ w next h=>zs ?_
 refine zs<|zr<|zm<|zm<|yb h fun _ w h=>zn<|zk<|yC h (fun h=>?_) fun h=>?_
 · refine sim_skip<|zk<|zs<|sim_block<|zs<|zr<|yv h fun _ w h=>yv h fun _ w h=>zm<|yv h fun _ w h=>yv h fun _ w h=>yv h fun _ w h=>zm<|yb h fun _ w h=>zn ?_
   exact zk<|yC h (fun h=>zs<|zr<|zm<|zm<|zn<|zk<|sim_ret<|sim_block_ret<|sim_then_ret<|sim_then_ret<|sim_block_ret<|sim_then_ret<|body_ret1 rfl rfl h) fun h=>sim_skip<|sim_block_normal<|zk<|zr<|zm<|yb h fun _ w h=>zm<|zn<|zk<|⟨rfl,h⟩
 exact sim_exit<|sim_then_exit<|sim_then_exit<|sim_block_hit<|zk<|zs<|zr<|zm<|zn<|zk<|sim_ret<|body_ret1 rfl rfl h
def n27c1 (t3 t6 t8 t9 t10:Value) (C9:World→Prop) (next8:KW) (R:RT) (w:World):Prop :=
 joinK (fun (t84:Value) (w:World) =>
 pickK t9 (.bool true) t84 fun t85 =>
 opV Pg (binS .add 3 true t10 (.int .i64 1)) (panK R) w fun t73 w =>
 next8 t85 t73 w) fun K10 =>
 guardP t9 false (
 qV Pg C9 (Instr.indexAt 80 t3 t10) fun t78 =>
 qV Pg C9 (Instr.loadAt 9 t78) fun t79 =>
 qV Pg C9 (Instr.indexAt 80 t6 t8) fun t82 =>
 qV Pg C9 (Instr.loadAt 9 t82) fun t83 =>
 qV Pg C9 (binS .eql 9 false t79 t83) fun t84 =>
 K10 t84 w) (
 K10 undef w)
def n27c2 (t3 t6 t8:Value) (K11:KV) (R:RT) (w:World):Prop :=
 opV Pg (Instr.indexAt 80 t6 t8) (panK R) w fun t91 w =>
 opV Pg (Instr.loadAt 9 t91) (panK R) w fun t92 w =>
 opV Pg (Instr.buildSlice 80 1 #[(0,t92)]) (panK R) w fun t93 w =>
 opV Pg (Builtin.append_ #[80,80] 80 #[t3,t93]) (panK R) w fun t94 w =>
 K11 t94 w
def n27c3 (t3 t6 t8 t9:Value) (next7:KW) (R:RT) (w:World):Prop :=
 opV Pg (Op.unary .not t9) (panK R) w fun t87 w =>
 joinK (fun (t3:Value) (w:World) =>
 opV Pg (binS .add 3 true t8 (.int .i64 1)) (panK R) w fun t67 w =>
 next7 t3 t67 w) fun K11 =>
 condP t87 (
 n27c2 t3 t6 t8 K11 R w) (
 K11 t3 w)
def n27c4 (t3 t6 t8 t9 t10:Value) (next7:KW) (next8:KW) (R:RT) (w:World):Prop :=
 opV Pg (Builtin.len_ #[80] 3 #[t3]) (panK R) w fun t70 w =>
 opV Pg (binS .lss 3 false t10 t70) (panK R) w fun t71 w =>
 condP t71 (
 drawK w fun C9 w =>
 n27c1 t3 t6 t8 t9 t10 C9 next8 R w) (
 n27c3 t3 t6 t8 t9 next7 R w)
def n27c5 (t3 t4 t6 t8:Value) (next1:KW) (next7:KW) (R:RT) (w:World):Prop :=
 opV Pg (Builtin.len_ #[80] 3 #[t6]) (panK R) w fun t64 w =>
 opV Pg (binS .lss 3 false t8 t64) (panK R) w fun t65 w =>
 condP t65 (
 loop2 (fun t9 t10 w next8 =>
 n27c4 t3 t6 t8 t9 t10 next7 next8 R w) (.bool false) (.int .i64 0) w) (
 opV Pg (binS .add 3 true t4 (.int .i64 1)) (panK R) w fun t17 w =>
 next1 t3 t17 w)
def n27c6 (t5 t6 t7:Value) (next5:KW) (R:RT) (w:World):Prop :=
 opV Pg (Instr.fieldAt 71 t5 11) (panK R) w fun t54 w =>
 opV Pg (Instr.loadAt 69 t54) (panK R) w fun t55 w =>
 opV Pg (Instr.indexAt 69 t55 t7) (panK R) w fun t57 w =>
 opV Pg (Instr.fieldAt 85 t57 2) (panK R) w fun t58 w =>
 opV Pg (Instr.loadAt 9 t58) (panK R) w fun t59 w =>
 opV Pg (Instr.buildSlice 80 1 #[(0,t59)]) (panK R) w fun t60 w =>
 opV Pg (Builtin.append_ #[80,80] 80 #[t6,t60]) (panK R) w fun t61 w =>
 opV Pg (binS .add 3 true t7 (.int .i64 1)) (panK R) w fun t52 w =>
 next5 t61 t52 w
def n27c7 (t3 t4 t5 t6 t7 t43 t49:Value) (next1:KW) (next5:KW) (R:RT) (w:World):Prop :=
 pickK t43 t49 (.bool false) fun t50 =>
 condP t50 (
 n27c6 t5 t6 t7 next5 R w) (
 loop2 (fun t3 t8 w next7 =>
 n27c5 t3 t4 t6 t8 next1 next7 R w) t3 (.int .i64 0) w)
def n27c8 (t3 t4 t5 t6 t7:Value) (next1:KW) (next5:KW) (R:RT) (w:World):Prop :=
 opV Pg (Instr.fieldAt 71 t5 1) (panK R) w fun t41 w =>
 opV Pg (Instr.loadAt 65 t41) (panK R) w fun t42 w =>
 opV Pg (binS .eql 65 true t42 (.int .i64 9)) (panK R) w fun t43 w =>
 joinK (fun (t49:Value) (w:World) =>
 n27c7 t3 t4 t5 t6 t7 t43 t49 next1 next5 R w) fun K6 =>
 guardP t43 true (
 opV Pg (Instr.fieldAt 71 t5 11) (panK R) w fun t46 w =>
 opV Pg (Instr.loadAt 69 t46) (panK R) w fun t47 w =>
 opV Pg (Builtin.len_ #[69] 3 #[t47]) (panK R) w fun t48 w =>
 opV Pg (binS .lss 3 false t7 t48) (panK R) w fun t49 w =>
 K6 t49 w) (
 K6 undef w)
def n27c9 (t5:Value) (K4:KV) (R:RT) (w:World):Prop :=
 opV Pg (Instr.fieldAt 71 t5 8) (panK R) w fun t37 w =>
 opV Pg (Instr.loadAt 9 t37) (panK R) w fun t38 w =>
 opV Pg (Instr.buildSlice 80 1 #[(0,t38)]) (panK R) w fun t39 w =>
 opV Pg (Builtin.append_ #[80,80] 80 #[(Value.slice none 0 0),t39]) (panK R) w fun t40 w =>
 K4 t40 w
def n27c10 (t3 t4 t5 t30 t34:Value) (next1:KW) (R:RT) (w:World):Prop :=
 pickK t30 (.bool true) t34 fun t35 =>
 joinK (fun (t6:Value) (w:World) =>
 loop2 (fun t6 t7 w next5 =>
 n27c8 t3 t4 t5 t6 t7 next1 next5 R w) t6 (.int .i64 0) w) fun K4 =>
 condP t35 (
 n27c9 t5 K4 R w) (
 K4 (Value.slice none 0 0) w)
def n27c11 (t3 t4 t5 t25 t29:Value) (next1:KW) (R:RT) (w:World):Prop :=
 pickK t25 (.bool true) t29 fun t30 =>
 joinK (fun (t34:Value) (w:World) =>
 n27c10 t3 t4 t5 t30 t34 next1 R w) fun K3 =>
 guardP t30 false (
 opV Pg (Instr.fieldAt 71 t5 1) (panK R) w fun t32 w =>
 opV Pg (Instr.loadAt 65 t32) (panK R) w fun t33 w =>
 opV Pg (binS .eql 65 true t33 (.int .i64 12)) (panK R) w fun t34 w =>
 K3 t34 w) (
 K3 undef w)
def n27c12 (t1 t3 t4:Value) (next1:KW) (R:RT) (w:World):Prop :=
 opV Pg (Instr.fieldAt 53 t1 1) (panK R) w fun t18 w =>
 opV Pg (Instr.loadAt 51 t18) (panK R) w fun t19 w =>
 opV Pg (Instr.indexAt 51 t19 t4) (panK R) w fun t21 w =>
 opV Pg (Instr.loadAt 71 t21) (panK R) w fun t22 w =>
 opV Pg (Instr.alloc 71 true (.tuple #[])) (panK R) w fun t5 w =>
 opU Pg (Instr.storeAt 71 t5 t22) (panK R) w fun w =>
 opV Pg (Instr.fieldAt 71 t5 1) (panK R) w fun t23 w =>
 opV Pg (Instr.loadAt 65 t23) (panK R) w fun t24 w =>
 opV Pg (binS .eql 65 true t24 (.int .i64 7)) (panK R) w fun t25 w =>
 joinK (fun (t29:Value) (w:World) =>
 n27c11 t3 t4 t5 t25 t29 next1 R w) fun K2 =>
 guardP t25 false (
 opV Pg (Instr.fieldAt 71 t5 1) (panK R) w fun t27 w =>
 opV Pg (Instr.loadAt 65 t27) (panK R) w fun t28 w =>
 opV Pg (binS .eql 65 true t28 (.int .i64 8)) (panK R) w fun t29 w =>
 K2 t29 w) (
 K2 undef w)
def n27c13 (t1 t3 t4:Value) (next1:KW) (R:RT) (w:World):Prop :=
 opV Pg (Instr.fieldAt 53 t1 1) (panK R) w fun t12 w =>
 opV Pg (Instr.loadAt 51 t12) (panK R) w fun t13 w =>
 opV Pg (Builtin.len_ #[51] 3 #[t13]) (panK R) w fun t14 w =>
 opV Pg (binS .lss 3 false t4 t14) (panK R) w fun t15 w =>
 condP t15 (
 n27c12 t1 t3 t4 next1 R w) (
 R (.returned t3) w)
def n27 (t0:Value) (R:RT) (w:World):Prop :=
 opV Pg (Instr.box 53 t0) (panK R) w fun t1 w =>
 loop2 (fun t3 t4 w next1 =>
 n27c13 t1 t3 t4 next1 R w) (Value.slice none 0 0) (.int .i64 0) w
set_option maxHeartbeats 40000000 in
theorem n27s {t0:Value} {R:RT} {w:World} (h:n27 t0 R w):Calls Pg 63 #[t0] w R:=by
 refine yD Tryz.func63 ?_
 refine zs<|zr<|yv h fun _ w h=>zm<|zn<|zk<|zs<|zr<|zm<|zn<|zk<|zs<|zs<|zr<|zm ?_
 refine zn<|zk<|sim_block<|yl2 [3,4,5,6,7,8,9,10,11,12,13,14,15,16,17,18,19,20,21,22,23,24,25,26,27,28,29,30,31,32,33,34,35,36,37,38,39,40,41,42,43,44,45,46,47,48,49,50,51,52,53,54,55,56,57,58,59,60,61,62,63,64,65,66,67,68,69,70,71,72,73,74,75,76,77,78,79,80,81,82,83,84,85,86,87,88,89,90,91,92,93,94] 3 4 h fun σ w next h=>zs<|zs<|zr<|zm<|yv h fun _ w h=>yv h fun _ w h=>yx h fun _ w h=>yb h fun _ w h=>zn<|zk<|yC h (fun h=>?_) fun h=>?_
 · refine sim_skip<|zk<|zs<|sim_block<|zs<|zr<|yv h fun _ w h=>yv h fun _ w h=>zm<|yv h fun _ w h=>yv h fun _ w h=>yv h fun _ w h=>yu h fun w h=>zn<|zk ?_
   refine zs<|zr<|zm<|zn<|zk<|zs<|zs<|sim_regionG<|yG 4<|yv h fun _ w h=>yv h fun _ w h=>yb h fun _ w h=>zm<|zn<|yg1 3 3 false [27,28,29] 29 h (fun _ T hT h=>?_) fun σ w h=>?_
   · refine yv h fun _ w h=>yv h fun _ w h=>yb h fun _ w h=>zn ?_
     exact zt hT h
   refine yG 2<|yp h fun _ h=>zm<|zn<|yg1 3 8 false [32,33,34] 34 h (fun _ T hT h=>?_) fun σ w h=>?_
   · refine yv h fun _ w h=>yv h fun _ w h=>yb h fun _ w h=>zn ?_
     exact zt hT h
   refine yG 1<|yp h fun _ h=>zn<|sim_end<|zk<|yJ1 [6,36,37,38,39,40] 6 h (fun _ _ hkK4 h=>?_) fun σ w h=>?_
   · refine yC h (fun h=>?_) fun h=>?_
     · refine zr<|zm<|yv h fun _ w h=>yv h fun _ w h=>yS h fun _ w h=>yx h fun _ w h=>zm<|zn<|zk ?_
       exact zt hkK4 h
     refine sim_skip<|zk ?_
     exact zt hkK4 h
   refine zk<|zs<|zs<|zr<|zm<|zn<|zk<|sim_block<|yl2 [6,7,41,42,43,44,45,46,47,48,49,50,51,52,53,54,55,56,57,58,59,60,61] 6 7 h fun σ w next h=>zs<|zs<|sim_regionG<|yG 4<|yv h fun _ w h=>yv h fun _ w h=>?_
   refine yb h fun _ w h=>zm<|zn<|yg1 5 3 true [45,46,47,48,49] 49 h (fun _ T hT h=>?_) fun σ w h=>?_
   · refine zm<|yv h fun _ w h=>yv h fun _ w h=>yx h fun _ w h=>yb h fun _ w h=>zn ?_
     exact zt hT h
   refine yG 1<|yp h fun _ h=>zn<|sim_end<|zk<|yC h (fun h=>?_) fun h=>?_
   · refine sim_skip<|zk<|zs<|sim_block<|zr<|zm<|yv h fun _ w h=>yv h fun _ w h=>zm<|yv h fun _ w h=>yv h fun _ w h=>yv h fun _ w h=>yS h fun _ w h=>yx h fun _ w h=>zm ?_
     exact zn<|sim_block_normal<|zk<|zr<|zm<|yb h fun _ w h=>zm<|zn<|zk<|⟨rfl,h⟩
   refine sim_exit<|sim_then_exit<|sim_then_exit<|sim_block_hit<|zk<|zs<|zr<|zm<|zn<|zk<|sim_block<|yl2 [3,8,9,10,62,63,64,65,66,67,68,69,70,71,72,73,74,75,76,77,78,79,80,81,82,83,84,85,86,87,88,89,90,91,92,93,94] 3 8 h fun σ w next h=>zs<|zs<|zr ?_
   refine zm<|zm<|yx h fun _ w h=>yb h fun _ w h=>zn<|zk<|yC h (fun h=>?_) fun h=>?_
   · refine sim_skip<|zk<|zs<|sim_block<|zs<|zr<|zm<|zn<|zk<|zs<|zs<|zr<|zm<|zn<|zk ?_
     refine sim_block<|yl2 [9,10,68,69,70,71,72,73,74,75,76,77,78,79,80,81,82,83,84,85] 9 10 h fun σ w next h=>zs<|zs<|zr<|zm<|zm<|yx h fun _ w h=>yb h fun _ w h=>zn<|zk<|yC h (fun h=>?_) fun h=>?_
     · refine sim_skip<|zk<|zs<|sim_block<|yh [9,74,75,76,77,78,79,80,81,82,83,84,85] h fun C hC h=>yw 0 hC ?_
       refine yw 1 hC ?_
       refine yj1 2 [10,9,8,7,6,5,4,3,2,1,0] [76,77,78,79,80,81,82,83,84] 84 h (fun _ hT hb h=>?_) (fun _ hT hb h=>?_) fun σ w hC h=>?_
       · refine yw 2 hC ?_
         refine yw 3 hC ?_
         refine ye 4 hC h fun _ h=>?_
         refine ye 5 hC h fun _ h=>?_
         refine yw 6 hC ?_
         refine yw 7 hC ?_
         refine ye 8 hC h fun _ h=>?_
         refine ye 9 hC h fun _ h=>?_
         refine ye 10 hC h fun _ h=>?_
         exact yt hT hC h
       · refine yi 2 hC ?_
         refine yi 3 hC ?_
         refine yi 4 hC ?_
         refine yi 5 hC ?_
         refine yi 6 hC ?_
         refine yi 7 hC ?_
         refine yi 8 hC ?_
         refine yi 9 hC ?_
         refine yi 10 hC ?_
         exact yt hT hC h
       refine yP 11 hC h fun _ h=>?_
       refine yw 12 hC ?_
       exact yz<|sim_block_normal<|zk<|zr<|zm<|yb h fun _ w h=>zm<|zn<|zk<|⟨rfl,h⟩
     refine sim_exit<|sim_then_exit<|sim_then_exit<|sim_block_hit<|zk<|zs<|zr<|zm<|yv h fun _ w h=>zn<|zk<|yJ1 [3,88,89,90,91,92,93,94] 3 h (fun _ _ hkK11 h=>?_) fun σ w h=>?_
     · refine yC h (fun h=>?_) fun h=>?_
       · refine zr<|zm<|zm<|zm<|yv h fun _ w h=>yv h fun _ w h=>yS h fun _ w h=>yx h fun _ w h=>zm<|zn<|zk ?_
         exact zt hkK11 h
       refine sim_skip<|zk ?_
       exact zt hkK11 h
     exact sim_block_normal<|zk<|zr<|zm<|yb h fun _ w h=>zm<|zn<|zk<|⟨rfl,h⟩
   exact sim_exit<|sim_then_exit<|sim_then_exit<|sim_block_hit<|sim_block_normal<|zk<|zr<|zm<|yb h fun _ w h=>zm<|zn<|zk<|⟨rfl,h⟩
 exact sim_exit<|sim_then_exit<|sim_then_exit<|sim_block_hit<|zk<|zs<|zr<|zm<|zm<|zn<|zk<|sim_ret<|body_ret1 rfl rfl h
def n32c1 (t1:Value) (R:RT) (w:World):Prop :=
 opV Pg (Instr.fieldAt 71 t1 11) (panK R) w fun t6 w =>
 opV Pg (Instr.loadAt 69 t6) (panK R) w fun t7 w =>
 opV Pg (Builtin.len_ #[69] 3 #[t7]) (panK R) w fun t8 w =>
 opV Pg (binS .add 3 true (.int .i64 1) t8) (panK R) w fun t9 w =>
 R (.returned t9) w
def n32 (t0:Value) (R:RT) (w:World):Prop :=
 opV Pg (Instr.box 71 t0) (panK R) w fun t1 w =>
 opV Pg (Instr.fieldAt 71 t1 1) (panK R) w fun t3 w =>
 opV Pg (Instr.loadAt 65 t3) (panK R) w fun t4 w =>
 opV Pg (binS .eql 65 true t4 (.int .i64 9)) (panK R) w fun t5 w =>
 condP t5 (
 n32c1 t1 R w) (
 R (.returned (.int .i64 1)) w)
theorem n32s {t0:Value} {R:RT} {w:World} (h:n32 t0 R w):Calls Pg 64 #[t0] w R:=by
 refine yD Tryz.func64 ?_
 refine zs<|zr<|yv h fun _ w h=>zm<|zn<|zk<|zs<|zs<|zr<|yv h fun _ w h=>yv h fun _ w h=>yb h fun _ w h=>zn<|zk<|yC h (fun h=>zs<|zr<|yv h fun _ w h=>yv h fun _ w h=>yx h fun _ w h=>yb h fun _ w h=>zm<|zn<|zk<|sim_ret<|sim_then_ret<|body_ret1 rfl rfl h) fun h=>?_
 exact sim_skip<|zk<|zs<|zr<|zm<|zn<|zk<|sim_ret<|body_ret1 rfl rfl h
def n26 (t0:Value) (R:RT) (w:World):Prop :=
 opV Pg (Instr.box 71 t0) (panK R) w fun t1 w =>
 opV Pg (Instr.fieldAt 71 t1 1) (panK R) w fun t3 w =>
 opV Pg (Instr.loadAt 65 t3) (panK R) w fun t4 w =>
 opV Pg (binS .geq 65 true t4 (.int .i64 1)) (panK R) w fun t5 w =>
 joinK (fun (t9:Value) (w:World) =>
 pickK t5 t9 (.bool false) fun t10 =>
 R (.returned t10) w) fun K1 =>
 guardP t5 true (
 opV Pg (Instr.fieldAt 71 t1 1) (panK R) w fun t7 w =>
 opV Pg (Instr.loadAt 65 t7) (panK R) w fun t8 w =>
 opV Pg (binS .leq 65 true t8 (.int .i64 3)) (panK R) w fun t9 w =>
 K1 t9 w) (
 K1 undef w)
theorem n26s {t0:Value} {R:RT} {w:World} (h:n26 t0 R w):Calls Pg 69 #[t0] w R:=by
 refine yD Tryz.func69 ?_
 refine zs<|zr<|yv h fun _ w h=>zm<|zn<|zk<|zs<|sim_regionG<|yG 4<|yv h fun _ w h=>yv h fun _ w h=>yb h fun _ w h=>zm<|zn<|yg1 3 3 true [7,8,9] 9 h (fun _ T hT h=>?_) fun σ w h=>?_
 · refine yv h fun _ w h=>yv h fun _ w h=>yb h fun _ w h=>zn ?_
   exact zt hT h
 exact yG 2<|yp h fun _ h=>zm<|zn<|sim_end<|zk<|sim_ret<|body_ret1 rfl rfl h
def n33c1 (t1 t6 t7:Value) (next3:KV) (R:RT) (w:World):Prop :=
 opV Pg (Instr.fieldAt 71 t6 7) (panK R) w fun t37 w =>
 opV Pg (Instr.fieldAt 68 t37 1) (panK R) w fun t38 w =>
 opV Pg (Instr.loadAt 66 t38) (panK R) w fun t39 w =>
 opV Pg (Instr.indexAt 66 t39 t7) (panK R) w fun t41 w =>
 opV Pg (Instr.fieldAt 113 t41 0) (panK R) w fun t42 w =>
 opV Pg (Instr.loadAt 9 t42) (panK R) w fun t43 w =>
 opV Pg (binS .eql 9 false t43 t1) (panK R) w fun t45 w =>
 condP t45 (
 R (.returned (.bool true)) w) (
 opV Pg (binS .add 3 true t7 (.int .i64 1)) (panK R) w fun t36 w =>
 next3 t36 w)
def n33c2 (t1 t5 t6 t7:Value) (next1:KV) (next3:KV) (R:RT) (w:World):Prop :=
 opV Pg (Instr.fieldAt 71 t6 7) (panK R) w fun t30 w =>
 opV Pg (Instr.fieldAt 68 t30 1) (panK R) w fun t31 w =>
 opV Pg (Instr.loadAt 66 t31) (panK R) w fun t32 w =>
 opV Pg (Builtin.len_ #[66] 3 #[t32]) (panK R) w fun t33 w =>
 opV Pg (binS .lss 3 false t7 t33) (panK R) w fun t34 w =>
 condP t34 (
 n33c1 t1 t6 t7 next3 R w) (
 opV Pg (binS .add 3 true t5 (.int .i64 1)) (panK R) w fun t14 w =>
 next1 t14 w)
def n33c3 (t1 t2 t5:Value) (next1:KV) (R:RT) (w:World):Prop :=
 opV Pg (Instr.fieldAt 53 t2 1) (panK R) w fun t15 w =>
 opV Pg (Instr.loadAt 51 t15) (panK R) w fun t16 w =>
 opV Pg (Instr.indexAt 51 t16 t5) (panK R) w fun t18 w =>
 opV Pg (Instr.loadAt 71 t18) (panK R) w fun t19 w =>
 opV Pg (Instr.alloc 71 true (.tuple #[])) (panK R) w fun t6 w =>
 opU Pg (Instr.storeAt 71 t6 t19) (panK R) w fun w =>
 opV Pg (Instr.fieldAt 71 t6 1) (panK R) w fun t20 w =>
 opV Pg (Instr.loadAt 65 t20) (panK R) w fun t21 w =>
 opV Pg (binS .eql 65 true t21 (.int .i64 9)) (panK R) w fun t22 w =>
 joinK (fun (t27:Value) (w:World) =>
 pickK t22 t27 (.bool false) fun t28 =>
 condP t28 (
 R (.returned (.bool true)) w) (
 loop1 (fun t7 w next3 =>
 n33c2 t1 t5 t6 t7 next1 next3 R w) (.int .i64 0) w)) fun K2 =>
 guardP t22 true (
 opV Pg (Instr.fieldAt 71 t6 9) (panK R) w fun t24 w =>
 opV Pg (Instr.loadAt 9 t24) (panK R) w fun t25 w =>
 opV Pg (binS .eql 9 false t25 t1) (panK R) w fun t27 w =>
 K2 t27 w) (
 K2 undef w)
def n33c4 (t1 t2 t5:Value) (next1:KV) (R:RT) (w:World):Prop :=
 opV Pg (Instr.fieldAt 53 t2 1) (panK R) w fun t9 w =>
 opV Pg (Instr.loadAt 51 t9) (panK R) w fun t10 w =>
 opV Pg (Builtin.len_ #[51] 3 #[t10]) (panK R) w fun t11 w =>
 opV Pg (binS .lss 3 false t5 t11) (panK R) w fun t12 w =>
 condP t12 (
 n33c3 t1 t2 t5 next1 R w) (
 R (.returned (.bool false)) w)
def n33 (t0 t1:Value) (R:RT) (w:World):Prop :=
 opV Pg (Instr.box 53 t0) (panK R) w fun t2 w =>
 loop1 (fun t5 w next1 =>
 n33c4 t1 t2 t5 next1 R w) (.int .i64 0) w
theorem n33s {t0 t1:Value} {R:RT} {w:World} (h:n33 t0 t1 R w):Calls Pg 70 #[t0,t1] w R:=by
 refine yD Tryz.func70 ?_
 refine zs<|zr<|yv h fun _ w h=>zm<|zn<|zk<|zs<|zs<|zr<|zm<|zn<|zk<|sim_block<|yl1 [4,5,6,7,8,9,10,11,12,13,14,15,16,17,18,19,20,21,22,23,24,25,26,27,28,29,30,31,32,33,34,35,36,37,38,39,40,41,42,43,44,45] 5 h fun σ w next h=>zs ?_
 refine zs<|zr<|zm<|yv h fun _ w h=>yv h fun _ w h=>yx h fun _ w h=>yb h fun _ w h=>zn<|zk<|yC h (fun h=>?_) fun h=>?_
 · refine sim_skip<|zk<|zs<|sim_block<|zs<|zr<|yv h fun _ w h=>yv h fun _ w h=>zm<|yv h fun _ w h=>yv h fun _ w h=>yv h fun _ w h=>yu h fun w h=>zn<|zk ?_
   refine zs<|zs<|sim_regionG<|yG 4<|yv h fun _ w h=>yv h fun _ w h=>yb h fun _ w h=>zm<|zn<|yg1 4 3 true [24,25,26,27] 27 h (fun _ T hT h=>?_) fun σ w h=>?_
   · refine yv h fun _ w h=>yv h fun _ w h=>zm<|yb h fun _ w h=>zn ?_
     exact zt hT h
   refine yG 1<|yp h fun _ h=>zn<|sim_end<|zk<|yC h (fun h=>zs<|zr<|zm<|zn<|zk<|sim_ret<|sim_then_ret<|sim_block_ret<|sim_then_ret<|sim_then_ret<|sim_block_ret<|sim_then_ret<|body_ret1 rfl rfl h) fun h=>sim_skip<|zk<|zs<|zr<|zm<|zn<|zk<|sim_block ?_
   refine yl1 [4,7,29,30,31,32,33,34,35,36,37,38,39,40,41,42,43,44,45] 7 h fun σ w next h=>zs<|zs<|zr<|zm<|yv h fun _ w h=>yv h fun _ w h=>yv h fun _ w h=>yx h fun _ w h=>yb h fun _ w h=>zn<|zk<|yC h (fun h=>?_) fun h=>?_
   · refine sim_skip<|zk<|zs<|sim_block<|zs<|zr<|yv h fun _ w h=>yv h fun _ w h=>yv h fun _ w h=>zm<|yv h fun _ w h=>yv h fun _ w h=>yv h fun _ w h=>zm<|yb h fun _ w h=>?_
     refine zn<|zk<|yC h (fun h=>?_) fun h=>?_
     · refine zs<|zr<|zm<|zn<|zk<|sim_ret<|sim_block_ret<|sim_then_ret<|sim_then_ret<|sim_block_ret<|sim_block_ret<|sim_then_ret<|sim_then_ret<|sim_block_ret<|sim_then_ret ?_
       exact body_ret1 rfl rfl h
     exact sim_skip<|sim_block_normal<|zk<|zr<|zm<|yb h fun _ w h=>zm<|zn<|zk<|⟨rfl,h⟩
   exact sim_exit<|sim_then_exit<|sim_then_exit<|sim_block_hit<|sim_block_normal<|zk<|zr<|zm<|yb h fun _ w h=>zm<|zn<|zk<|⟨rfl,h⟩
 exact sim_exit<|sim_then_exit<|sim_then_exit<|sim_block_hit<|zk<|zs<|zr<|zm<|zn<|zk<|sim_ret<|body_ret1 rfl rfl h
def n61c1 (t2 t9:Value) (R:RT) (w:World):Prop :=
 opV Pg (Instr.extract t9 0) (panK R) w fun t10 w =>
 opV Pg (Instr.extract t9 1) (panK R) w fun t11 w =>
 opV Pg (Instr.extract t9 2) (panK R) w fun t12 w =>
 opV Pg (Instr.alloc 92 true (.tuple #[])) (panK R) w fun t5 w =>
 opU Pg (Instr.storeAt 92 t5 t11) (panK R) w fun w =>
 opV Pg (Instr.loadAt 92 t5) (panK R) w fun t13 w =>
 opU Pg (Instr.storeAt 92 t2 t13) (panK R) w fun w =>
 qW Pg 92 t2 w fun r0 =>
 R (.returned (.tuple #[r0,t12])) w
def n61 (t0:Value) (R:RT) (w:World):Prop :=
 opV Pg (Instr.box 24 t0) (panK R) w fun t1 w =>
 opV Pg (Instr.alloc 92 true (.tuple #[])) (panK R) w fun t2 w =>
 opV Pg (Instr.loadAt 24 t1) (panK R) w fun t8 w =>
 callK Pg 85 #[t8] (panK R) w fun t9 w =>
 n61c1 t2 t9 R w
theorem n61s {t0:Value} {R:RT} {w:World} (h:n61 t0 R w):Calls Pg 71 #[t0] w R:=by
 refine yD Tryz.func71 ?_
 refine zs<|zr<|yv h fun _ w h=>yv h fun _ w h=>zm<|zn<|zk<|zs<|zr<|yv h fun _ w h=>yc h c85 fun _ w h=>zm<|yv h fun _ w h=>yv h fun _ w h=>yv h fun _ w h=>?_
 refine yv h fun _ w h=>zm<|yu h fun w h=>zm<|zn<|zk<|zs<|zr<|yv h fun _ w h=>zm<|yu h fun w h=>zm<|zn<|zk<|sim_ret ?_
 exact body_retCT rfl rfl rfl h
def n11 (t0:Value) (R:RT) (w:World):Prop :=
 opV Pg (Instr.box 51 t0) (panK R) w fun t1 w =>
 opV Pg (Instr.makeFunc (.func 86) #[] #[t1]) (panK R) w fun t3 w =>
 R (.returned t3) w
theorem n11s {t0:Value} {R:RT} {w:World} (h:n11 t0 R w):Calls Pg 72 #[t0] w R:=by
 refine yD Tryz.func72 ?_
 exact zs<|zr<|yv h fun _ w h=>zm<|zn<|zk<|zs<|zr<|yF h fun _ w h=>zm<|zn<|zk<|sim_ret<|body_ret1 rfl rfl h
def n14c1 (t1 t3 t5:Value) (R:RT) (w:World):Prop :=
 opV Pg (Instr.loadAt 51 t3) (panK R) w fun t15 w =>
 opV Pg (Instr.indexAt 51 t15 t1) (panK R) w fun t17 w =>
 opV Pg (Instr.loadAt 71 t17) (panK R) w fun t18 w =>
 opV Pg (Instr.alloc 71 true (.tuple #[])) (panK R) w fun t7 w =>
 opU Pg (Instr.storeAt 71 t7 t18) (panK R) w fun w =>
 opV Pg (Instr.makeFunc (.func 88) #[] #[t5,t7]) (panK R) w fun t19 w =>
 opV Pg (Instr.makeFunc (.func 90) #[] #[t3,t7]) (panK R) w fun t20 w =>
 opV Pg (Instr.build 161 #[(0,t19),(1,t20)]) (panK R) w fun t21 w =>
 opV Pg (Instr.alloc 161 true (.tuple #[])) (panK R) w fun t8 w =>
 opU Pg (Instr.storeAt 161 t8 t21) (panK R) w fun w =>
 opV Pg (Instr.sliceAt 161 t8 none none none) (panK R) w fun t22 w =>
 callK Pg 93 #[t22,(.func (.func 94) #[] #[])] (panK R) w fun t23 w =>
 R (.returned t23) w
def n14 (t0 t1 t2:Value) (R:RT) (w:World):Prop :=
 opV Pg (Instr.box 51 t0) (panK R) w fun t3 w =>
 opV Pg (Instr.box 3 t2) (panK R) w fun t5 w =>
 opV Pg (Instr.loadAt 51 t3) (panK R) w fun t10 w =>
 opV Pg (Builtin.len_ #[51] 3 #[t10]) (panK R) w fun t11 w =>
 opV Pg (binS .eql 3 false t1 t11) (panK R) w fun t12 w =>
 condP t12 (
 opV Pg (Instr.loadAt 3 t5) (panK R) w fun t13 w =>
 opV Pg (binS .neq 3 true t13 (.int .i64 0)) (panK R) w fun t14 w =>
 R (.returned t14) w) (
 n14c1 t1 t3 t5 R w)
theorem n14s {t0 t1 t2:Value} {R:RT} {w:World} (h:n14 t0 t1 t2 R w):Calls Pg 73 #[t0,t1,t2] w R:=by
 refine yD Tryz.func73 ?_
 refine zs<|zr<|yv h fun _ w h=>yv h fun _ w h=>zm<|zn<|zk<|zs<|zs<|zr<|zm<|yv h fun _ w h=>yx h fun _ w h=>yb h fun _ w h=>zn ?_
 refine zk<|yC h (fun h=>zs<|zr<|yv h fun _ w h=>yb h fun _ w h=>zm<|zn<|zk<|sim_ret<|sim_then_ret<|body_ret1 rfl rfl h) fun h=>sim_skip<|zk<|zs<|zr<|yv h fun _ w h=>zm<|yv h fun _ w h=>yv h fun _ w h=>yv h fun _ w h=>yu h fun w h=>zn<|zk ?_
 refine zs<|zr<|yF h fun _ w h=>yF h fun _ w h=>yB h fun _ w h=>yv h fun _ w h=>yu h fun w h=>zn<|zk<|zs<|zr<|yv h fun _ w h=>yc h c93 fun _ w h=>zm<|zn ?_
 exact zk<|sim_ret<|body_ret1 rfl rfl h
def n83c1 (t3 t4 t13:Value) (ds:List Deferred) (R:RT) (w:World):Prop :=
 opV Pg (Instr.build 92 #[]) (outQ Pg ds [(none,t13),(some 92,t3),(some 4,t4)] R) w fun t65 w =>
 opU Pg (Instr.storeAt 92 t3 t65) (outQ Pg ds [(none,t13),(some 92,t3),(some 4,t4)] R) w fun w =>
 opU Pg (Instr.storeAt 4 t4 (.bool false)) (outQ Pg ds [(none,t13),(some 92,t3),(some 4,t4)] R) w fun w =>
 outX Pg ds [(none,t13),(some 92,t3),(some 4,t4)] R w
def n83c2 (t1 t3 t4 t13:Value) (C3:World→Prop) (ds:List Deferred) (R:RT) (w:World):Prop :=
 qN Pg C3 (nilN t13) fun t53 =>
 qV Pg C3 (Instr.fieldAt 175 t53 1) fun t54 =>
 qV Pg C3 (Instr.loadAt 59 t54) fun t55 =>
 qV Pg C3 (Instr.fieldAt 24 t1 2) fun t56 =>
 qV Pg C3 (Instr.loadAt 9 t56) fun t57 =>
 qV Pg C3 (Instr.lookup 59 t55 t57 true) fun t58 =>
 qV Pg C3 (Instr.extract t58 0) fun t59 =>
 qV Pg C3 (Instr.extract t58 1) fun t60 =>
 callK Pg 105 #[t13,t60,(.int .i64 11)] (outQ Pg ds [(none,t13),(some 92,t3),(some 4,t4)] R) w fun t63 w =>
 n83c1 t3 t4 t13 ds R w
def n83c3 (t1 t3 t4 t13:Value) (ds:List Deferred) (R:RT) (w:World):Prop :=
 opN Pg (nilN t13) (outQ Pg ds [(none,t13),(some 92,t3),(some 4,t4)] R) w fun t49 w =>
 opV Pg (Instr.fieldAt 175 t49 3) (outQ Pg ds [(none,t13),(some 92,t3),(some 4,t4)] R) w fun t50 w =>
 opU Pg (Instr.storeAt 3 t50 (.int .i64 (-1))) (outQ Pg ds [(none,t13),(some 92,t3),(some 4,t4)] R) w fun w =>
 drawK w fun C3 w =>
 n83c2 t1 t3 t4 t13 C3 ds R w
def n83c4 (t3 t4 t13 t33 t35:Value) (next2:KV) (ds:List Deferred) (R:RT) (w:World):Prop :=
 opV Pg (Instr.indexAt 22 t33 t35) (outQ Pg ds [(none,t13),(some 92,t3),(some 4,t4)] R) w fun t38 w =>
 opV Pg (Instr.loadAt 53 t38) (outQ Pg ds [(none,t13),(some 92,t3),(some 4,t4)] R) w fun t39 w =>
 opV Pg (Instr.alloc 53 true (.tuple #[])) (outQ Pg ds [(none,t13),(some 92,t3),(some 4,t4)] R) w fun t6 w =>
 opU Pg (Instr.storeAt 53 t6 t39) (outQ Pg ds [(none,t13),(some 92,t3),(some 4,t4)] R) w fun w =>
 opN Pg (nilN t13) (outQ Pg ds [(none,t13),(some 92,t3),(some 4,t4)] R) w fun t42 w =>
 opV Pg (Instr.fieldAt 175 t42 3) (outQ Pg ds [(none,t13),(some 92,t3),(some 4,t4)] R) w fun t43 w =>
 opU Pg (Instr.storeAt 3 t43 t35) (outQ Pg ds [(none,t13),(some 92,t3),(some 4,t4)] R) w fun w =>
 opV Pg (Instr.loadAt 53 t6) (outQ Pg ds [(none,t13),(some 92,t3),(some 4,t4)] R) w fun t45 w =>
 callK Pg 107 #[t13,t45] (outQ Pg ds [(none,t13),(some 92,t3),(some 4,t4)] R) w fun t46 w =>
 opV Pg (binS .add 3 true t35 (.int .i64 1)) (outQ Pg ds [(none,t13),(some 92,t3),(some 4,t4)] R) w fun t47 w =>
 next2 t47 w
def n83c5 (t1 t3 t4 t13 t33 t34 t35:Value) (next2:KV) (ds:List Deferred) (R:RT) (w:World):Prop :=
 opV Pg (binS .lss 3 false t35 t34) (outQ Pg ds [(none,t13),(some 92,t3),(some 4,t4)] R) w fun t36 w =>
 condP t36 (
 n83c4 t3 t4 t13 t33 t35 next2 ds R w) (
 n83c3 t1 t3 t4 t13 ds R w)
def n83c6 (t1 t3 t4 t13:Value) (ds:List Deferred) (R:RT) (w:World):Prop :=
 opV Pg (Instr.fieldAt 24 t1 1) (outQ Pg ds [(none,t13),(some 92,t3),(some 4,t4)] R) w fun t32 w =>
 opV Pg (Instr.loadAt 22 t32) (outQ Pg ds [(none,t13),(some 92,t3),(some 4,t4)] R) w fun t33 w =>
 opV Pg (Builtin.len_ #[22] 3 #[t33]) (outQ Pg ds [(none,t13),(some 92,t3),(some 4,t4)] R) w fun t34 w =>
 loop1 (fun t35 w next2 =>
 n83c5 t1 t3 t4 t13 t33 t34 t35 next2 ds R w) (.int .i64 0) w
def n83c7 (t1 t3 t4 t13 t24 t29:Value) (ds:List Deferred) (R:RT) (w:World):Prop :=
 pickK t24 t29 (.bool false) fun t30 =>
 callK Pg 105 #[t13,t30,(.int .i64 3)] (outQ Pg ds [(none,t13),(some 92,t3),(some 4,t4)] R) w fun t31 w =>
 n83c6 t1 t3 t4 t13 ds R w
def n83c8 (t1 t3 t4 t13:Value) (K1:KV) (ds:List Deferred) (R:RT) (w:World):Prop :=
 opV Pg (Instr.fieldAt 24 t1 1) (outQ Pg ds [(none,t13),(some 92,t3),(some 4,t4)] R) w fun t26 w =>
 opV Pg (Instr.loadAt 22 t26) (outQ Pg ds [(none,t13),(some 92,t3),(some 4,t4)] R) w fun t27 w =>
 opV Pg (Builtin.len_ #[22] 3 #[t27]) (outQ Pg ds [(none,t13),(some 92,t3),(some 4,t4)] R) w fun t28 w =>
 opV Pg (binS .leq 3 true t28 (.int .i64 60)) (outQ Pg ds [(none,t13),(some 92,t3),(some 4,t4)] R) w fun t29 w =>
 K1 t29 w
def n83c9 (t1 t3 t4 t13:Value) (ds:List Deferred) (R:RT) (w:World):Prop :=
 opV Pg (Instr.fieldAt 24 t1 1) (outQ Pg ds [(none,t13),(some 92,t3),(some 4,t4)] R) w fun t21 w =>
 opV Pg (Instr.loadAt 22 t21) (outQ Pg ds [(none,t13),(some 92,t3),(some 4,t4)] R) w fun t22 w =>
 opV Pg (Builtin.len_ #[22] 3 #[t22]) (outQ Pg ds [(none,t13),(some 92,t3),(some 4,t4)] R) w fun t23 w =>
 opV Pg (binS .geq 3 true t23 (.int .i64 1)) (outQ Pg ds [(none,t13),(some 92,t3),(some 4,t4)] R) w fun t24 w =>
 joinK (fun (t29:Value) (w:World) =>
 n83c7 t1 t3 t4 t13 t24 t29 ds R w) fun K1 =>
 guardP t24 true (
 n83c8 t1 t3 t4 t13 K1 ds R w) (
 K1 undef w)
def n83 (t0:Value) (R:RT) (w:World):Prop :=
 (fun (ds:List Deferred) =>
 opV Pg (Instr.box 24 t0) (outQ Pg ds [(none,undef),(some 92,undef),(some 4,undef)] R) w fun t1 w =>
 opV Pg (Instr.alloc 92 true (.tuple #[])) (outQ Pg ds [(none,(Value.pointer none)),(some 92,undef),(some 4,undef)] R) w fun t3 w =>
 opV Pg (Instr.alloc 4 true (.tuple #[])) (outQ Pg ds [(none,(Value.pointer none)),(some 92,t3),(some 4,undef)] R) w fun t4 w =>
 opV Pg (Instr.loadAt 24 t1) (outQ Pg ds [(none,(Value.pointer none)),(some 92,t3),(some 4,t4)] R) w fun t9 w =>
 opV Pg (Instr.makeMap 59 none) (outQ Pg ds [(none,(Value.pointer none)),(some 92,t3),(some 4,t4)] R) w fun t10 w =>
 opV Pg (Instr.makeMap 99 none) (outQ Pg ds [(none,(Value.pointer none)),(some 92,t3),(some 4,t4)] R) w fun t11 w =>
 opV Pg (Instr.build 175 #[(0,t9),(1,t10),(2,t11),(3,(.int .i64 (-1))),(4,(.int .i64 (-1)))]) (outQ Pg ds [(none,(Value.pointer none)),(some 92,t3),(some 4,t4)] R) w fun t12 w =>
 opV Pg (Instr.box 175 t12) (outQ Pg ds [(none,(Value.pointer none)),(some 92,t3),(some 4,t4)] R) w fun t13 w =>
 opV Pg (Instr.makeFunc (.func 104) #[] #[t3,t4]) (outQ Pg ds [(none,t13),(some 92,t3),(some 4,t4)] R) w fun t14 w =>
 defK Pg t14 #[] ds w fun ds w =>
 opV Pg (Instr.fieldAt 24 t1 0) (outQ Pg ds [(none,t13),(some 92,t3),(some 4,t4)] R) w fun t16 w =>
 opV Pg (Instr.loadAt 9 t16) (outQ Pg ds [(none,t13),(some 92,t3),(some 4,t4)] R) w fun t17 w =>
 callK Pg 106 #[t17] (outQ Pg ds [(none,t13),(some 92,t3),(some 4,t4)] R) w fun t18 w =>
 callK Pg 105 #[t13,t18,(.int .i64 1)] (outQ Pg ds [(none,t13),(some 92,t3),(some 4,t4)] R) w fun t19 w =>
 n83c9 t1 t3 t4 t13 ds R w) []
theorem n83s {t0:Value} {R:RT} {w:World} (h:n83 t0 R w):Calls Pg 85 #[t0] w R:=by
 refine yE Tryz.func85 ?_
 unfold n83 at h
 dsimp only at h
 refine zs<|zr<|yv h fun _ w h=>zm<|yv h fun _ w h=>yv h fun _ w h=>zn<|zk<|zs<|zr<|yv h fun _ w h=>yv h fun _ w h=>yv h fun _ w h=>yB h fun _ w h=>yv h fun _ w h=>?_
 refine zm<|zn<|zk<|zs<|zr<|yF h fun _ w h=>?_
 refine sim_defer h rfl rfl ?_;intro ds w h
 refine zn<|zk<|zs<|zr<|zm<|yv h fun _ w h=>yv h fun _ w h=>yc h c106 fun _ w h=>yc h c105 fun _ w h=>zn<|zk<|zs<|sim_regionG<|yG 6<|zm ?_
 refine yv h fun _ w h=>yv h fun _ w h=>yx h fun _ w h=>yb h fun _ w h=>zm<|zn<|yg1 4 5 true [26,27,28,29] 29 h (fun _ T hT h=>?_) fun σ w h=>?_
 · refine yv h fun _ w h=>yv h fun _ w h=>yx h fun _ w h=>yb h fun _ w h=>zn ?_
   exact zt hT h
 refine yG 2<|yp h fun _ h=>yc h c105 fun _ w h=>zn<|sim_end<|zk<|zs<|zs<|zr<|yv h fun _ w h=>yv h fun _ w h=>yx h fun _ w h=>zm<|zn<|zk ?_
 refine sim_block<|yl1 [5,6,35,36,37,38,39,40,41,42,43,44,45,46,47] 35 h fun σ w next h=>zs<|zr<|yb h fun _ w h=>zn<|zk<|zs<|yC h (fun h=>?_) fun h=>?_
 · refine sim_skip<|zk<|zs<|sim_block<|zs<|zr<|zm<|yv h fun _ w h=>yv h fun _ w h=>yv h fun _ w h=>zm<|yu h fun w h=>zn<|zk<|zs ?_
   refine zr<|zm<|zm<|yN h fun _ w h=>yv h fun _ w h=>yu h fun w h=>zn<|zk<|zr<|zm<|yv h fun _ w h=>yc h c107 fun _ w h=>zn<|sim_block_normal<|zk ?_
   exact zr<|yb h fun _ w h=>zm<|zn<|zk<|⟨rfl,h⟩
 refine sim_exit<|sim_then_exit<|sim_then_exit<|sim_block_hit<|zk<|zs<|zr<|zm<|yN h fun _ w h=>yv h fun _ w h=>yu h fun w h=>zn<|zk<|zs<|yh [7,8,51,52,53,54,55,56,57,58,59,60] h fun C hC h=>?_
 refine yw 0 hC ?_
 refine yn 1 hC h fun _ h=>?_
 refine ye 2 hC h fun _ h=>?_
 refine ye 3 hC h fun _ h=>?_
 refine ye 4 hC h fun _ h=>?_
 refine ye 5 hC h fun _ h=>?_
 refine ye 6 hC h fun _ h=>?_
 refine yw 7 hC ?_
 refine ye 8 hC h fun _ h=>?_
 refine ye 9 hC h fun _ h=>?_
 refine yw 10 hC ?_
 refine yw 11 hC ?_
 refine yz<|zk<|zs<|zr<|zm<|zm<|yc h c105 fun _ w h=>zn<|zk<|zs<|zr<|zm<|yB h fun _ w h=>zm<|yu h fun w h=>?_
 exact yu h fun w h=>zn<|zk<|sim_ret<|bodyM_ret rfl h
def n12c1 (t3 t5 t25:Value) (K4:KV) (R:RT) (w:World):Prop :=
 opV Pg (Instr.loadAt 71 t5) (panK R) w fun t29 w =>
 callV Pg t25 #[t29,t3] (panK R) w fun t31 w =>
 opV Pg (binS .rem 3 true t31 (.int .i64 8)) (panK R) w fun t32 w =>
 K4 t32 w
def n12c2 (t3 t5 t10 t21 t23:Value) (C3:World→Prop) (next1:KW) (R:RT) (w:World):Prop :=
 qV Pg C3 (Instr.lookup 157 t21 t23 true) fun t24 =>
 qV Pg C3 (Instr.extract t24 0) fun t25 =>
 qV Pg C3 (Instr.extract t24 1) fun t26 =>
 joinK (fun (t3:Value) (w:World) =>
 opV Pg (binS .add 3 true t10 (.int .i64 1)) (panK R) w fun t33 w =>
 next1 t3 t33 w) fun K4 =>
 condP t26 (
 n12c1 t3 t5 t25 K4 R w) (
 K4 (.int .i64 0) w)
def n12c3 (t3 t5 t10:Value) (C2:World→Prop) (next1:KW) (R:RT) (w:World):Prop :=
 qV Pg C2 (Instr.fieldAt 71 t5 1) fun t22 =>
 qV Pg C2 (Instr.loadAt 65 t22) fun t23 =>
 callK Pg 87 #[] (panK R) w fun t21 w =>
 narrowK C2 w fun C3 w =>
 n12c2 t3 t5 t10 t21 t23 C3 next1 R w
def n12c4 (t0 t1 t3:Value) (R:RT) (w:World):Prop :=
 opV Pg (Instr.loadAt 51 t1) (panK R) w fun t35 w =>
 opV Pg (Builtin.len_ #[51] 3 #[t35]) (panK R) w fun t36 w =>
 callV Pg t0 #[t36,t3] (panK R) w fun t38 w =>
 R (.returned (.tuple #[])) w
def n12c5 (t0 t3 t8 t10:Value) (next1:KW) (R:RT) (w:World):Prop :=
 opV Pg (Instr.indexAt 51 t8 t10) (panK R) w fun t13 w =>
 opV Pg (Instr.loadAt 71 t13) (panK R) w fun t14 w =>
 opV Pg (Instr.alloc 71 true (.tuple #[])) (panK R) w fun t5 w =>
 opU Pg (Instr.storeAt 71 t5 t14) (panK R) w fun w =>
 callV Pg t0 #[t10,t3] (panK R) w fun t18 w =>
 opV Pg (Op.unary .not t18) (panK R) w fun t19 w =>
 condP t19 (
 R (.returned (.tuple #[])) w) (
 drawK w fun C2 w =>
 n12c3 t3 t5 t10 C2 next1 R w)
def n12 (t0 t1:Value) (R:RT) (w:World):Prop :=
 opV Pg (Instr.loadAt 51 t1) (panK R) w fun t8 w =>
 opV Pg (Builtin.len_ #[51] 3 #[t8]) (panK R) w fun t9 w =>
 loop2 (fun t3 t10 w next1 =>
 opV Pg (binS .lss 3 false t10 t9) (panK R) w fun t11 w =>
 condP t11 (
 n12c5 t0 t3 t8 t10 next1 R w) (
 n12c4 t0 t1 t3 R w)) (.int .i64 0) (.int .i64 0) w
theorem n12s {t0 t1:Value} {R:RT} {w:World} (h:n12 t0 t1 R w):Calls Pg 86 #[t0,t1] w R:=by
 refine yD Tryz.func86 ?_
 refine zs<|zr<|zm<|zn<|zk<|zs<|zs<|zr<|yv h fun _ w h=>yx h fun _ w h=>zm<|zn<|zk<|sim_block<|yl2 [3,4,5,6,7,10,11,12,13,14,15,16,17,18,19,20,21,22,23,24,25,26,27,28,29,30,31,32,33] 3 10 h fun σ w next h=>?_
 refine zs<|zr<|yb h fun _ w h=>zn<|zk<|zs<|yC h (fun h=>?_) fun h=>?_
 · refine sim_skip<|zk<|zs<|sim_block<|zs<|zr<|zm<|yv h fun _ w h=>yv h fun _ w h=>yv h fun _ w h=>zm<|yu h fun w h=>zn<|zk<|zs ?_
   refine zs<|zr<|zm<|zm<|zm<|yV h fun _ w h=>yv h fun _ w h=>zn<|zk<|yC h (fun h=>sim_ret<|sim_then_ret<|sim_block_ret<|sim_then_ret<|sim_then_ret<|sim_block_ret<|sim_then_ret<|body_ret0 rfl h) fun h=>sim_skip<|zk<|zs<|yh [6,7,20,21,22,23,24,25,26] h fun C hC h=>?_
   refine ye 1 hC h fun _ h=>?_
   refine ye 2 hC h fun _ h=>?_
   refine yr 0 ?_
   refine yc h c87 fun _ w h=>zn ?_
   obtain ⟨C3,hs,hC,h⟩:=h
   refine ⟨C3,hs,hC,?_⟩
   refine ye 3 hC h fun _ h=>?_
   refine yw 4 hC ?_
   refine ye 5 hC h fun _ h=>?_
   refine ye 6 hC h fun _ h=>?_
   refine yw 7 hC ?_
   refine yw 8 hC ?_
   refine yz<|zk<|zs<|zr<|zm<|zn<|zk<|yJ1 [3,28,29,30,31,32] 3 h (fun _ _ hkK4 h=>?_) fun σ w h=>?_
   · refine yC h (fun h=>?_) fun h=>?_
     · refine zr<|zm<|yv h fun _ w h=>zm<|yV h fun _ w h=>yb h fun _ w h=>zm<|zn<|zk ?_
       exact zt hkK4 h
     refine zr<|zm<|zn<|zk ?_
     exact zt hkK4 h
   exact sim_block_normal<|zk<|zr<|yb h fun _ w h=>zm<|zn<|zk<|⟨rfl,h⟩
 exact sim_exit<|sim_then_exit<|sim_then_exit<|sim_block_hit<|zk<|zr<|zm<|yv h fun _ w h=>yx h fun _ w h=>zm<|yV h fun _ w h=>zn<|body_normal<|body_ret0 rfl h
def n7 (R:RT) (w:World):Prop :=
 opV Pg (Instr.makeMap 157 none) (panK R) w fun t2 w =>
 opU Pg (Instr.mapUpdate 157 t2 (.int .i64 1) (.func (.func 108) #[] #[])) (panK R) w fun w =>
 opU Pg (Instr.mapUpdate 157 t2 (.int .i64 2) (.func (.func 108) #[] #[])) (panK R) w fun w =>
 opU Pg (Instr.mapUpdate 157 t2 (.int .i64 10) (.func (.func 109) #[] #[])) (panK R) w fun w =>
 R (.returned t2) w
theorem n7s {R:RT} {w:World} (h:n7 R w):Calls Pg 87 #[] w R:=by
 refine yD Tryz.func87 ?_
 refine zs<|zr<|zm<|zn<|zk<|zs<|zr<|zm<|zn<|zk<|zs<|zr<|yv h fun _ w h=>zm<|yu h fun w h=>?_
 exact zm<|yu h fun w h=>yu h fun w h=>zm<|zm<|zn<|zk<|sim_ret<|body_ret1 rfl rfl h
def n15 (t0 t1:Value) (R:RT) (w:World):Prop :=
 opV Pg (Instr.loadAt 3 t0) (panK R) w fun t3 w =>
 opV Pg (binS .eql 3 true t3 (.int .i64 0)) (panK R) w fun t4 w =>
 joinK (fun (t8:Value) (w:World) =>
 pickK t4 (.bool true) t8 fun t9 =>
 R (.returned t9) w) fun K1 =>
 guardP t4 false (
 opV Pg (Instr.loadAt 71 t1) (panK R) w fun t6 w =>
 callK Pg 89 #[t6] (panK R) w fun t7 w =>
 opV Pg (Op.unary .not t7) (panK R) w fun t8 w =>
 K1 t8 w) (
 K1 undef w)
theorem n15s {t0 t1:Value} {R:RT} {w:World} (h:n15 t0 t1 R w):Calls Pg 88 #[t0,t1] w R:=by
 refine yD Tryz.func88 ?_
 refine zs<|zr<|zm<|zn<|zk<|zs<|sim_regionG<|yG 3<|yv h fun _ w h=>yb h fun _ w h=>zm<|zn<|yg1 3 2 false [6,7,8] 8 h (fun _ T hT h=>?_) fun σ w h=>?_
 · refine yv h fun _ w h=>yc h c89 fun _ w h=>yv h fun _ w h=>zn ?_
   exact zt hT h
 exact yG 2<|yp h fun _ h=>zm<|zn<|sim_end<|zk<|sim_ret<|body_ret1 rfl rfl h
def n6c1 (t1 t6 t8:Value) (C2:World→Prop) (R:RT) (w:World):Prop :=
 qV Pg C2 (Instr.lookup 157 t6 t8 true) fun t9 =>
 qV Pg C2 (Instr.extract t9 0) fun t10 =>
 qV Pg C2 (Instr.extract t9 1) fun t11 =>
 opV Pg (Op.unary .not t11) (panK R) w fun t13 w =>
 joinK (fun (t16:Value) (w:World) =>
 pickK t13 (.bool true) t16 fun t17 =>
 R (.returned t17) w) fun K3 =>
 guardP t13 false (
 opV Pg (Instr.fieldAt 71 t1 3) (panK R) w fun t15 w =>
 opV Pg (Instr.loadAt 4 t15) (panK R) w fun t16 w =>
 K3 t16 w) (
 K3 undef w)
def n6c2 (t1:Value) (C1:World→Prop) (R:RT) (w:World):Prop :=
 qV Pg C1 (Instr.fieldAt 71 t1 1) fun t7 =>
 qV Pg C1 (Instr.loadAt 65 t7) fun t8 =>
 callK Pg 87 #[] (panK R) w fun t6 w =>
 narrowK C1 w fun C2 w =>
 n6c1 t1 t6 t8 C2 R w
def n6 (t0:Value) (R:RT) (w:World):Prop :=
 opV Pg (Instr.box 71 t0) (panK R) w fun t1 w =>
 drawK w fun C1 w =>
 n6c2 t1 C1 R w
theorem n6s {t0:Value} {R:RT} {w:World} (h:n6 t0 R w):Calls Pg 89 #[t0] w R:=by
 refine yD Tryz.func89 ?_
 refine zs<|zr<|yv h fun _ w h=>zm<|zn<|zk<|zs<|yh [3,4,5,6,7,8,9,10,11] h fun C hC h=>ye 1 hC h fun _ h=>?_
 refine ye 2 hC h fun _ h=>?_
 refine yr 0 ?_
 refine yc h c87 fun _ w h=>zn ?_
 obtain ⟨C2,hs,hC,h⟩:=h
 refine ⟨C2,hs,hC,?_⟩
 refine ye 3 hC h fun _ h=>?_
 refine yw 4 hC ?_
 refine ye 5 hC h fun _ h=>?_
 refine ye 6 hC h fun _ h=>?_
 refine yw 7 hC ?_
 refine yw 8 hC ?_
 refine yz<|zk<|zs<|sim_regionG<|yG 3<|zm<|yv h fun _ w h=>zm<|zn<|yg1 2 2 false [15,16] 16 h (fun _ T hT h=>?_) fun σ w h=>?_
 · refine yv h fun _ w h=>yv h fun _ w h=>zn ?_
   exact zt hT h
 exact yG 2<|yp h fun _ h=>zm<|zn<|sim_end<|zk<|sim_ret<|body_ret1 rfl rfl h
def n16c1 (t0 t1 t10:Value) (R:RT) (w:World):Prop :=
 opV Pg (Instr.extract t10 0) (panK R) w fun t11 w =>
 opV Pg (Instr.extract t10 1) (panK R) w fun t12 w =>
 opV Pg (Instr.fieldAt 71 t1 1) (panK R) w fun t13 w =>
 opV Pg (Instr.loadAt 65 t13) (panK R) w fun t14 w =>
 opV Pg (binS .neq 65 true t14 (.int .i64 11)) (panK R) w fun t15 w =>
 joinK (fun (t20:Value) (w:World) =>
 pickK t15 (.bool true) t20 fun t21 =>
 R (.returned t21) w) fun K1 =>
 guardP t15 false (
 opV Pg (Instr.loadAt 51 t0) (panK R) w fun t17 w =>
 callK Pg 92 #[t17,t11] (panK R) w fun t19 w =>
 opV Pg (binS .eql 3 true t19 (.int .i64 0)) (panK R) w fun t20 w =>
 K1 t20 w) (
 K1 undef w)
def n16 (t0 t1:Value) (R:RT) (w:World):Prop :=
 opV Pg (Instr.loadAt 51 t0) (panK R) w fun t6 w =>
 opV Pg (Instr.build 53 #[(1,t6)]) (panK R) w fun t7 w =>
 opV Pg (Instr.fieldAt 71 t1 10) (panK R) w fun t8 w =>
 opV Pg (Instr.loadAt 9 t8) (panK R) w fun t9 w =>
 callK Pg 91 #[t7,t9] (panK R) w fun t10 w =>
 n16c1 t0 t1 t10 R w
theorem n16s {t0 t1:Value} {R:RT} {w:World} (h:n16 t0 t1 R w):Calls Pg 90 #[t0,t1] w R:=by
 refine yD Tryz.func90 ?_
 refine zs<|zr<|zm<|zn<|zk<|zs<|zr<|yv h fun _ w h=>yB h fun _ w h=>yv h fun _ w h=>yv h fun _ w h=>yc h c91 fun _ w h=>zm<|yv h fun _ w h=>yv h fun _ w h=>?_
 refine zm<|zm<|zn<|zk<|zs<|sim_regionG<|yG 4<|yv h fun _ w h=>yv h fun _ w h=>yb h fun _ w h=>zm<|zn<|yg1 4 3 false [17,18,19,20] 20 h (fun _ T hT h=>?_) fun σ w h=>?_
 · refine yv h fun _ w h=>zm<|yc h c92 fun _ w h=>yb h fun _ w h=>zn ?_
   exact zt hT h
 exact yG 2<|yp h fun _ h=>zm<|zn<|sim_end<|zk<|sim_ret<|body_ret1 rfl rfl h
def n65 (t0 t1:Value) (R:RT) (w:World):Prop :=
 opV Pg (Instr.box 53 t0) (panK R) w fun t2 w =>
 opV Pg (Instr.box 9 t1) (panK R) w fun t3 w =>
 opV Pg (Instr.fieldAt 53 t2 1) (panK R) w fun t6 w =>
 opV Pg (Instr.loadAt 51 t6) (panK R) w fun t7 w =>
 opV Pg (Instr.makeFunc (.func 112) #[] #[t3]) (panK R) w fun t8 w =>
 callK Pg 111 #[t7,t8] (panK R) w fun t9 w =>
 opV Pg (Instr.extract t9 0) (panK R) w fun t10 w =>
 opV Pg (Instr.extract t9 1) (panK R) w fun t11 w =>
 R (.returned (.tuple #[t10,t11])) w
theorem n65s {t0 t1:Value} {R:RT} {w:World} (h:n65 t0 t1 R w):Calls Pg 91 #[t0,t1] w R:=by
 refine yD Tryz.func91 ?_
 refine zs<|zr<|yv h fun _ w h=>yv h fun _ w h=>zm<|zm<|zn<|zk<|zs<|zr<|yv h fun _ w h=>yv h fun _ w h=>yF h fun _ w h=>yc h c111 fun _ w h=>yv h fun _ w h=>?_
 exact yv h fun _ w h=>zm<|zm<|zn<|zk<|sim_ret<|body_ret2 rfl rfl rfl h
def n10c1 (t3 t4 t9 t10:Value) (Kr1:World→Prop) (Qr1:List PanicEntry→World→Prop) (Xr1:Nat→World→Prop) (R:RT) (w:World):Prop :=
 opV Pg (Instr.loadAt 3 t3) Qr1 w fun t12 w =>
 opV Pg (binS .eql 3 false t9 t12) Qr1 w fun t13 w =>
 condP t13 (
 opU Pg (Instr.storeAt 3 t4 t10) Qr1 w fun w =>
 Xr1 0 w) (
 Kr1 w)
def n10c2 (t3 t4 t8:Value) (ds:List Deferred) (R:RT) (w:World):Prop :=
 rangeN2 Pg t8 ds (fun l1 t9 t10 w Kr1 Xr1 Qr1 =>
 busyK l1 w fun w =>
 n10c1 t3 t4 t9 t10 Kr1 Qr1 Xr1 R w) (fun ch ds w=>outQ Pg ds [(some 3,t4)] R ch w) w (fun ds w =>
 opU Pg (Instr.storeAt 3 t4 (.int .i64 0)) (outQ Pg ds [(some 3,t4)] R) w fun w =>
 outX Pg ds [(some 3,t4)] R w) [fun ds w =>
 outX Pg ds [(some 3,t4)] R w]
def n10 (t0 t1:Value) (R:RT) (w:World):Prop :=
 (fun (ds:List Deferred) =>
 opV Pg (Instr.box 3 t1) (outQ Pg ds [(some 3,undef)] R) w fun t3 w =>
 opV Pg (Instr.alloc 3 true (.tuple #[])) (outQ Pg ds [(some 3,undef)] R) w fun t4 w =>
 callK Pg 72 #[t0] (outQ Pg ds [(some 3,t4)] R) w fun t8 w =>
 n10c2 t3 t4 t8 ds R w) []
theorem n10s {t0 t1:Value} {R:RT} {w:World} (h:n10 t0 t1 R w):Calls Pg 92 #[t0,t1] w R:=by
 refine yE Tryz.func92 ?_
 unfold n10 at h
 dsimp only at h
 refine zs<|zr<|yv h fun _ w h=>yv h fun _ w h=>zn<|zk<|zs<|zs<|zr<|zm<|yc h c72 fun _ w h=>zn<|zk<|sim_block<|sim_range2 [.ret] h rfl (fun l1 t9 t10 w Kr1 Xr1 Qr1 h=>?_) (fun ds w h=>?_) (fun c ds w h=>?_) (fun ch ds w h=>outQ_of rfl h)
 · refine zs<|zr<|zm<|zn<|zk<|zr<|zm<|zn<|zk ?_
   obtain ⟨hr,h⟩:=h
   refine ⟨rfl,hr,fun w hb=>?_⟩
   have h:=h w hb
   exact sim_block<|zs<|zr<|zm<|yv h fun _ w h=>yb h fun _ w h=>zn<|zk<|yC h (fun h=>zs<|zr<|zm<|yu h fun w h=>zn<|zk<|sim_ret<|sim_block_ret<|⟨rfl,0,rfl,h⟩) fun h=>sim_skip<|sim_block_normal<|⟨rfl,h⟩
 · exact sim_block_normal<|zk<|zs<|zr<|yu h fun w h=>zn<|zk<|sim_ret<|bodyM_ret rfl h
 rcases c with _ | c
 · refine ⟨_,rfl,.inl ⟨rfl,?_⟩⟩
   exact sim_block_ret<|sim_then_ret<|bodyM_ret rfl h
 exact h.elim
def n136 (t0 t1:Value) (R:RT) (w:World):Prop :=
 callK Pg 113 #[t0,t1] (panK R) w fun t7 w =>
 opV Pg (binS .geq 3 true t7 (.int .i64 0)) (panK R) w fun t8 w =>
 R (.returned t8) w
theorem n136s {t0 t1:Value} {R:RT} {w:World} (h:n136 t0 t1 R w):Calls Pg 93 #[t0,t1] w R:=by
 refine yD Tryz.func93 ?_
 refine zs<|zr<|zm<|zn<|zk<|zs<|zr<|zm<|zm<|yc h c113 fun _ w h=>yb h fun _ w h=>zm<|zn<|zk<|sim_ret ?_
 exact body_ret1 rfl rfl h
def n17 (t0:Value) (R:RT) (w:World):Prop :=
 callV Pg t0 #[] (panK R) w fun t4 w =>
 opV Pg (Op.unary .not t4) (panK R) w fun t5 w =>
 R (.returned t5) w
theorem n17s {t0:Value} {R:RT} {w:World} (h:n17 t0 R w):Calls Pg 94 #[t0] w R:=by
 refine yD Tryz.func94 ?_
 exact zs<|zr<|zm<|zn<|zk<|zs<|zr<|zm<|yV h fun _ w h=>yv h fun _ w h=>zm<|zn<|zk<|sim_ret<|body_ret1 rfl rfl h
def n72c1 (t0 t7 t11 t16:Value) (next1:KV) (R:RT) (w:World):Prop :=
 opV Pg (Op.unary .not t16) (panK R) w fun t17 w =>
 joinK (fun (t22:Value) (w:World) =>
 pickK t17 t22 (.bool false) fun t23 =>
 condP t23 (
 R (.returned (.tuple #[])) w) (
 opV Pg (binS .add 3 true t7 (.int .i64 1)) (panK R) w fun t24 w =>
 next1 t24 w)) fun K2 =>
 guardP t17 true (
 callV Pg t0 #[t11] (panK R) w fun t21 w =>
 opV Pg (Op.unary .not t21) (panK R) w fun t22 w =>
 K2 t22 w) (
 K2 undef w)
def n72c2 (t0 t1 t5 t7:Value) (next1:KV) (R:RT) (w:World):Prop :=
 opV Pg (Instr.indexAt 80 t5 t7) (panK R) w fun t10 w =>
 opV Pg (Instr.loadAt 9 t10) (panK R) w fun t11 w =>
 opV Pg (Instr.loadAt 80 t1) (panK R) w fun t12 w =>
 opV Pg (Instr.sliceAt 80 t12 none (some t7) none) (panK R) w fun t14 w =>
 callK Pg 96 #[t14,t11] (panK R) w fun t16 w =>
 n72c1 t0 t7 t11 t16 next1 R w
def n72 (t0 t1:Value) (R:RT) (w:World):Prop :=
 opV Pg (Instr.loadAt 80 t1) (panK R) w fun t5 w =>
 opV Pg (Builtin.len_ #[80] 3 #[t5]) (panK R) w fun t6 w =>
 loop1 (fun t7 w next1 =>
 opV Pg (binS .lss 3 false t7 t6) (panK R) w fun t8 w =>
 condP t8 (
 n72c2 t0 t1 t5 t7 next1 R w) (
 R (.returned (.tuple #[])) w)) (.int .i64 0) w
theorem n72s {t0 t1:Value} {R:RT} {w:World} (h:n72 t0 t1 R w):Calls Pg 95 #[t0,t1] w R:=by
 refine yD Tryz.func95 ?_
 refine zs<|zr<|yv h fun _ w h=>yx h fun _ w h=>zm<|zn<|zk<|sim_block<|yl1 [3,4,7,8,9,10,11,12,13,14,15,16,17,18,19,20,21,22,23,24] 7 h fun σ w next h=>zs<|zr<|yb h fun _ w h=>zn<|zk<|zs ?_
 refine yC h (fun h=>?_) fun h=>?_
 · refine sim_skip<|zk<|zs<|sim_block<|zs<|zr<|zm<|yv h fun _ w h=>yv h fun _ w h=>zm<|zm<|zn<|zk<|zs<|sim_regionG ?_
   refine yG 7<|yv h fun _ w h=>zm<|yv h fun _ w h=>zm<|yc h c96 fun _ w h=>yv h fun _ w h=>zm<|zn<|yg1 4 6 true [19,20,21,22] 22 h (fun _ T hT h=>?_) fun σ w h=>?_
   · refine zm<|zm<|yV h fun _ w h=>yv h fun _ w h=>zn ?_
     exact zt hT h
   refine yG 1<|yp h fun _ h=>zn<|sim_end<|zk<|yC h (fun h=>sim_ret<|sim_block_ret<|sim_then_ret<|sim_then_ret<|sim_block_ret<|body_ret0 rfl h) fun h=>sim_skip<|sim_block_normal<|zk<|zr<|yb h fun _ w h=>zm<|zn<|zk ?_
   exact ⟨rfl,h⟩
 exact sim_exit<|sim_then_exit<|sim_then_exit<|sim_block_hit<|body_normal<|body_ret0 rfl h
def n138 (t0 t1:Value) (R:RT) (w:World):Prop :=
 callK Pg 114 #[t0,t1] (panK R) w fun t7 w =>
 opV Pg (binS .geq 3 true t7 (.int .i64 0)) (panK R) w fun t8 w =>
 R (.returned t8) w
theorem n138s {t0 t1:Value} {R:RT} {w:World} (h:n138 t0 t1 R w):Calls Pg 96 #[t0,t1] w R:=by
 refine yD Tryz.func96 ?_
 refine zs<|zr<|zm<|zn<|zk<|zs<|zr<|zm<|zm<|yc h c114 fun _ w h=>yb h fun _ w h=>zm<|zn<|zk<|sim_ret ?_
 exact body_ret1 rfl rfl h
def n133 (t0 t1:Value) (R:RT) (w:World):Prop :=
 callK Pg 115 #[t0,t1] (panK R) w fun t7 w =>
 opV Pg (binS .geq 3 true t7 (.int .i64 0)) (panK R) w fun t8 w =>
 R (.returned t8) w
theorem n133s {t0 t1:Value} {R:RT} {w:World} (h:n133 t0 t1 R w):Calls Pg 97 #[t0,t1] w R:=by
 refine yD Tryz.func97 ?_
 refine zs<|zr<|zm<|zn<|zk<|zs<|zr<|zm<|zm<|yc h c115 fun _ w h=>yb h fun _ w h=>zm<|zn<|zk<|sim_ret ?_
 exact body_ret1 rfl rfl h
def n59c1 (t1 t2 t6 t11:Value) (R:RT) (w:World):Prop :=
 pickK t6 t11 (.bool false) fun t12 =>
 joinK (fun (t18:Value) (w:World) =>
 pickK t12 (.bool true) t18 fun t19 =>
 R (.returned t19) w) fun K2 =>
 guardP t12 false (
 opV Pg (Instr.fieldAt 71 t2 7) (panK R) w fun t14 w =>
 opV Pg (Instr.fieldAt 68 t14 1) (panK R) w fun t15 w =>
 opV Pg (Instr.loadAt 66 t15) (panK R) w fun t16 w =>
 opV Pg (Instr.makeFunc (.func 100) #[] #[t1]) (panK R) w fun t17 w =>
 callK Pg 99 #[t16,t17] (panK R) w fun t18 w =>
 K2 t18 w) (
 K2 undef w)
def n59 (t0 t1:Value) (R:RT) (w:World):Prop :=
 opV Pg (Instr.box 71 t0) (panK R) w fun t2 w =>
 opV Pg (Instr.fieldAt 71 t2 1) (panK R) w fun t4 w =>
 opV Pg (Instr.loadAt 65 t4) (panK R) w fun t5 w =>
 opV Pg (binS .eql 65 true t5 (.int .i64 9)) (panK R) w fun t6 w =>
 joinK (fun (t11:Value) (w:World) =>
 n59c1 t1 t2 t6 t11 R w) fun K1 =>
 guardP t6 true (
 opV Pg (Instr.fieldAt 71 t2 9) (panK R) w fun t8 w =>
 opV Pg (Instr.loadAt 9 t8) (panK R) w fun t9 w =>
 opV Pg (Instr.loadAt 9 t1) (panK R) w fun t10 w =>
 opV Pg (binS .eql 9 false t9 t10) (panK R) w fun t11 w =>
 K1 t11 w) (
 K1 undef w)
theorem n59s {t0 t1:Value} {R:RT} {w:World} (h:n59 t0 t1 R w):Calls Pg 98 #[t0,t1] w R:=by
 refine yD Tryz.func98 ?_
 refine zs<|zr<|yv h fun _ w h=>zm<|zn<|zk<|zs<|sim_regionG<|yG 4<|yv h fun _ w h=>yv h fun _ w h=>yb h fun _ w h=>zm<|zn<|yg1 4 3 true [8,9,10,11] 11 h (fun _ T hT h=>?_) fun σ w h=>?_
 · refine yv h fun _ w h=>yv h fun _ w h=>yv h fun _ w h=>yb h fun _ w h=>zn ?_
   exact zt hT h
 refine yG 2<|yp h fun _ h=>zm<|zn<|yg1 5 9 false [14,15,16,17,18] 18 h (fun _ T hT h=>?_) fun σ w h=>?_
 · refine yv h fun _ w h=>yv h fun _ w h=>yv h fun _ w h=>yF h fun _ w h=>yc h c99 fun _ w h=>zn ?_
   exact zt hT h
 exact yG 2<|yp h fun _ h=>zm<|zn<|sim_end<|zk<|sim_ret<|body_ret1 rfl rfl h
def n35c1 (t0 t2:Value) (R:RT) (w:World):Prop :=
 opN Pg (nilN t0) (panK R) w fun t7 w =>
 opV Pg (Instr.fieldAt 61 t7 0) (panK R) w fun t8 w =>
 opV Pg (Instr.fieldAt 58 t8 0) (panK R) w fun t9 w =>
 opV Pg (Instr.loadAt 24 t9) (panK R) w fun t10 w =>
 callK Pg 24 #[t10] (panK R) w fun t11 w =>
 opU Pg (Instr.storeAt 24 t2 t11) (panK R) w fun w =>
 qW Pg 24 t2 w fun r0 =>
 R (.returned r0) w
def n35c2 (t0 t2 t4:Value) (R:RT) (w:World):Prop :=
 condP t4 (
 opV Pg (Instr.build 24 #[]) (panK R) w fun t5 w =>
 opU Pg (Instr.storeAt 24 t2 t5) (panK R) w fun w =>
 qW Pg 24 t2 w fun r0 =>
 R (.returned r0) w) (
 n35c1 t0 t2 R w)
def n35 (t0:Value) (R:RT) (w:World):Prop :=
 opV Pg (Instr.alloc 24 true (.tuple #[])) (panK R) w fun t2 w =>
 callK Pg 36 #[t0] (panK R) w fun t4 w =>
 n35c2 t0 t2 t4 R w
theorem n35s {t0:Value} {R:RT} {w:World} (h:n35 t0 R w):Calls Pg 23 #[t0] w R:=by
 refine yD Tryz.func23 ?_
 refine zs<|zr<|yv h fun _ w h=>zn<|zk<|zs<|zs<|zr<|zm<|yc h c36 fun _ w h=>zn<|zk<|yC h (fun h=>zs<|zr<|yB h fun _ w h=>yu h fun w h=>zn<|zk<|sim_ret<|sim_then_ret<|body_retC rfl rfl h) fun h=>sim_skip ?_
 exact zk<|zs<|zr<|zm<|yN h fun _ w h=>yv h fun _ w h=>yv h fun _ w h=>yv h fun _ w h=>yc h c24 fun _ w h=>yu h fun w h=>zn<|zk<|sim_ret<|body_retC rfl rfl h
def n62c1 (t34 t42 t55:Value) (C4:World→Prop) (next2:KV) (R:RT) (w:World):Prop :=
 qN Pg C4 (nilN t42) fun t59 =>
 qV Pg C4 (Instr.fieldAt 71 t59 11) fun t60 =>
 opU Pg (Instr.storeAt 69 t60 t55) (panK R) w fun w =>
 turnK w fun C5 w =>
 opV Pg (binS .add 3 true t34 (.int .i64 1)) (panK R) w fun t61 w =>
 next2 t61 w
def n62c2 (t34 t42 t50 t55:Value) (C3:World→Prop) (next2:KV) (R:RT) (w:World):Prop :=
 qN Pg C3 (nilN t42) fun t56 =>
 qV Pg C3 (Instr.fieldAt 71 t56 7) fun t57 =>
 qV Pg C3 (Instr.fieldAt 68 t57 1) fun t58 =>
 opU Pg (Instr.storeAt 66 t58 t50) (panK R) w fun w =>
 turnK w fun C4 w =>
 n62c1 t34 t42 t55 C4 next2 R w
def n62c3 (t34 t42:Value) (C3:World→Prop) (next2:KV) (R:RT) (w:World):Prop :=
 qN Pg C3 (nilN t42) fun t46 =>
 qV Pg C3 (Instr.fieldAt 71 t46 7) fun t47 =>
 qV Pg C3 (Instr.fieldAt 68 t47 1) fun t48 =>
 qV Pg C3 (Instr.loadAt 66 t48) fun t49 =>
 qN Pg C3 (nilN t42) fun t52 =>
 qV Pg C3 (Instr.fieldAt 71 t52 11) fun t53 =>
 qV Pg C3 (Instr.loadAt 69 t53) fun t54 =>
 callK Pg 54 #[t49] (panK R) w fun t50 w =>
 C3 w∧(
 callK Pg 55 #[t54] (panK R) w fun t55 w =>
 C3 w∧(
 n62c2 t34 t42 t50 t55 C3 next2 R w))
def n62c4 (t20 t34:Value) (next2:KV) (R:RT) (w:World):Prop :=
 opN Pg (nilN t20) (panK R) w fun t38 w =>
 opV Pg (Instr.fieldAt 53 t38 1) (panK R) w fun t39 w =>
 opV Pg (Instr.loadAt 51 t39) (panK R) w fun t40 w =>
 opV Pg (Instr.indexAt 51 t40 t34) (panK R) w fun t42 w =>
 drawK w fun C3 w =>
 n62c3 t34 t42 C3 next2 R w
def n62c5 (t14 t20 t33 t34:Value) (next1:KV) (next2:KV) (R:RT) (w:World):Prop :=
 opV Pg (binS .lss 3 false t34 t33) (panK R) w fun t35 w =>
 condP t35 (
 n62c4 t20 t34 next2 R w) (
 opV Pg (binS .add 3 true t14 (.int .i64 1)) (panK R) w fun t62 w =>
 next1 t62 w)
def n62c6 (t14 t20 t26:Value) (next1:KV) (R:RT) (w:World):Prop :=
 opN Pg (nilN t20) (panK R) w fun t27 w =>
 opV Pg (Instr.fieldAt 53 t27 1) (panK R) w fun t28 w =>
 opU Pg (Instr.storeAt 51 t28 t26) (panK R) w fun w =>
 opN Pg (nilN t20) (panK R) w fun t30 w =>
 opV Pg (Instr.fieldAt 53 t30 1) (panK R) w fun t31 w =>
 opV Pg (Instr.loadAt 51 t31) (panK R) w fun t32 w =>
 opV Pg (Builtin.len_ #[51] 3 #[t32]) (panK R) w fun t33 w =>
 loop1 (fun t34 w next2 =>
 n62c5 t14 t20 t33 t34 next1 next2 R w) (.int .i64 0) w
def n62c7 (t1 t14:Value) (next1:KV) (R:RT) (w:World):Prop :=
 opV Pg (Instr.fieldAt 24 t1 1) (panK R) w fun t17 w =>
 opV Pg (Instr.loadAt 22 t17) (panK R) w fun t18 w =>
 opV Pg (Instr.indexAt 22 t18 t14) (panK R) w fun t20 w =>
 opN Pg (nilN t20) (panK R) w fun t23 w =>
 opV Pg (Instr.fieldAt 53 t23 1) (panK R) w fun t24 w =>
 opV Pg (Instr.loadAt 51 t24) (panK R) w fun t25 w =>
 callK Pg 53 #[t25] (panK R) w fun t26 w =>
 n62c6 t14 t20 t26 next1 R w
def n62c8 (t1 t2 t13 t14:Value) (next1:KV) (R:RT) (w:World):Prop :=
 opV Pg (binS .lss 3 false t14 t13) (panK R) w fun t15 w =>
 condP t15 (
 n62c7 t1 t14 next1 R w) (
 opV Pg (Instr.loadAt 24 t1) (panK R) w fun t63 w =>
 opU Pg (Instr.storeAt 24 t2 t63) (panK R) w fun w =>
 qW Pg 24 t2 w fun r0 =>
 R (.returned r0) w)
def n62c9 (t1 t2 t9:Value) (R:RT) (w:World):Prop :=
 opV Pg (Instr.fieldAt 24 t1 1) (panK R) w fun t10 w =>
 opU Pg (Instr.storeAt 22 t10 t9) (panK R) w fun w =>
 opV Pg (Instr.fieldAt 24 t1 1) (panK R) w fun t11 w =>
 opV Pg (Instr.loadAt 22 t11) (panK R) w fun t12 w =>
 opV Pg (Builtin.len_ #[22] 3 #[t12]) (panK R) w fun t13 w =>
 loop1 (fun t14 w next1 =>
 n62c8 t1 t2 t13 t14 next1 R w) (.int .i64 0) w
def n62 (t0:Value) (R:RT) (w:World):Prop :=
 opV Pg (Instr.box 24 t0) (panK R) w fun t1 w =>
 opV Pg (Instr.alloc 24 true (.tuple #[])) (panK R) w fun t2 w =>
 opV Pg (Instr.fieldAt 24 t1 1) (panK R) w fun t7 w =>
 opV Pg (Instr.loadAt 22 t7) (panK R) w fun t8 w =>
 callK Pg 52 #[t8] (panK R) w fun t9 w =>
 n62c9 t1 t2 t9 R w
theorem n62s {t0:Value} {R:RT} {w:World} (h:n62 t0 R w):Calls Pg 24 #[t0] w R:=by
 refine yD Tryz.func24 ?_
 refine zs<|zr<|yv h fun _ w h=>yv h fun _ w h=>zn<|zk<|zs<|zr<|yv h fun _ w h=>yv h fun _ w h=>yc h c52 fun _ w h=>yv h fun _ w h=>yu h fun w h=>zn<|zk ?_
 refine zs<|zs<|zr<|yv h fun _ w h=>yv h fun _ w h=>yx h fun _ w h=>zm<|zn<|zk<|sim_block<|yl1 [3,4,5,6,14,15,16,17,18,19,20,21,22,23,24,25,26,27,28,29,30,31,32,33,34,35,36,37,38,39,40,41,42,43,44,45,46,47,48,49,50,51,52,53,54,55,56,57,58,59,60,61,62] 14 h fun σ w next h=>zs<|zr<|yb h fun _ w h=>zn ?_
 refine zk<|zs<|yC h (fun h=>?_) fun h=>?_
 · refine sim_skip<|zk<|zs<|sim_block<|zs<|zr<|zm<|zm<|zn<|zk<|zs<|zr<|yv h fun _ w h=>yv h fun _ w h=>zm ?_
   refine yv h fun _ w h=>zm<|zn<|zk<|zs<|zr<|zm<|zm<|yN h fun _ w h=>yv h fun _ w h=>yv h fun _ w h=>yc h c53 fun _ w h=>yN h fun _ w h=>yv h fun _ w h=>yu h fun w h=>?_
   refine zn<|zk<|zs<|zr<|zm<|yN h fun _ w h=>yv h fun _ w h=>yv h fun _ w h=>yx h fun _ w h=>zm<|zn<|zk<|sim_block<|yl1 [5,6,34,35,36,37,38,39,40,41,42,43,44,45,46,47,48,49,50,51,52,53,54,55,56,57,58,59,60,61] 34 h fun σ w next h=>zs ?_
   refine zr<|yb h fun _ w h=>zn<|zk<|zs<|yC h (fun h=>?_) fun h=>?_
   · refine sim_skip<|zk<|zs<|sim_block<|zs<|zr<|zm<|zm<|zn<|zk<|zs<|zr<|zm<|yN h fun _ w h=>yv h fun _ w h=>?_
     refine yv h fun _ w h=>zm<|yv h fun _ w h=>zm<|zn<|zk<|yh [43,44,45,46,47,48,49,50,51,52,53,54,55,56,57,58,59,60] h fun C hC h=>yw 0 hC ?_
     refine yw 1 hC ?_
     refine yw 2 hC ?_
     refine yn 3 hC h fun _ h=>?_
     refine ye 4 hC h fun _ h=>?_
     refine ye 5 hC h fun _ h=>?_
     refine ye 6 hC h fun _ h=>?_
     refine yw 8 hC ?_
     refine yn 9 hC h fun _ h=>?_
     refine ye 10 hC h fun _ h=>?_
     refine ye 11 hC h fun _ h=>?_
     refine yo 7 ?_
     refine yc h c54 fun _ w h=>zn ?_
     obtain ⟨hC,h⟩:=h
     refine ⟨hC,?_⟩
     refine yo 12 ?_
     refine yc h c55 fun _ w h=>zn ?_
     obtain ⟨hC,h⟩:=h
     refine ⟨hC,?_⟩
     refine yn 13 hC h fun _ h=>?_
     refine ye 14 hC h fun _ h=>?_
     refine ye 15 hC h fun _ h=>?_
     refine yq 16 3 ?_
     refine yu h fun w h=>zn ?_
     obtain ⟨C4,hC,h⟩:=h
     refine ⟨C4,hC,?_⟩
     refine yn 17 hC h fun _ h=>?_
     refine ye 18 hC h fun _ h=>?_
     refine yq 19 2 ?_
     refine yu h fun w h=>zn ?_
     obtain ⟨C5,hC,h⟩:=h
     refine ⟨C5,hC,?_⟩
     exact yz<|sim_block_normal<|zk<|zr<|yb h fun _ w h=>zm<|zn<|zk<|⟨rfl,h⟩
   exact sim_exit<|sim_then_exit<|sim_then_exit<|sim_block_hit<|sim_block_normal<|zk<|zr<|yb h fun _ w h=>zm<|zn<|zk<|⟨rfl,h⟩
 exact sim_exit<|sim_then_exit<|sim_then_exit<|sim_block_hit<|zk<|zs<|zr<|yv h fun _ w h=>yu h fun w h=>zn<|zk<|sim_ret<|body_retC rfl rfl h
def n63c1 (t2 t3 t9 t15:Value) (R:RT) (w:World):Prop :=
 pickK t9 t15 (.bool false) fun t16 =>
 joinK (fun (t22:Value) (w:World) =>
 pickK t16 t22 (.bool false) fun t23 =>
 R (.returned t23) w) fun K2 =>
 guardP t16 true (
 opV Pg (Instr.fieldAt 24 t2 1) (panK R) w fun t18 w =>
 opV Pg (Instr.loadAt 22 t18) (panK R) w fun t19 w =>
 opV Pg (Instr.fieldAt 24 t3 1) (panK R) w fun t20 w =>
 opV Pg (Instr.loadAt 22 t20) (panK R) w fun t21 w =>
 callK Pg 56 #[t19,t21,(.func (.func 57) #[] #[])] (panK R) w fun t22 w =>
 K2 t22 w) (
 K2 undef w)
def n63 (t0 t1:Value) (R:RT) (w:World):Prop :=
 opV Pg (Instr.box 24 t0) (panK R) w fun t2 w =>
 opV Pg (Instr.box 24 t1) (panK R) w fun t3 w =>
 opV Pg (Instr.fieldAt 24 t2 0) (panK R) w fun t5 w =>
 opV Pg (Instr.loadAt 9 t5) (panK R) w fun t6 w =>
 opV Pg (Instr.fieldAt 24 t3 0) (panK R) w fun t7 w =>
 opV Pg (Instr.loadAt 9 t7) (panK R) w fun t8 w =>
 opV Pg (binS .eql 9 false t6 t8) (panK R) w fun t9 w =>
 joinK (fun (t15:Value) (w:World) =>
 n63c1 t2 t3 t9 t15 R w) fun K1 =>
 guardP t9 true (
 opV Pg (Instr.fieldAt 24 t2 2) (panK R) w fun t11 w =>
 opV Pg (Instr.loadAt 9 t11) (panK R) w fun t12 w =>
 opV Pg (Instr.fieldAt 24 t3 2) (panK R) w fun t13 w =>
 opV Pg (Instr.loadAt 9 t13) (panK R) w fun t14 w =>
 opV Pg (binS .eql 9 false t12 t14) (panK R) w fun t15 w =>
 K1 t15 w) (
 K1 undef w)
theorem n63s {t0 t1:Value} {R:RT} {w:World} (h:n63 t0 t1 R w):Calls Pg 25 #[t0,t1] w R:=by
 refine yD Tryz.func25 ?_
 refine zs<|zr<|yv h fun _ w h=>yv h fun _ w h=>zm<|zn<|zk<|zs<|sim_regionG<|yG 6<|yv h fun _ w h=>yv h fun _ w h=>yv h fun _ w h=>yv h fun _ w h=>yb h fun _ w h=>?_
 refine zm<|zn<|yg1 5 5 true [11,12,13,14,15] 15 h (fun _ T hT h=>?_) fun σ w h=>?_
 · refine yv h fun _ w h=>yv h fun _ w h=>yv h fun _ w h=>yv h fun _ w h=>yb h fun _ w h=>zn ?_
   exact zt hT h
 refine yG 2<|yp h fun _ h=>zm<|zn<|yg1 5 12 true [18,19,20,21,22] 22 h (fun _ T hT h=>?_) fun σ w h=>?_
 · refine yv h fun _ w h=>yv h fun _ w h=>yv h fun _ w h=>yv h fun _ w h=>yc h c56 fun _ w h=>zn ?_
   exact zt hT h
 exact yG 2<|yp h fun _ h=>zm<|zn<|sim_end<|zk<|sim_ret<|body_ret1 rfl rfl h
def n67 (t0 t1:Value) (R:RT) (w:World):Prop :=
 opV Pg (Instr.box 24 t0) (panK R) w fun t2 w =>
 opV Pg (Instr.box 9 t1) (panK R) w fun t3 w =>
 opV Pg (Instr.fieldAt 24 t2 1) (panK R) w fun t6 w =>
 opV Pg (Instr.loadAt 22 t6) (panK R) w fun t7 w =>
 opV Pg (Instr.makeFunc (.func 61) #[] #[t3]) (panK R) w fun t8 w =>
 callK Pg 60 #[t7,t8] (panK R) w fun t9 w =>
 opV Pg (Instr.extract t9 0) (panK R) w fun t10 w =>
 opV Pg (Instr.extract t9 1) (panK R) w fun t11 w =>
 R (.returned (.tuple #[t10,t11])) w
theorem n67s {t0 t1:Value} {R:RT} {w:World} (h:n67 t0 t1 R w):Calls Pg 26 #[t0,t1] w R:=by
 refine yD Tryz.func26 ?_
 refine zs<|zr<|yv h fun _ w h=>yv h fun _ w h=>zm<|zm<|zn<|zk<|zs<|zr<|yv h fun _ w h=>yv h fun _ w h=>yF h fun _ w h=>yc h c60 fun _ w h=>yv h fun _ w h=>?_
 exact yv h fun _ w h=>zm<|zm<|zn<|zk<|sim_ret<|body_ret2 rfl rfl rfl h
def n28c1 (t6 t10 t55:Value) (C4:World→Prop) (next2:KV) (R:RT) (w:World):Prop :=
 qV Pg C4 (Instr.indexAt 75 t10 t55) fun t56 =>
 opU Pg (Instr.storeAt 4 t56 (.bool true)) (panK R) w fun w =>
 turnK w fun C5 w =>
 opV Pg (binS .add 3 true t6 (.int .i64 1)) (panK R) w fun t45 w =>
 next2 t45 w
def n28c2 (t1 t6 t10 t33:Value) (C4:World→Prop) (next2:KV) (R:RT) (w:World):Prop :=
 qV Pg C4 (Instr.loadAt 24 t1) fun t47 =>
 qV Pg C4 (Instr.indexAt 80 t33 t6) fun t50 =>
 qV Pg C4 (Instr.loadAt 9 t50) fun t51 =>
 qV Pg C4 (Instr.fieldAt 24 t1 1) fun t52 =>
 qV Pg C4 (Instr.loadAt 22 t52) fun t53 =>
 qV Pg C4 (Builtin.len_ #[22] 3 #[t53]) fun t54 =>
 callK Pg 62 #[t47,t51,t54] (panK R) w fun t55 w =>
 C4 w∧(
 n28c1 t6 t10 t55 C4 next2 R w)
def n28c3 (t1 t4 t6 t10 t33 t37 t42:Value) (next1:KV) (next2:KV) (R:RT) (w:World):Prop :=
 pickK t37 t42 (.bool false) fun t43 =>
 condP t43 (
 drawK w fun C4 w =>
 n28c2 t1 t6 t10 t33 C4 next2 R w) (
 opV Pg (binS .sub 3 true t4 (.int .i64 1)) (panK R) w fun t27 w =>
 next1 t27 w)
def n28c4 (t1 t4 t6 t10 t33:Value) (next1:KV) (next2:KV) (R:RT) (w:World):Prop :=
 opV Pg (Instr.indexAt 75 t10 t4) (panK R) w fun t36 w =>
 opV Pg (Instr.loadAt 4 t36) (panK R) w fun t37 w =>
 joinK (fun (t42:Value) (w:World) =>
 n28c3 t1 t4 t6 t10 t33 t37 t42 next1 next2 R w) fun K3 =>
 guardP t37 true (
 opV Pg (Builtin.len_ #[80] 3 #[t33]) (panK R) w fun t41 w =>
 opV Pg (binS .lss 3 false t6 t41) (panK R) w fun t42 w =>
 K3 t42 w) (
 K3 undef w)
def n28c5 (t1 t4 t10:Value) (next1:KV) (R:RT) (w:World):Prop :=
 opV Pg (Instr.fieldAt 24 t1 1) (panK R) w fun t28 w =>
 opV Pg (Instr.loadAt 22 t28) (panK R) w fun t29 w =>
 opV Pg (Instr.indexAt 22 t29 t4) (panK R) w fun t31 w =>
 opV Pg (Instr.loadAt 53 t31) (panK R) w fun t32 w =>
 callK Pg 63 #[t32] (panK R) w fun t33 w =>
 loop1 (fun t6 w next2 =>
 n28c4 t1 t4 t6 t10 t33 next1 next2 R w) (.int .i64 0) w
def n28c6 (t1 t10 t18:Value) (R:RT) (w:World):Prop :=
 opV Pg (Instr.indexAt 75 t10 t18) (panK R) w fun t19 w =>
 opU Pg (Instr.storeAt 4 t19 (.bool true)) (panK R) w fun w =>
 opV Pg (Instr.fieldAt 24 t1 1) (panK R) w fun t20 w =>
 opV Pg (Instr.loadAt 22 t20) (panK R) w fun t21 w =>
 opV Pg (Builtin.len_ #[22] 3 #[t21]) (panK R) w fun t22 w =>
 opV Pg (binS .sub 3 true t22 (.int .i64 1)) (panK R) w fun t23 w =>
 loop1 (fun t4 w next1 =>
 opV Pg (binS .geq 3 true t4 (.int .i64 0)) (panK R) w fun t25 w =>
 condP t25 (
 n28c5 t1 t4 t10 next1 R w) (
 R (.returned t10) w)) t23 w
def n28 (t0:Value) (R:RT) (w:World):Prop :=
 opV Pg (Instr.box 24 t0) (panK R) w fun t1 w =>
 opV Pg (Instr.fieldAt 24 t1 1) (panK R) w fun t7 w =>
 opV Pg (Instr.loadAt 22 t7) (panK R) w fun t8 w =>
 opV Pg (Builtin.len_ #[22] 3 #[t8]) (panK R) w fun t9 w =>
 opV Pg (Instr.makeSlice 75 t9 t9) (panK R) w fun t10 w =>
 opV Pg (Instr.loadAt 24 t1) (panK R) w fun t12 w =>
 opV Pg (Instr.fieldAt 24 t1 2) (panK R) w fun t13 w =>
 opV Pg (Instr.loadAt 9 t13) (panK R) w fun t14 w =>
 opV Pg (Instr.fieldAt 24 t1 1) (panK R) w fun t15 w =>
 opV Pg (Instr.loadAt 22 t15) (panK R) w fun t16 w =>
 opV Pg (Builtin.len_ #[22] 3 #[t16]) (panK R) w fun t17 w =>
 callK Pg 62 #[t12,t14,t17] (panK R) w fun t18 w =>
 n28c6 t1 t10 t18 R w
theorem n28s {t0:Value} {R:RT} {w:World} (h:n28 t0 R w):Calls Pg 27 #[t0] w R:=by
 refine yD Tryz.func27 ?_
 refine zs<|zr<|yv h fun _ w h=>zm<|zn<|zk<|zs<|zr<|yv h fun _ w h=>yv h fun _ w h=>yx h fun _ w h=>yv h fun _ w h=>zm<|zn<|zk ?_
 refine zs<|zr<|zm<|yv h fun _ w h=>yv h fun _ w h=>yv h fun _ w h=>yv h fun _ w h=>yv h fun _ w h=>yx h fun _ w h=>yc h c62 fun _ w h=>yv h fun _ w h=>yu h fun w h=>zn<|zk<|zs ?_
 refine zs<|zr<|yv h fun _ w h=>yv h fun _ w h=>yx h fun _ w h=>yb h fun _ w h=>zm<|zn<|zk<|sim_block<|yl1 [4,5,6,24,25,26,27,28,29,30,31,32,33,34,35,36,37,38,39,40,41,42,43,44,45,46,47,48,49,50,51,52,53,54,55,56] 4 h fun σ w next h=>zs<|zs<|zr<|zm ?_
 refine yb h fun _ w h=>zn<|zk<|yC h (fun h=>?_) fun h=>?_
 · refine sim_skip<|zk<|zs<|sim_block<|zs<|zr<|yv h fun _ w h=>yv h fun _ w h=>zm<|yv h fun _ w h=>yv h fun _ w h=>yc h c63 fun _ w h=>zm<|zn<|zk ?_
   refine zs<|zr<|zm<|zn<|zk<|sim_block<|yl1 [6,34,35,36,37,38,39,40,41,42,43,44,45,46,47,48,49,50,51,52,53,54,55,56] 6 h fun σ w next h=>zs<|zs<|sim_regionG<|yG 5<|zm<|zm<|yv h fun _ w h=>yv h fun _ w h=>?_
   refine zm<|zn<|yg1 4 4 true [39,40,41,42] 42 h (fun _ T hT h=>?_) fun σ w h=>?_
   · refine zm<|zm<|yx h fun _ w h=>yb h fun _ w h=>zn ?_
     exact zt hT h
   refine yG 1<|yp h fun _ h=>zn<|sim_end<|zk<|yC h (fun h=>?_) fun h=>?_
   · refine sim_skip<|zk<|zs<|sim_block<|yh [46,47,48,49,50,51,52,53,54,55,56] h fun C hC h=>yw 0 hC ?_
     refine ye 1 hC h fun _ h=>?_
     refine yw 2 hC ?_
     refine yw 3 hC ?_
     refine ye 4 hC h fun _ h=>?_
     refine ye 5 hC h fun _ h=>?_
     refine ye 6 hC h fun _ h=>?_
     refine ye 7 hC h fun _ h=>?_
     refine ye 8 hC h fun _ h=>?_
     refine yo 9 ?_
     refine yc h c62 fun _ w h=>zn ?_
     obtain ⟨hC,h⟩:=h
     refine ⟨hC,?_⟩
     refine ye 10 hC h fun _ h=>?_
     refine yq 11 1 ?_
     refine yu h fun w h=>zn ?_
     obtain ⟨C5,hC,h⟩:=h
     refine ⟨C5,hC,?_⟩
     exact yz<|sim_block_normal<|zk<|zr<|zm<|yb h fun _ w h=>zm<|zn<|zk<|⟨rfl,h⟩
   exact sim_exit<|sim_then_exit<|sim_then_exit<|sim_block_hit<|sim_block_normal<|zk<|zr<|zm<|yb h fun _ w h=>zm<|zn<|zk<|⟨rfl,h⟩
 exact sim_exit<|sim_then_exit<|sim_then_exit<|sim_block_hit<|zk<|zs<|zr<|zm<|zm<|zn<|zk<|sim_ret<|body_ret1 rfl rfl h
def n31c1 (t2 t5 t7 t8:Value) (next3:KW) (R:RT) (w:World):Prop :=
 opV Pg (Instr.fieldAt 24 t2 1) (panK R) w fun t35 w =>
 opV Pg (Instr.loadAt 22 t35) (panK R) w fun t36 w =>
 opV Pg (Instr.indexAt 22 t36 t7) (panK R) w fun t38 w =>
 opV Pg (Instr.fieldAt 53 t38 1) (panK R) w fun t39 w =>
 opV Pg (Instr.loadAt 51 t39) (panK R) w fun t40 w =>
 opV Pg (Instr.indexAt 51 t40 t8) (panK R) w fun t42 w =>
 opV Pg (Instr.loadAt 71 t42) (panK R) w fun t43 w =>
 callK Pg 64 #[t43] (panK R) w fun t44 w =>
 opV Pg (binS .add 3 false t5 t44) (panK R) w fun t45 w =>
 opV Pg (binS .add 3 true t8 (.int .i64 1)) (panK R) w fun t33 w =>
 next3 t45 t33 w
def n31c2 (t2 t5 t7 t8:Value) (K2:KV) (next3:KW) (R:RT) (w:World):Prop :=
 opV Pg (Instr.fieldAt 24 t2 1) (panK R) w fun t24 w =>
 opV Pg (Instr.loadAt 22 t24) (panK R) w fun t25 w =>
 opV Pg (Instr.indexAt 22 t25 t7) (panK R) w fun t27 w =>
 opV Pg (Instr.fieldAt 53 t27 1) (panK R) w fun t28 w =>
 opV Pg (Instr.loadAt 51 t28) (panK R) w fun t29 w =>
 opV Pg (Builtin.len_ #[51] 3 #[t29]) (panK R) w fun t30 w =>
 opV Pg (binS .lss 3 false t8 t30) (panK R) w fun t31 w =>
 condP t31 (
 n31c1 t2 t5 t7 t8 next3 R w) (
 K2 t5 w)
def n31c3 (t2 t5 t7 t10:Value) (next1:KW) (R:RT) (w:World):Prop :=
 joinK (fun (t5:Value) (w:World) =>
 opV Pg (binS .add 3 true t7 (.int .i64 1)) (panK R) w fun t15 w =>
 next1 t5 t15 w) fun K2 =>
 opV Pg (Instr.indexAt 75 t10 t7) (panK R) w fun t18 w =>
 opV Pg (Instr.loadAt 4 t18) (panK R) w fun t19 w =>
 opV Pg (Op.unary .not t19) (panK R) w fun t20 w =>
 condP t20 (
 K2 t5 w) (
 opV Pg (binS .add 3 true t5 (.int .i64 2)) (panK R) w fun t22 w =>
 loop2 (fun t5 t8 w next3 =>
 n31c2 t2 t5 t7 t8 K2 next3 R w) t22 (.int .i64 0) w)
def n31c4 (t1 t2 t10:Value) (R:RT) (w:World):Prop :=
 loop2 (fun t5 t7 w next1 =>
 opV Pg (binS .lss 3 false t7 t1) (panK R) w fun t13 w =>
 condP t13 (
 n31c3 t2 t5 t7 t10 next1 R w) (
 R (.returned t5) w)) (.int .i64 2) (.int .i64 0) w
def n31 (t0 t1:Value) (R:RT) (w:World):Prop :=
 opV Pg (Instr.box 24 t0) (panK R) w fun t2 w =>
 opV Pg (Instr.loadAt 24 t2) (panK R) w fun t9 w =>
 callK Pg 27 #[t9] (panK R) w fun t10 w =>
 n31c4 t1 t2 t10 R w
theorem n31s {t0 t1:Value} {R:RT} {w:World} (h:n31 t0 t1 R w):Calls Pg 28 #[t0,t1] w R:=by
 refine yD Tryz.func28 ?_
 refine zs<|zr<|yv h fun _ w h=>zm<|zn<|zk<|zs<|zr<|yv h fun _ w h=>yc h c27 fun _ w h=>zm<|zm<|zn<|zk<|zs ?_
 refine zs<|zr<|zm<|zn<|zk<|sim_block<|yl2 [5,7,8,11,12,13,14,15,16,17,18,19,20,21,22,23,24,25,26,27,28,29,30,31,32,33,34,35,36,37,38,39,40,41,42,43,44,45] 5 7 h fun σ w next h=>zs<|zs<|zr<|zm<|zm<|yb h fun _ w h=>zn<|zk ?_
 refine yC h (fun h=>?_) fun h=>?_
 · refine sim_skip<|zk<|zs<|yJ1 [5,8,16,17,18,19,20,21,22,23,24,25,26,27,28,29,30,31,32,33,34,35,36,37,38,39,40,41,42,43,44,45] 5 h (fun _ _ hkK2 h=>?_) fun σ w h=>?_
   · refine sim_block<|zs<|zs<|zr<|zm<|zm<|yv h fun _ w h=>yv h fun _ w h=>yv h fun _ w h=>zn<|zk<|yC h (fun h=>?_) fun h=>?_
     · refine sim_exit<|sim_then_exit<|sim_block_hit<|zk ?_
       exact zt hkK2 h
     refine sim_skip<|zk<|zs<|zr<|zm<|yb h fun _ w h=>zm<|zn<|zk<|zs<|zr<|zm<|zn<|zk<|sim_block ?_
     refine yl2 [5,8,23,24,25,26,27,28,29,30,31,32,33,34,35,36,37,38,39,40,41,42,43,44,45] 5 8 h fun σ w next h=>zs<|zs<|zr<|zm<|yv h fun _ w h=>yv h fun _ w h=>zm<|yv h fun _ w h=>yv h fun _ w h=>yv h fun _ w h=>yx h fun _ w h=>yb h fun _ w h=>zn<|zk ?_
     refine yC h (fun h=>?_) fun h=>?_
     · refine sim_skip<|zk<|zs<|sim_block<|zr<|zm<|yv h fun _ w h=>yv h fun _ w h=>zm<|yv h fun _ w h=>yv h fun _ w h=>yv h fun _ w h=>zm<|yv h fun _ w h=>yv h fun _ w h=>?_
       exact yc h c64 fun _ w h=>yb h fun _ w h=>zm<|zn<|sim_block_normal<|zk<|zr<|zm<|yb h fun _ w h=>zm<|zn<|zk<|⟨rfl,h⟩
     refine sim_exit<|sim_then_exit<|sim_then_exit<|sim_block_hit<|sim_block_normal<|zk ?_
     exact zt hkK2 h
   exact zk<|zr<|zm<|yb h fun _ w h=>zm<|zn<|zk<|⟨rfl,h⟩
 exact sim_exit<|sim_then_exit<|sim_then_exit<|sim_block_hit<|zk<|zs<|zr<|zm<|zm<|zn<|zk<|sim_ret<|body_ret1 rfl rfl h
def n30c1 (t3 t4 t14:Value) (next1:KW) (R:RT) (w:World):Prop :=
 opV Pg (binS .geq 3 true t14 (.int .i64 0)) (panK R) w fun t15 w =>
 joinK (fun (t3:Value) (w:World) =>
 opV Pg (binS .add 3 true t4 (.int .i64 1)) (panK R) w fun t11 w =>
 next1 t3 t11 w) fun K2 =>
 condP t15 (
 opV Pg (binS .add 3 true t3 (.int .i64 1)) (panK R) w fun t17 w =>
 K2 t17 w) (
 K2 t3 w)
def n30c2 (t1 t3 t4:Value) (next1:KW) (R:RT) (w:World):Prop :=
 opV Pg (Instr.fieldAt 53 t1 1) (panK R) w fun t6 w =>
 opV Pg (Instr.loadAt 51 t6) (panK R) w fun t7 w =>
 opV Pg (Builtin.len_ #[51] 3 #[t7]) (panK R) w fun t8 w =>
 opV Pg (binS .lss 3 false t4 t8) (panK R) w fun t9 w =>
 condP t9 (
 opV Pg (Instr.loadAt 53 t1) (panK R) w fun t12 w =>
 callK Pg 35 #[t12,t4] (panK R) w fun t14 w =>
 n30c1 t3 t4 t14 next1 R w) (
 R (.returned t3) w)
def n30 (t0:Value) (R:RT) (w:World):Prop :=
 opV Pg (Instr.box 53 t0) (panK R) w fun t1 w =>
 loop2 (fun t3 t4 w next1 =>
 n30c2 t1 t3 t4 next1 R w) (.int .i64 0) (.int .i64 0) w
theorem n30s {t0:Value} {R:RT} {w:World} (h:n30 t0 R w):Calls Pg 29 #[t0] w R:=by
 refine yD Tryz.func29 ?_
 refine zs<|zr<|yv h fun _ w h=>zm<|zn<|zk<|zs<|zr<|zm<|zn<|zk<|zs<|zs<|zr<|zm ?_
 refine zn<|zk<|sim_block<|yl2 [3,4,5,6,7,8,9,10,11,12,13,14,15,16,17] 3 4 h fun σ w next h=>zs<|zs<|zr<|zm<|yv h fun _ w h=>yv h fun _ w h=>yx h fun _ w h=>yb h fun _ w h=>zn<|zk<|yC h (fun h=>?_) fun h=>?_
 · refine sim_skip<|zk<|zs<|sim_block<|zs<|zr<|yv h fun _ w h=>zm<|yc h c35 fun _ w h=>yb h fun _ w h=>zn<|zk<|yJ1 [3,16,17] 3 h (fun _ _ hkK2 h=>?_) fun σ w h=>?_
   · refine yC h (fun h=>?_) fun h=>?_
     · refine zr<|zm<|yb h fun _ w h=>zm<|zn<|zk ?_
       exact zt hkK2 h
     refine sim_skip<|zk ?_
     exact zt hkK2 h
   exact sim_block_normal<|zk<|zr<|zm<|yb h fun _ w h=>zm<|zn<|zk<|⟨rfl,h⟩
 exact sim_exit<|sim_then_exit<|sim_then_exit<|sim_block_hit<|zk<|zs<|zr<|zm<|zm<|zn<|zk<|sim_ret<|body_ret1 rfl rfl h
def n19 (R:RT) (w:World):Prop :=
 opV Pg (Instr.alloc 24 true (.tuple #[])) (panK R) w fun t0 w =>
 opV Pg (Instr.build 71 #[(0,(.string { data := #[120] })),(1,(.int .i64 1)),(2,(.int .i64 8)),(6,(.int .i64 1))]) (panK R) w fun t4 w =>
 opV Pg (Instr.buildSlice 51 1 #[(0,t4)]) (panK R) w fun t5 w =>
 opV Pg (Instr.build 53 #[(0,(.string { data := #[97] })),(1,t5)]) (panK R) w fun t6 w =>
 opV Pg (Instr.alloc 53 true (.tuple #[])) (panK R) w fun t1 w =>
 opU Pg (Instr.storeAt 53 t1 t6) (panK R) w fun w =>
 opV Pg (Instr.build 71 #[(0,(.string { data := #[122] })),(1,(.int .i64 2)),(2,(.int .i64 8))]) (panK R) w fun t7 w =>
 opV Pg (Instr.buildSlice 51 1 #[(0,t7)]) (panK R) w fun t8 w =>
 opV Pg (Instr.build 53 #[(0,(.string { data := #[98] })),(1,t8)]) (panK R) w fun t9 w =>
 opV Pg (Instr.alloc 53 true (.tuple #[])) (panK R) w fun t2 w =>
 opU Pg (Instr.storeAt 53 t2 t9) (panK R) w fun w =>
 opV Pg (Instr.build 71 #[(0,(.string { data := #[110] })),(1,(.int .i64 1)),(2,(.int .i64 8)),(6,(.int .i64 3))]) (panK R) w fun t10 w =>
 opV Pg (Instr.build 71 #[(0,(.string { data := #[116] })),(1,(.int .i64 2)),(2,(.int .i64 8)),(5,(.int .i64 2))]) (panK R) w fun t11 w =>
 opV Pg (Instr.build 113 #[(0,(.string { data := #[110] })),(1,(.int .i64 1))]) (panK R) w fun t12 w =>
 opV Pg (Instr.buildSlice 66 1 #[(0,t12)]) (panK R) w fun t13 w =>
 opV Pg (Instr.build 68 #[(1,t13)]) (panK R) w fun t14 w =>
 opV Pg (Instr.build 71 #[(0,(.string { data := #[108] })),(1,(.int .i64 7)),(8,(.string { data := #[97] })),(7,t14)]) (panK R) w fun t15 w =>
 opV Pg (Instr.build 85 #[(0,(.int .i64 2)),(1,(.int .i64 2)),(2,(.string { data := #[97] }))]) (panK R) w fun t16 w =>
 opV Pg (Instr.buildSlice 69 1 #[(0,t16)]) (panK R) w fun t17 w =>
 opV Pg (Instr.build 71 #[(0,(.string { data := #[99] })),(1,(.int .i64 9)),(9,(.string { data := #[116] })),(11,t17)]) (panK R) w fun t18 w =>
 opV Pg (Instr.buildSlice 51 4 #[(0,t10),(1,t11),(2,t15),(3,t18)]) (panK R) w fun t19 w =>
 opV Pg (Instr.build 53 #[(0,(.string { data := #[115] })),(1,t19)]) (panK R) w fun t20 w =>
 opV Pg (Instr.alloc 53 true (.tuple #[])) (panK R) w fun t3 w =>
 opU Pg (Instr.storeAt 53 t3 t20) (panK R) w fun w =>
 opV Pg (Instr.loadAt 53 t1) (panK R) w fun t21 w =>
 opV Pg (Instr.loadAt 53 t2) (panK R) w fun t22 w =>
 opV Pg (Instr.loadAt 53 t3) (panK R) w fun t23 w =>
 opV Pg (Instr.buildSlice 22 3 #[(0,t21),(1,t22),(2,t23)]) (panK R) w fun t24 w =>
 opV Pg (Instr.build 24 #[(0,(.string { data := #[100] })),(1,t24),(2,(.string { data := #[115] }))]) (panK R) w fun t25 w =>
 opU Pg (Instr.storeAt 24 t0 t25) (panK R) w fun w =>
 qW Pg 24 t0 w fun r0 =>
 R (.returned r0) w
theorem n19s {R:RT} {w:World} (h:n19 R w):Calls Pg 30 #[] w R:=by
 refine yD Tryz.func30 ?_
 refine zs<|zr<|yv h fun _ w h=>zn<|zk<|zs<|zr<|yB h fun _ w h=>yS h fun _ w h=>yB h fun _ w h=>yv h fun _ w h=>yu h fun w h=>zn<|zk<|zs ?_
 refine zr<|yB h fun _ w h=>yS h fun _ w h=>yB h fun _ w h=>yv h fun _ w h=>yu h fun w h=>zn<|zk<|zs<|zr<|yB h fun _ w h=>yB h fun _ w h=>yB h fun _ w h=>yS h fun _ w h=>yB h fun _ w h=>?_
 refine yB h fun _ w h=>yB h fun _ w h=>yS h fun _ w h=>yB h fun _ w h=>yS h fun _ w h=>yB h fun _ w h=>yv h fun _ w h=>yu h fun w h=>zn<|zk<|zs<|zr<|yv h fun _ w h=>yv h fun _ w h=>yv h fun _ w h=>?_
 exact yS h fun _ w h=>yB h fun _ w h=>yu h fun w h=>zn<|zk<|sim_ret<|body_retC rfl rfl h
def numberB (f:FieldD):Bool:=f.kind == 1||f.kind == 2||f.kind == 3
def highOf (f:FieldD):Int:=if f.kind == 2 then f.low else f.high
abbrev rangeVal (lo hi:Int):Value := .agg #[.int .i64 lo,.int .i64 hi]
theorem Number_ret (w0:World) (v:Value) (f:FieldD) (hf:FieldVal w0 v f):Ret Pg 76 #[v] w0 fun r w'=>r = .bool (numberB f)∧Ext w0 w':=by
 obtain ⟨tv,cv,rfl,hT,hC⟩:=hf
 refine n69s (R:=retR _) ?_;unfold n69
 simp (disch:=try exact DI) only [↓PR,QR,simprocAttr,↓n69c1]
 exact ⟨by first | trivial | rfl,ee⟩
theorem rNumber_ret (w0:World) (v:Value) (f:FieldD) (hf:FieldVal w0 v f):Ret Pg 69 #[v] w0 fun r w'=>r = .bool (numberB f)∧Ext w0 w':=by
 obtain ⟨tv,cv,rfl,hT,hC⟩:=hf
 refine n26s (R:=retR _) ?_;unfold n26
 simp (disch:=try exact DI) only [↓PR,QR,simprocAttr,Sw.joinK_eq]
 refine ⟨?_,(Ext.refl _).alloc _⟩
 congr 1
 unfold numberB
 rw [Bool.eq_iff_iff]
 simp
 omega
theorem Range_ret (w0:World) (v:Value) (f:FieldD) (hf:FieldVal w0 v f):Ret Pg 173 #[v] w0 fun r w'=>r = .tuple #[if numberB f then rangeVal f.low (highOf f) else rangeVal 0 0,.int .i64 (if numberB f then 0 else 2)]∧Ext w0 w':=by
 obtain ⟨tv,cv,rfl,hT,hC⟩:=hf
 refine n70s (R:=retR _) ?_;unfold n70
 simp (disch:=try exact DI) only [↓PR,QR,simprocAttr,↓n70c1,↓n70c2,↓n70c3,↓n70c4]
 refine zcr (Number_ret _ _ f ⟨tv,cv,rfl,TermsOf.ext hT ee,CasesOf.ext hC ee⟩) fun w1 e1=>?_
 have s1:=e1.size
 try simp only [World.size_alloc,World.size_setCell,World.size_drew,World.putObj_size,Sw.putW_size] at s1
 cases hn:numberB f with
 | false =>
  simp (disch:=try exact DI) only [↓PR,QR,simprocAttr,↓n70c1,↓n70c2,↓n70c3,↓n70c4,e1.cellQ,e1.frozenQ]
  exact ⟨by first | trivial | rfl,ee⟩
 | true =>
  simp (disch:=try exact DI) only [↓PR,QR,simprocAttr,↓n70c1,↓n70c2,↓n70c3,↓n70c4,e1.cellQ,e1.frozenQ]
  unfold highOf
  cases f.kind == 2
  · simp (disch:=try exact DI) only [↓PR,QR,simprocAttr,↓n70c1,↓n70c2,↓n70c3,↓n70c4,e1.cellQ,e1.frozenQ]
    exact ⟨by first | trivial | rfl,ee⟩
  · simp (disch:=try exact DI) only [↓PR,QR,simprocAttr,↓n70c1,↓n70c2,↓n70c3,↓n70c4,e1.cellQ,e1.frozenQ]
    exact ⟨by first | trivial | rfl,ee⟩
theorem found_Message_ret (w0:World) (v:Value) (l:List MsgD) (g:FuncId) (caps:Array Value) (p:MsgD→Bool) (hs:MsgsOf w0 v l) (hg:Callable Pg g) (hc:Tests w0 MsgVal g caps p l) :
 Ret Pg 60 #[v,.func (.func g) #[] caps] w0 fun r w'=>r = .tuple #[.int .i64 (if idx p l < 0 then 0 else idx p l),.bool (l.any p)]∧Ext w0 w':=by
 refine n86s (R:=retR _) ?_;unfold n86
 refine zcr (IndexFunc_Message_ret _ _ l g caps p hs hg hc) fun w1 e1=>?_
 have s1:=e1.size
 try simp only [World.size_alloc,World.size_setCell,World.size_drew,World.putObj_size,Sw.putW_size] at s1
 simp (disch:=try exact DI) only [↓PR,QR,simprocAttr,↓n86c1]
 exact ⟨by rw [idx_neg],e1⟩
theorem found_Field_ret (w0:World) (v:Value) (l:List FieldD) (g:FuncId) (caps:Array Value) (p:FieldD→Bool) (hs:FieldsOf w0 v l) (hg:Callable Pg g) (hc:Tests w0 FieldVal g caps p l) :
 Ret Pg 111 #[v,.func (.func g) #[] caps] w0 fun r w'=>r = .tuple #[.int .i64 (if idx p l < 0 then 0 else idx p l),.bool (l.any p)]∧Ext w0 w':=by
 refine n85s (R:=retR _) ?_;unfold n85
 refine zcr (IndexFunc_Field_ret _ _ l g caps p hs hg hc) fun w1 e1=>?_
 have s1:=e1.size
 try simp only [World.size_alloc,World.size_setCell,World.size_drew,World.putObj_size,Sw.putW_size] at s1
 simp (disch:=try exact DI) only [↓PR,QR,simprocAttr,↓n85c1]
 exact ⟨by rw [idx_neg],e1⟩
def idx0 {α:Type} (p:α→Bool) (l:List α):Int:=if idx p l < 0 then 0 else idx p l
theorem FieldS1_ret (w0:World) (v:Value) (f:FieldD) (pb:Nat) (s:ByteArray) (hf:FieldVal w0 v f) (hp:w0.cell? ⟨pb,0,none⟩=some (.string s)):Ret Pg 112 #[v,.pointer (some ⟨pb,0,none⟩)] w0 fun r w'=>r = .bool (decide (f.name=s))∧Ext w0 w':=by
 obtain ⟨tv,cv,rfl,hT,hC⟩:=hf
 have hb:=World.block_lt_of_cell? w0 _ hp
 simp only at hb
 refine n66s (R:=retR _) ?_;unfold n66
 simp (disch:=try exact DI) only [↓PR,QR,simprocAttr,Sw.joinK_eq,hp]
 exact ⟨by first | trivial | rfl,ee⟩
theorem FindS1_ret (w0:World) (v:Value) (m:MsgD) (pb:Nat) (s:ByteArray) (hf:MsgVal w0 v m) (hp:w0.cell? ⟨pb,0,none⟩=some (.string s)):Ret Pg 61 #[v,.pointer (some ⟨pb,0,none⟩)] w0 fun r w'=>r = .bool (decide (m.name=s))∧Ext w0 w':=by
 obtain ⟨fv,rfl,hF⟩:=hf
 have hb:=World.block_lt_of_cell? w0 _ hp
 simp only at hb
 refine n68s (R:=retR _) ?_;unfold n68
 simp (disch:=try exact DI) only [↓PR,QR,simprocAttr,Sw.joinK_eq,hp]
 exact ⟨by first | trivial | rfl,ee⟩
theorem Field_ret (w0:World) (v:Value) (m:MsgD) (s:ByteArray) (hm:MsgVal w0 v m):Ret Pg 91 #[v,.string s] w0 fun r w'=>r = .tuple #[.int .i64 (idx0 (fun f=>decide (f.name=s)) m.fields),.bool (m.fields.any fun f=>decide (f.name=s))]∧Ext w0 w':=by
 obtain ⟨fv,rfl,hF⟩:=hm
 refine n65s (R:=retR _) ?_;unfold n65
 simp (disch:=try exact DI) only [↓PR,QR,simprocAttr,Sw.joinK_eq]
 refine callK_ret (found_Field_ret _ _ m.fields _ _ (fun f=>decide (f.name=s)) (hF.ext ee) c112 ?_) ?_
 · intro w v f hf e hv
   exact FieldS1_ret w v f _ s hv (e.cell (by simp (disch:=try exact DI) only [↓PR,QR,simprocAttr]))
 rintro _ w1 ⟨rfl,e1⟩
 simp (disch:=try exact DI) only [↓PR,QR,simprocAttr,Sw.joinK_eq]
 exact ⟨by first | trivial | rfl,ee⟩
theorem Find_ret (w0:World) (v:Value) (d:DefD) (s:ByteArray) (hd:DefVal w0 v d):Ret Pg 26 #[v,.string s] w0 fun r w'=>r = .tuple #[.int .i64 (idx0 (fun m=>decide (m.name=s)) d.msgs),.bool (d.msgs.any fun m=>decide (m.name=s))]∧Ext w0 w':=by
 obtain ⟨fv,rfl,hF⟩:=hd
 refine n67s (R:=retR _) ?_;unfold n67
 simp (disch:=try exact DI) only [↓PR,QR,simprocAttr,Sw.joinK_eq]
 refine callK_ret (found_Message_ret _ _ d.msgs _ _ (fun m=>decide (m.name=s)) (hF.ext ee) c61 ?_) ?_
 · intro w v f hf e hv
   exact FindS1_ret w v f _ s hv (e.cell (by simp (disch:=try exact DI) only [↓PR,QR,simprocAttr]))
 rintro _ w1 ⟨rfl,e1⟩
 simp (disch:=try exact DI) only [↓PR,QR,simprocAttr,Sw.joinK_eq]
 exact ⟨by first | trivial | rfl,ee⟩
end Go.Proofs.YtfdecdnmooaegaaGreatDoor
