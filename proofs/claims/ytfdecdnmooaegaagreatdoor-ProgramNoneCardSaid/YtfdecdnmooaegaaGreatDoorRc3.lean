/-
  Lemmas for the claim.
-/
import Derived.Test.YtfdecdnmooaegaaGreatDoorRc2
set_option linter.all false
set_option maxHeartbeats 4000000
set_option maxRecDepth 100000
namespace Go.Proofs.YtfdecdnmooaegaaGreatDoor
open Sw
def n124 (t0 t1:Value) (R:RT) (w:World):Prop :=
 callK Pg 116 #[t0,t1] (panK R) w fun t7 w =>
 opV Pg (binS .geq 3 true t7 (.int .i64 0)) (panK R) w fun t8 w =>
 R (.returned t8) w
theorem n124s {t0 t1:Value} {R:RT} {w:World} (h:n124 t0 t1 R w):Calls Pg 99 #[t0,t1] w R:=by
 refine yD Tryz.func99 ?_
 refine zs<|zr<|zm<|zn<|zk<|zs<|zr<|zm<|zm<|yc h c116 fun _ w h=>yb h fun _ w h=>zm<|zn<|zk<|sim_ret ?_
 exact body_ret1 rfl rfl h
def n51 (t0 t1:Value) (R:RT) (w:World):Prop :=
 opV Pg (Instr.box 113 t0) (panK R) w fun t2 w =>
 opV Pg (Instr.fieldAt 113 t2 0) (panK R) w fun t4 w =>
 opV Pg (Instr.loadAt 9 t4) (panK R) w fun t5 w =>
 opV Pg (Instr.loadAt 9 t1) (panK R) w fun t6 w =>
 opV Pg (binS .eql 9 false t5 t6) (panK R) w fun t7 w =>
 R (.returned t7) w
theorem n51s {t0 t1:Value} {R:RT} {w:World} (h:n51 t0 t1 R w):Calls Pg 100 #[t0,t1] w R:=by
 refine yD Tryz.func100 ?_
 refine zs<|zr<|yv h fun _ w h=>zm<|zn<|zk<|zs<|zr<|yv h fun _ w h=>yv h fun _ w h=>yv h fun _ w h=>yb h fun _ w h=>zm<|zn<|zk ?_
 exact sim_ret<|body_ret1 rfl rfl h
def n74c1 (t0 t1 t3:Value) (K1:World→Prop) (R:RT) (w:World):Prop :=
 opV Pg (Instr.typeAssert t3 20 92 true) (panK R) w fun t8 w =>
 opV Pg (Instr.extract t8 0) (panK R) w fun t9 w =>
 opV Pg (Instr.extract t8 1) (panK R) w fun t10 w =>
 opU Pg (Instr.storeAt 92 t0 t9) (panK R) w fun w =>
 opU Pg (Instr.storeAt 4 t1 t10) (panK R) w fun w =>
 opV Pg (Instr.loadAt 4 t1) (panK R) w fun t11 w =>
 opV Pg (Op.unary .not t11) (panK R) w fun t12 w =>
 condP t12 (
 opV Pg (Instr.panic t3) (panK R) w fun _ w =>
 False) (
 K1 w)
def n74 (t0 t1 t3:Value) (R:RT) (w:World):Prop :=
 opV Pg (binS .neq 20 true t3 .nilIface) (panK R) w fun t5 w =>
 joinK (fun (w:World) =>
 R (.returned (.tuple #[])) w) fun K1 =>
 condP t5 (
 n74c1 t0 t1 t3 K1 R w) (
 K1 w)
theorem n74s {t0 t1:Value} {u:FrameMode} {R:Ending→FrameMode→World→Prop} {w:World} (h:n74 t0 t1 (Sw.recM u).1 (fun e w=>R e (Sw.recM u).2 w) w):CallsDIn Fence.wide 0 Pg 104 #[t0,t1] u w R:=by
 refine calls_of_denR (args:=[t0,t1]) (d:=3) Tryz.func104 rfl (Nat.le_of_ble_eq_true rfl) rfl rfl rfl rfl ?_
 generalize (recM u).1=t3 at h ⊢
 generalize hR:(fun e w=>R e (recM u).2 w)=R' at h ⊢
 clear hR
 revert h
 generalize R'=R
 intro h
 unfold n74 at h
 refine zm<|zn<|zs<|zr<|zm<|yb h fun _ w h=>zn<|zk<|yJ0 [6,7,8,9,10,11,12,13] h (fun _ _ hkK1 h=>?_) fun σ w h=>?_
 · refine yC h (fun h=>?_) fun h=>?_
   · refine zs<|zr<|zm<|yv h fun _ w h=>zm<|yv h fun _ w h=>yv h fun _ w h=>yu h fun w h=>yu h fun w h=>zn<|zk<|zs<|zr<|yv h fun _ w h=>yv h fun _ w h=>?_
     refine zn<|zk<|yC h (fun h=>zr<|zm<|yv h fun _ w h=>zn<|h.elim) fun h=>sim_skip<|zk ?_
     exact zt hkK1 h
   refine sim_skip<|zk ?_
   exact zt hkK1 h
 exact body_normal<|body_ret0 rfl h
def n68c1 (t0 t2:Value) (C1:World→Prop) (R:RT) (w:World):Prop :=
 qN Pg C1 (nilN t0) fun t9 =>
 qV Pg C1 (Instr.fieldAt 175 t9 3) fun t10 =>
 qV Pg C1 (Instr.loadAt 3 t10) fun t11 =>
 qN Pg C1 (nilN t0) fun t13 =>
 qV Pg C1 (Instr.fieldAt 175 t13 4) fun t14 =>
 qV Pg C1 (Instr.loadAt 3 t14) fun t15 =>
 qV Pg C1 (Instr.build 92 #[(0,t11),(1,t15),(2,t2)]) fun t17 =>
 qV Pg C1 (Instr.makeInterface 92 t17) fun t18 =>
 opV Pg (Instr.panic t18) (panK R) w fun _ w =>
 False
def n68 (t0 t1 t2:Value) (R:RT) (w:World):Prop :=
 opV Pg (Op.unary .not t1) (panK R) w fun t7 w =>
 condP t7 (
 drawK w fun C1 w =>
 n68c1 t0 t2 C1 R w) (
 R (.returned (.tuple #[])) w)
theorem n68s {t0 t1 t2:Value} {R:RT} {w:World} (h:n68 t0 t1 t2 R w):Calls Pg 105 #[t0,t1,t2] w R:=by
 refine yD Tryz.func105 ?_
 refine zs<|zr<|zm<|yv h fun _ w h=>zn<|zk<|yC h (fun h=>?_) fun h=>?_
 · refine yh [8,9,10,11,12,13,14,15,16,17,18] h fun C hC h=>yw 0 hC ?_
   refine yn 1 hC h fun _ h=>?_
   refine ye 2 hC h fun _ h=>?_
   refine ye 3 hC h fun _ h=>?_
   refine yw 4 hC ?_
   refine yn 5 hC h fun _ h=>?_
   refine ye 6 hC h fun _ h=>?_
   refine ye 7 hC h fun _ h=>?_
   refine yw 8 hC ?_
   refine ye 9 hC h fun _ h=>?_
   refine ye 10 hC h fun _ h=>?_
   refine yo 11 ?_
   exact yv h fun _ w h=>zn<|h.elim
 exact sim_skip<|body_normal<|body_ret0 rfl h
def n107c1 (t0 t11 t15:Value) (R:RT) (w:World):Prop :=
 pickK t11 t15 (.bool false) fun t16 =>
 joinK (fun (t22:Value) (w:World) =>
 pickK t16 t22 (.bool false) fun t23 =>
 R (.returned t23) w) fun K2 =>
 guardP t16 true (
 opV Pg (Go.convert 9 126 t0) (panK R) w fun t19 w =>
 callK Pg 125 #[t19,(.func (.func 121) #[] #[])] (panK R) w fun t21 w =>
 opV Pg (Op.unary .not t21) (panK R) w fun t22 w =>
 K2 t22 w) (
 K2 undef w)
def n107c2 (t0 t11:Value) (R:RT) (w:World):Prop :=
 joinK (fun (t15:Value) (w:World) =>
 n107c1 t0 t11 t15 R w) fun K1 =>
 guardP t11 true (
 opV Pg (Instr.index 9 t0 (.int .i64 0)) (panK R) w fun t14 w =>
 callK Pg 122 #[t14] (panK R) w fun t15 w =>
 K1 t15 w) (
 K1 undef w)
def n107 (t0:Value) (R:RT) (w:World):Prop :=
 opV Pg (Builtin.len_ #[9] 3 #[t0]) (panK R) w fun t5 w =>
 opV Pg (binS .geq 3 true t5 (.int .i64 1)) (panK R) w fun t6 w =>
 opV Pg (Builtin.len_ #[9] 3 #[t0]) (panK R) w fun t8 w =>
 opV Pg (binS .leq 3 true t8 (.int .i64 32)) (panK R) w fun t9 w =>
 opV Pg (Instr.buildSlice 75 2 #[(0,t6),(1,t9)]) (panK R) w fun t10 w =>
 callK Pg 124 #[t10] (panK R) w fun t11 w =>
 n107c2 t0 t11 R w
theorem n107s {t0:Value} {R:RT} {w:World} (h:n107 t0 R w):Calls Pg 106 #[t0] w R:=by
 refine yD Tryz.func106 ?_
 refine zs<|zr<|zm<|zn<|zk<|zs<|zr<|zm<|zn<|zk<|zs<|sim_regionG<|yG 9<|zm<|yx h fun _ w h=>?_
 refine yb h fun _ w h=>zm<|yx h fun _ w h=>yb h fun _ w h=>yS h fun _ w h=>yc h c124 fun _ w h=>zm<|zn<|yg1 3 8 true [13,14,15] 15 h (fun _ T hT h=>?_) fun σ w h=>?_
 · refine zm<|yv h fun _ w h=>yc h c122 fun _ w h=>zn ?_
   exact zt hT h
 refine yG 2<|yp h fun _ h=>zm<|zn<|yg1 5 13 true [18,19,20,21,22] 22 h (fun _ T hT h=>?_) fun σ w h=>?_
 · refine zm<|yv h fun _ w h=>zm<|yc h c125 fun _ w h=>yv h fun _ w h=>zn ?_
   exact zt hT h
 exact yG 2<|yp h fun _ h=>zm<|zn<|sim_end<|zk<|sim_ret<|body_ret1 rfl rfl h
def n69c1 (t6 t52 t64 t68:Value) (next6:KV) (ds:List Deferred) (R:RT) (w:World):Prop :=
 pickK t64 t68 (.bool false) fun t69 =>
 opU Pg (Instr.storeAt 4 t6 t69) (outQ Pg ds [] R) w fun w =>
 opV Pg (binS .add 3 true t52 (.int .i64 1)) (outQ Pg ds [] R) w fun t70 w =>
 next6 t70 w
def n69c2 (t6 t8 t52:Value) (next6:KV) (ds:List Deferred) (R:RT) (w:World):Prop :=
 opV Pg (Instr.loadAt 4 t6) (outQ Pg ds [] R) w fun t64 w =>
 joinK (fun (t68:Value) (w:World) =>
 n69c1 t6 t52 t64 t68 next6 ds R w) fun K7 =>
 guardP t64 true (
 opV Pg (Instr.fieldAt 71 t8 4) (outQ Pg ds [] R) w fun t66 w =>
 opV Pg (Instr.loadAt 4 t66) (outQ Pg ds [] R) w fun t67 w =>
 opV Pg (Op.unary .not t67) (outQ Pg ds [] R) w fun t68 w =>
 K7 t68 w) (
 K7 undef w)
def n69c3 (t2 t6 t76:Value) (Kr8:World→Prop) (Qr8:List PanicEntry→World→Prop) (R:RT) (w:World):Prop :=
 opV Pg (Instr.loadAt 4 t6) Qr8 w fun t85 w =>
 joinK (fun (t92:Value) (w:World) =>
 pickK t85 t92 (.bool false) fun t93 =>
 opU Pg (Instr.storeAt 4 t6 t93) Qr8 w fun w =>
 Kr8 w) fun K11 =>
 guardP t85 true (
 opV Pg (Instr.loadAt 151 t2) Qr8 w fun t87 w =>
 opN Pg (nilN t87) Qr8 w fun t88 w =>
 opV Pg (Instr.fieldAt 175 t88 2) Qr8 w fun t89 w =>
 opV Pg (Instr.loadAt 99 t89) Qr8 w fun t90 w =>
 opV Pg (Instr.lookup 99 t90 t76 false) Qr8 w fun t92 w =>
 K11 t92 w) (
 K11 undef w)
def n69c4 (t2 t6 t9 t76:Value) (C9:World→Prop) (Kr8:World→Prop) (Qr8:List PanicEntry→World→Prop) (R:RT) (w:World):Prop :=
 qV Pg C9 (Instr.loadAt 3 t9) fun t77 =>
 qV Pg C9 (Instr.loadAt 151 t2) fun t78 =>
 qN Pg C9 (nilN t78) fun t79 =>
 qV Pg C9 (Instr.fieldAt 175 t79 1) fun t80 =>
 qV Pg C9 (Instr.loadAt 59 t80) fun t81 =>
 qV Pg C9 (Instr.lookup 59 t81 t76 false) fun t83 =>
 qV Pg C9 (Builtin.max_ #[3,3] 3 #[t77,t83]) fun t84 =>
 opU Pg (Instr.storeAt 3 t9 t84) Qr8 w fun w =>
 turnK w fun C10 w =>
 n69c3 t2 t6 t76 Kr8 Qr8 R w
def n69c5 (t2 t9:Value) (ds:List Deferred) (R:RT) (w:World):Prop :=
 opV Pg (Instr.loadAt 151 t2) (outQ Pg ds [] R) w fun t113 w =>
 opV Pg (Instr.loadAt 3 t9) (outQ Pg ds [] R) w fun t114 w =>
 opV Pg (binS .lss 3 true t114 (.int .i64 16)) (outQ Pg ds [] R) w fun t115 w =>
 callK Pg 105 #[t113,t115,(.int .i64 10)] (outQ Pg ds [] R) w fun t116 w =>
 outX Pg ds [] R w
def n69c6 (t2 t9 t103 t108 t111:Value) (C12:World→Prop) (ds:List Deferred) (R:RT) (w:World):Prop :=
 qV Pg C12 (Instr.extract t111 1) fun t112 =>
 opU Pg (Instr.entryStore 99 t103 t112 t108) (outQ Pg ds [] R) w fun w =>
 turnK w fun C13 w =>
 n69c5 t2 t9 ds R w
def n69c7 (t2 t9 t97 t103 t105 t107 t108 t109:Value) (C12:World→Prop) (ds:List Deferred) (R:RT) (w:World):Prop :=
 qV Pg C12 (Instr.extract t109 1) fun t110 =>
 opU Pg (Instr.entryStore 59 t97 t110 t107) (outQ Pg ds [] R) w fun w =>
 C12 w∧(
 opV Pg (Instr.mapEntry 99 t103 t105) (outQ Pg ds [] R) w fun t111 w =>
 C12 w∧(
 n69c6 t2 t9 t103 t108 t111 C12 ds R w))
def n69c8 (t2 t3 t6 t9:Value) (C12:World→Prop) (ds:List Deferred) (R:RT) (w:World):Prop :=
 qV Pg C12 (Instr.loadAt 151 t2) fun t94 =>
 qN Pg C12 (nilN t94) fun t95 =>
 qV Pg C12 (Instr.fieldAt 175 t95 1) fun t96 =>
 qV Pg C12 (Instr.loadAt 59 t96) fun t97 =>
 qV Pg C12 (Instr.fieldAt 53 t3 0) fun t98 =>
 qV Pg C12 (Instr.loadAt 9 t98) fun t99 =>
 qV Pg C12 (Instr.loadAt 151 t2) fun t100 =>
 qN Pg C12 (nilN t100) fun t101 =>
 qV Pg C12 (Instr.fieldAt 175 t101 2) fun t102 =>
 qV Pg C12 (Instr.loadAt 99 t102) fun t103 =>
 qV Pg C12 (Instr.fieldAt 53 t3 0) fun t104 =>
 qV Pg C12 (Instr.loadAt 9 t104) fun t105 =>
 qV Pg C12 (Instr.loadAt 3 t9) fun t106 =>
 qV Pg C12 (binS .add 3 true t106 (.int .i64 1)) fun t107 =>
 qV Pg C12 (Instr.loadAt 4 t6) fun t108 =>
 opV Pg (Instr.mapEntry 59 t97 t99) (outQ Pg ds [] R) w fun t109 w =>
 C12 w∧(
 n69c7 t2 t9 t97 t103 t105 t107 t108 t109 C12 ds R w)
def n69c9 (t2 t3 t6 t9 t75:Value) (ds:List Deferred) (R:RT) (w:World):Prop :=
 rangeN Pg t75 ds (fun l8 t76 w Kr8 Xr8 Qr8 =>
 busyK l8 w fun w =>
 drawK w fun C9 w =>
 n69c4 t2 t6 t9 t76 C9 Kr8 Qr8 R w) (fun ch ds w=>outQ Pg ds [] R ch w) w (fun ds w =>
 drawK w fun C12 w =>
 n69c8 t2 t3 t6 t9 C12 ds R w) []
def n69c10 (t2 t3 t6:Value) (ds:List Deferred) (R:RT) (w:World):Prop :=
 opV Pg (Instr.loadAt 151 t2) (outQ Pg ds [] R) w fun t71 w =>
 opN Pg (nilN t71) (outQ Pg ds [] R) w fun t72 w =>
 opV Pg (Instr.fieldAt 175 t72 4) (outQ Pg ds [] R) w fun t73 w =>
 opU Pg (Instr.storeAt 3 t73 (.int .i64 (-1))) (outQ Pg ds [] R) w fun w =>
 opV Pg (Instr.alloc 3 true (.tuple #[])) (outQ Pg ds [] R) w fun t9 w =>
 opU Pg (Instr.storeAt 3 t9 (.int .i64 0)) (outQ Pg ds [] R) w fun w =>
 opV Pg (Instr.loadAt 53 t3) (outQ Pg ds [] R) w fun t74 w =>
 callK Pg 75 #[t74] (outQ Pg ds [] R) w fun t75 w =>
 n69c9 t2 t3 t6 t9 t75 ds R w
def n69c11 (t2 t6 t50 t52:Value) (next6:KV) (ds:List Deferred) (R:RT) (w:World):Prop :=
 opV Pg (Instr.indexAt 51 t50 t52) (outQ Pg ds [] R) w fun t55 w =>
 opV Pg (Instr.loadAt 71 t55) (outQ Pg ds [] R) w fun t56 w =>
 opV Pg (Instr.alloc 71 true (.tuple #[])) (outQ Pg ds [] R) w fun t8 w =>
 opU Pg (Instr.storeAt 71 t8 t56) (outQ Pg ds [] R) w fun w =>
 opV Pg (Instr.loadAt 151 t2) (outQ Pg ds [] R) w fun t57 w =>
 opN Pg (nilN t57) (outQ Pg ds [] R) w fun t59 w =>
 opV Pg (Instr.fieldAt 175 t59 4) (outQ Pg ds [] R) w fun t60 w =>
 opU Pg (Instr.storeAt 3 t60 t52) (outQ Pg ds [] R) w fun w =>
 opV Pg (Instr.loadAt 151 t2) (outQ Pg ds [] R) w fun t61 w =>
 opV Pg (Instr.loadAt 71 t8) (outQ Pg ds [] R) w fun t62 w =>
 callK Pg 126 #[t61,t62] (outQ Pg ds [] R) w fun t63 w =>
 n69c2 t6 t8 t52 next6 ds R w
def n69c12 (t2 t3 t6 t50 t51 t52:Value) (next6:KV) (ds:List Deferred) (R:RT) (w:World):Prop :=
 opV Pg (binS .lss 3 false t52 t51) (outQ Pg ds [] R) w fun t53 w =>
 condP t53 (
 n69c11 t2 t6 t50 t52 next6 ds R w) (
 n69c10 t2 t3 t6 ds R w)
def n69c13 (t2 t3:Value) (ds:List Deferred) (R:RT) (w:World):Prop :=
 opV Pg (Instr.alloc 4 true (.tuple #[])) (outQ Pg ds [] R) w fun t6 w =>
 opU Pg (Instr.storeAt 4 t6 (.bool true)) (outQ Pg ds [] R) w fun w =>
 opV Pg (Instr.fieldAt 53 t3 1) (outQ Pg ds [] R) w fun t49 w =>
 opV Pg (Instr.loadAt 51 t49) (outQ Pg ds [] R) w fun t50 w =>
 opV Pg (Builtin.len_ #[51] 3 #[t50]) (outQ Pg ds [] R) w fun t51 w =>
 loop1 (fun t52 w next6 =>
 n69c12 t2 t3 t6 t50 t51 t52 next6 ds R w) (.int .i64 0) w
def n69c14 (t2 t3:Value) (ds:List Deferred) (R:RT) (w:World):Prop :=
 opV Pg (Instr.loadAt 151 t2) (outQ Pg ds [] R) w fun t37 w =>
 opV Pg (Instr.fieldAt 53 t3 1) (outQ Pg ds [] R) w fun t38 w =>
 opV Pg (Instr.loadAt 51 t38) (outQ Pg ds [] R) w fun t39 w =>
 opV Pg (Builtin.len_ #[51] 3 #[t39]) (outQ Pg ds [] R) w fun t40 w =>
 opV Pg (binS .geq 3 true t40 (.int .i64 1)) (outQ Pg ds [] R) w fun t41 w =>
 joinK (fun (t46:Value) (w:World) =>
 pickK t41 t46 (.bool false) fun t47 =>
 callK Pg 105 #[t37,t47,(.int .i64 3)] (outQ Pg ds [] R) w fun t48 w =>
 n69c13 t2 t3 ds R w) fun K5 =>
 guardP t41 true (
 opV Pg (Instr.fieldAt 53 t3 1) (outQ Pg ds [] R) w fun t43 w =>
 opV Pg (Instr.loadAt 51 t43) (outQ Pg ds [] R) w fun t44 w =>
 opV Pg (Builtin.len_ #[51] 3 #[t44]) (outQ Pg ds [] R) w fun t45 w =>
 opV Pg (binS .leq 3 true t45 (.int .i64 40)) (outQ Pg ds [] R) w fun t46 w =>
 K5 t46 w) (
 K5 undef w)
def n69c15 (t2 t3:Value) (C4:World→Prop) (ds:List Deferred) (R:RT) (w:World):Prop :=
 qV Pg C4 (Instr.loadAt 151 t2) fun t24 =>
 qN Pg C4 (nilN t24) fun t25 =>
 qV Pg C4 (Instr.fieldAt 175 t25 1) fun t26 =>
 qV Pg C4 (Instr.loadAt 59 t26) fun t27 =>
 qV Pg C4 (Instr.fieldAt 53 t3 0) fun t28 =>
 qV Pg C4 (Instr.loadAt 9 t28) fun t29 =>
 qV Pg C4 (Instr.lookup 59 t27 t29 true) fun t30 =>
 qV Pg C4 (Instr.extract t30 0) fun t31 =>
 qV Pg C4 (Instr.extract t30 1) fun t32 =>
 opV Pg (Instr.loadAt 151 t2) (outQ Pg ds [] R) w fun t33 w =>
 opV Pg (Op.unary .not t32) (outQ Pg ds [] R) w fun t35 w =>
 callK Pg 105 #[t33,t35,(.int .i64 2)] (outQ Pg ds [] R) w fun t36 w =>
 n69c14 t2 t3 ds R w
def n69c16 (t2 t3:Value) (C3:World→Prop) (ds:List Deferred) (R:RT) (w:World):Prop :=
 qV Pg C3 (Instr.loadAt 151 t2) fun t18 =>
 qV Pg C3 (Instr.fieldAt 53 t3 0) fun t19 =>
 qV Pg C3 (Instr.loadAt 9 t19) fun t20 =>
 callK Pg 106 #[t20] (outQ Pg ds [] R) w fun t21 w =>
 C3 w∧(
 callK Pg 105 #[t18,t21,(.int .i64 1)] (outQ Pg ds [] R) w fun t22 w =>
 C3 w∧(
 drawK w fun C4 w =>
 n69c15 t2 t3 C4 ds R w))
def n69c17 (t2 t3 t12:Value) (C1:World→Prop) (ds:List Deferred) (R:RT) (w:World):Prop :=
 qN Pg C1 (nilN t12) fun t16 =>
 qV Pg C1 (Instr.fieldAt 175 t16 4) fun t17 =>
 opU Pg (Instr.storeAt 3 t17 (.int .i64 (-1))) (outQ Pg ds [] R) w fun w =>
 turnK w fun C2 w =>
 drawK w fun C3 w =>
 n69c16 t2 t3 C3 ds R w
def n69c18 (t2 t3:Value) (C1:World→Prop) (ds:List Deferred) (R:RT) (w:World):Prop :=
 qV Pg C1 (Instr.loadAt 151 t2) fun t11 =>
 qV Pg C1 (Instr.loadAt 151 t2) fun t12 =>
 qV Pg C1 (Instr.loadAt 53 t3) fun t13 =>
 qN Pg C1 (nilN t11) fun t14 =>
 qV Pg C1 (Instr.fieldAt 175 t14 5) fun t15 =>
 opU Pg (Instr.storeAt 53 t15 t13) (outQ Pg ds [] R) w fun w =>
 C1 w∧(
 n69c17 t2 t3 t12 C1 ds R w)
def n69 (t0 t1:Value) (R:RT) (w:World):Prop :=
 (fun (ds:List Deferred) =>
 opV Pg (Instr.box 151 t0) (outQ Pg ds [] R) w fun t2 w =>
 opV Pg (Instr.box 53 t1) (outQ Pg ds [] R) w fun t3 w =>
 drawK w fun C1 w =>
 n69c18 t2 t3 C1 ds R w) []
set_option maxHeartbeats 40000000 in
theorem n69s {t0 t1:Value} {R:RT} {w:World} (h:n69 t0 t1 R w):Calls Pg 107 #[t0,t1] w R:=by
 refine yE Tryz.func107 ?_
 unfold n69 at h
 dsimp only at h
 refine zs<|zr<|yv h fun _ w h=>yv h fun _ w h=>zn<|zk<|zs<|yh [11,12,13,14,15,16,17] h fun C hC h=>ye 0 hC h fun _ h=>?_
 refine ye 1 hC h fun _ h=>?_
 refine ye 2 hC h fun _ h=>?_
 refine yn 3 hC h fun _ h=>?_
 refine ye 4 hC h fun _ h=>?_
 refine yo 5 ?_
 refine yu h fun w h=>zn ?_
 obtain ⟨hC,h⟩:=h
 refine ⟨hC,?_⟩
 refine yn 6 hC h fun _ h=>?_
 refine ye 7 hC h fun _ h=>?_
 refine yq 8 2 ?_
 refine yu h fun w h=>zn ?_
 obtain ⟨C2,hC,h⟩:=h
 refine ⟨C2,hC,?_⟩
 refine yz<|zk<|zs<|yh [18,19,20,21,22] h fun C hC h=>ye 0 hC h fun _ h=>?_
 refine ye 1 hC h fun _ h=>?_
 refine ye 2 hC h fun _ h=>?_
 refine yo 3 ?_
 refine yc h c106 fun _ w h=>zn ?_
 obtain ⟨hC,h⟩:=h
 refine ⟨hC,?_⟩
 refine yo 4 ?_
 refine yc h c105 fun _ w h=>zn ?_
 obtain ⟨hC,h⟩:=h
 refine ⟨hC,?_⟩
 refine yz<|zk<|zs<|yh [4,5,23,24,25,26,27,28,29,30,31,32] h fun C hC h=>ye 0 hC h fun _ h=>?_
 refine yn 1 hC h fun _ h=>?_
 refine ye 2 hC h fun _ h=>?_
 refine ye 3 hC h fun _ h=>?_
 refine ye 4 hC h fun _ h=>?_
 refine ye 5 hC h fun _ h=>?_
 refine ye 6 hC h fun _ h=>?_
 refine yw 7 hC ?_
 refine ye 8 hC h fun _ h=>?_
 refine ye 9 hC h fun _ h=>?_
 refine yw 10 hC ?_
 refine yw 11 hC ?_
 refine yz<|zk<|zs<|zr<|yv h fun _ w h=>zm<|yv h fun _ w h=>yc h c105 fun _ w h=>zn<|zk<|zs<|sim_regionG<|yG 6<|yv h fun _ w h=>yv h fun _ w h=>?_
 refine yv h fun _ w h=>yx h fun _ w h=>yb h fun _ w h=>zm<|zn<|yg1 4 5 true [43,44,45,46] 46 h (fun _ T hT h=>?_) fun σ w h=>?_
 · refine yv h fun _ w h=>yv h fun _ w h=>yx h fun _ w h=>yb h fun _ w h=>zn ?_
   exact zt hT h
 refine yG 2<|yp h fun _ h=>yc h c105 fun _ w h=>zn<|sim_end<|zk<|zs<|zr<|yv h fun _ w h=>yu h fun w h=>zn<|zk<|zs<|zs<|zr ?_
 refine yv h fun _ w h=>yv h fun _ w h=>yx h fun _ w h=>zm<|zn<|zk<|sim_block<|yl1 [7,8,52,53,54,55,56,57,58,59,60,61,62,63,64,65,66,67,68,69,70] 52 h fun σ w next h=>zs<|zr<|yb h fun _ w h=>zn<|zk<|zs<|yC h (fun h=>?_) fun h=>?_
 · refine sim_skip<|zk<|zs<|sim_block<|zs<|zr<|zm<|yv h fun _ w h=>yv h fun _ w h=>yv h fun _ w h=>zm<|yu h fun w h=>zn<|zk<|zs ?_
   refine zr<|yv h fun _ w h=>zm<|yN h fun _ w h=>yv h fun _ w h=>yu h fun w h=>zn<|zk<|zs<|zr<|yv h fun _ w h=>yv h fun _ w h=>yc h c126 fun _ w h=>zn<|zk ?_
   refine sim_regionG<|yG 2<|yv h fun _ w h=>zm<|zn<|yg1 3 1 true [66,67,68] 68 h (fun _ T hT h=>?_) fun σ w h=>?_
   · refine yv h fun _ w h=>yv h fun _ w h=>yv h fun _ w h=>zn ?_
     exact zt hT h
   exact yG 2<|yp h fun _ h=>yu h fun w h=>zn<|sim_end<|sim_block_normal<|zk<|zr<|yb h fun _ w h=>zm<|zn<|zk<|⟨rfl,h⟩
 refine sim_exit<|sim_then_exit<|sim_then_exit<|sim_block_hit<|zk<|zs<|zr<|yv h fun _ w h=>yN h fun _ w h=>yv h fun _ w h=>yu h fun w h=>zn<|zk<|zs<|zr ?_
 refine yv h fun _ w h=>yu h fun w h=>zn<|zk<|zs<|zs<|zr<|yv h fun _ w h=>yc h c75 fun _ w h=>zn<|zk<|sim_block<|sim_range [] h rfl (fun l8 t76 w Kr8 Xr8 Qr8 h=>?_) (fun ds w h=>?_) (fun c ds w h=>?_) (fun ch ds w h=>outQ_of rfl h)
 · refine zr<|zm<|zn<|zk ?_
   obtain ⟨hr,h⟩:=h
   refine ⟨rfl,hr,fun w hb=>?_⟩
   have h:=h w hb
   refine sim_block<|zs<|yh [77,78,79,80,81,82,83,84] h fun C hC h=>ye 0 hC h fun _ h=>?_
   refine ye 1 hC h fun _ h=>?_
   refine yn 2 hC h fun _ h=>?_
   refine ye 3 hC h fun _ h=>?_
   refine ye 4 hC h fun _ h=>?_
   refine yw 5 hC ?_
   refine ye 6 hC h fun _ h=>?_
   refine ye 7 hC h fun _ h=>?_
   refine yq 8 1 ?_
   refine yu h fun w h=>zn ?_
   obtain ⟨C10,hC,h⟩:=h
   refine ⟨C10,hC,?_⟩
   refine yz<|zk<|sim_regionG<|yG 2<|yv h fun _ w h=>zm<|zn<|yg1 6 1 true [87,88,89,90,91,92] 92 h (fun _ T hT h=>?_) fun σ w h=>?_
   · refine yv h fun _ w h=>yN h fun _ w h=>yv h fun _ w h=>yv h fun _ w h=>zm<|yv h fun _ w h=>zn ?_
     exact zt hT h
   exact yG 2<|yp h fun _ h=>yu h fun w h=>zn<|sim_end<|sim_block_normal<|⟨rfl,h⟩
 · refine sim_block_normal<|zk<|zs<|yh [94,95,96,97,98,99,100,101,102,103,104,105,106,107,108,109,110,111,112] h fun C hC h=>ye 0 hC h fun _ h=>?_
   refine yn 1 hC h fun _ h=>?_
   refine ye 2 hC h fun _ h=>?_
   refine ye 3 hC h fun _ h=>?_
   refine ye 4 hC h fun _ h=>?_
   refine ye 5 hC h fun _ h=>?_
   refine ye 6 hC h fun _ h=>?_
   refine yn 7 hC h fun _ h=>?_
   refine ye 8 hC h fun _ h=>?_
   refine ye 9 hC h fun _ h=>?_
   refine ye 10 hC h fun _ h=>?_
   refine ye 11 hC h fun _ h=>?_
   refine ye 12 hC h fun _ h=>?_
   refine ye 13 hC h fun _ h=>?_
   refine ye 14 hC h fun _ h=>?_
   refine yo 15 ?_
   refine yv h fun _ w h=>zn ?_
   obtain ⟨hC,h⟩:=h
   refine ⟨hC,?_⟩
   refine ye 16 hC h fun _ h=>?_
   refine yo 17 ?_
   refine yu h fun w h=>zn ?_
   obtain ⟨hC,h⟩:=h
   refine ⟨hC,?_⟩
   refine yo 18 ?_
   refine yv h fun _ w h=>zn ?_
   obtain ⟨hC,h⟩:=h
   refine ⟨hC,?_⟩
   refine ye 19 hC h fun _ h=>?_
   refine yq 20 1 ?_
   refine yu h fun w h=>zn ?_
   obtain ⟨C13,hC,h⟩:=h
   refine ⟨C13,hC,?_⟩
   exact yz<|zk<|zr<|yv h fun _ w h=>yv h fun _ w h=>yb h fun _ w h=>yc h c105 fun _ w h=>zn<|bodyM_normal<|bodyM_ret rfl h
 exact h.elim
def n8 (t0 t1:Value) (R:RT) (w:World):Prop :=
 opV Pg (Instr.box 71 t0) (panK R) w fun t2 w =>
 opV Pg (Instr.fieldAt 71 t2 2) (panK R) w fun t6 w =>
 opV Pg (Instr.loadAt 3 t6) (panK R) w fun t7 w =>
 opV Pg (binS .add 3 false t1 t7) (panK R) w fun t8 w =>
 R (.returned t8) w
theorem n8s {t0 t1:Value} {R:RT} {w:World} (h:n8 t0 t1 R w):Calls Pg 108 #[t0,t1] w R:=by
 refine yD Tryz.func108 ?_
 refine zs<|zr<|yv h fun _ w h=>zm<|zn<|zk<|zs<|zr<|zm<|yv h fun _ w h=>yv h fun _ w h=>yb h fun _ w h=>zm<|zn<|zk ?_
 exact sim_ret<|body_ret1 rfl rfl h
def n9 (t0 t1:Value) (R:RT) (w:World):Prop :=
 opV Pg (Instr.box 71 t0) (panK R) w fun t2 w =>
 opV Pg (Instr.fieldAt 71 t2 2) (panK R) w fun t6 w =>
 opV Pg (Instr.loadAt 3 t6) (panK R) w fun t7 w =>
 callK Pg 110 #[t1,t7] (panK R) w fun t8 w =>
 R (.returned t8) w
theorem n9s {t0 t1:Value} {R:RT} {w:World} (h:n9 t0 t1 R w):Calls Pg 109 #[t0,t1] w R:=by
 refine yD Tryz.func109 ?_
 refine zs<|zr<|yv h fun _ w h=>zm<|zn<|zk<|zs<|zr<|zm<|yv h fun _ w h=>yv h fun _ w h=>yc h c110 fun _ w h=>zm<|zn<|zk ?_
 exact sim_ret<|body_ret1 rfl rfl h
def n13 (t0 t1:Value) (R:RT) (w:World):Prop :=
 opV Pg (binS .add 3 false t0 t1) (panK R) w fun t7 w =>
 opV Pg (binS .sub 3 true t7 (.int .i64 1)) (panK R) w fun t8 w =>
 opV Pg (binS .quo 3 false t8 t1) (panK R) w fun t10 w =>
 opV Pg (binS .mul 3 false t10 t1) (panK R) w fun t12 w =>
 R (.returned t12) w
theorem n13s {t0 t1:Value} {R:RT} {w:World} (h:n13 t0 t1 R w):Calls Pg 110 #[t0,t1] w R:=by
 refine yD Tryz.func110 ?_
 refine zs<|zr<|zm<|zn<|zk<|zs<|zr<|zm<|zm<|yb h fun _ w h=>yb h fun _ w h=>zm<|yb h fun _ w h=>zm<|yb h fun _ w h=>?_
 exact zm<|zn<|zk<|sim_ret<|body_ret1 rfl rfl h
def n75c1 (t9:Value) (R:RT) (w:World):Prop :=
 opV Pg (Builtin.max_ #[3,3] 3 #[t9,(.int .i64 0)]) (panK R) w fun t11 w =>
 opV Pg (binS .geq 3 true t9 (.int .i64 0)) (panK R) w fun t13 w =>
 R (.returned (.tuple #[t11,t13])) w
def n75 (t0 t1:Value) (R:RT) (w:World):Prop :=
 callK Pg 115 #[t0,t1] (panK R) w fun t9 w =>
 n75c1 t9 R w
theorem n75s {t0 t1:Value} {R:RT} {w:World} (h:n75 t0 t1 R w):Calls Pg 111 #[t0,t1] w R:=by
 refine yD Tryz.func111 ?_
 refine zs<|zr<|zm<|zm<|zn<|zk<|zs<|zr<|zm<|zm<|yc h c115 fun _ w h=>zm<|zn<|zk<|zs ?_
 exact zr<|zm<|yx h fun _ w h=>zm<|yb h fun _ w h=>zm<|zm<|zn<|zk<|sim_ret<|body_ret2 rfl rfl rfl h
def n55 (t0 t1:Value) (R:RT) (w:World):Prop :=
 opV Pg (Instr.box 71 t0) (panK R) w fun t2 w =>
 opV Pg (Instr.fieldAt 71 t2 0) (panK R) w fun t4 w =>
 opV Pg (Instr.loadAt 9 t4) (panK R) w fun t5 w =>
 opV Pg (Instr.loadAt 9 t1) (panK R) w fun t6 w =>
 opV Pg (binS .eql 9 false t5 t6) (panK R) w fun t7 w =>
 R (.returned t7) w
theorem n55s {t0 t1:Value} {R:RT} {w:World} (h:n55 t0 t1 R w):Calls Pg 112 #[t0,t1] w R:=by
 refine yD Tryz.func112 ?_
 refine zs<|zr<|yv h fun _ w h=>zm<|zn<|zk<|zs<|zr<|yv h fun _ w h=>yv h fun _ w h=>yv h fun _ w h=>yb h fun _ w h=>zm<|zn<|zk ?_
 exact sim_ret<|body_ret1 rfl rfl h
def n135c1 (t0 t1 t8:Value) (next1:KV) (R:RT) (w:World):Prop :=
 opV Pg (Instr.indexAt 163 t0 t8) (panK R) w fun t14 w =>
 opV Pg (Instr.loadAt 26 t14) (panK R) w fun t15 w =>
 callV Pg t1 #[t15] (panK R) w fun t16 w =>
 condP t16 (
 R (.returned t8) w) (
 opV Pg (binS .add 3 true t8 (.int .i64 1)) (panK R) w fun t18 w =>
 next1 t18 w)
def n135 (t0 t1:Value) (R:RT) (w:World):Prop :=
 opV Pg (Builtin.len_ #[163] 3 #[t0]) (panK R) w fun t7 w =>
 loop1 (fun t8 w next1 =>
 opV Pg (binS .lss 3 false t8 t7) (panK R) w fun t9 w =>
 condP t9 (
 n135c1 t0 t1 t8 next1 R w) (
 R (.returned (.int .i64 (-1))) w)) (.int .i64 0) w
theorem n135s {t0 t1:Value} {R:RT} {w:World} (h:n135 t0 t1 R w):Calls Pg 113 #[t0,t1] w R:=by
 refine yD Tryz.func113 ?_
 refine zs<|zr<|zm<|zn<|zk<|zs<|zs<|zr<|zm<|yx h fun _ w h=>zm<|zn<|zk<|sim_block<|yl1 [4,5,8,9,10,11,12,13,14,15,16,17,18] 8 h fun σ w next h=>?_
 refine zs<|zr<|yb h fun _ w h=>zn<|zk<|zs<|yC h (fun h=>?_) fun h=>?_
 · refine sim_skip<|zk<|zs<|sim_block<|zs<|zr<|zm<|zm<|zn<|zk<|zs<|zr<|zm<|zm<|zm ?_
   refine yv h fun _ w h=>yv h fun _ w h=>yV h fun _ w h=>zn<|zk<|yC h (fun h=>zs<|zr<|zm<|zm<|zn<|zk<|sim_ret<|sim_block_ret<|sim_then_ret<|sim_then_ret<|sim_block_ret<|sim_then_ret<|body_ret1 rfl rfl h) fun h=>sim_skip<|sim_block_normal<|zk<|zr<|yb h fun _ w h=>zm<|zn<|zk ?_
   exact ⟨rfl,h⟩
 exact sim_exit<|sim_then_exit<|sim_then_exit<|sim_block_hit<|zk<|zs<|zr<|zm<|zn<|zk<|sim_ret<|body_ret1 rfl rfl h
def n136c1 (t0 t1 t8:Value) (next1:KV) (R:RT) (w:World):Prop :=
 opV Pg (Instr.indexAt 75 t0 t8) (panK R) w fun t14 w =>
 opV Pg (Instr.loadAt 4 t14) (panK R) w fun t15 w =>
 opV Pg (binS .eql 4 false t1 t15) (panK R) w fun t16 w =>
 condP t16 (
 R (.returned t8) w) (
 opV Pg (binS .add 3 true t8 (.int .i64 1)) (panK R) w fun t18 w =>
 next1 t18 w)
def n136 (t0 t1:Value) (R:RT) (w:World):Prop :=
 opV Pg (Builtin.len_ #[75] 3 #[t0]) (panK R) w fun t7 w =>
 loop1 (fun t8 w next1 =>
 opV Pg (binS .lss 3 false t8 t7) (panK R) w fun t9 w =>
 condP t9 (
 n136c1 t0 t1 t8 next1 R w) (
 R (.returned (.int .i64 (-1))) w)) (.int .i64 0) w
theorem n136s {t0 t1:Value} {R:RT} {w:World} (h:n136 t0 t1 R w):Calls Pg 138 #[t0,t1] w R:=by
 refine yD Tryz.func138 ?_
 refine zs<|zr<|zm<|zn<|zk<|zs<|zs<|zr<|zm<|yx h fun _ w h=>zm<|zn<|zk<|sim_block<|yl1 [4,5,8,9,10,11,12,13,14,15,16,17,18] 8 h fun σ w next h=>?_
 refine zs<|zr<|yb h fun _ w h=>zn<|zk<|zs<|yC h (fun h=>?_) fun h=>?_
 · refine sim_skip<|zk<|zs<|sim_block<|zs<|zr<|zm<|zm<|zn<|zk<|zs<|zr<|zm<|zm<|zm ?_
   refine yv h fun _ w h=>yv h fun _ w h=>yb h fun _ w h=>zn<|zk<|yC h (fun h=>zs<|zr<|zm<|zm<|zn<|zk<|sim_ret<|sim_block_ret<|sim_then_ret<|sim_then_ret<|sim_block_ret<|sim_then_ret<|body_ret1 rfl rfl h) fun h=>sim_skip<|sim_block_normal<|zk<|zr<|yb h fun _ w h=>zm<|zn<|zk ?_
   exact ⟨rfl,h⟩
 exact sim_exit<|sim_then_exit<|sim_then_exit<|sim_block_hit<|zk<|zs<|zr<|zm<|zn<|zk<|sim_ret<|body_ret1 rfl rfl h
def n78 (t0:Value) (R:RT) (w:World):Prop :=
 opN Pg (nilN t0) (panK R) w fun t6 w =>
 opV Pg (Instr.fieldAt 71 t6 2) (panK R) w fun t7 w =>
 opU Pg (Instr.storeAt 3 t7 (.int .i64 0)) (panK R) w fun w =>
 opN Pg (nilN t0) (panK R) w fun t8 w =>
 opV Pg (Instr.fieldAt 71 t8 3) (panK R) w fun t9 w =>
 opU Pg (Instr.storeAt 4 t9 (.bool false)) (panK R) w fun w =>
 opN Pg (nilN t0) (panK R) w fun t10 w =>
 opV Pg (Instr.fieldAt 71 t10 5) (panK R) w fun t11 w =>
 opU Pg (Instr.storeAt 3 t11 (.int .i64 0)) (panK R) w fun w =>
 opN Pg (nilN t0) (panK R) w fun t12 w =>
 opV Pg (Instr.fieldAt 71 t12 6) (panK R) w fun t13 w =>
 opU Pg (Instr.storeAt 3 t13 (.int .i64 0)) (panK R) w fun w =>
 R (.returned (.tuple #[])) w
theorem n78s {t0:Value} {R:RT} {w:World} (h:n78 t0 R w):Calls Pg 139 #[t0] w R:=by
 refine yD Tryz.func139 ?_
 refine zr<|zm<|zm<|zm<|zm<|yN h fun _ w h=>yv h fun _ w h=>yu h fun w h=>yN h fun _ w h=>yv h fun _ w h=>yu h fun w h=>yN h fun _ w h=>yv h fun _ w h=>yu h fun w h=>yN h fun _ w h=>?_
 exact yv h fun _ w h=>yu h fun w h=>zn<|body_normal<|body_ret0 rfl h
def n89c1 (t0 t3:Value) (C1:World→Prop) (R:RT) (w:World):Prop :=
 qV Pg C1 (Instr.fieldAt 71 t3 2) fun t8 =>
 qV Pg C1 (Instr.loadAt 3 t8) fun t9 =>
 qV Pg C1 (binS .shl 3 true (.int .i64 1) t9) fun t10 =>
 qV Pg C1 (binS .sub 3 true t10 (.int .i64 1)) fun t11 =>
 qV Pg C1 (Instr.fieldAt 71 t3 5) fun t12 =>
 qV Pg C1 (Instr.loadAt 3 t12) fun t13 =>
 qV Pg C1 (Instr.fieldAt 71 t3 6) fun t14 =>
 qV Pg C1 (Instr.loadAt 3 t14) fun t15 =>
 opV Pg (Instr.buildSlice 217 2 #[(0,t13),(1,t15)]) (panK R) w fun t16 w =>
 C1 w∧(
 callK Pg 142 #[t0,(.int .i64 0),t11,t16] (panK R) w fun t17 w =>
 C1 w∧(
 R (.returned (.tuple #[])) w))
def n89 (t0 t1:Value) (R:RT) (w:World):Prop :=
 opV Pg (Instr.box 71 t1) (panK R) w fun t3 w =>
 opV Pg (Instr.loadAt 71 t3) (panK R) w fun t5 w =>
 callK Pg 141 #[t0,t5] (panK R) w fun t6 w =>
 drawK w fun C1 w =>
 n89c1 t0 t3 C1 R w
theorem n89s {t0 t1:Value} {R:RT} {w:World} (h:n89 t0 t1 R w):Calls Pg 140 #[t0,t1] w R:=by
 refine yD Tryz.func140 ?_
 refine zs<|zr<|yv h fun _ w h=>zn<|zk<|zs<|zr<|zm<|yv h fun _ w h=>yc h c141 fun _ w h=>zn<|zk<|yh [7,8,9,10,11,12,13,14,15,16,17] h fun C hC h=>yw 0 hC ?_
 refine ye 1 hC h fun _ h=>?_
 refine ye 2 hC h fun _ h=>?_
 refine ye 3 hC h fun _ h=>?_
 refine ye 4 hC h fun _ h=>?_
 refine ye 5 hC h fun _ h=>?_
 refine ye 6 hC h fun _ h=>?_
 refine ye 7 hC h fun _ h=>?_
 refine ye 8 hC h fun _ h=>?_
 refine yo 9 ?_
 refine yS h fun _ w h=>zn ?_
 obtain ⟨hC,h⟩:=h
 refine ⟨hC,?_⟩
 refine yo 10 ?_
 refine yc h c142 fun _ w h=>zn ?_
 obtain ⟨hC,h⟩:=h
 refine ⟨hC,?_⟩
 exact yz<|body_normal<|body_ret0 rfl h
def n64c1 (t0 t12 t17 t26:Value) (R:RT) (w:World):Prop :=
 joinK (fun (t27:Value) (w:World) =>
 pickK t12 t27 (.bool false) fun t28 =>
 callK Pg 105 #[t0,t28,(.int .i64 6)] (panK R) w fun t29 w =>
 R (.returned (.tuple #[])) w) fun K6 =>
 guardP t12 true (
 pickK t17 (.bool true) t26 fun t27 =>
 K6 t27 w) (
 K6 undef w)
def n64c2 (t0 t3 t12 t17 t21:Value) (R:RT) (w:World):Prop :=
 joinK (fun (t25:Value) (w:World) =>
 joinK (fun (t26:Value) (w:World) =>
 n64c1 t0 t12 t17 t26 R w) fun K5 =>
 guardP t17 false (
 pickK t21 t25 (.bool false) fun t26 =>
 K5 t26 w) (
 K5 undef w)) fun K4 =>
 guardP t21 true (
 opV Pg (Instr.fieldAt 71 t3 2) (panK R) w fun t22 w =>
 opV Pg (Instr.loadAt 3 t22) (panK R) w fun t23 w =>
 opV Pg (binS .rem 3 true t23 (.int .i64 8)) (panK R) w fun t24 w =>
 opV Pg (binS .eql 3 true t24 (.int .i64 0)) (panK R) w fun t25 w =>
 K4 t25 w) (
 K4 undef w)
def n64c3 (t0 t3 t12 t17:Value) (R:RT) (w:World):Prop :=
 joinK (fun (t21:Value) (w:World) =>
 n64c2 t0 t3 t12 t17 t21 R w) fun K3 =>
 guardP t17 false (
 opV Pg (Instr.fieldAt 71 t3 2) (panK R) w fun t18 w =>
 opV Pg (Instr.loadAt 3 t18) (panK R) w fun t19 w =>
 opV Pg (binS .gtr 3 true t19 (.int .i64 8)) (panK R) w fun t20 w =>
 K3 t20 w) (
 K3 undef w)
def n64c4 (t0 t3 t7 t11:Value) (R:RT) (w:World):Prop :=
 pickK t7 t11 (.bool false) fun t12 =>
 joinK (fun (t17:Value) (w:World) =>
 n64c3 t0 t3 t12 t17 R w) fun K2 =>
 guardP t12 true (
 opV Pg (Instr.fieldAt 71 t3 3) (panK R) w fun t14 w =>
 opV Pg (Instr.loadAt 4 t14) (panK R) w fun t15 w =>
 opV Pg (Op.unary .not t15) (panK R) w fun t16 w =>
 K2 t16 w) (
 K2 undef w)
def n64 (t0 t1:Value) (R:RT) (w:World):Prop :=
 opV Pg (Instr.box 71 t1) (panK R) w fun t3 w =>
 opV Pg (Instr.fieldAt 71 t3 2) (panK R) w fun t5 w =>
 opV Pg (Instr.loadAt 3 t5) (panK R) w fun t6 w =>
 opV Pg (binS .geq 3 true t6 (.int .i64 1)) (panK R) w fun t7 w =>
 joinK (fun (t11:Value) (w:World) =>
 n64c4 t0 t3 t7 t11 R w) fun K1 =>
 guardP t7 true (
 opV Pg (Instr.fieldAt 71 t3 2) (panK R) w fun t9 w =>
 opV Pg (Instr.loadAt 3 t9) (panK R) w fun t10 w =>
 opV Pg (binS .leq 3 true t10 (.int .i64 32)) (panK R) w fun t11 w =>
 K1 t11 w) (
 K1 undef w)
theorem n64s {t0 t1:Value} {R:RT} {w:World} (h:n64 t0 t1 R w):Calls Pg 141 #[t0,t1] w R:=by
 refine yD Tryz.func141 ?_
 refine zs<|zr<|yv h fun _ w h=>zn<|zk<|sim_regionG<|yG 5<|zm<|yv h fun _ w h=>yv h fun _ w h=>yb h fun _ w h=>zm<|zn<|yg1 3 4 true [9,10,11] 11 h (fun _ T hT h=>?_) fun σ w h=>?_
 · refine yv h fun _ w h=>yv h fun _ w h=>yb h fun _ w h=>zn ?_
   exact zt hT h
 refine yG 2<|yp h fun _ h=>zm<|zn<|yg1 4 9 true [14,15,16,17] 17 h (fun _ T hT h=>?_) fun σ w h=>?_
 · refine yv h fun _ w h=>yv h fun _ w h=>yv h fun _ w h=>zm<|zn ?_
   exact zt hT h
 refine yg1 4 13 false [18,19,20,21] 21 h (fun _ T hT h=>?_) fun σ w h=>?_
 · refine yv h fun _ w h=>yv h fun _ w h=>yb h fun _ w h=>zm<|zn ?_
   exact zt hT h
 refine yg1 4 17 true [22,23,24,25] 25 h (fun _ T hT h=>?_) fun σ w h=>?_
 · refine yv h fun _ w h=>yv h fun _ w h=>yb h fun _ w h=>yb h fun _ w h=>zn ?_
   exact zt hT h
 refine yg1 1 13 false [26] 26 h (fun _ T hT h=>?_) fun σ w h=>?_
 · refine yp h fun _ h=>zn ?_
   exact zt hT h
 refine yg1 1 9 true [27] 27 h (fun _ T hT h=>?_) fun σ w h=>?_
 · refine yp h fun _ h=>zn ?_
   exact zt hT h
 exact yG 2<|yp h fun _ h=>yc h c105 fun _ w h=>zn<|sim_end<|body_normal<|body_ret0 rfl h
def n72c1 (t0 t12 t15 t19 t23:Value) (next1:KW) (R:RT) (w:World):Prop :=
 pickK t19 t23 (.bool false) fun t24 =>
 callK Pg 105 #[t0,t24,(.int .i64 7)] (panK R) w fun t25 w =>
 opV Pg (binS .add 3 true t12 (.int .i64 1)) (panK R) w fun t27 w =>
 next1 t15 t27 w
def n72c2 (t0 t1 t2 t3 t12:Value) (next1:KW) (R:RT) (w:World):Prop :=
 opV Pg (Instr.indexAt 217 t3 t12) (panK R) w fun t14 w =>
 opV Pg (Instr.loadAt 3 t14) (panK R) w fun t15 w =>
 opV Pg (binS .geq 3 false t15 t1) (panK R) w fun t19 w =>
 joinK (fun (t23:Value) (w:World) =>
 n72c1 t0 t12 t15 t19 t23 next1 R w) fun K2 =>
 guardP t19 true (
 opV Pg (binS .leq 3 false t15 t2) (panK R) w fun t23 w =>
 K2 t23 w) (
 K2 undef w)
def n72 (t0 t1 t2 t3:Value) (R:RT) (w:World):Prop :=
 opV Pg (Builtin.len_ #[217] 3 #[t3]) (panK R) w fun t11 w =>
 loop2 (fun t1 t12 w next1 =>
 opV Pg (binS .lss 3 false t12 t11) (panK R) w fun t13 w =>
 condP t13 (
 n72c2 t0 t1 t2 t3 t12 next1 R w) (
 R (.returned (.tuple #[])) w)) t1 (.int .i64 0) w
theorem n72s {t0 t1 t2 t3:Value} {R:RT} {w:World} (h:n72 t0 t1 t2 t3 R w):Calls Pg 142 #[t0,t1,t2,t3] w R:=by
 refine yD Tryz.func142 ?_
 refine zs<|zr<|zm<|yx h fun _ w h=>zm<|zn<|zk<|sim_block<|yl2 [1,9,12,13,14,15,16,17,18,19,20,21,22,23,24,25,26,27] 1 12 h fun σ w next h=>zs<|zr<|yb h fun _ w h=>zn<|zk<|zs ?_
 refine yC h (fun h=>?_) fun h=>?_
 · refine sim_skip<|zk<|zs<|sim_block<|zs<|zr<|yv h fun _ w h=>yv h fun _ w h=>zm<|zn<|zk<|zs<|sim_regionG<|yG 5<|zm ?_
   refine zm<|zm<|yb h fun _ w h=>zm<|zn<|yg1 3 4 true [21,22,23] 23 h (fun _ T hT h=>?_) fun σ w h=>?_
   · refine zm<|zm<|yb h fun _ w h=>zn ?_
     exact zt hT h
   refine yG 2<|yp h fun _ h=>yc h c105 fun _ w h=>zn<|sim_end<|zk<|zr<|zm<|zm<|zn<|sim_block_normal<|zk<|zr<|yb h fun _ w h=>zm ?_
   exact zn<|zk<|⟨rfl,h⟩
 exact sim_exit<|sim_then_exit<|sim_then_exit<|sim_block_hit<|body_normal<|body_ret0 rfl h
def n93 (t0:Value) (R:RT) (w:World):Prop :=
 opN Pg (nilN t0) (panK R) w fun t5 w =>
 opV Pg (Instr.fieldAt 71 t5 2) (panK R) w fun t6 w =>
 opU Pg (Instr.storeAt 3 t6 (.int .i64 0)) (panK R) w fun w =>
 opN Pg (nilN t0) (panK R) w fun t7 w =>
 opV Pg (Instr.fieldAt 71 t7 3) (panK R) w fun t8 w =>
 opU Pg (Instr.storeAt 4 t8 (.bool false)) (panK R) w fun w =>
 opN Pg (nilN t0) (panK R) w fun t9 w =>
 opV Pg (Instr.fieldAt 71 t9 5) (panK R) w fun t10 w =>
 opU Pg (Instr.storeAt 3 t10 (.int .i64 0)) (panK R) w fun w =>
 R (.returned (.tuple #[])) w
theorem n93s {t0:Value} {R:RT} {w:World} (h:n93 t0 R w):Calls Pg 143 #[t0] w R:=by
 refine yD Tryz.func143 ?_
 refine zr<|zm<|zm<|zm<|yN h fun _ w h=>yv h fun _ w h=>yu h fun w h=>yN h fun _ w h=>yv h fun _ w h=>yu h fun w h=>yN h fun _ w h=>yv h fun _ w h=>yu h fun w h=>zn<|body_normal ?_
 exact body_ret0 rfl h
def n94c1 (t0 t3:Value) (C1:World→Prop) (R:RT) (w:World):Prop :=
 qV Pg C1 (Instr.fieldAt 71 t3 2) fun t8 =>
 qV Pg C1 (Instr.loadAt 3 t8) fun t9 =>
 qV Pg C1 (binS .shl 3 true (.int .i64 1) t9) fun t10 =>
 qV Pg C1 (binS .sub 3 true t10 (.int .i64 1)) fun t11 =>
 qV Pg C1 (Instr.fieldAt 71 t3 5) fun t12 =>
 qV Pg C1 (Instr.loadAt 3 t12) fun t13 =>
 opV Pg (Instr.buildSlice 217 1 #[(0,t13)]) (panK R) w fun t14 w =>
 C1 w∧(
 callK Pg 142 #[t0,(.int .i64 0),t11,t14] (panK R) w fun t15 w =>
 C1 w∧(
 R (.returned (.tuple #[])) w))
def n94 (t0 t1:Value) (R:RT) (w:World):Prop :=
 opV Pg (Instr.box 71 t1) (panK R) w fun t3 w =>
 opV Pg (Instr.loadAt 71 t3) (panK R) w fun t5 w =>
 callK Pg 141 #[t0,t5] (panK R) w fun t6 w =>
 drawK w fun C1 w =>
 n94c1 t0 t3 C1 R w
theorem n94s {t0 t1:Value} {R:RT} {w:World} (h:n94 t0 t1 R w):Calls Pg 144 #[t0,t1] w R:=by
 refine yD Tryz.func144 ?_
 refine zs<|zr<|yv h fun _ w h=>zn<|zk<|zs<|zr<|zm<|yv h fun _ w h=>yc h c141 fun _ w h=>zn<|zk<|yh [7,8,9,10,11,12,13,14,15] h fun C hC h=>yw 0 hC ?_
 refine ye 1 hC h fun _ h=>?_
 refine ye 2 hC h fun _ h=>?_
 refine ye 3 hC h fun _ h=>?_
 refine ye 4 hC h fun _ h=>?_
 refine ye 5 hC h fun _ h=>?_
 refine ye 6 hC h fun _ h=>?_
 refine yo 7 ?_
 refine yS h fun _ w h=>zn ?_
 obtain ⟨hC,h⟩:=h
 refine ⟨hC,?_⟩
 refine yo 8 ?_
 refine yc h c142 fun _ w h=>zn ?_
 obtain ⟨hC,h⟩:=h
 refine ⟨hC,?_⟩
 exact yz<|body_normal<|body_ret0 rfl h
def n95 (t0:Value) (R:RT) (w:World):Prop :=
 opN Pg (nilN t0) (panK R) w fun t5 w =>
 opV Pg (Instr.fieldAt 71 t5 4) (panK R) w fun t6 w =>
 opU Pg (Instr.storeAt 4 t6 (.bool false)) (panK R) w fun w =>
 opN Pg (nilN t0) (panK R) w fun t7 w =>
 opV Pg (Instr.fieldAt 71 t7 5) (panK R) w fun t8 w =>
 opU Pg (Instr.storeAt 3 t8 (.int .i64 0)) (panK R) w fun w =>
 opN Pg (nilN t0) (panK R) w fun t9 w =>
 opV Pg (Instr.fieldAt 71 t9 6) (panK R) w fun t10 w =>
 opU Pg (Instr.storeAt 3 t10 (.int .i64 0)) (panK R) w fun w =>
 R (.returned (.tuple #[])) w
theorem n95s {t0:Value} {R:RT} {w:World} (h:n95 t0 R w):Calls Pg 145 #[t0] w R:=by
 refine yD Tryz.func145 ?_
 refine zr<|zm<|zm<|zm<|yN h fun _ w h=>yv h fun _ w h=>yu h fun w h=>yN h fun _ w h=>yv h fun _ w h=>yu h fun w h=>yN h fun _ w h=>yv h fun _ w h=>yu h fun w h=>zn<|body_normal ?_
 exact body_ret0 rfl h
def n96 (t0 t1:Value) (R:RT) (w:World):Prop :=
 opV Pg (Instr.box 71 t1) (panK R) w fun t3 w =>
 opV Pg (Instr.fieldAt 71 t3 5) (panK R) w fun t5 w =>
 opV Pg (Instr.loadAt 3 t5) (panK R) w fun t6 w =>
 opV Pg (Instr.fieldAt 71 t3 6) (panK R) w fun t7 w =>
 opV Pg (Instr.loadAt 3 t7) (panK R) w fun t8 w =>
 opV Pg (Instr.buildSlice 217 2 #[(0,t6),(1,t8)]) (panK R) w fun t9 w =>
 callK Pg 142 #[t0,(.int .i64 0),(.int .i64 34359738367),t9] (panK R) w fun t10 w =>
 R (.returned (.tuple #[])) w
theorem n96s {t0 t1:Value} {R:RT} {w:World} (h:n96 t0 t1 R w):Calls Pg 146 #[t0,t1] w R:=by
 refine yD Tryz.func146 ?_
 refine zs<|zr<|yv h fun _ w h=>zn<|zk<|zr<|zm<|yv h fun _ w h=>yv h fun _ w h=>yv h fun _ w h=>yv h fun _ w h=>yS h fun _ w h=>yc h c142 fun _ w h=>zn<|body_normal ?_
 exact body_ret0 rfl h
def n97 (t0:Value) (R:RT) (w:World):Prop :=
 opV Pg (Instr.build 68 #[]) (panK R) w fun t3 w =>
 opN Pg (nilN t0) (panK R) w fun t4 w =>
 opV Pg (Instr.fieldAt 71 t4 7) (panK R) w fun t5 w =>
 opU Pg (Instr.storeAt 68 t5 t3) (panK R) w fun w =>
 R (.returned (.tuple #[])) w
theorem n97s {t0:Value} {R:RT} {w:World} (h:n97 t0 R w):Calls Pg 147 #[t0] w R:=by
 refine yD Tryz.func147 ?_
 exact zr<|zm<|yB h fun _ w h=>yN h fun _ w h=>yv h fun _ w h=>yu h fun w h=>zn<|body_normal<|body_ret0 rfl h
def n71c1 (t2 t4 t21:Value) (Kr2:World→Prop) (Qr2:List PanicEntry→World→Prop) (R:RT) (w:World):Prop :=
 opV Pg (Instr.loadAt 219 t4) Qr2 w fun t23 w =>
 opV Pg (Instr.lookup 219 t23 t21 true) Qr2 w fun t25 w =>
 opV Pg (Instr.extract t25 0) Qr2 w fun t26 w =>
 opV Pg (Instr.extract t25 1) Qr2 w fun t27 w =>
 opV Pg (Instr.alloc 223 true (.tuple #[])) Qr2 w fun t6 w =>
 opU Pg (Instr.storeAt 223 t6 t26) Qr2 w fun w =>
 opV Pg (Instr.loadAt 151 t2) Qr2 w fun t28 w =>
 callK Pg 105 #[t28,t27,(.int .i64 8)] Qr2 w fun t30 w =>
 Kr2 w
def n71c2 (t8 t38 t40 t44:Value) (ds:List Deferred) (R:RT) (w:World):Prop :=
 pickK t40 t44 (.bool false) fun t45 =>
 joinK (fun (t49:Value) (w:World) =>
 pickK t45 t49 (.bool false) fun t50 =>
 callK Pg 105 #[t38,t50,(.int .i64 9)] (outQ Pg ds [] R) w fun t51 w =>
 outX Pg ds [] R w) fun K4 =>
 guardP t45 true (
 opV Pg (Instr.fieldAt 223 t8 1) (outQ Pg ds [] R) w fun t47 w =>
 opV Pg (Instr.loadAt 3 t47) (outQ Pg ds [] R) w fun t48 w =>
 opV Pg (binS .leq 3 true t48 (.int .i64 1048576)) (outQ Pg ds [] R) w fun t49 w =>
 K4 t49 w) (
 K4 undef w)
def n71c3 (t2 t35:Value) (ds:List Deferred) (R:RT) (w:World):Prop :=
 opV Pg (Instr.extract t35 0) (outQ Pg ds [] R) w fun t36 w =>
 opV Pg (Instr.extract t35 1) (outQ Pg ds [] R) w fun t37 w =>
 opV Pg (Instr.alloc 223 true (.tuple #[])) (outQ Pg ds [] R) w fun t8 w =>
 opU Pg (Instr.storeAt 223 t8 t36) (outQ Pg ds [] R) w fun w =>
 opV Pg (Instr.loadAt 151 t2) (outQ Pg ds [] R) w fun t38 w =>
 opV Pg (binS .eql 37 true t37 (.int .i64 0)) (outQ Pg ds [] R) w fun t40 w =>
 joinK (fun (t44:Value) (w:World) =>
 n71c2 t8 t38 t40 t44 ds R w) fun K3 =>
 guardP t40 true (
 opV Pg (Instr.fieldAt 223 t8 0) (outQ Pg ds [] R) w fun t42 w =>
 opV Pg (Instr.loadAt 3 t42) (outQ Pg ds [] R) w fun t43 w =>
 opV Pg (binS .geq 3 true t43 (.int .i64 0)) (outQ Pg ds [] R) w fun t44 w =>
 K3 t44 w) (
 K3 undef w)
def n71c4 (t2 t3 t4:Value) (ds:List Deferred) (R:RT) (w:World):Prop :=
 opV Pg (Instr.fieldAt 71 t3 7) (outQ Pg ds [] R) w fun t32 w =>
 opV Pg (Instr.loadAt 68 t32) (outQ Pg ds [] R) w fun t33 w =>
 opV Pg (Instr.loadAt 219 t4) (outQ Pg ds [] R) w fun t34 w =>
 callK Pg 169 #[t33,t34] (outQ Pg ds [] R) w fun t35 w =>
 n71c3 t2 t35 ds R w
def n71c5 (t2 t3 t4 t20:Value) (ds:List Deferred) (R:RT) (w:World):Prop :=
 rangeN Pg t20 ds (fun l2 t21 w Kr2 Xr2 Qr2 =>
 busyK l2 w fun w =>
 n71c1 t2 t4 t21 Kr2 Qr2 R w) (fun ch ds w=>outQ Pg ds [] R ch w) w (fun ds w =>
 n71c4 t2 t3 t4 ds R w) []
def n71c6 (t2 t3 t17:Value) (ds:List Deferred) (R:RT) (w:World):Prop :=
 opV Pg (Instr.alloc 219 true (.tuple #[])) (outQ Pg ds [] R) w fun t4 w =>
 opU Pg (Instr.storeAt 219 t4 t17) (outQ Pg ds [] R) w fun w =>
 opV Pg (Instr.fieldAt 71 t3 7) (outQ Pg ds [] R) w fun t18 w =>
 opV Pg (Instr.loadAt 68 t18) (outQ Pg ds [] R) w fun t19 w =>
 callK Pg 168 #[t19] (outQ Pg ds [] R) w fun t20 w =>
 n71c5 t2 t3 t4 t20 ds R w
def n71c7 (t2 t3:Value) (ds:List Deferred) (R:RT) (w:World):Prop :=
 opV Pg (Instr.loadAt 151 t2) (outQ Pg ds [] R) w fun t15 w =>
 callK Pg 134 #[t15] (outQ Pg ds [] R) w fun t16 w =>
 callK Pg 167 #[t16] (outQ Pg ds [] R) w fun t17 w =>
 n71c6 t2 t3 t17 ds R w
def n71c8 (t2 t3:Value) (C1:World→Prop) (ds:List Deferred) (R:RT) (w:World):Prop :=
 qV Pg C1 (Instr.loadAt 151 t2) fun t10 =>
 qV Pg C1 (Instr.fieldAt 71 t3 7) fun t11 =>
 qV Pg C1 (Instr.loadAt 68 t11) fun t12 =>
 callK Pg 166 #[t12] (outQ Pg ds [] R) w fun t13 w =>
 C1 w∧(
 callK Pg 105 #[t10,t13,(.int .i64 9)] (outQ Pg ds [] R) w fun t14 w =>
 C1 w∧(
 n71c7 t2 t3 ds R w))
def n71 (t0 t1:Value) (R:RT) (w:World):Prop :=
 (fun (ds:List Deferred) =>
 opV Pg (Instr.box 151 t0) (outQ Pg ds [] R) w fun t2 w =>
 opV Pg (Instr.box 71 t1) (outQ Pg ds [] R) w fun t3 w =>
 drawK w fun C1 w =>
 n71c8 t2 t3 C1 ds R w) []
theorem n71s {t0 t1:Value} {R:RT} {w:World} (h:n71 t0 t1 R w):Calls Pg 148 #[t0,t1] w R:=by
 refine yE Tryz.func148 ?_
 unfold n71 at h
 dsimp only at h
 refine zs<|zr<|yv h fun _ w h=>yv h fun _ w h=>zn<|zk<|zs<|yh [10,11,12,13,14] h fun C hC h=>ye 0 hC h fun _ h=>?_
 refine ye 1 hC h fun _ h=>?_
 refine ye 2 hC h fun _ h=>?_
 refine yo 3 ?_
 refine yc h c166 fun _ w h=>zn ?_
 obtain ⟨hC,h⟩:=h
 refine ⟨hC,?_⟩
 refine yo 4 ?_
 refine yc h c105 fun _ w h=>zn ?_
 obtain ⟨hC,h⟩:=h
 refine ⟨hC,?_⟩
 refine yz<|zk<|zs<|zr<|yv h fun _ w h=>yc h c134 fun _ w h=>yc h c167 fun _ w h=>yv h fun _ w h=>yu h fun w h=>zn<|zk<|zs<|zs<|zr<|yv h fun _ w h=>?_
 refine yv h fun _ w h=>yc h c168 fun _ w h=>zn<|zk<|sim_block<|sim_range [] h rfl (fun l2 t21 w Kr2 Xr2 Qr2 h=>?_) (fun ds w h=>?_) (fun c ds w h=>?_) (fun ch ds w h=>outQ_of rfl h)
 · refine zr<|zm<|zn<|zk ?_
   obtain ⟨hr,h⟩:=h
   refine ⟨rfl,hr,fun w hb=>?_⟩
   have h:=h w hb
   refine sim_block<|zs<|zr<|yv h fun _ w h=>zm<|yv h fun _ w h=>zm<|yv h fun _ w h=>yv h fun _ w h=>yv h fun _ w h=>yu h fun w h=>zm<|zn<|zk<|zr ?_
   exact yv h fun _ w h=>zm<|yc h c105 fun _ w h=>zn<|sim_block_normal<|⟨rfl,h⟩
 · refine sim_block_normal<|zk<|zs<|zr<|yv h fun _ w h=>yv h fun _ w h=>yv h fun _ w h=>yc h c169 fun _ w h=>zm<|yv h fun _ w h=>yv h fun _ w h=>yv h fun _ w h=>yu h fun w h=>zm<|zn ?_
   refine zk<|sim_regionG<|yG 4<|yv h fun _ w h=>zm<|yb h fun _ w h=>zm<|zn<|yg1 3 3 true [42,43,44] 44 h (fun _ T hT h=>?_) fun σ w h=>?_
   · refine yv h fun _ w h=>yv h fun _ w h=>yb h fun _ w h=>zn ?_
     exact zt hT h
   refine yG 2<|yp h fun _ h=>zm<|zn<|yg1 3 8 true [47,48,49] 49 h (fun _ T hT h=>?_) fun σ w h=>?_
   · refine yv h fun _ w h=>yv h fun _ w h=>yb h fun _ w h=>zn ?_
     exact zt hT h
   exact yG 2<|yp h fun _ h=>yc h c105 fun _ w h=>zn<|sim_end<|bodyM_normal<|bodyM_ret rfl h
 exact h.elim
def n98 (t0:Value) (R:RT) (w:World):Prop :=
 opN Pg (nilN t0) (panK R) w fun t4 w =>
 opV Pg (Instr.fieldAt 71 t4 5) (panK R) w fun t5 w =>
 opU Pg (Instr.storeAt 3 t5 (.int .i64 0)) (panK R) w fun w =>
 opN Pg (nilN t0) (panK R) w fun t6 w =>
 opV Pg (Instr.fieldAt 71 t6 6) (panK R) w fun t7 w =>
 opU Pg (Instr.storeAt 3 t7 (.int .i64 0)) (panK R) w fun w =>
 R (.returned (.tuple #[])) w
theorem n98s {t0:Value} {R:RT} {w:World} (h:n98 t0 R w):Calls Pg 149 #[t0] w R:=by
 refine yD Tryz.func149 ?_
 exact zr<|zm<|zm<|yN h fun _ w h=>yv h fun _ w h=>yu h fun w h=>yN h fun _ w h=>yv h fun _ w h=>yu h fun w h=>zn<|body_normal<|body_ret0 rfl h
def n99c1 (t0 t3:Value) (R:RT) (w:World):Prop :=
 opV Pg (Instr.fieldAt 71 t3 6) (panK R) w fun t10 w =>
 opV Pg (Instr.loadAt 3 t10) (panK R) w fun t11 w =>
 opV Pg (Instr.buildSlice 217 1 #[(0,t11)]) (panK R) w fun t12 w =>
 callK Pg 142 #[t0,(.int .i64 0),(.int .i64 1048576),t12] (panK R) w fun t13 w =>
 R (.returned (.tuple #[])) w
def n99 (t0 t1:Value) (R:RT) (w:World):Prop :=
 opV Pg (Instr.box 71 t1) (panK R) w fun t3 w =>
 opV Pg (Instr.fieldAt 71 t3 5) (panK R) w fun t5 w =>
 opV Pg (Instr.loadAt 3 t5) (panK R) w fun t6 w =>
 opV Pg (Instr.buildSlice 217 1 #[(0,t6)]) (panK R) w fun t7 w =>
 callK Pg 142 #[t0,(.int .i64 0),(.int .i64 255),t7] (panK R) w fun t8 w =>
 n99c1 t0 t3 R w
theorem n99s {t0 t1:Value} {R:RT} {w:World} (h:n99 t0 t1 R w):Calls Pg 150 #[t0,t1] w R:=by
 refine yD Tryz.func150 ?_
 refine zs<|zr<|yv h fun _ w h=>zn<|zk<|zs<|zr<|zm<|yv h fun _ w h=>yv h fun _ w h=>yS h fun _ w h=>yc h c142 fun _ w h=>zn<|zk<|zr ?_
 exact zm<|yv h fun _ w h=>yv h fun _ w h=>yS h fun _ w h=>yc h c142 fun _ w h=>zn<|body_normal<|body_ret0 rfl h
def n79 (t0:Value) (R:RT) (w:World):Prop :=
 opN Pg (nilN t0) (panK R) w fun t4 w =>
 opV Pg (Instr.fieldAt 71 t4 4) (panK R) w fun t5 w =>
 opU Pg (Instr.storeAt 4 t5 (.bool false)) (panK R) w fun w =>
 opN Pg (nilN t0) (panK R) w fun t6 w =>
 opV Pg (Instr.fieldAt 71 t6 6) (panK R) w fun t7 w =>
 opU Pg (Instr.storeAt 3 t7 (.int .i64 0)) (panK R) w fun w =>
 R (.returned (.tuple #[])) w
theorem n79s {t0:Value} {R:RT} {w:World} (h:n79 t0 R w):Calls Pg 151 #[t0] w R:=by
 refine yD Tryz.func151 ?_
 exact zr<|zm<|zm<|yN h fun _ w h=>yv h fun _ w h=>yu h fun w h=>yN h fun _ w h=>yv h fun _ w h=>yu h fun w h=>zn<|body_normal<|body_ret0 rfl h
def n80 (t0 t1:Value) (R:RT) (w:World):Prop :=
 opV Pg (Instr.box 71 t1) (panK R) w fun t3 w =>
 opV Pg (Instr.fieldAt 71 t3 6) (panK R) w fun t5 w =>
 opV Pg (Instr.loadAt 3 t5) (panK R) w fun t6 w =>
 opV Pg (Instr.buildSlice 217 1 #[(0,t6)]) (panK R) w fun t7 w =>
 callK Pg 142 #[t0,(.int .i64 2),(.int .i64 1048576),t7] (panK R) w fun t8 w =>
 R (.returned (.tuple #[])) w
theorem n80s {t0 t1:Value} {R:RT} {w:World} (h:n80 t0 t1 R w):Calls Pg 152 #[t0,t1] w R:=by
 refine yD Tryz.func152 ?_
 exact zs<|zr<|yv h fun _ w h=>zn<|zk<|zr<|zm<|yv h fun _ w h=>yv h fun _ w h=>yS h fun _ w h=>yc h c142 fun _ w h=>zn<|body_normal<|body_ret0 rfl h
def n81 (t0:Value) (R:RT) (w:World):Prop :=
 opV Pg (Instr.build 68 #[]) (panK R) w fun t4 w =>
 opN Pg (nilN t0) (panK R) w fun t5 w =>
 opV Pg (Instr.fieldAt 71 t5 8) (panK R) w fun t6 w =>
 opU Pg (Instr.storeAt 9 t6 (.string { data := #[] })) (panK R) w fun w =>
 opN Pg (nilN t0) (panK R) w fun t7 w =>
 opV Pg (Instr.fieldAt 71 t7 7) (panK R) w fun t8 w =>
 opU Pg (Instr.storeAt 68 t8 t4) (panK R) w fun w =>
 R (.returned (.tuple #[])) w
theorem n81s {t0:Value} {R:RT} {w:World} (h:n81 t0 R w):Calls Pg 153 #[t0] w R:=by
 refine yD Tryz.func153 ?_
 exact zr<|zm<|zm<|yB h fun _ w h=>yN h fun _ w h=>yv h fun _ w h=>yu h fun w h=>yN h fun _ w h=>yv h fun _ w h=>yu h fun w h=>zn<|body_normal<|body_ret0 rfl h
def n82 (t0 t1:Value) (R:RT) (w:World):Prop :=
 opV Pg (Instr.box 71 t1) (panK R) w fun t3 w =>
 opV Pg (Instr.fieldAt 71 t3 8) (panK R) w fun t5 w =>
 opV Pg (Instr.loadAt 9 t5) (panK R) w fun t6 w =>
 callK Pg 155 #[t0,t6] (panK R) w fun t7 w =>
 opV Pg (Instr.loadAt 71 t3) (panK R) w fun t9 w =>
 callK Pg 148 #[t0,t9] (panK R) w fun t10 w =>
 R (.returned (.tuple #[])) w
theorem n82s {t0 t1:Value} {R:RT} {w:World} (h:n82 t0 t1 R w):Calls Pg 154 #[t0,t1] w R:=by
 refine yD Tryz.func154 ?_
 refine zs<|zr<|yv h fun _ w h=>zn<|zk<|zs<|zr<|zm<|yv h fun _ w h=>yv h fun _ w h=>yc h c155 fun _ w h=>zn<|zk<|zr<|zm ?_
 exact yv h fun _ w h=>yc h c148 fun _ w h=>zn<|body_normal<|body_ret0 rfl h
def n70 (t0 t1:Value) (R:RT) (w:World):Prop :=
 opN Pg (nilN t0) (panK R) w fun t8 w =>
 opV Pg (Instr.fieldAt 175 t8 1) (panK R) w fun t9 w =>
 opV Pg (Instr.loadAt 59 t9) (panK R) w fun t10 w =>
 opV Pg (Instr.lookup 59 t10 t1 true) (panK R) w fun t12 w =>
 opV Pg (Instr.extract t12 0) (panK R) w fun t13 w =>
 opV Pg (Instr.extract t12 1) (panK R) w fun t14 w =>
 callK Pg 105 #[t0,t14,(.int .i64 8)] (panK R) w fun t17 w =>
 R (.returned (.tuple #[])) w
theorem n70s {t0 t1:Value} {R:RT} {w:World} (h:n70 t0 t1 R w):Calls Pg 155 #[t0,t1] w R:=by
 refine yD Tryz.func155 ?_
 refine zs<|zr<|zm<|yN h fun _ w h=>yv h fun _ w h=>yv h fun _ w h=>zm<|yv h fun _ w h=>zm<|yv h fun _ w h=>yv h fun _ w h=>zm<|zm<|zn<|zk ?_
 exact zr<|zm<|zm<|yc h c105 fun _ w h=>zn<|body_normal<|body_ret0 rfl h
def n83 (t0:Value) (R:RT) (w:World):Prop :=
 opN Pg (nilN t0) (panK R) w fun t3 w =>
 opV Pg (Instr.fieldAt 71 t3 8) (panK R) w fun t4 w =>
 opU Pg (Instr.storeAt 9 t4 (.string { data := #[] })) (panK R) w fun w =>
 R (.returned (.tuple #[])) w
theorem n83s {t0:Value} {R:RT} {w:World} (h:n83 t0 R w):Calls Pg 156 #[t0] w R:=by
 refine yD Tryz.func156 ?_
 exact zr<|zm<|yN h fun _ w h=>yv h fun _ w h=>yu h fun w h=>zn<|body_normal<|body_ret0 rfl h
def n84 (t0 t1:Value) (R:RT) (w:World):Prop :=
 opV Pg (Instr.box 71 t1) (panK R) w fun t3 w =>
 opV Pg (Instr.fieldAt 71 t3 8) (panK R) w fun t5 w =>
 opV Pg (Instr.loadAt 9 t5) (panK R) w fun t6 w =>
 callK Pg 155 #[t0,t6] (panK R) w fun t7 w =>
 R (.returned (.tuple #[])) w
theorem n84s {t0 t1:Value} {R:RT} {w:World} (h:n84 t0 t1 R w):Calls Pg 157 #[t0,t1] w R:=by
 refine yD Tryz.func157 ?_
 exact zs<|zr<|yv h fun _ w h=>zn<|zk<|zr<|zm<|yv h fun _ w h=>yv h fun _ w h=>yc h c155 fun _ w h=>zn<|body_normal<|body_ret0 rfl h
def n85 (t0:Value) (R:RT) (w:World):Prop :=
 opN Pg (nilN t0) (panK R) w fun t4 w =>
 opV Pg (Instr.fieldAt 71 t4 9) (panK R) w fun t5 w =>
 opU Pg (Instr.storeAt 9 t5 (.string { data := #[] })) (panK R) w fun w =>
 opN Pg (nilN t0) (panK R) w fun t6 w =>
 opV Pg (Instr.fieldAt 71 t6 11) (panK R) w fun t7 w =>
 opU Pg (Instr.storeAt 69 t7 (Value.slice none 0 0)) (panK R) w fun w =>
 R (.returned (.tuple #[])) w
theorem n85s {t0:Value} {R:RT} {w:World} (h:n85 t0 R w):Calls Pg 158 #[t0] w R:=by
 refine yD Tryz.func158 ?_
 exact zr<|zm<|zm<|yN h fun _ w h=>yv h fun _ w h=>yu h fun w h=>yN h fun _ w h=>yv h fun _ w h=>yu h fun w h=>zn<|body_normal<|body_ret0 rfl h
def n65c1 (t9 t47:Value) (next5:KW) (R:RT) (w:World):Prop :=
 opV Pg (Instr.fieldAt 85 t9 1) (panK R) w fun t65 w =>
 opV Pg (Instr.loadAt 3 t65) (panK R) w fun t66 w =>
 opV Pg (binS .add 3 true t66 (.int .i64 1)) (panK R) w fun t67 w =>
 opV Pg (binS .add 3 true t47 (.int .i64 1)) (panK R) w fun t68 w =>
 next5 t67 t68 w
def n65c2 (t0 t9 t47:Value) (next5:KW) (R:RT) (w:World):Prop :=
 opV Pg (Instr.fieldAt 85 t9 2) (panK R) w fun t62 w =>
 opV Pg (Instr.loadAt 9 t62) (panK R) w fun t63 w =>
 callK Pg 155 #[t0,t63] (panK R) w fun t64 w =>
 n65c1 t9 t47 next5 R w
def n65c3 (t0 t4 t7 t45 t47:Value) (next5:KW) (R:RT) (w:World):Prop :=
 opV Pg (Instr.indexAt 69 t45 t47) (panK R) w fun t49 w =>
 opV Pg (Instr.loadAt 85 t49) (panK R) w fun t50 w =>
 opV Pg (Instr.alloc 85 true (.tuple #[])) (panK R) w fun t9 w =>
 opU Pg (Instr.storeAt 85 t9 t50) (panK R) w fun w =>
 opV Pg (Instr.fieldAt 223 t4 1) (panK R) w fun t53 w =>
 opV Pg (Instr.loadAt 3 t53) (panK R) w fun t54 w =>
 opV Pg (Instr.fieldAt 85 t9 0) (panK R) w fun t55 w =>
 opV Pg (Instr.loadAt 3 t55) (panK R) w fun t56 w =>
 opV Pg (Instr.fieldAt 85 t9 1) (panK R) w fun t57 w =>
 opV Pg (Instr.loadAt 3 t57) (panK R) w fun t58 w =>
 opV Pg (Instr.buildSlice 217 2 #[(0,t56),(1,t58)]) (panK R) w fun t59 w =>
 callK Pg 142 #[t0,t7,t54,t59] (panK R) w fun t60 w =>
 n65c2 t0 t9 t47 next5 R w
def n65c4 (t0 t3 t4:Value) (R:RT) (w:World):Prop :=
 opV Pg (Instr.fieldAt 223 t4 0) (panK R) w fun t42 w =>
 opV Pg (Instr.loadAt 3 t42) (panK R) w fun t43 w =>
 opV Pg (Instr.fieldAt 71 t3 11) (panK R) w fun t44 w =>
 opV Pg (Instr.loadAt 69 t44) (panK R) w fun t45 w =>
 opV Pg (Builtin.len_ #[69] 3 #[t45]) (panK R) w fun t46 w =>
 loop2 (fun t7 t47 w next5 =>
 opV Pg (binS .lss 3 false t47 t46) (panK R) w fun t48 w =>
 condP t48 (
 n65c3 t0 t4 t7 t45 t47 next5 R w) (
 R (.returned (.tuple #[])) w)) t43 (.int .i64 0) w
def n65c5 (t0 t3 t4:Value) (R:RT) (w:World):Prop :=
 opV Pg (Instr.fieldAt 71 t3 11) (panK R) w fun t31 w =>
 opV Pg (Instr.loadAt 69 t31) (panK R) w fun t32 w =>
 opV Pg (Builtin.len_ #[69] 3 #[t32]) (panK R) w fun t33 w =>
 opV Pg (binS .geq 3 true t33 (.int .i64 1)) (panK R) w fun t34 w =>
 joinK (fun (t39:Value) (w:World) =>
 pickK t34 t39 (.bool false) fun t40 =>
 callK Pg 105 #[t0,t40,(.int .i64 3)] (panK R) w fun t41 w =>
 n65c4 t0 t3 t4 R w) fun K4 =>
 guardP t34 true (
 opV Pg (Instr.fieldAt 71 t3 11) (panK R) w fun t36 w =>
 opV Pg (Instr.loadAt 69 t36) (panK R) w fun t37 w =>
 opV Pg (Builtin.len_ #[69] 3 #[t37]) (panK R) w fun t38 w =>
 opV Pg (binS .leq 3 true t38 (.int .i64 40)) (panK R) w fun t39 w =>
 K4 t39 w) (
 K4 undef w)
def n65c6 (t0 t3 t4 t5 t22:Value) (R:RT) (w:World):Prop :=
 joinK (fun (t27:Value) (w:World) =>
 pickK t5 t27 (.bool false) fun t28 =>
 callK Pg 105 #[t0,t28,(.int .i64 8)] (panK R) w fun t29 w =>
 n65c5 t0 t3 t4 R w) fun K3 =>
 guardP t5 true (
 opV Pg (Op.unary .not t22) (panK R) w fun t27 w =>
 K3 t27 w) (
 K3 undef w)
def n65c7 (t0 t3 t4 t5:Value) (R:RT) (w:World):Prop :=
 callK Pg 134 #[t0] (panK R) w fun t20 w =>
 opV Pg (Instr.makeFunc (.func 170) #[] #[t3]) (panK R) w fun t21 w =>
 callK Pg 97 #[t20,t21] (panK R) w fun t22 w =>
 n65c6 t0 t3 t4 t5 t22 R w
def n65c8 (t13 t15:Value) (C7:World→Prop) (K2:KW) (R:RT) (w:World):Prop :=
 qV Pg C7 (Instr.lookup 219 t13 t15 true) fun t16 =>
 qV Pg C7 (Instr.extract t16 0) fun t17 =>
 qV Pg C7 (Instr.extract t16 1) fun t18 =>
 opV Pg (Instr.alloc 223 true (.tuple #[])) (panK R) w fun t4 w =>
 C7 w∧(
 opU Pg (Instr.storeAt 223 t4 t17) (panK R) w fun w =>
 C7 w∧(
 K2 t4 t18 w))
def n65c9 (t4 t13 t15:Value) (C8:World→Prop) (K2:KW) (R:RT) (w:World):Prop :=
 qV Pg C8 (Instr.lookup 219 t13 t15 true) fun t16 =>
 qV Pg C8 (Instr.extract t16 0) fun t17 =>
 qV Pg C8 (Instr.extract t16 1) fun t18 =>
 opU Pg (Instr.storeAt 223 t4 t17) (panK R) w fun w =>
 C8 w∧(
 K2 t4 t18 w)
def n65c10 (t12 t15:Value) (C6:World→Prop) (K2:KW) (R:RT) (w:World):Prop :=
 (
 callK Pg 167 #[t12] (panK R) w fun t13 w =>
 narrowK C6 w fun C7 w =>
 n65c8 t13 t15 C7 K2 R w)∧(
 opV Pg (Instr.alloc 223 true (.tuple #[])) (panK R) w fun t4 w =>
 C6 w∧(
 callK Pg 167 #[t12] (panK R) w fun t13 w =>
 narrowK C6 w fun C8 w =>
 n65c9 t4 t13 t15 C8 K2 R w))
def n65c11 (t4 t13 t15:Value) (C10:World→Prop) (K2:KW) (R:RT) (w:World):Prop :=
 qV Pg C10 (Instr.lookup 219 t13 t15 true) fun t16 =>
 qV Pg C10 (Instr.extract t16 0) fun t17 =>
 qV Pg C10 (Instr.extract t16 1) fun t18 =>
 opU Pg (Instr.storeAt 223 t4 t17) (panK R) w fun w =>
 C10 w∧(
 K2 t4 t18 w)
def n65c12 (t0 t4 t15:Value) (C1:World→Prop) (K2:KW) (R:RT) (w:World):Prop :=
 callK Pg 134 #[t0] (panK R) w fun t12 w =>
 narrowK C1 w fun C9 w =>
 callK Pg 167 #[t12] (panK R) w fun t13 w =>
 narrowK C9 w fun C10 w =>
 n65c11 t4 t13 t15 C10 K2 R w
def n65c13 (t0 t3:Value) (C1:World→Prop) (R:RT) (w:World):Prop :=
 qV Pg C1 (Instr.fieldAt 71 t3 9) fun t14 =>
 qV Pg C1 (Instr.loadAt 9 t14) fun t15 =>
 joinK (fun (t4:Value) (t5:Value) (w:World) =>
 n65c7 t0 t3 t4 t5 R w) fun K2 =>
 (
 callK Pg 134 #[t0] (panK R) w fun t12 w =>
 narrowK C1 w fun C6 w =>
 n65c10 t12 t15 C6 K2 R w)∧(
 opV Pg (Instr.alloc 223 true (.tuple #[])) (panK R) w fun t4 w =>
 C1 w∧(
 n65c12 t0 t4 t15 C1 K2 R w))
def n65 (t0 t1:Value) (R:RT) (w:World):Prop :=
 opV Pg (Instr.box 71 t1) (panK R) w fun t3 w =>
 drawK w fun C1 w =>
 n65c13 t0 t3 C1 R w
set_option maxHeartbeats 40000000 in
theorem n65s {t0 t1:Value} {R:RT} {w:World} (h:n65 t0 t1 R w):Calls Pg 159 #[t0,t1] w R:=by
 refine yD Tryz.func159 ?_
 refine zs<|zr<|yv h fun _ w h=>zn<|zk<|zs<|yh [4,5,10,11,12,13,14,15,16,17,18] h fun C hC h=>yw 0 hC ?_
 refine ye 3 hC h fun _ h=>?_
 refine ye 4 hC h fun _ h=>?_
 refine joinK_elim h (fun K2 hK h=>?_)
 refine sim_dmeet [4,5,10,12,13,16,17,18] (fun ρ w=>K2 (ρ 4) (ρ 5) w) (fun T hT=>?_) (fun σ w h=>?_)
 · obtain ⟨h0,h1⟩:=h
   refine sim_dloud2 1 9 rfl rfl (by kernel_rfl) (fun _ _=>rfl) (fun _ _=>rfl) ?_ ?_
   · have h:=h0
     refine yc h c134 fun _ w h=>zn ?_
     obtain ⟨C6,hs,hC,h⟩:=h
     refine ⟨C6,hs,hC,?_⟩
     obtain ⟨h0,h1⟩:=h
     refine sim_dloud2 2 9 rfl rfl (by kernel_rfl) (fun _ _=>rfl) (fun _ _=>rfl) ?_ ?_
     · have h:=h0
       refine yc h c167 fun _ w h=>zn ?_
       obtain ⟨C7,hs,hC,h⟩:=h
       refine ⟨C7,hs,hC,?_⟩
       refine ye 5 hC h fun _ h=>?_
       refine yw 6 hC ?_
       refine ye 7 hC h fun _ h=>?_
       refine ye 8 hC h fun _ h=>?_
       refine yo 9 ?_
       refine yv h fun _ w h=>zn ?_
       obtain ⟨hC,h⟩:=h
       refine ⟨hC,?_⟩
       refine yo 10 ?_
       refine yu h fun w h=>zn ?_
       obtain ⟨hC,h⟩:=h
       refine ⟨hC,?_⟩
       refine yw 11 hC ?_
       refine yz ?_
       exact zt hT h
     have h:=h1
     refine yv h fun _ w h=>zn ?_
     obtain ⟨hC,h⟩:=h
     refine ⟨_,fun _ h=>h,hC,?_⟩
     refine yr 2 ?_
     refine yc h c167 fun _ w h=>zn ?_
     obtain ⟨C8,hs,hC,h⟩:=h
     refine ⟨C8,hs,hC,?_⟩
     refine ye 5 hC h fun _ h=>?_
     refine yw 6 hC ?_
     refine ye 7 hC h fun _ h=>?_
     refine ye 8 hC h fun _ h=>?_
     refine yo 10 ?_
     refine yu h fun w h=>zn ?_
     obtain ⟨hC,h⟩:=h
     refine ⟨hC,?_⟩
     refine yw 11 hC ?_
     refine yz ?_
     exact zt hT h
   have h:=h1
   refine yv h fun _ w h=>zn ?_
   obtain ⟨hC,h⟩:=h
   refine ⟨_,fun _ h=>h,hC,?_⟩
   refine yr 1 ?_
   refine yc h c134 fun _ w h=>zn ?_
   obtain ⟨C9,hs,hC,h⟩:=h
   refine ⟨C9,hs,hC,?_⟩
   refine yr 2 ?_
   refine yc h c167 fun _ w h=>zn ?_
   obtain ⟨C10,hs,hC,h⟩:=h
   refine ⟨C10,hs,hC,?_⟩
   refine ye 5 hC h fun _ h=>?_
   refine yw 6 hC ?_
   refine ye 7 hC h fun _ h=>?_
   refine ye 8 hC h fun _ h=>?_
   refine yo 10 ?_
   refine yu h fun w h=>zn ?_
   obtain ⟨hC,h⟩:=h
   refine ⟨hC,?_⟩
   refine yw 11 hC ?_
   refine yz ?_
   exact zt hT h
 subst hK
 refine zk<|zs<|zr<|zm<|yc h c134 fun _ w h=>yF h fun _ w h=>yc h c97 fun _ w h=>zm<|zn<|zk<|zs<|sim_regionG<|yG 3<|zm<|zm ?_
 refine zm<|zn<|yg1 2 2 true [26,27] 27 h (fun _ T hT h=>?_) fun σ w h=>?_
 · refine zm<|yv h fun _ w h=>zn ?_
   exact zt hT h
 refine yG 2<|yp h fun _ h=>yc h c105 fun _ w h=>zn<|sim_end<|zk<|zs<|sim_regionG<|yG 6<|zm<|yv h fun _ w h=>yv h fun _ w h=>yx h fun _ w h=>yb h fun _ w h=>zm ?_
 refine zn<|yg1 4 5 true [36,37,38,39] 39 h (fun _ T hT h=>?_) fun σ w h=>?_
 · refine yv h fun _ w h=>yv h fun _ w h=>yx h fun _ w h=>yb h fun _ w h=>zn ?_
   exact zt hT h
 refine yG 2<|yp h fun _ h=>yc h c105 fun _ w h=>zn<|sim_end<|zk<|zs<|zr<|yv h fun _ w h=>yv h fun _ w h=>zm<|zn<|zk<|zs<|zr ?_
 refine yv h fun _ w h=>yv h fun _ w h=>yx h fun _ w h=>zm<|zn<|zk<|sim_block<|yl2 [7,9,47,48,49,50,51,52,53,54,55,56,57,58,59,60,61,62,63,64,65,66,67,68] 7 47 h fun σ w next h=>zs<|zr<|yb h fun _ w h=>zn<|zk<|zs<|yC h (fun h=>?_) fun h=>?_
 · refine sim_skip<|zk<|zs<|sim_block<|zs<|zr<|yv h fun _ w h=>yv h fun _ w h=>yv h fun _ w h=>yu h fun w h=>zn<|zk<|zs<|zr<|zm ?_
   refine zm<|yv h fun _ w h=>yv h fun _ w h=>yv h fun _ w h=>yv h fun _ w h=>yv h fun _ w h=>yv h fun _ w h=>yS h fun _ w h=>yc h c142 fun _ w h=>zn<|zk<|zs<|zr<|zm<|yv h fun _ w h=>?_
   refine yv h fun _ w h=>yc h c155 fun _ w h=>zn<|zk<|zr<|yv h fun _ w h=>yv h fun _ w h=>yb h fun _ w h=>zm<|zn<|sim_block_normal<|zk<|zr<|yb h fun _ w h=>zm ?_
   exact zn<|zk<|⟨rfl,h⟩
 exact sim_exit<|sim_then_exit<|sim_then_exit<|sim_block_hit<|body_normal<|body_ret0 rfl h
def n86 (t0:Value) (R:RT) (w:World):Prop :=
 opN Pg (nilN t0) (panK R) w fun t3 w =>
 opV Pg (Instr.fieldAt 71 t3 2) (panK R) w fun t4 w =>
 opU Pg (Instr.storeAt 3 t4 (.int .i64 0)) (panK R) w fun w =>
 R (.returned (.tuple #[])) w
theorem n86s {t0:Value} {R:RT} {w:World} (h:n86 t0 R w):Calls Pg 160 #[t0] w R:=by
 refine yD Tryz.func160 ?_
 exact zr<|zm<|yN h fun _ w h=>yv h fun _ w h=>yu h fun w h=>zn<|body_normal<|body_ret0 rfl h
def n87c1 (t0 t12 t22 t26:Value) (R:RT) (w:World):Prop :=
 joinK (fun (t27:Value) (w:World) =>
 pickK t12 (.bool true) t27 fun t28 =>
 callK Pg 105 #[t0,t28,(.int .i64 6)] (panK R) w fun t29 w =>
 R (.returned (.tuple #[])) w) fun K6 =>
 guardP t12 false (
 pickK t22 t26 (.bool false) fun t27 =>
 K6 t27 w) (
 K6 undef w)
def n87c2 (t0 t3 t12 t22:Value) (R:RT) (w:World):Prop :=
 joinK (fun (t26:Value) (w:World) =>
 n87c1 t0 t12 t22 t26 R w) fun K5 =>
 guardP t22 true (
 opV Pg (Instr.fieldAt 71 t3 2) (panK R) w fun t23 w =>
 opV Pg (Instr.loadAt 3 t23) (panK R) w fun t24 w =>
 opV Pg (binS .rem 3 true t24 (.int .i64 8)) (panK R) w fun t25 w =>
 opV Pg (binS .eql 3 true t25 (.int .i64 0)) (panK R) w fun t26 w =>
 K5 t26 w) (
 K5 undef w)
def n87c3 (t0 t3 t12 t17:Value) (R:RT) (w:World):Prop :=
 joinK (fun (t20:Value) (w:World) =>
 joinK (fun (t22:Value) (w:World) =>
 n87c2 t0 t3 t12 t22 R w) fun K4 =>
 guardP t12 false (
 pickK t17 t20 (.bool false) fun t21 =>
 K4 t21 w) (
 K4 undef w)) fun K3 =>
 guardP t17 true (
 opV Pg (Instr.fieldAt 71 t3 2) (panK R) w fun t18 w =>
 opV Pg (Instr.loadAt 3 t18) (panK R) w fun t19 w =>
 opV Pg (binS .leq 3 true t19 (.int .i64 512)) (panK R) w fun t20 w =>
 K3 t20 w) (
 K3 undef w)
def n87c4 (t0 t3 t7 t11:Value) (R:RT) (w:World):Prop :=
 pickK t7 (.bool true) t11 fun t12 =>
 joinK (fun (t17:Value) (w:World) =>
 n87c3 t0 t3 t12 t17 R w) fun K2 =>
 guardP t12 false (
 opV Pg (Instr.fieldAt 71 t3 2) (panK R) w fun t14 w =>
 opV Pg (Instr.loadAt 3 t14) (panK R) w fun t15 w =>
 opV Pg (binS .geq 3 true t15 (.int .i64 8)) (panK R) w fun t16 w =>
 K2 t16 w) (
 K2 undef w)
def n87 (t0 t1:Value) (R:RT) (w:World):Prop :=
 opV Pg (Instr.box 71 t1) (panK R) w fun t3 w =>
 opV Pg (Instr.fieldAt 71 t3 2) (panK R) w fun t5 w =>
 opV Pg (Instr.loadAt 3 t5) (panK R) w fun t6 w =>
 opV Pg (binS .eql 3 true t6 (.int .i64 2)) (panK R) w fun t7 w =>
 joinK (fun (t11:Value) (w:World) =>
 n87c4 t0 t3 t7 t11 R w) fun K1 =>
 guardP t7 false (
 opV Pg (Instr.fieldAt 71 t3 2) (panK R) w fun t9 w =>
 opV Pg (Instr.loadAt 3 t9) (panK R) w fun t10 w =>
 opV Pg (binS .eql 3 true t10 (.int .i64 4)) (panK R) w fun t11 w =>
 K1 t11 w) (
 K1 undef w)
theorem n87s {t0 t1:Value} {R:RT} {w:World} (h:n87 t0 t1 R w):Calls Pg 161 #[t0,t1] w R:=by
 refine yD Tryz.func161 ?_
 refine zs<|zr<|yv h fun _ w h=>zn<|zk<|sim_regionG<|yG 5<|zm<|yv h fun _ w h=>yv h fun _ w h=>yb h fun _ w h=>zm<|zn<|yg1 3 4 false [9,10,11] 11 h (fun _ T hT h=>?_) fun σ w h=>?_
 · refine yv h fun _ w h=>yv h fun _ w h=>yb h fun _ w h=>zn ?_
   exact zt hT h
 refine yG 2<|yp h fun _ h=>zm<|zn<|yg1 4 9 false [14,15,16,17] 17 h (fun _ T hT h=>?_) fun σ w h=>?_
 · refine yv h fun _ w h=>yv h fun _ w h=>yb h fun _ w h=>zm<|zn ?_
   exact zt hT h
 refine yg1 3 13 true [18,19,20] 20 h (fun _ T hT h=>?_) fun σ w h=>?_
 · refine yv h fun _ w h=>yv h fun _ w h=>yb h fun _ w h=>zn ?_
   exact zt hT h
 refine yg1 2 9 false [21,22] 22 h (fun _ T hT h=>?_) fun σ w h=>?_
 · refine yp h fun _ h=>zm<|zn ?_
   exact zt hT h
 refine yg1 4 18 true [23,24,25,26] 26 h (fun _ T hT h=>?_) fun σ w h=>?_
 · refine yv h fun _ w h=>yv h fun _ w h=>yb h fun _ w h=>yb h fun _ w h=>zn ?_
   exact zt hT h
 refine yg1 1 9 false [27] 27 h (fun _ T hT h=>?_) fun σ w h=>?_
 · refine yp h fun _ h=>zn ?_
   exact zt hT h
 exact yG 2<|yp h fun _ h=>yc h c105 fun _ w h=>zn<|sim_end<|body_normal<|body_ret0 rfl h
def n88 (t0:Value) (R:RT) (w:World):Prop :=
 opN Pg (nilN t0) (panK R) w fun t4 w =>
 opV Pg (Instr.fieldAt 71 t4 10) (panK R) w fun t5 w =>
 opU Pg (Instr.storeAt 9 t5 (.string { data := #[] })) (panK R) w fun w =>
 opN Pg (nilN t0) (panK R) w fun t6 w =>
 opV Pg (Instr.fieldAt 71 t6 12) (panK R) w fun t7 w =>
 opU Pg (Instr.storeAt 3 t7 (.int .i64 0)) (panK R) w fun w =>
 R (.returned (.tuple #[])) w
theorem n88s {t0:Value} {R:RT} {w:World} (h:n88 t0 R w):Calls Pg 162 #[t0] w R:=by
 refine yD Tryz.func162 ?_
 exact zr<|zm<|zm<|yN h fun _ w h=>yv h fun _ w h=>yu h fun w h=>yN h fun _ w h=>yv h fun _ w h=>yu h fun w h=>zn<|body_normal<|body_ret0 rfl h
def n90c1 (t0 t17:Value) (C1:World→Prop) (R:RT) (w:World):Prop :=
 qV Pg C1 (Instr.extract t17 0) fun t18 =>
 qV Pg C1 (Instr.extract t17 1) fun t19 =>
 callK Pg 105 #[t0,t19,(.int .i64 8)] (panK R) w fun t22 w =>
 R (.returned (.tuple #[])) w
def n90c2 (t0 t3:Value) (C1:World→Prop) (R:RT) (w:World):Prop :=
 qV Pg C1 (Instr.fieldAt 71 t3 10) fun t15 =>
 qV Pg C1 (Instr.loadAt 9 t15) fun t16 =>
 callK Pg 134 #[t0] (panK R) w fun t13 w =>
 C1 w∧(
 qV Pg C1 (Instr.build 53 #[(1,t13)]) fun t14 =>
 callK Pg 91 #[t14,t16] (panK R) w fun t17 w =>
 C1 w∧(
 n90c1 t0 t17 C1 R w))
def n90 (t0 t1:Value) (R:RT) (w:World):Prop :=
 opV Pg (Instr.box 71 t1) (panK R) w fun t3 w =>
 opV Pg (Instr.fieldAt 71 t3 12) (panK R) w fun t7 w =>
 opV Pg (Instr.loadAt 3 t7) (panK R) w fun t8 w =>
 opV Pg (Instr.buildSlice 217 1 #[(0,t8)]) (panK R) w fun t9 w =>
 callK Pg 142 #[t0,(.int .i64 1),(.int .i64 3),t9] (panK R) w fun t10 w =>
 drawK w fun C1 w =>
 n90c2 t0 t3 C1 R w
theorem n90s {t0 t1:Value} {R:RT} {w:World} (h:n90 t0 t1 R w):Calls Pg 163 #[t0,t1] w R:=by
 refine yD Tryz.func163 ?_
 refine zs<|zr<|yv h fun _ w h=>zn<|zk<|zs<|zr<|zm<|yv h fun _ w h=>yv h fun _ w h=>yS h fun _ w h=>yc h c142 fun _ w h=>zn<|zk<|zs ?_
 refine yh [4,5,11,12,13,14,15,16,17,18,19] h fun C hC h=>yw 0 hC ?_
 refine ye 3 hC h fun _ h=>?_
 refine ye 4 hC h fun _ h=>?_
 refine yo 1 ?_
 refine yc h c134 fun _ w h=>zn ?_
 obtain ⟨hC,h⟩:=h
 refine ⟨hC,?_⟩
 refine ye 2 hC h fun _ h=>?_
 refine yo 5 ?_
 refine yc h c91 fun _ w h=>zn ?_
 obtain ⟨hC,h⟩:=h
 refine ⟨hC,?_⟩
 refine yw 6 hC ?_
 refine ye 7 hC h fun _ h=>?_
 refine ye 8 hC h fun _ h=>?_
 refine yw 9 hC ?_
 refine yw 10 hC ?_
 exact yz<|zk<|zr<|zm<|zm<|yc h c105 fun _ w h=>zn<|body_normal<|body_ret0 rfl h
def n91 (t0:Value) (R:RT) (w:World):Prop :=
 opV Pg (Instr.build 68 #[]) (panK R) w fun t5 w =>
 opN Pg (nilN t0) (panK R) w fun t6 w =>
 opV Pg (Instr.fieldAt 71 t6 8) (panK R) w fun t7 w =>
 opU Pg (Instr.storeAt 9 t7 (.string { data := #[] })) (panK R) w fun w =>
 opN Pg (nilN t0) (panK R) w fun t8 w =>
 opV Pg (Instr.fieldAt 71 t8 7) (panK R) w fun t9 w =>
 opU Pg (Instr.storeAt 68 t9 t5) (panK R) w fun w =>
 opN Pg (nilN t0) (panK R) w fun t10 w =>
 opV Pg (Instr.fieldAt 71 t10 13) (panK R) w fun t11 w =>
 opU Pg (Instr.storeAt 3 t11 (.int .i64 0)) (panK R) w fun w =>
 R (.returned (.tuple #[])) w
theorem n91s {t0:Value} {R:RT} {w:World} (h:n91 t0 R w):Calls Pg 164 #[t0] w R:=by
 refine yD Tryz.func164 ?_
 refine zr<|zm<|zm<|zm<|yB h fun _ w h=>yN h fun _ w h=>yv h fun _ w h=>yu h fun w h=>yN h fun _ w h=>yv h fun _ w h=>yu h fun w h=>yN h fun _ w h=>yv h fun _ w h=>yu h fun w h=>zn ?_
 exact body_normal<|body_ret0 rfl h
def n92c1 (t0 t3:Value) (C1:World→Prop) (R:RT) (w:World):Prop :=
 qN Pg C1 (nilN t0) fun t11 =>
 qV Pg C1 (Instr.fieldAt 175 t11 2) fun t12 =>
 qV Pg C1 (Instr.loadAt 99 t12) fun t13 =>
 qV Pg C1 (Instr.fieldAt 71 t3 8) fun t14 =>
 qV Pg C1 (Instr.loadAt 9 t14) fun t15 =>
 qV Pg C1 (Instr.lookup 99 t13 t15 false) fun t16 =>
 callK Pg 105 #[t0,t16,(.int .i64 8)] (panK R) w fun t17 w =>
 C1 w∧(
 opV Pg (Instr.loadAt 71 t3) (panK R) w fun t19 w =>
 callK Pg 148 #[t0,t19] (panK R) w fun t20 w =>
 R (.returned (.tuple #[])) w)
def n92 (t0 t1:Value) (R:RT) (w:World):Prop :=
 opV Pg (Instr.box 71 t1) (panK R) w fun t3 w =>
 opV Pg (Instr.fieldAt 71 t3 13) (panK R) w fun t5 w =>
 opV Pg (Instr.loadAt 3 t5) (panK R) w fun t6 w =>
 opV Pg (Instr.buildSlice 217 1 #[(0,t6)]) (panK R) w fun t7 w =>
 callK Pg 142 #[t0,(.int .i64 0),(.int .i64 4294967295),t7] (panK R) w fun t8 w =>
 drawK w fun C1 w =>
 n92c1 t0 t3 C1 R w
theorem n92s {t0 t1:Value} {R:RT} {w:World} (h:n92 t0 t1 R w):Calls Pg 165 #[t0,t1] w R:=by
 refine yD Tryz.func165 ?_
 refine zs<|zr<|yv h fun _ w h=>zn<|zk<|zs<|zr<|zm<|yv h fun _ w h=>yv h fun _ w h=>yS h fun _ w h=>yc h c142 fun _ w h=>zn<|zk<|zs ?_
 refine yh [9,10,11,12,13,14,15,16,17] h fun C hC h=>yw 0 hC ?_
 refine yw 1 hC ?_
 refine yn 2 hC h fun _ h=>?_
 refine ye 3 hC h fun _ h=>?_
 refine ye 4 hC h fun _ h=>?_
 refine ye 5 hC h fun _ h=>?_
 refine ye 6 hC h fun _ h=>?_
 refine ye 7 hC h fun _ h=>?_
 refine yo 8 ?_
 refine yc h c105 fun _ w h=>zn ?_
 obtain ⟨hC,h⟩:=h
 refine ⟨hC,?_⟩
 exact yz<|zk<|zr<|zm<|yv h fun _ w h=>yc h c148 fun _ w h=>zn<|body_normal<|body_ret0 rfl h
def n111c1 (t1 t6 t15:Value) (C1:World→Prop) (R:RT) (w:World):Prop :=
 joinK (fun (t21:Value) (w:World) =>
 pickK t15 t21 (.bool false) fun t22 =>
 R (.returned t22) w) fun K2 =>
 guardP t15 true (
 qV Pg C1 (Instr.fieldAt 68 t1 1) fun t17 =>
 qV Pg C1 (Instr.loadAt 66 t17) fun t18 =>
 callK Pg 99 #[t18,t6] (panK R) w fun t20 w =>
 C1 w∧(
 qV Pg C1 (Op.unary .not t20) fun t21 =>
 K2 t21 w)) (
 K2 undef w)
def n111c2 (t1 t6 t9 t13:Value) (C1:World→Prop) (R:RT) (w:World):Prop :=
 C1 w∧(
 opV Pg (Instr.buildSlice 75 2 #[(0,t9),(1,t13)]) (panK R) w fun t14 w =>
 C1 w∧(
 callK Pg 124 #[t14] (panK R) w fun t15 w =>
 C1 w∧(
 n111c1 t1 t6 t15 C1 R w)))
def n111c3 (t1 t6:Value) (C1:World→Prop) (R:RT) (w:World):Prop :=
 qV Pg C1 (Instr.fieldAt 68 t1 0) fun t7 =>
 qV Pg C1 (Instr.loadAt 3 t7) fun t8 =>
 qV Pg C1 (Instr.fieldAt 68 t1 1) fun t10 =>
 qV Pg C1 (Instr.loadAt 66 t10) fun t11 =>
 qV Pg C1 (Builtin.len_ #[66] 3 #[t11]) fun t12 =>
 qV Pg C1 (binS .leq 3 true t12 (.int .i64 4)) fun t13 =>
 callK Pg 172 #[t8] (panK R) w fun t9 w =>
 n111c2 t1 t6 t9 t13 C1 R w
def n111 (t0:Value) (R:RT) (w:World):Prop :=
 opV Pg (Instr.box 68 t0) (panK R) w fun t1 w =>
 opV Pg (Instr.makeMap 99 none) (panK R) w fun t5 w =>
 opV Pg (Instr.alloc 99 true (.tuple #[])) (panK R) w fun t3 w =>
 opU Pg (Instr.storeAt 99 t3 t5) (panK R) w fun w =>
 opV Pg (Instr.makeFunc (.func 171) #[] #[t3]) (panK R) w fun t6 w =>
 drawK w fun C1 w =>
 n111c3 t1 t6 C1 R w
theorem n111s {t0:Value} {R:RT} {w:World} (h:n111 t0 R w):Calls Pg 166 #[t0] w R:=by
 refine yD Tryz.func166 ?_
 refine zs<|zr<|yv h fun _ w h=>zm<|zn<|zk<|zs<|zr<|yv h fun _ w h=>yv h fun _ w h=>yu h fun w h=>zn<|zk<|zs<|zr ?_
 refine yF h fun _ w h=>zm<|zn<|zk<|zs<|yh [2,7,8,9,10,11,12,13,14,15,16,17,18,19,20,21,22] h fun C hC h=>ye 0 hC h fun _ h=>?_
 refine ye 1 hC h fun _ h=>?_
 refine ye 3 hC h fun _ h=>?_
 refine ye 4 hC h fun _ h=>?_
 refine ye 5 hC h fun _ h=>?_
 refine ye 6 hC h fun _ h=>?_
 refine yo 2 ?_
 refine yc h c172 fun _ w h=>zn ?_
 obtain ⟨hC,h⟩:=h
 refine ⟨hC,?_⟩
 refine yo 7 ?_
 refine yS h fun _ w h=>zn ?_
 obtain ⟨hC,h⟩:=h
 refine ⟨hC,?_⟩
 refine yo 8 ?_
 refine yc h c124 fun _ w h=>zn ?_
 obtain ⟨hC,h⟩:=h
 refine ⟨hC,?_⟩
 refine yw 9 hC ?_
 refine yj1 2 [14,13,12,11,10,9,8,7,2,6,5,4,3,1,0] [17,18,19,20,21] 21 h (fun _ hT hb h=>?_) (fun _ hT hb h=>?_) fun σ w hC h=>?_
 · refine ye 10 hC h fun _ h=>?_
   refine ye 11 hC h fun _ h=>?_
   refine yw 12 hC ?_
   refine yo 13 ?_
   refine yc h c99 fun _ w h=>zn ?_
   obtain ⟨hC,h⟩:=h
   refine ⟨hC,?_⟩
   refine ye 14 hC h fun _ h=>?_
   exact yt hT hC h
 · refine yi 10 hC ?_
   refine yi 11 hC ?_
   refine yi 12 hC ?_
   refine yi 13 hC ?_
   refine yi 14 hC ?_
   exact yt hT hC h
 refine yP 15 hC h fun _ h=>?_
 refine yw 16 hC ?_
 exact yz<|zk<|sim_ret<|body_ret1 rfl rfl h
def n101c1 (t5 t6 t8:Value) (K2:World→Prop) (R:RT) (w:World):Prop :=
 opV Pg (Instr.fieldAt 71 t5 0) (panK R) w fun t23 w =>
 opV Pg (Instr.loadAt 9 t23) (panK R) w fun t24 w =>
 opV Pg (Instr.loadAt 223 t6) (panK R) w fun t25 w =>
 opU Pg (Instr.mapUpdate 219 t8 t24 t25) (panK R) w fun w =>
 K2 w
def n101c2 (t5 t8 t11 t17:Value) (next1:KV) (R:RT) (w:World):Prop :=
 opV Pg (Instr.extract t17 0) (panK R) w fun t18 w =>
 opV Pg (Instr.extract t17 1) (panK R) w fun t19 w =>
 opV Pg (Instr.alloc 223 true (.tuple #[])) (panK R) w fun t6 w =>
 opU Pg (Instr.storeAt 223 t6 t18) (panK R) w fun w =>
 opV Pg (binS .eql 37 true t19 (.int .i64 0)) (panK R) w fun t21 w =>
 joinK (fun (w:World) =>
 opV Pg (binS .add 3 true t11 (.int .i64 1)) (panK R) w fun t26 w =>
 next1 t26 w) fun K2 =>
 condP t21 (
 n101c1 t5 t6 t8 K2 R w) (
 K2 w)
def n101c3 (t0 t8 t11:Value) (next1:KV) (R:RT) (w:World):Prop :=
 opV Pg (Instr.indexAt 51 t0 t11) (panK R) w fun t13 w =>
 opV Pg (Instr.loadAt 71 t13) (panK R) w fun t14 w =>
 opV Pg (Instr.alloc 71 true (.tuple #[])) (panK R) w fun t5 w =>
 opU Pg (Instr.storeAt 71 t5 t14) (panK R) w fun w =>
 opV Pg (Instr.loadAt 71 t5) (panK R) w fun t16 w =>
 callK Pg 173 #[t16] (panK R) w fun t17 w =>
 n101c2 t5 t8 t11 t17 next1 R w
def n101 (t0:Value) (R:RT) (w:World):Prop :=
 opV Pg (Instr.makeMap 219 none) (panK R) w fun t8 w =>
 opV Pg (Builtin.len_ #[51] 3 #[t0]) (panK R) w fun t10 w =>
 loop1 (fun t11 w next1 =>
 opV Pg (binS .lss 3 false t11 t10) (panK R) w fun t12 w =>
 condP t12 (
 n101c3 t0 t8 t11 next1 R w) (
 R (.returned t8) w)) (.int .i64 0) w
theorem n101s {t0:Value} {R:RT} {w:World} (h:n101 t0 R w):Calls Pg 167 #[t0] w R:=by
 refine yD Tryz.func167 ?_
 refine zs<|zr<|zm<|zn<|zk<|zs<|zr<|yv h fun _ w h=>zm<|zn<|zk<|zs<|zs<|zr<|zm ?_
 refine yx h fun _ w h=>zm<|zn<|zk<|sim_block<|yl1 [5,6,7,11,12,13,14,15,16,17,18,19,20,21,22,23,24,25,26] 11 h fun σ w next h=>zs<|zr<|yb h fun _ w h=>zn<|zk<|zs<|yC h (fun h=>?_) fun h=>?_
 · refine sim_skip<|zk<|zs<|sim_block<|zs<|zr<|yv h fun _ w h=>yv h fun _ w h=>yv h fun _ w h=>yu h fun w h=>zn<|zk<|zs<|zr<|yv h fun _ w h=>?_
   refine yc h c173 fun _ w h=>zm<|yv h fun _ w h=>yv h fun _ w h=>yv h fun _ w h=>yu h fun w h=>zm<|zn<|zk<|zs<|zr<|zm<|yb h fun _ w h=>zn<|zk ?_
   refine yJ0 [22,23,24,25] h (fun _ _ hkK2 h=>?_) fun σ w h=>?_
   · refine yC h (fun h=>?_) fun h=>?_
     · refine zr<|zm<|yv h fun _ w h=>yv h fun _ w h=>yv h fun _ w h=>yu h fun w h=>zn<|zk ?_
       exact zt hkK2 h
     refine sim_skip<|zk ?_
     exact zt hkK2 h
   exact sim_block_normal<|zk<|zr<|yb h fun _ w h=>zm<|zn<|zk<|⟨rfl,h⟩
 exact sim_exit<|sim_then_exit<|sim_then_exit<|sim_block_hit<|zk<|zs<|zr<|zm<|zm<|zn<|zk<|sim_ret<|body_ret1 rfl rfl h
def n109c1 (t1 t3:Value) (K1:World→Prop) (R:RT) (w:World):Prop :=
 opV Pg (Instr.fieldAt 68 t1 1) (panK R) w fun t6 w =>
 opV Pg (Instr.loadAt 66 t6) (panK R) w fun t7 w =>
 callK Pg 54 #[t7] (panK R) w fun t8 w =>
 opU Pg (Instr.storeAt 66 t3 t8) (panK R) w fun w =>
 K1 w
def n109 (t0:Value) (R:RT) (w:World):Prop :=
 opV Pg (Instr.box 68 t0) (panK R) w fun t1 w =>
 opV Pg (Instr.alloc 66 true (.tuple #[])) (panK R) w fun t3 w =>
 opV Pg (Instr.loadAt 68 t1) (panK R) w fun t4 w =>
 callK Pg 166 #[t4] (panK R) w fun t5 w =>
 joinK (fun (w:World) =>
 opV Pg (Instr.makeFunc (.func 174) #[] #[t3]) (panK R) w fun t9 w =>
 R (.returned t9) w) fun K1 =>
 condP t5 (
 n109c1 t1 t3 K1 R w) (
 K1 w)
theorem n109s {t0:Value} {R:RT} {w:World} (h:n109 t0 R w):Calls Pg 168 #[t0] w R:=by
 refine yD Tryz.func168 ?_
 refine zs<|zr<|yv h fun _ w h=>zm<|zn<|zk<|zs<|zr<|yv h fun _ w h=>zn<|zk<|zs<|zs<|zr<|yv h fun _ w h=>?_
 refine yc h c166 fun _ w h=>zn<|zk<|yJ0 [6,7,8] h (fun _ _ hkK1 h=>?_) fun σ w h=>?_
 · refine yC h (fun h=>?_) fun h=>?_
   · refine zr<|yv h fun _ w h=>yv h fun _ w h=>yc h c54 fun _ w h=>yu h fun w h=>zn<|zk ?_
     exact zt hkK1 h
   refine sim_skip<|zk ?_
   exact zt hkK1 h
 exact zk<|zs<|zr<|yF h fun _ w h=>zm<|zn<|zk<|sim_ret<|body_ret1 rfl rfl h
def n103c1 (t4 t19 t21:Value) (R:RT) (w:World):Prop :=
 opV Pg (Instr.build 223 #[(0,t19),(1,t21)]) (panK R) w fun t22 w =>
 opU Pg (Instr.storeAt 223 t4 t22) (panK R) w fun w =>
 qW Pg 223 t4 w fun r0 =>
 R (.returned (.tuple #[r0,(.int .i64 0)])) w
def n103c2 (t2 t3 t4:Value) (R:RT) (w:World):Prop :=
 opV Pg (Instr.makeFunc (.func 177) #[] #[t2,t3]) (panK R) w fun t17 w =>
 callV Pg t17 #[(.bool true)] (panK R) w fun t19 w =>
 callV Pg t17 #[(.bool false)] (panK R) w fun t21 w =>
 n103c1 t4 t19 t21 R w
def n103c3 (t2 t3 t4 t12:Value) (R:RT) (w:World):Prop :=
 opV Pg (binS .neq 37 true t12 (.int .i64 0)) (panK R) w fun t14 w =>
 condP t14 (
 opV Pg (Instr.build 223 #[]) (panK R) w fun t15 w =>
 opU Pg (Instr.storeAt 223 t4 t15) (panK R) w fun w =>
 qW Pg 223 t4 w fun r0 =>
 R (.returned (.tuple #[r0,t12])) w) (
 n103c2 t2 t3 t4 R w)
def n103 (t0 t1:Value) (R:RT) (w:World):Prop :=
 opV Pg (Instr.box 68 t0) (panK R) w fun t2 w =>
 opV Pg (Instr.box 219 t1) (panK R) w fun t3 w =>
 opV Pg (Instr.alloc 223 true (.tuple #[])) (panK R) w fun t4 w =>
 opV Pg (Instr.loadAt 68 t2) (panK R) w fun t9 w =>
 opV Pg (Instr.loadAt 219 t3) (panK R) w fun t10 w =>
 callK Pg 176 #[t9,(.string { data := #[] }),t10,(.func (.func 175) #[] #[])] (panK R) w fun t12 w =>
 n103c3 t2 t3 t4 t12 R w
theorem n103s {t0 t1:Value} {R:RT} {w:World} (h:n103 t0 t1 R w):Calls Pg 169 #[t0,t1] w R:=by
 refine yD Tryz.func169 ?_
 refine zs<|zr<|yv h fun _ w h=>yv h fun _ w h=>yv h fun _ w h=>zm<|zn<|zk<|zs<|zr<|zm<|zn<|zk<|zs<|zs ?_
 refine zr<|yv h fun _ w h=>yv h fun _ w h=>zm<|yc h c176 fun _ w h=>zm<|zn<|zk<|zs<|zr<|zm<|yb h fun _ w h=>zn<|zk<|yC h (fun h=>zs<|zr<|yB h fun _ w h=>zm<|yu h fun w h=>zm<|zn<|zk<|sim_ret<|sim_then_ret<|body_retCT rfl rfl rfl h) fun h=>?_
 refine sim_skip<|zk<|zs<|zr<|yF h fun _ w h=>zm<|zn<|zk<|zs<|zr<|zm<|yV h fun _ w h=>zm<|yV h fun _ w h=>yB h fun _ w h=>?_
 exact yu h fun w h=>zm<|zn<|zk<|sim_ret<|body_retCT rfl rfl rfl h
def n66 (t0 t1:Value) (R:RT) (w:World):Prop :=
 opV Pg (Instr.box 71 t0) (panK R) w fun t2 w =>
 opV Pg (Instr.fieldAt 71 t2 1) (panK R) w fun t4 w =>
 opV Pg (Instr.loadAt 65 t4) (panK R) w fun t5 w =>
 opV Pg (binS .eql 65 true t5 (.int .i64 9)) (panK R) w fun t6 w =>
 joinK (fun (t12:Value) (w:World) =>
 pickK t6 t12 (.bool false) fun t13 =>
 R (.returned t13) w) fun K1 =>
 guardP t6 true (
 opV Pg (Instr.fieldAt 71 t2 9) (panK R) w fun t8 w =>
 opV Pg (Instr.loadAt 9 t8) (panK R) w fun t9 w =>
 opV Pg (Instr.fieldAt 71 t1 9) (panK R) w fun t10 w =>
 opV Pg (Instr.loadAt 9 t10) (panK R) w fun t11 w =>
 opV Pg (binS .eql 9 false t9 t11) (panK R) w fun t12 w =>
 K1 t12 w) (
 K1 undef w)
theorem n66s {t0 t1:Value} {R:RT} {w:World} (h:n66 t0 t1 R w):Calls Pg 170 #[t0,t1] w R:=by
 refine yD Tryz.func170 ?_
 refine zs<|zr<|yv h fun _ w h=>zm<|zn<|zk<|zs<|sim_regionG<|yG 4<|yv h fun _ w h=>yv h fun _ w h=>yb h fun _ w h=>zm<|zn<|yg1 5 3 true [8,9,10,11,12] 12 h (fun _ T hT h=>?_) fun σ w h=>?_
 · refine yv h fun _ w h=>yv h fun _ w h=>yv h fun _ w h=>yv h fun _ w h=>yb h fun _ w h=>zn ?_
   exact zt hT h
 exact yG 2<|yp h fun _ h=>zm<|zn<|sim_end<|zk<|sim_ret<|body_ret1 rfl rfl h
def n112c1 (t16 t19 t22:Value) (C1:World→Prop) (K2:KV) (R:RT) (w:World):Prop :=
 opV Pg (Instr.buildSlice 75 3 #[(0,t16),(1,t19),(2,t22)]) (panK R) w fun t23 w =>
 C1 w∧(
 callK Pg 124 #[t23] (panK R) w fun t24 w =>
 C1 w∧(
 qV Pg C1 (Op.unary .not t24) fun t25 =>
 K2 t25 w))
def n112c2 (t2:Value) (C1:World→Prop) (K2:KV) (R:RT) (w:World):Prop :=
 qV Pg C1 (Instr.fieldAt 113 t2 0) fun t14 =>
 qV Pg C1 (Instr.loadAt 9 t14) fun t15 =>
 qV Pg C1 (Instr.fieldAt 113 t2 1) fun t17 =>
 qV Pg C1 (Instr.loadAt 3 t17) fun t18 =>
 qV Pg C1 (binS .neq 3 true t18 (.int .i64 0)) fun t19 =>
 qV Pg C1 (Instr.fieldAt 113 t2 1) fun t20 =>
 qV Pg C1 (Instr.loadAt 3 t20) fun t21 =>
 callK Pg 106 #[t15] (panK R) w fun t16 w =>
 C1 w∧(
 callK Pg 172 #[t21] (panK R) w fun t22 w =>
 C1 w∧(
 n112c1 t16 t19 t22 C1 K2 R w))
def n112 (t0 t1:Value) (R:RT) (w:World):Prop :=
 opV Pg (Instr.box 113 t0) (panK R) w fun t2 w =>
 opV Pg (Instr.loadAt 99 t1) (panK R) w fun t5 w =>
 opV Pg (Instr.fieldAt 113 t2 0) (panK R) w fun t6 w =>
 opV Pg (Instr.loadAt 9 t6) (panK R) w fun t7 w =>
 opV Pg (Instr.lookup 99 t5 t7 false) (panK R) w fun t8 w =>
 opV Pg (Instr.loadAt 99 t1) (panK R) w fun t9 w =>
 opV Pg (Instr.fieldAt 113 t2 0) (panK R) w fun t10 w =>
 opV Pg (Instr.loadAt 9 t10) (panK R) w fun t11 w =>
 opU Pg (Instr.mapUpdate 99 t9 t11 (.bool true)) (panK R) w fun w =>
 drawK w fun C1 w =>
 joinK (fun (t25:Value) (w:World) =>
 pickK t8 (.bool true) t25 fun t26 =>
 R (.returned t26) w) fun K2 =>
 guardP t8 false (
 n112c2 t2 C1 K2 R w) (
 K2 undef w)
theorem n112s {t0 t1:Value} {R:RT} {w:World} (h:n112 t0 t1 R w):Calls Pg 171 #[t0,t1] w R:=by
 refine yD Tryz.func171 ?_
 refine zs<|zr<|yv h fun _ w h=>zm<|zn<|zk<|zs<|zr<|yv h fun _ w h=>yv h fun _ w h=>yv h fun _ w h=>yv h fun _ w h=>zm<|zn<|zk ?_
 refine zs<|zr<|yv h fun _ w h=>yv h fun _ w h=>yv h fun _ w h=>yu h fun w h=>zn<|zk<|zs<|yh [3,12,13,14,15,16,17,18,19,20,21,22,23,24,25,26] h fun C hC h=>yw 0 hC ?_
 refine yw 1 hC ?_
 refine yj1 2 [13,12,11,10,4,9,8,7,6,5,3,2,1,0] [14,15,16,17,18,19,20,21,22,23,24,25] 25 h (fun _ hT hb h=>?_) (fun _ hT hb h=>?_) fun σ w hC h=>?_
 · refine ye 2 hC h fun _ h=>?_
   refine ye 3 hC h fun _ h=>?_
   refine ye 5 hC h fun _ h=>?_
   refine ye 6 hC h fun _ h=>?_
   refine ye 7 hC h fun _ h=>?_
   refine ye 8 hC h fun _ h=>?_
   refine ye 9 hC h fun _ h=>?_
   refine yo 4 ?_
   refine yc h c106 fun _ w h=>zn ?_
   obtain ⟨hC,h⟩:=h
   refine ⟨hC,?_⟩
   refine yo 10 ?_
   refine yc h c172 fun _ w h=>zn ?_
   obtain ⟨hC,h⟩:=h
   refine ⟨hC,?_⟩
   refine yo 11 ?_
   refine yS h fun _ w h=>zn ?_
   obtain ⟨hC,h⟩:=h
   refine ⟨hC,?_⟩
   refine yo 12 ?_
   refine yc h c124 fun _ w h=>zn ?_
   obtain ⟨hC,h⟩:=h
   refine ⟨hC,?_⟩
   refine ye 13 hC h fun _ h=>?_
   exact yt hT hC h
 · refine yi 2 hC ?_
   refine yi 3 hC ?_
   refine yi 5 hC ?_
   refine yi 6 hC ?_
   refine yi 7 hC ?_
   refine yi 8 hC ?_
   refine yi 9 hC ?_
   refine yi 4 hC ?_
   refine yi 10 hC ?_
   refine yi 11 hC ?_
   refine yi 12 hC ?_
   refine yi 13 hC ?_
   exact yt hT hC h
 refine yP 14 hC h fun _ h=>?_
 refine yw 15 hC ?_
 exact yz<|zk<|sim_ret<|body_ret1 rfl rfl h
def n118 (t0:Value) (R:RT) (w:World):Prop :=
 opV Pg (binS .geq 3 true t0 (.int .i64 (-1048576))) (panK R) w fun t4 w =>
 joinK (fun (t7:Value) (w:World) =>
 pickK t4 t7 (.bool false) fun t8 =>
 R (.returned t8) w) fun K1 =>
 guardP t4 true (
 opV Pg (binS .leq 3 true t0 (.int .i64 1048576)) (panK R) w fun t7 w =>
 K1 t7 w) (
 K1 undef w)
theorem n118s {t0:Value} {R:RT} {w:World} (h:n118 t0 R w):Calls Pg 172 #[t0] w R:=by
 refine yD Tryz.func172 ?_
 refine zs<|zr<|zm<|zn<|zk<|zs<|sim_regionG<|yG 3<|zm<|yb h fun _ w h=>zm<|zn<|yg1 2 2 true [6,7] 7 h (fun _ T hT h=>?_) fun σ w h=>?_
 · refine zm<|yb h fun _ w h=>zn ?_
   exact zt hT h
 exact yG 2<|yp h fun _ h=>zm<|zn<|sim_end<|zk<|sim_ret<|body_ret1 rfl rfl h
def n60c1 (t1 t2:Value) (R:RT) (w:World):Prop :=
 opV Pg (Instr.fieldAt 71 t1 5) (panK R) w fun t13 w =>
 opV Pg (Instr.loadAt 3 t13) (panK R) w fun t14 w =>
 opV Pg (Instr.fieldAt 71 t1 5) (panK R) w fun t15 w =>
 opV Pg (Instr.loadAt 3 t15) (panK R) w fun t16 w =>
 opV Pg (Instr.build 223 #[(0,t14),(1,t16)]) (panK R) w fun t17 w =>
 opU Pg (Instr.storeAt 223 t2 t17) (panK R) w fun w =>
 qW Pg 223 t2 w fun r0 =>
 R (.returned (.tuple #[r0,(.int .i64 0)])) w
def n60c2 (t1 t2:Value) (R:RT) (w:World):Prop :=
 opV Pg (Instr.fieldAt 71 t1 5) (panK R) w fun t18 w =>
 opV Pg (Instr.loadAt 3 t18) (panK R) w fun t19 w =>
 opV Pg (Instr.fieldAt 71 t1 6) (panK R) w fun t20 w =>
 opV Pg (Instr.loadAt 3 t20) (panK R) w fun t21 w =>
 opV Pg (Instr.build 223 #[(0,t19),(1,t21)]) (panK R) w fun t22 w =>
 opU Pg (Instr.storeAt 223 t2 t22) (panK R) w fun w =>
 qW Pg 223 t2 w fun r0 =>
 R (.returned (.tuple #[r0,(.int .i64 0)])) w
def n60c3 (t2:Value) (R:RT) (w:World):Prop :=
 opV Pg (Instr.build 223 #[]) (panK R) w fun t8 w =>
 opU Pg (Instr.storeAt 223 t2 t8) (panK R) w fun w =>
 qW Pg 223 t2 w fun r0 =>
 R (.returned (.tuple #[r0,(.int .i64 2)])) w
def n60c4 (t1 t2:Value) (R:RT) (w:World):Prop :=
 opV Pg (Instr.fieldAt 71 t1 1) (panK R) w fun t10 w =>
 opV Pg (Instr.loadAt 65 t10) (panK R) w fun t11 w =>
 opV Pg (binS .eql 65 true t11 (.int .i64 2)) (panK R) w fun t12 w =>
 condP t12 (
 n60c1 t1 t2 R w) (
 n60c2 t1 t2 R w)
def n60 (t0:Value) (R:RT) (w:World):Prop :=
 opV Pg (Instr.box 71 t0) (panK R) w fun t1 w =>
 opV Pg (Instr.alloc 223 true (.tuple #[])) (panK R) w fun t2 w =>
 opV Pg (Instr.loadAt 71 t1) (panK R) w fun t5 w =>
 callK Pg 76 #[t5] (panK R) w fun t6 w =>
 opV Pg (Op.unary .not t6) (panK R) w fun t7 w =>
 condP t7 (
 n60c3 t2 R w) (
 n60c4 t1 t2 R w)
theorem n60s {t0:Value} {R:RT} {w:World} (h:n60 t0 R w):Calls Pg 173 #[t0] w R:=by
 refine yD Tryz.func173 ?_
 refine zs<|zr<|yv h fun _ w h=>yv h fun _ w h=>zm<|zn<|zk<|zs<|sim_block<|zs<|zr<|yv h fun _ w h=>yc h c76 fun _ w h=>yv h fun _ w h=>zm ?_
 refine zn<|zk<|yC h (fun h=>zs<|zr<|yB h fun _ w h=>yu h fun w h=>zm<|zn<|zk<|sim_ret<|sim_block_ret<|sim_then_ret<|body_retCT rfl rfl rfl h) fun h=>zs<|zr<|yv h fun _ w h=>yv h fun _ w h=>yb h fun _ w h=>zm<|zn<|zk<|yC h (fun h=>zs<|zr<|yv h fun _ w h=>yv h fun _ w h=>yv h fun _ w h=>yv h fun _ w h=>yB h fun _ w h=>yu h fun w h=>zm<|zn<|zk<|sim_ret<|sim_block_ret<|sim_then_ret<|body_retCT rfl rfl rfl h) fun h=>sim_skip ?_
 exact sim_block_normal<|zk<|zs<|zr<|yv h fun _ w h=>yv h fun _ w h=>yv h fun _ w h=>yv h fun _ w h=>yB h fun _ w h=>yu h fun w h=>zm<|zn<|zk<|sim_ret<|body_retCT rfl rfl rfl h
def n110c1 (t7 t14:Value) (next1:KV) (R:RT) (w:World):Prop :=
 opV Pg (Op.unary .not t14) (panK R) w fun t15 w =>
 condP t15 (
 R (.returned (.tuple #[])) w) (
 opV Pg (binS .add 3 true t7 (.int .i64 1)) (panK R) w fun t16 w =>
 next1 t16 w)
def n110c2 (t0 t5 t7:Value) (next1:KV) (R:RT) (w:World):Prop :=
 opV Pg (Instr.indexAt 66 t5 t7) (panK R) w fun t9 w =>
 opV Pg (Instr.loadAt 113 t9) (panK R) w fun t10 w =>
 opV Pg (Instr.alloc 113 true (.tuple #[])) (panK R) w fun t4 w =>
 opU Pg (Instr.storeAt 113 t4 t10) (panK R) w fun w =>
 opV Pg (Instr.fieldAt 113 t4 0) (panK R) w fun t12 w =>
 opV Pg (Instr.loadAt 9 t12) (panK R) w fun t13 w =>
 callV Pg t0 #[t13] (panK R) w fun t14 w =>
 n110c1 t7 t14 next1 R w
def n110 (t0 t1:Value) (R:RT) (w:World):Prop :=
 opV Pg (Instr.loadAt 66 t1) (panK R) w fun t5 w =>
 opV Pg (Builtin.len_ #[66] 3 #[t5]) (panK R) w fun t6 w =>
 loop1 (fun t7 w next1 =>
 opV Pg (binS .lss 3 false t7 t6) (panK R) w fun t8 w =>
 condP t8 (
 n110c2 t0 t5 t7 next1 R w) (
 R (.returned (.tuple #[])) w)) (.int .i64 0) w
theorem n110s {t0 t1:Value} {R:RT} {w:World} (h:n110 t0 t1 R w):Calls Pg 174 #[t0,t1] w R:=by
 refine yD Tryz.func174 ?_
 refine zs<|zr<|yv h fun _ w h=>yx h fun _ w h=>zm<|zn<|zk<|sim_block<|yl1 [4,7,8,9,10,11,12,13,14,15,16] 7 h fun σ w next h=>zs<|zr<|yb h fun _ w h=>zn<|zk<|zs ?_
 refine yC h (fun h=>?_) fun h=>?_
 · refine sim_skip<|zk<|zs<|sim_block<|zs<|zr<|yv h fun _ w h=>yv h fun _ w h=>yv h fun _ w h=>yu h fun w h=>zn<|zk<|zs<|zr<|zm ?_
   refine yv h fun _ w h=>yv h fun _ w h=>yV h fun _ w h=>yv h fun _ w h=>zn<|zk<|yC h (fun h=>sim_ret<|sim_block_ret<|sim_then_ret<|sim_then_ret<|sim_block_ret<|body_ret0 rfl h) fun h=>sim_skip<|sim_block_normal<|zk<|zr<|yb h fun _ w h=>zm<|zn ?_
   exact zk<|⟨rfl,h⟩
 exact sim_exit<|sim_then_exit<|sim_then_exit<|sim_block_hit<|body_normal<|body_ret0 rfl h
def n104 (t0:Value) (R:RT) (w:World):Prop :=
 opV Pg (Instr.box 223 t0) (panK R) w fun t1 w =>
 opV Pg (Instr.fieldAt 223 t1 0) (panK R) w fun t3 w =>
 opV Pg (Instr.loadAt 3 t3) (panK R) w fun t4 w =>
 opV Pg (binS .geq 3 true t4 (.int .i64 0)) (panK R) w fun t5 w =>
 opV Pg (Instr.fieldAt 223 t1 0) (panK R) w fun t6 w =>
 opV Pg (Instr.loadAt 3 t6) (panK R) w fun t7 w =>
 opV Pg (Instr.fieldAt 223 t1 1) (panK R) w fun t8 w =>
 opV Pg (Instr.loadAt 3 t8) (panK R) w fun t9 w =>
 opV Pg (binS .leq 3 false t7 t9) (panK R) w fun t10 w =>
 opV Pg (Instr.fieldAt 223 t1 1) (panK R) w fun t11 w =>
 opV Pg (Instr.loadAt 3 t11) (panK R) w fun t12 w =>
 opV Pg (binS .lss 3 true t12 (.int .i64 34359738368)) (panK R) w fun t13 w =>
 opV Pg (Instr.buildSlice 75 3 #[(0,t5),(1,t10),(2,t13)]) (panK R) w fun t14 w =>
 callK Pg 124 #[t14] (panK R) w fun t15 w =>
 R (.returned t15) w
theorem n104s {t0:Value} {R:RT} {w:World} (h:n104 t0 R w):Calls Pg 175 #[t0] w R:=by
 refine yD Tryz.func175 ?_
 refine zs<|zr<|yv h fun _ w h=>zm<|zn<|zk<|zs<|zr<|yv h fun _ w h=>yv h fun _ w h=>yb h fun _ w h=>yv h fun _ w h=>yv h fun _ w h=>yv h fun _ w h=>yv h fun _ w h=>?_
 exact yb h fun _ w h=>yv h fun _ w h=>yv h fun _ w h=>yb h fun _ w h=>yS h fun _ w h=>yc h c124 fun _ w h=>zm<|zn<|zk<|sim_ret<|body_ret1 rfl rfl h
def n114c1 (t7 t8 t11:Value) (K2:World→Prop) (Qr1:List PanicEntry→World→Prop) (Xr1:Nat→World→Prop) (R:RT) (w:World):Prop :=
 opV Pg (Instr.loadAt 228 t7) Qr1 w fun t33 w =>
 opV Pg (Instr.loadAt 223 t11) Qr1 w fun t34 w =>
 callV Pg t33 #[t34] Qr1 w fun t35 w =>
 opV Pg (Op.unary .not t35) Qr1 w fun t36 w =>
 condP t36 (
 opU Pg (Instr.storeAt 37 t8 (.int .i64 2)) Qr1 w fun w =>
 Xr1 0 w) (
 K2 w)
def n114c2 (t5 t6 t7 t8 t9 t18:Value) (Kr1:World→Prop) (Qr1:List PanicEntry→World→Prop) (Xr1:Nat→World→Prop) (R:RT) (w:World):Prop :=
 opV Pg (Instr.loadAt 219 t6) Qr1 w fun t20 w =>
 opV Pg (Instr.lookup 219 t20 t18 true) Qr1 w fun t22 w =>
 opV Pg (Instr.extract t22 0) Qr1 w fun t23 w =>
 opV Pg (Instr.extract t22 1) Qr1 w fun t24 w =>
 opV Pg (Instr.alloc 223 true (.tuple #[])) Qr1 w fun t11 w =>
 opU Pg (Instr.storeAt 223 t11 t23) Qr1 w fun w =>
 opV Pg (Instr.loadAt 9 t5) Qr1 w fun t27 w =>
 opV Pg (binS .eql 9 false t18 t27) Qr1 w fun t28 w =>
 joinK (fun (w:World) =>
 Kr1 w) fun K2 =>
 condP t28 (
 K2 w) (
 opV Pg (Op.unary .not t24) Qr1 w fun t31 w =>
 condP t31 (
 opU Pg (Instr.storeAt 4 t9 (.bool true)) Qr1 w fun w =>
 K2 w) (
 n114c1 t7 t8 t11 K2 Qr1 Xr1 R w))
def n114c3 (t8 t9:Value) (ds:List Deferred) (R:RT) (w:World):Prop :=
 opV Pg (Instr.loadAt 4 t9) (outQ Pg ds [(some 37,t8)] R) w fun t37 w =>
 condP t37 (
 opU Pg (Instr.storeAt 37 t8 (.int .i64 9)) (outQ Pg ds [(some 37,t8)] R) w fun w =>
 outX Pg ds [(some 37,t8)] R w) (
 opU Pg (Instr.storeAt 37 t8 (.int .i64 0)) (outQ Pg ds [(some 37,t8)] R) w fun w =>
 outX Pg ds [(some 37,t8)] R w)
def n114c4 (t5 t6 t7 t8 t9 t17:Value) (ds:List Deferred) (R:RT) (w:World):Prop :=
 rangeN Pg t17 ds (fun l1 t18 w Kr1 Xr1 Qr1 =>
 busyK l1 w fun w =>
 n114c2 t5 t6 t7 t8 t9 t18 Kr1 Qr1 Xr1 R w) (fun ch ds w=>outQ Pg ds [(some 37,t8)] R ch w) w (fun ds w =>
 n114c3 t8 t9 ds R w) [fun ds w =>
 outX Pg ds [(some 37,t8)] R w]
def n114c5 (t4 t5 t6 t7 t8:Value) (ds:List Deferred) (R:RT) (w:World):Prop :=
 opV Pg (Instr.alloc 4 true (.tuple #[])) (outQ Pg ds [(some 37,t8)] R) w fun t9 w =>
 opU Pg (Instr.storeAt 4 t9 (.bool false)) (outQ Pg ds [(some 37,t8)] R) w fun w =>
 opV Pg (Instr.loadAt 68 t4) (outQ Pg ds [(some 37,t8)] R) w fun t16 w =>
 callK Pg 168 #[t16] (outQ Pg ds [(some 37,t8)] R) w fun t17 w =>
 n114c4 t5 t6 t7 t8 t9 t17 ds R w
def n114c6 (t4 t5 t6 t7 t8 t14:Value) (ds:List Deferred) (R:RT) (w:World):Prop :=
 opV Pg (Op.unary .not t14) (outQ Pg ds [(some 37,t8)] R) w fun t15 w =>
 condP t15 (
 opU Pg (Instr.storeAt 37 t8 (.int .i64 2)) (outQ Pg ds [(some 37,t8)] R) w fun w =>
 outX Pg ds [(some 37,t8)] R w) (
 n114c5 t4 t5 t6 t7 t8 ds R w)
def n114 (t0 t1 t2 t3:Value) (R:RT) (w:World):Prop :=
 (fun (ds:List Deferred) =>
 opV Pg (Instr.box 68 t0) (outQ Pg ds [(some 37,undef)] R) w fun t4 w =>
 opV Pg (Instr.box 9 t1) (outQ Pg ds [(some 37,undef)] R) w fun t5 w =>
 opV Pg (Instr.box 219 t2) (outQ Pg ds [(some 37,undef)] R) w fun t6 w =>
 opV Pg (Instr.box 228 t3) (outQ Pg ds [(some 37,undef)] R) w fun t7 w =>
 opV Pg (Instr.alloc 37 true (.tuple #[])) (outQ Pg ds [(some 37,undef)] R) w fun t8 w =>
 opV Pg (Instr.loadAt 68 t4) (outQ Pg ds [(some 37,t8)] R) w fun t13 w =>
 callK Pg 166 #[t13] (outQ Pg ds [(some 37,t8)] R) w fun t14 w =>
 n114c6 t4 t5 t6 t7 t8 t14 ds R w) []
theorem n114s {t0 t1 t2 t3:Value} {R:RT} {w:World} (h:n114 t0 t1 t2 t3 R w):Calls Pg 176 #[t0,t1,t2,t3] w R:=by
 refine yE Tryz.func176 ?_
 unfold n114 at h
 dsimp only at h
 refine zs<|zr<|yv h fun _ w h=>yv h fun _ w h=>yv h fun _ w h=>yv h fun _ w h=>yv h fun _ w h=>zn<|zk<|zs<|zs<|zr<|yv h fun _ w h=>yc h c166 fun _ w h=>yv h fun _ w h=>?_
 refine zn<|zk<|yC h (fun h=>zs<|zr<|yu h fun w h=>zn<|zk<|sim_ret<|sim_then_ret<|bodyM_ret rfl h) fun h=>sim_skip<|zk<|zs<|zr<|yv h fun _ w h=>yu h fun w h=>zn<|zk<|zs<|zs<|zr ?_
 refine yv h fun _ w h=>yc h c168 fun _ w h=>zn<|zk<|sim_block<|sim_range [.ret] h rfl (fun l1 t18 w Kr1 Xr1 Qr1 h=>?_) (fun ds w h=>?_) (fun c ds w h=>?_) (fun ch ds w h=>outQ_of rfl h)
 · refine zr<|zm<|zn<|zk ?_
   obtain ⟨hr,h⟩:=h
   refine ⟨rfl,hr,fun w hb=>?_⟩
   have h:=h w hb
   refine sim_block<|zs<|zr<|yv h fun _ w h=>zm<|yv h fun _ w h=>zm<|yv h fun _ w h=>yv h fun _ w h=>yv h fun _ w h=>yu h fun w h=>zm<|zn<|zk<|sim_block ?_
   refine zs<|zr<|zm<|yv h fun _ w h=>yb h fun _ w h=>zm<|zn<|zk<|yJ0 [29,30,31,32,33,34,35,36] h (fun _ _ hkK2 h=>?_) fun σ w h=>?_
   · refine yC h (fun h=>?_) fun h=>?_
     · refine sim_skip<|zk ?_
       exact zt hkK2 h
     refine zs<|zr<|zm<|yv h fun _ w h=>zm<|zn<|zk<|yC h (fun h=>?_) fun h=>?_
     · refine zr<|yu h fun w h=>zn<|zk ?_
       exact zt hkK2 h
     refine zs<|zr<|yv h fun _ w h=>yv h fun _ w h=>yV h fun _ w h=>yv h fun _ w h=>zm<|zn<|zk<|yC h (fun h=>zs<|zr<|yu h fun w h=>zn<|zk<|sim_ret<|sim_then_ret<|sim_block_ret<|sim_block_ret<|⟨rfl,0,rfl,h⟩) fun h=>sim_skip<|zk ?_
     exact zt hkK2 h
   exact sim_block_normal<|sim_block_normal<|⟨rfl,h⟩
 · refine sim_block_normal<|zk<|zs<|zs<|zr<|yv h fun _ w h=>zn<|zk<|yC h (fun h=>zs<|zr<|yu h fun w h=>zn<|zk<|sim_ret<|sim_then_ret<|bodyM_ret rfl h) fun h=>sim_skip<|zk<|zs<|zr<|yu h fun w h=>?_
   exact zn<|zk<|sim_ret<|bodyM_ret rfl h
 rcases c with _ | c
 · refine ⟨_,rfl,.inl ⟨rfl,?_⟩⟩
   exact sim_block_ret<|sim_then_ret<|bodyM_ret rfl h
 exact h.elim
def n105 (t0 t1 t2:Value) (R:RT) (w:World):Prop :=
 opV Pg (Instr.box 4 t0) (panK R) w fun t3 w =>
 opV Pg (Instr.loadAt 68 t1) (panK R) w fun t5 w =>
 opV Pg (Instr.makeFunc (.func 179) #[] #[t2,t3]) (panK R) w fun t6 w =>
 callK Pg 178 #[t5,t6] (panK R) w fun t7 w =>
 R (.returned t7) w
theorem n105s {t0 t1 t2:Value} {R:RT} {w:World} (h:n105 t0 t1 t2 R w):Calls Pg 177 #[t0,t1,t2] w R:=by
 refine yD Tryz.func177 ?_
 refine zs<|zr<|yv h fun _ w h=>zm<|zn<|zk<|zs<|zr<|yv h fun _ w h=>yF h fun _ w h=>yc h c178 fun _ w h=>zm<|zn<|zk<|sim_ret ?_
 exact body_ret1 rfl rfl h
def n117c1 (t5 t13 t19 t22:Value) (C2:World→Prop) (next1:KW) (R:RT) (w:World):Prop :=
 qV Pg C2 (binS .mul 3 false t19 t22) fun t23 =>
 qV Pg C2 (binS .add 3 false t5 t23) fun t24 =>
 opV Pg (binS .add 3 true t13 (.int .i64 1)) (panK R) w fun t25 w =>
 next1 t24 t25 w
def n117c2 (t1 t5 t7 t13:Value) (C2:World→Prop) (next1:KW) (R:RT) (w:World):Prop :=
 qV Pg C2 (Instr.fieldAt 113 t7 1) fun t18 =>
 qV Pg C2 (Instr.loadAt 3 t18) fun t19 =>
 qV Pg C2 (Instr.loadAt 113 t7) fun t21 =>
 callV Pg t1 #[t21] (panK R) w fun t22 w =>
 C2 w∧(
 n117c1 t5 t13 t19 t22 C2 next1 R w)
def n117c3 (t1 t5 t11 t13:Value) (next1:KW) (R:RT) (w:World):Prop :=
 opV Pg (Instr.indexAt 66 t11 t13) (panK R) w fun t15 w =>
 opV Pg (Instr.loadAt 113 t15) (panK R) w fun t16 w =>
 opV Pg (Instr.alloc 113 true (.tuple #[])) (panK R) w fun t7 w =>
 opU Pg (Instr.storeAt 113 t7 t16) (panK R) w fun w =>
 drawK w fun C2 w =>
 n117c2 t1 t5 t7 t13 C2 next1 R w
def n117 (t0 t1:Value) (R:RT) (w:World):Prop :=
 opV Pg (Instr.box 68 t0) (panK R) w fun t2 w =>
 opV Pg (Instr.fieldAt 68 t2 0) (panK R) w fun t8 w =>
 opV Pg (Instr.loadAt 3 t8) (panK R) w fun t9 w =>
 opV Pg (Instr.fieldAt 68 t2 1) (panK R) w fun t10 w =>
 opV Pg (Instr.loadAt 66 t10) (panK R) w fun t11 w =>
 opV Pg (Builtin.len_ #[66] 3 #[t11]) (panK R) w fun t12 w =>
 loop2 (fun t5 t13 w next1 =>
 opV Pg (binS .lss 3 false t13 t12) (panK R) w fun t14 w =>
 condP t14 (
 n117c3 t1 t5 t11 t13 next1 R w) (
 R (.returned t5) w)) t9 (.int .i64 0) w
theorem n117s {t0 t1:Value} {R:RT} {w:World} (h:n117 t0 t1 R w):Calls Pg 178 #[t0,t1] w R:=by
 refine yD Tryz.func178 ?_
 refine zs<|zr<|yv h fun _ w h=>zm<|zn<|zk<|zs<|zr<|yv h fun _ w h=>yv h fun _ w h=>zm<|zn<|zk<|zs<|zs ?_
 refine zr<|yv h fun _ w h=>yv h fun _ w h=>yx h fun _ w h=>zm<|zn<|zk<|sim_block<|yl2 [5,7,13,14,15,16,17,18,19,20,21,22,23,24,25] 5 13 h fun σ w next h=>zs<|zr<|yb h fun _ w h=>zn<|zk<|zs ?_
 refine yC h (fun h=>?_) fun h=>?_
 · refine sim_skip<|zk<|zs<|sim_block<|zs<|zr<|yv h fun _ w h=>yv h fun _ w h=>yv h fun _ w h=>yu h fun w h=>zn<|zk<|yh [5,17,18,19,20,21,22,23,24] h fun C hC h=>yw 0 hC ?_
   refine ye 1 hC h fun _ h=>?_
   refine ye 2 hC h fun _ h=>?_
   refine yw 3 hC ?_
   refine ye 4 hC h fun _ h=>?_
   refine yo 5 ?_
   refine yV h fun _ w h=>zn ?_
   obtain ⟨hC,h⟩:=h
   refine ⟨hC,?_⟩
   refine ye 6 hC h fun _ h=>?_
   refine ye 7 hC h fun _ h=>?_
   refine yw 8 hC ?_
   exact yz<|sim_block_normal<|zk<|zr<|yb h fun _ w h=>zm<|zn<|zk<|⟨rfl,h⟩
 exact sim_exit<|sim_then_exit<|sim_then_exit<|sim_block_hit<|zk<|zs<|zr<|zm<|zm<|zn<|zk<|sim_ret<|body_ret1 rfl rfl h
def n106c1 (t1 t3:Value) (R:RT) (w:World):Prop :=
 opV Pg (Instr.loadAt 219 t1) (panK R) w fun t17 w =>
 opV Pg (Instr.fieldAt 113 t3 0) (panK R) w fun t18 w =>
 opV Pg (Instr.loadAt 9 t18) (panK R) w fun t19 w =>
 opV Pg (Instr.lookup 219 t17 t19 false) (panK R) w fun t20 w =>
 opV Pg (Instr.field 223 t20 1) (panK R) w fun t21 w =>
 R (.returned t21) w
def n106 (t0 t1 t2:Value) (R:RT) (w:World):Prop :=
 opV Pg (Instr.box 113 t0) (panK R) w fun t3 w =>
 opV Pg (Instr.loadAt 219 t1) (panK R) w fun t6 w =>
 opV Pg (Instr.fieldAt 113 t3 0) (panK R) w fun t7 w =>
 opV Pg (Instr.loadAt 9 t7) (panK R) w fun t8 w =>
 opV Pg (Instr.lookup 219 t6 t8 false) (panK R) w fun t9 w =>
 opV Pg (Instr.alloc 223 true (.tuple #[])) (panK R) w fun t5 w =>
 opU Pg (Instr.storeAt 223 t5 t9) (panK R) w fun w =>
 opV Pg (Instr.loadAt 4 t2) (panK R) w fun t10 w =>
 opV Pg (Instr.fieldAt 113 t3 1) (panK R) w fun t11 w =>
 opV Pg (Instr.loadAt 3 t11) (panK R) w fun t12 w =>
 opV Pg (binS .gtr 3 true t12 (.int .i64 0)) (panK R) w fun t13 w =>
 opV Pg (binS .eql 4 false t10 t13) (panK R) w fun t14 w =>
 condP t14 (
 opV Pg (Instr.fieldAt 223 t5 0) (panK R) w fun t15 w =>
 opV Pg (Instr.loadAt 3 t15) (panK R) w fun t16 w =>
 R (.returned t16) w) (
 n106c1 t1 t3 R w)
theorem n106s {t0 t1 t2:Value} {R:RT} {w:World} (h:n106 t0 t1 t2 R w):Calls Pg 179 #[t0,t1,t2] w R:=by
 refine yD Tryz.func179 ?_
 refine zs<|zr<|yv h fun _ w h=>zm<|zn<|zk<|zs<|zs<|zr<|yv h fun _ w h=>yv h fun _ w h=>yv h fun _ w h=>yv h fun _ w h=>yv h fun _ w h=>yu h fun w h=>?_
 refine zn<|zk<|zs<|zr<|yv h fun _ w h=>yv h fun _ w h=>yv h fun _ w h=>yb h fun _ w h=>yb h fun _ w h=>zn<|zk<|yC h (fun h=>zs<|zr<|yv h fun _ w h=>yv h fun _ w h=>zm<|zn<|zk<|sim_ret<|sim_then_ret<|body_ret1 rfl rfl h) fun h=>sim_skip<|zk ?_
 exact zs<|zr<|yv h fun _ w h=>yv h fun _ w h=>yv h fun _ w h=>yv h fun _ w h=>yv h fun _ w h=>zm<|zn<|zk<|sim_ret<|body_ret1 rfl rfl h
open Go.RowKit (intOf)
def letterB (c:UInt8):Bool:=(decide (65≤(c.toNat:Int))&&decide ((c.toNat:Int)≤90))||(decide (97≤(c.toNat:Int))&&decide ((c.toNat:Int)≤122))
def digitB (c:UInt8):Bool:=decide (48≤(c.toNat:Int))&&decide ((c.toNat:Int)≤57)
def wordB (c:UInt8):Bool:=letterB c||digitB c||((c.toNat:Int) == 95)
def smallB (v:Int):Bool:=decide (-1048576≤v)&&decide (v≤1048576)
def nameB (s:ByteArray):Bool:=decide (1≤(s.size:Int))&&decide ((s.size:Int)≤32)&&(match s.data.toList with | []=>false | c::_=>letterB c)&&s.data.toList.all wordB
theorem letter_ret (w0:World) (c:UInt8):Ret Pg 122 #[.int .u8 c.toNat] w0 fun r w'=>r = .bool (letterB c)∧Ext w0 w':=by
 refine n116s (R:=retR _) ?_;unfold n116
 simp (disch:=try exact DI) only [↓PR,QR,simprocAttr,↓n116c1,↓n116c2]
 unfold letterB
 have e:=Ext.refl w0
 generalize decide (65≤(c.toNat:Int))=b1
 generalize decide ((c.toNat:Int)≤90)=b2
 generalize decide (97≤(c.toNat:Int))=b3
 generalize decide ((c.toNat:Int)≤122)=b4
 cases b1<;>cases b2<;>cases b3<;>cases b4<;>simp (disch:=try exact DI) only [↓PR,QR,simprocAttr,↓n116c1,↓n116c2]<;>exact ⟨by trivial,e⟩
theorem digit_ret (w0:World) (c:UInt8):Ret Pg 123 #[.int .u8 c.toNat] w0 fun r w'=>r = .bool (digitB c)∧Ext w0 w':=by
 refine n115s (R:=retR _) ?_;unfold n115
 simp (disch:=try exact DI) only [↓PR,QR,simprocAttr,Sw.joinK_eq]
 unfold digitB
 have e:=Ext.refl w0
 generalize decide (48≤(c.toNat:Int))=b1
 generalize decide ((c.toNat:Int)≤57)=b2
 cases b1<;>cases b2<;>simp (disch:=try exact DI) only [↓PR,QR,simprocAttr,Sw.joinK_eq]<;>exact ⟨by trivial,e⟩
theorem small_ret (w0:World) (v:Int):Ret Pg 172 #[.int .i64 v] w0 fun r w'=>r = .bool (smallB v)∧Ext w0 w':=by
 refine n118s (R:=retR _) ?_;unfold n118
 simp (disch:=try exact DI) only [↓PR,QR,simprocAttr,Sw.joinK_eq]
 unfold smallB
 have e:=Ext.refl w0
 generalize decide (-1048576≤v)=b1
 generalize decide (v≤1048576)=b2
 cases b1<;>cases b2<;>simp (disch:=try exact DI) only [↓PR,QR,simprocAttr,Sw.joinK_eq]<;>exact ⟨by trivial,e⟩
def BoolsOf (w:World) (v:Value) (l:List Bool):Prop:=SliceOf w 1 EBool v l
theorem Index_bool_ret (w0:World) (v:Value) (l:List Bool) (x:Bool) (hs:BoolsOf w0 v l) :
 Ret Pg 138 #[v,.bool x] w0 fun r w'=>r = .int .i64 (idx (x == ·) l)∧Ext w0 w':=by
 obtain ⟨A,c,rfl,hlc,hcm,hlm,hel⟩:=SliceOf.open hs
 refine n136s (R:=retR _) ?_;unfold n136
 simp (disch:=try exact DI) only [↓PR,QR,simprocAttr]
 refine loop1_intro (fun i w=>∃ k:Nat,i = .int .i64 k∧k≤l.length∧Ext w0 w∧∀ (j:Nat) y,j < k→l[j]?=some y→(x == y)=false) (fun i _=>l.length - (intOf i).toNat) ⟨0,rfl,by omega,Ext.refl _,fun j y h=>by omega⟩ ?_
 rintro i w ⟨k,rfl,hk,e,hb⟩
 by_cases hlt:k < l.length
 · obtain ⟨y,hy⟩:=getElem?_lt hlt
   obtain ⟨b,o,cs,rfl,hl,hA,rfl⟩:=hel k y hy
   have hd:decide ((k:Int) < (l.length:Int))=true:=by simp;omega
   have hc:w.cell? ⟨b,o+k*1,none⟩=some (.bool y):=(hA.ext e).cell 0 rfl
   simp (disch:=try exact DI) only [↓PR,QR,simprocAttr,hd,hc,↓n136c1]
   cases hp:(x == y) with
   | true =>
    simp (disch:=try exact DI) only [↓PR,QR,simprocAttr]
    exact ⟨by rw [idx_here hy hp hb],e⟩
   | false =>
    simp (disch:=try exact DI) only [↓PR,QR,simprocAttr]
    exact ⟨⟨k+1,rfl,by omega,e,before_succ hb hy hp⟩,by simp [intOf];omega⟩
 · have hd:decide ((k:Int) < (l.length:Int))=false:=by simp;omega
   simp (disch:=try exact DI) only [↓PR,QR,simprocAttr,hd,↓n136c1]
   exact ⟨by rw [idx_none fun j y hy=>hb j y (by have:=(List.getElem?_eq_some_iff.1 hy).1;omega) hy],e⟩
theorem Contains_bool_ret (w0:World) (v:Value) (l:List Bool) (x:Bool) (hs:BoolsOf w0 v l) :
 Ret Pg 132 #[v,.bool x] w0 fun r w'=>r = .bool (l.any (x == ·))∧Ext w0 w':=by
 refine n127s (R:=retR _) ?_;unfold n127
 refine callK_ret (Index_bool_ret _ _ l x hs) ?_
 rintro r w' ⟨rfl,e⟩
 simp (disch:=try exact DI) only [↓PR,QR,simprocAttr,Sw.joinK_eq]
 exact ⟨by rw [idx_neg],e⟩
theorem all_ret (w0:World) (v:Value) (l:List Bool) (hs:BoolsOf w0 v l) :
 Ret Pg 124 #[v] w0 fun r w'=>r = .bool (l.all id)∧Ext w0 w':=by
 refine n113s (R:=retR _) ?_;unfold n113
 refine callK_ret (Contains_bool_ret _ _ l false hs) ?_
 rintro r w' ⟨rfl,e⟩
 simp (disch:=try exact DI) only [↓PR,QR,simprocAttr,Sw.joinK_eq]
 refine ⟨?_,e⟩
 congr 1
 clear hs
 induction l with
 | nil=>rfl
 | cons a l ih=>cases a<;>simp_all
theorem NameS1_ret (w0:World) (c:UInt8):Ret Pg 121 #[.int .u8 c.toNat] w0 fun r w'=>r = .bool (!wordB c)∧Ext w0 w':=by
 refine n108s (R:=retR _) ?_;unfold n108
 refine callK_ret (letter_ret _ c) ?_
 rintro r w' ⟨rfl,e⟩
 simp (disch:=try exact DI) only [↓PR,QR,simprocAttr,↓n108c1,↓n108c2]
 unfold wordB
 cases letterB c with
 | true=>simp (disch:=try exact DI) only [↓PR,QR,simprocAttr,↓n108c1,↓n108c2];exact ⟨by trivial,e⟩
 | false =>
  simp (disch:=try exact DI) only [↓PR,QR,simprocAttr,↓n108c1,↓n108c2]
  refine callK_ret (digit_ret _ c) ?_
  rintro r w2 ⟨rfl,e2⟩
  have e3:=e.trans e2
  cases digitB c with
  | true=>simp (disch:=try exact DI) only [↓PR,QR,simprocAttr,↓n108c1,↓n108c2];exact ⟨by trivial,e3⟩
  | false=>simp (disch:=try exact DI) only [↓PR,QR,simprocAttr,↓n108c1,↓n108c2];exact ⟨by trivial,e3⟩
def BytesOf (w:World) (v:Value) (l:List UInt8):Prop:=SliceOf w 1 EByte v l
theorem ContainsFunc_byte_ret (w0:World) (v:Value) (l:List UInt8) (g:FuncId) (caps:Array Value) (p:UInt8→Bool) (hs:BytesOf w0 v l) (hg:Callable Pg g) (hc:Tests w0 (fun _ v x=>v = .int .u8 (x.toNat:Int)) g caps p l) :
 Ret Pg 125 #[v,.func (.func g) #[] caps] w0 fun r w'=>r = .bool (l.any p)∧Ext w0 w':=by
 refine n125s (R:=retR _) ?_;unfold n125
 refine callK_ret (IndexFunc_byte_ret _ _ l g caps p hs hg hc) ?_
 rintro r w' ⟨rfl,e⟩
 simp (disch:=try exact DI) only [↓PR,QR,simprocAttr,Sw.joinK_eq]
 exact ⟨by rw [idx_neg],e⟩
theorem boolsNew (w:World) (l:List Bool) (T:TypeId) (hl:l.length≤9223372036854775807):BoolsOf (w.alloc (.cells (l.map Value.bool).toArray T)) (.slice (some ⟨w.heap.size,0,none⟩) l.length l.length) l:=SliceOf.new1 _ (fun _ _=>rfl) w l T hl
theorem all2_ret {w:World} {p:Nat} (hp:p=w.heap.size) (a b:Bool) (T:TypeId):Ret Pg 124 #[.slice (some ⟨p,0,none⟩) 2 2] (w.alloc (.cells #[.bool a,.bool b] T)) fun r w'=>r = .bool (a&&b)∧Ext (w.alloc (.cells #[.bool a,.bool b] T)) w':=by
 subst hp
 have h:=all_ret _ _ [a,b] (boolsNew w [a,b] T (by simp))
 simpa using h
theorem all3_ret {w:World} {p:Nat} (hp:p=w.heap.size) (a b c:Bool) (T:TypeId):Ret Pg 124 #[.slice (some ⟨p,0,none⟩) 3 3] (w.alloc (.cells #[.bool a,.bool b,.bool c] T)) fun r w'=>r = .bool (a&&b&&c)∧Ext (w.alloc (.cells #[.bool a,.bool b,.bool c] T)) w':=by
 subst hp
 have h:=all_ret _ _ [a,b,c] (boolsNew w [a,b,c] T (by simp))
 simpa [Bool.and_assoc] using h
theorem Name_ret (w0:World) (s:ByteArray):Ret Pg 106 #[.string s] w0 fun r w'=>r = .bool (nameB s)∧Ext w0 w':=by
 refine n107s (R:=retR _) ?_;unfold n107
 simp (disch:=try exact DI) only [↓PR,QR,simprocAttr,↓n107c1,↓n107c2]
 have e1:Ext w0 (w0.alloc (.cells #[.bool (decide (1≤(s.size:Int))),.bool (decide ((s.size:Int)≤32))] 4)):=(Ext.refl w0).alloc _
 refine callK_ret (all_ret _ _ [decide (1≤(s.size:Int)),decide ((s.size:Int)≤32)] (boolsNew w0 [decide (1≤(s.size:Int)),decide ((s.size:Int)≤32)] 4 (by simp))) ?_
 rintro r w1 ⟨rfl,e2⟩
 have e:=e1.trans e2
 have hall:[decide (1≤(s.size:Int)),decide ((s.size:Int)≤32)].all id=(decide (1≤(s.size:Int))&&decide ((s.size:Int)≤32)):=by simp
 rw [hall]
 unfold nameB
 cases h1:(decide (1≤(s.size:Int))&&decide ((s.size:Int)≤32)) with
 | false=>simp (disch:=try exact DI) only [↓PR,QR,simprocAttr,↓n107c1,↓n107c2];exact ⟨by trivial,e⟩
 | true =>
  simp (disch:=try exact DI) only [↓PR,QR,simprocAttr,↓n107c1,↓n107c2]
  have hlen:s.size≤9223372036854775807:=by simp only [Bool.and_eq_true,decide_eq_true_eq] at h1;omega
  obtain ⟨c,cs,hcs⟩:∃ c cs,s.data.toList=c::cs:=by
   simp only [Bool.and_eq_true,decide_eq_true_eq] at h1
   cases hd:s.data.toList with
   | nil =>
    have:s.data.size=0:=by rw [← Array.length_toList,hd];rfl
    have h0:s.size=s.data.size:=rfl
    omega
   | cons c cs=>exact ⟨c,cs,rfl⟩
  rw [op_indexS0 Tryz.underlying9 s .i64 (b:=c) (by rw [hcs];rfl)]
  refine callK_ret (letter_ret _ c) ?_
  rintro r w2 ⟨rfl,e3⟩
  have e:=e.trans e3
  rw [hcs]
  cases hl:letterB c with
  | false=>simp (disch:=try exact DI) only [↓PR,QR,simprocAttr,↓n107c1,↓n107c2];exact ⟨by rw [hl];rfl,e⟩
  | true =>
   simp (disch:=try exact DI) only [↓PR,QR,simprocAttr,↓n107c1,↓n107c2]
   refine op_bytes Tryz.underlying9 Tryz.underlying126 Tryz.underlying5 s hlen ?_
   rintro v w3 e4 ⟨A,cp,rfl,hc1,hc2,b,rfl,hcell⟩
   have hsz:s.data.toList.length=s.size:=by rw [Array.length_toList];rfl
   have hB:BytesOf w3 (.slice (some ⟨b,0,none⟩) s.size cp) s.data.toList:=by
    rw [← hsz]
    refine ⟨_,_,rfl,by omega,hc2,fun _=>⟨_,_,rfl,fun k x hx=>⟨[.int .u8 x.toNat],rfl,fun j v hv=>?_,rfl⟩⟩⟩
    cases j with
    | zero=>injection hv with hv;subst hv;simpa using hcell k x hx
    | succ j=>cases hv
   have e:=e.trans e4
   refine callK_ret (ContainsFunc_byte_ret _ _ s.data.toList _ _ (fun x=>!wordB x) hB c121 ?_) ?_
   · rintro w v x _ _ rfl
     exact NameS1_ret w x
   · rintro r w4 ⟨rfl,e5⟩
     simp (disch:=try exact DI) only [↓PR,QR,simprocAttr,↓n107c1,↓n107c2]
     refine ⟨?_,e.trans e5⟩
     rw [hcs,hl]
     congr 1
     generalize c::cs=l
     clear hall
     induction l with
     | nil=>rfl
     | cons a l ih=>simp only [List.any_cons,List.all_cons,Bool.not_or,Bool.not_not,Bool.true_and] at *;rw [ih]
def termB (t:TermD):Bool:=nameB t.field&&(t.factor != 0)&&smallB t.factor
theorem ValidS1_ret (w:World) (t:TermD) (pb r:Nat) (names:List ByteArray) (hcell:w.cell? ⟨pb,0,none⟩=some (.map (some r))) (hm:SetOf w r names) :
 Ret Pg 171 #[termVal t,.pointer (some ⟨pb,0,none⟩)] w fun v w'=>v = .bool (memB names t.field||!termB t)∧SetOf w' r (names++[t.field])∧w'.cell? ⟨pb,0,none⟩=some (.map (some r)) ∧
  ∀ w0,Ext w0 w→w0.heap.size≤r→Ext w0 w':=by
 have hpb:pb < w.heap.size:=World.block_lt_of_cell? w _ hcell
 obtain ⟨L,c,hM,hl⟩:=hm
 refine n112s (R:=retR _) ?_;unfold n112
 unfold termVal
 simp (disch:=try exact DI) only [↓PR,QR,simprocAttr,hcell]
 have e1:Ext w (w.alloc (.cells #[.string t.field,.int .i64 t.factor] 113)):=(Ext.refl w).alloc _
 rw [op_lookup1S Tryz.underlying99 Tryz.underlying9 ty4 (hM.ext e1)]
 simp (disch:=try exact DI) only [↓PR,QR,simprocAttr,hcell]
 rw [op_mapUpdateS Tryz.underlying99 Tryz.underlying9 (hM.ext e1)]
 obtain ⟨W,hW⟩:∃ W,((w.alloc (.cells #[.string t.field,.int .i64 t.factor] 113)).putObj r (mapObjS (putL L c t.field (.bool true)) (putC L c t.field)))=W:=⟨_,rfl⟩
 have hS:SetOf W r (names++[t.field]):=by rw [← hW];exact SetOf.put (hM.ext e1) hl _
 have hC:W.cell? ⟨pb,0,none⟩=some (.map (some r)):=by rw [← hW,cell_putMap (hM.ext e1)];exact e1.cell hcell
 have hE:∀ w0,Ext w0 w→w0.heap.size≤r→Ext w0 W:=fun w0 h0 hr=>by rw [← hW];exact (h0.trans e1).putObj hr _
 have hA0:W.cell? ⟨w.heap.size,0,none⟩=some (.string t.field):=by rw [← hW,cell_putMap (hM.ext e1),cell_new];rfl
 have hA1:W.cell? ⟨w.heap.size,1,none⟩=some (.int .i64 t.factor):=by rw [← hW,cell_putMap (hM.ext e1),cell_new];rfl
 rw [hW]
 refine drawK_intro ?_
 have ht8:(Sw.look L t.field).getD (.bool false) = .bool (memB names t.field):=by rw [hl];cases memB names t.field<;>rfl
 rw [ht8]
 have fin:∀ b w',Ext W w'→b=(memB names t.field||!termB t)→(Value.bool b = .bool (memB names t.field||!termB t)∧SetOf w' r (names++[t.field])∧w'.cell? ⟨pb,0,none⟩=some (.map (some r))∧∀ w0,Ext w0 w→w0.heap.size≤r→Ext w0 w') :=
  fun b w' e hb=>⟨by rw [hb],hS.ext e,e.cell hC,fun w0 h0 hr=>(hE w0 h0 hr).trans e⟩
 cases hmem:memB names t.field with
 | true =>
  simp (disch:=try exact DI) only [↓PR,QR,simprocAttr,↓n112c1,↓n112c2]
  exact ⟨trivial,(fin (true||!termB t) _ (Ext.refl _).wdrew (by rw [hmem])).2⟩
 | false =>
  simp (disch:=try exact DI) only [↓PR,QR,simprocAttr,↓n112c1,↓n112c2,hA0,hA1]
  refine zcr (Name_ret _ t.field) fun w1 e2=>?_
  refine ⟨e2,?_⟩
  refine zcr (small_ret _ t.factor) fun w2 e3=>?_
  refine ⟨e2.trans e3,?_⟩
  simp (disch:=try exact DI) only [↓PR,QR,simprocAttr,↓n112c1,↓n112c2]
  have e:=e2.trans e3
  refine ⟨e.alloc _,?_⟩
  refine zcr (all3_ret rfl _ _ _ _) fun w3 e4=>?_
  refine ⟨(e.alloc _).trans e4,?_⟩
  simp (disch:=try exact DI) only [↓PR,QR,simprocAttr,↓n112c1,↓n112c2]
  exact ⟨rfl,(fin (!termB t) w3 (((Ext.refl _).wdrew).trans ((e.alloc _).trans e4)) (by rw [hmem];rfl)).2⟩
def termsB:List ByteArray→List TermD→Bool
 | _,[]=>true
 | seen,t::ts=>!(memB seen t.field)&&termB t&&termsB (seen++[t.field]) ts
theorem termsB_iff:∀ (ts:List TermD) (seen:List ByteArray),termsB seen ts=true↔∀ k x,ts[k]?=some x→(memB (seen++(ts.take k).map (·.field)) x.field||!termB x)=false
 | [],seen=>by simp [termsB]
 | t::ts,seen=>by
  simp only [termsB,Bool.and_eq_true,termsB_iff ts]
  constructor
  · rintro ⟨⟨h1,h2⟩,h3⟩ k x hx
    cases k with
    | zero=>simp at hx;subst hx;simpa using ⟨by simpa using h1,h2⟩
    | succ k=>have:=h3 k x (by simpa using hx);simpa using this
  · intro h
    refine ⟨?_,fun k x hx=>by simpa using h (k+1) x (by simpa using hx)⟩
    have:=h 0 t rfl
    simp at this
    exact ⟨by rw [this.1];rfl,this.2⟩
theorem ContainsFunc_Term_st (w0 w1:World) (v:Value) (l:List TermD) (g:FuncId) (caps:Array Value) (p:Nat→Bool) (J:Nat→World→Prop) (hs:TermsOf w0 v l) (hg:Callable Pg g) (hJ:∀ k w,J k w→Ext w0 w) (h0:J 0 w1)
 (hc:∀ k x w u,l[k]?=some x→J k w→(fun _ v x=>v=termVal x) w u x→Ret Pg g (#[u]++caps) w fun r w'=>r = .bool (p k)∧J (k+1) w') :
 Ret Pg 99 #[v,.func (.func g) #[] caps] w1 fun r w'=>r = .bool ((List.range l.length).any p)∧∃ k,J k w':=by
 refine n124s (R:=retR _) ?_;unfold n124
 refine callK_ret (IndexFunc_Term_st w0 _ _ l g caps p J hs hg hJ h0 hc) ?_
 rintro r w' ⟨rfl,e⟩
 simp (disch:=try exact DI) only [↓PR,QR,simprocAttr,Sw.joinK_eq]
 exact ⟨by rw [idx_neg],e⟩
def sizeB (base:Int) (ts:List TermD):Bool:=smallB base&&decide (ts.length≤4)&&termsB [] ts
theorem Valid_ret (w0:World) (v:Value) (base:Int) (ts:List TermD) (hs:SizeVal w0 v base ts) :
 Ret Pg 166 #[v] w0 fun r w'=>r = .bool (sizeB base ts)∧Ext w0 w':=by
 obtain ⟨tv,rfl,hT⟩:=hs
 refine n111s (R:=retR _) ?_;unfold n111
 simp (disch:=try exact DI) only [↓PR,QR,simprocAttr]
 obtain ⟨A,c,rfl,hlc,hcm,hlm,hel⟩:=SliceOf.open hT
 obtain ⟨W1,hW1⟩:∃ W1,w0.alloc (.cells #[.int .i64 base,.slice A ts.length c] 68)=W1:=⟨_,rfl⟩
 have e0:Ext w0 W1:=by rw [← hW1];exact (Ext.refl w0).alloc _
 have hc0:W1.cell? ⟨w0.heap.size,0,none⟩=some (.int .i64 base):=by rw [← hW1];simp (disch:=try exact DI) only [↓PR,QR,simprocAttr]
 have hc1:W1.cell? ⟨w0.heap.size,1,none⟩=some (.slice A ts.length c):=by rw [← hW1];simp (disch:=try exact DI) only [↓PR,QR,simprocAttr]
 have hsz:w0.heap.size+1=W1.heap.size:=by rw [← hW1];simp (disch:=try exact DI) only [↓PR,QR,simprocAttr]
 simp only [hW1,hsz]
 refine drawK_introE (w1:=W1) (((Ext.refl W1).alloc _).alloc _) ?_
 simp (disch:=try exact DI) only [↓PR,QR,simprocAttr,↓n111c1,↓n111c2,↓n111c3,hc0,hc1]
 generalize hW:(World.drew _)=W
 have e1:Ext W1 W:=by rw [← hW];exact (((Ext.refl W1).alloc _).alloc _).wdrew
 have hpb:W.cell? ⟨W1.heap.size+1,0,none⟩=some (.map (some W1.heap.size)):=by rw [← hW];simp (disch:=try exact DI) only [↓PR,QR,simprocAttr]
 have hset:SetOf W W1.heap.size []:=by
  rw [← hW]
  have h:=(MapS.new W1).ext (((Ext.refl _).alloc (Obj.cells (#[Value.map none].setIfInBounds 0 (Value.map (some W1.heap.size))) 99)).wdrew)
  exact ⟨[],0,by simpa using h,fun s=>rfl⟩
 clear hW
 refine zcr (small_ret _ base) fun w1 e2=>?_
 refine ⟨e1.trans e2,?_⟩
 simp (disch:=try exact DI) only [↓PR,QR,simprocAttr]
 refine ⟨e1.trans (e2.alloc _),?_⟩
 refine zcr (all2_ret rfl _ _ _) fun w2 e3=>?_
 replace e2:=(e2.alloc _).trans e3
 refine ⟨e1.trans e2,?_⟩
 simp (disch:=try exact DI) only [↓PR,QR,simprocAttr,↓n111c1,↓n111c2,↓n111c3]
 unfold sizeB
 cases hb:(smallB base&&decide (ts.length≤4)) with
 | false =>
  have hb':(smallB base&&decide ((ts.length:Int)≤4))=false:=by rw [← hb];congr 1;simp;omega
  rw [hb']
  simp (disch:=try exact DI) only [↓PR,QR,simprocAttr,↓n111c1,↓n111c2,↓n111c3,hc0,hc1]
  exact ⟨by trivial,e0.trans (e1.trans e2)⟩
 | true =>
  have hb':(smallB base&&decide ((ts.length:Int)≤4))=true:=by rw [← hb];congr 1;simp;omega
  rw [hb']
  simp (disch:=try exact DI) only [↓PR,QR,simprocAttr,↓n111c1,↓n111c2,↓n111c3,hc0,hc1]
  refine callK_ret (ContainsFunc_Term_st W1 w2 _ ts 171 _ (fun k=>match ts[k]? with | some t=>memB ((ts.take k).map (·.field)) t.field||!termB t | none=>true) (fun k w=>SetOf w W1.heap.size ((ts.take k).map (·.field))∧w.cell? ⟨W1.heap.size+1,0,none⟩=some (.map (some W1.heap.size))∧Ext W1 w) (hT.ext e0) c171 (fun k w h=>h.2.2) ⟨hset.ext e2,e2.cell hpb,e1.trans e2⟩ ?_) ?_
  · rintro k x w u hx ⟨h1,h2,h3⟩ rfl
    simp only [hsz]
    refine Ret.mono (ValidS1_ret w x _ _ _ h2 h1) ?_
    rintro v w' ⟨rfl,h4,h5,h6⟩
    refine ⟨by rw [hx],?_,h5,h6 _ h3 (Nat.le_refl _)⟩
    rw [List.take_add_one,hx]
    simpa using h4
  · rintro _ w3 ⟨rfl,k,h1,h2,h3⟩
    refine ⟨h3,?_⟩
    simp (disch:=try exact DI) only [↓PR,QR,simprocAttr,↓n111c1,↓n111c2,↓n111c3]
    refine ⟨?_,e0.trans h3⟩
    congr 1
    rw [Bool.eq_iff_iff,termsB_iff,Bool.not_eq_true',List.any_eq_false]
    simp only [List.mem_range,List.nil_append]
    constructor
    · intro h k x hx
      have:=h k (List.getElem?_eq_some_iff.1 hx).1
      rw [hx] at this
      simpa using this
    · intro h k hk
      rw [List.getElem?_eq_getElem hk]
      have:=h k _ (List.getElem?_eq_getElem hk)
      simpa using this
def n44c1 (t3 t6:Value) (R:RT) (w:World):Prop :=
 opV Pg (Instr.loadAt 96 t3) (panK R) w fun t51 w =>
 opV Pg (Instr.loadAt 36 t6) (panK R) w fun t52 w =>
 callK Pg 40 #[t51,t52] (panK R) w fun t53 w =>
 R (.returned (.tuple #[])) w
def n44c2 (t3 t7:Value) (C7:World→Prop) (K4:World→Prop) (R:RT) (w:World):Prop :=
 qV Pg C7 (Instr.fieldAt 96 t3 0) fun t42 =>
 qV Pg C7 (Instr.loadAt 27 t42) fun t43 =>
 qN Pg C7 (nilN t43) fun t44 =>
 qV Pg C7 (Instr.fieldAt 61 t44 3) fun t45 =>
 qV Pg C7 (Instr.loadAt 59 t45) fun t46 =>
 qV Pg C7 (Instr.fieldAt 53 t7 0) fun t47 =>
 qV Pg C7 (Instr.loadAt 9 t47) fun t48 =>
 qV Pg C7 (Instr.lookup 59 t46 t48 false) fun t49 =>
 qV Pg C7 (binS .add 3 true t49 (.int .i64 1)) fun t50 =>
 opU Pg (Instr.mapUpdate 59 t46 t48 t50) (panK R) w fun w =>
 turnK w fun C8 w =>
 K4 w
def n44c3 (t3 t6 t7:Value) (C5:World→Prop) (K4:World→Prop) (R:RT) (w:World):Prop :=
 qV Pg C5 (Instr.fieldAt 96 t3 0) fun t33 =>
 qV Pg C5 (Instr.loadAt 27 t33) fun t34 =>
 qN Pg C5 (nilN t34) fun t35 =>
 qV Pg C5 (Instr.fieldAt 61 t35 3) fun t36 =>
 qV Pg C5 (Instr.loadAt 59 t36) fun t37 =>
 qV Pg C5 (Instr.fieldAt 53 t7 0) fun t38 =>
 qV Pg C5 (Instr.loadAt 9 t38) fun t39 =>
 qV Pg C5 (Instr.lookup 59 t37 t39 false) fun t40 =>
 qV Pg C5 (Instr.fieldAt 36 t6 3) fun t41 =>
 opU Pg (Instr.storeAt 3 t41 t40) (panK R) w fun w =>
 turnK w fun C6 w =>
 drawK w fun C7 w =>
 n44c2 t3 t7 C7 K4 R w
def n44c4 (t3 t6 t7 t26 t31:Value) (R:RT) (w:World):Prop :=
 pickK t26 t31 (.bool false) fun t32 =>
 joinK (fun (w:World) =>
 n44c1 t3 t6 R w) fun K4 =>
 condP t32 (
 drawK w fun C5 w =>
 n44c3 t3 t6 t7 C5 K4 R w) (
 K4 w)
def n44c5 (t3 t5 t6 t7 t26:Value) (R:RT) (w:World):Prop :=
 joinK (fun (t31:Value) (w:World) =>
 n44c4 t3 t6 t7 t26 t31 R w) fun K3 =>
 guardP t26 true (
 opV Pg (Instr.loadAt 53 t7) (panK R) w fun t28 w =>
 opV Pg (Instr.fieldAt 71 t5 0) (panK R) w fun t29 w =>
 opV Pg (Instr.loadAt 9 t29) (panK R) w fun t30 w =>
 callK Pg 77 #[t28,t30] (panK R) w fun t31 w =>
 K3 t31 w) (
 K3 undef w)
def n44c6 (t3 t5 t6 t7 t24:Value) (R:RT) (w:World):Prop :=
 opU Pg (Instr.storeAt 53 t7 t24) (panK R) w fun w =>
 turnK w fun C2 w =>
 opV Pg (Instr.loadAt 71 t5) (panK R) w fun t25 w =>
 callK Pg 76 #[t25] (panK R) w fun t26 w =>
 n44c5 t3 t5 t6 t7 t26 R w
def n44c7 (t3 t5 t6:Value) (C1:World→Prop) (R:RT) (w:World):Prop :=
 qV Pg C1 (Instr.fieldAt 96 t3 0) fun t14 =>
 qV Pg C1 (Instr.loadAt 27 t14) fun t15 =>
 qN Pg C1 (nilN t15) fun t16 =>
 qV Pg C1 (Instr.fieldAt 61 t16 0) fun t17 =>
 qV Pg C1 (Instr.fieldAt 58 t17 0) fun t18 =>
 qV Pg C1 (Instr.fieldAt 24 t18 1) fun t19 =>
 qV Pg C1 (Instr.loadAt 22 t19) fun t20 =>
 qV Pg C1 (Instr.fieldAt 96 t3 1) fun t21 =>
 qV Pg C1 (Instr.loadAt 3 t21) fun t22 =>
 qV Pg C1 (Instr.indexAt 22 t20 t22) fun t23 =>
 qV Pg C1 (Instr.loadAt 53 t23) fun t24 =>
 opV Pg (Instr.alloc 53 true (.tuple #[])) (panK R) w fun t7 w =>
 C1 w∧(
 n44c6 t3 t5 t6 t7 t24 R w)
def n44c8 (t1 t3 t5 t8:Value) (R:RT) (w:World):Prop :=
 opV Pg (Instr.alloc 36 true (.tuple #[])) (panK R) w fun t6 w =>
 opU Pg (Instr.storeAt 36 t6 t8) (panK R) w fun w =>
 opV Pg (Instr.fieldAt 96 t3 1) (panK R) w fun t9 w =>
 opV Pg (Instr.loadAt 3 t9) (panK R) w fun t10 w =>
 opV Pg (Instr.fieldAt 36 t6 1) (panK R) w fun t12 w =>
 opU Pg (Instr.storeAt 3 t12 t10) (panK R) w fun w =>
 opV Pg (Instr.fieldAt 36 t6 2) (panK R) w fun t13 w =>
 opU Pg (Instr.storeAt 3 t13 t1) (panK R) w fun w =>
 drawK w fun C1 w =>
 n44c7 t3 t5 t6 C1 R w
def n44 (t0 t1 t2:Value) (R:RT) (w:World):Prop :=
 opV Pg (Instr.box 96 t0) (panK R) w fun t3 w =>
 opV Pg (Instr.box 71 t2) (panK R) w fun t5 w =>
 callK Pg 41 #[(.int .i64 4)] (panK R) w fun t8 w =>
 n44c8 t1 t3 t5 t8 R w
theorem n44s {t0 t1 t2:Value} {R:RT} {w:World} (h:n44 t0 t1 t2 R w):Calls Pg 48 #[t0,t1,t2] w R:=by
 refine yD Tryz.func48 ?_
 refine zs<|zr<|yv h fun _ w h=>yv h fun _ w h=>zn<|zk<|zs<|zr<|yc h c41 fun _ w h=>yv h fun _ w h=>yu h fun w h=>zn<|zk<|zs<|zr ?_
 refine yv h fun _ w h=>yv h fun _ w h=>zm<|yv h fun _ w h=>yu h fun w h=>yv h fun _ w h=>yu h fun w h=>zn<|zk<|zs<|zs<|yh [7,14,15,16,17,18,19,20,21,22,23,24] h fun C hC h=>ye 0 hC h fun _ h=>?_
 refine ye 1 hC h fun _ h=>?_
 refine yn 2 hC h fun _ h=>?_
 refine ye 3 hC h fun _ h=>?_
 refine ye 4 hC h fun _ h=>?_
 refine ye 5 hC h fun _ h=>?_
 refine ye 6 hC h fun _ h=>?_
 refine ye 7 hC h fun _ h=>?_
 refine ye 8 hC h fun _ h=>?_
 refine ye 9 hC h fun _ h=>?_
 refine ye 10 hC h fun _ h=>?_
 refine yo 11 ?_
 refine yv h fun _ w h=>zn ?_
 obtain ⟨hC,h⟩:=h
 refine ⟨hC,?_⟩
 refine yq 12 1 ?_
 refine yu h fun w h=>zn ?_
 obtain ⟨C2,hC,h⟩:=h
 refine ⟨C2,hC,?_⟩
 refine yz<|zk<|zs<|sim_regionG<|yG 3<|yv h fun _ w h=>yc h c76 fun _ w h=>zm<|zn<|yg1 4 2 true [28,29,30,31] 31 h (fun _ T hT h=>?_) fun σ w h=>?_
 · refine yv h fun _ w h=>yv h fun _ w h=>yv h fun _ w h=>yc h c77 fun _ w h=>zn ?_
   exact zt hT h
 refine yG 1<|yp h fun _ h=>zn<|sim_end<|zk<|yJ0 [33,34,35,36,37,38,39,40,41,42,43,44,45,46,47,48,49,50] h (fun _ _ hkK4 h=>?_) fun σ w h=>?_
 · refine yC h (fun h=>?_) fun h=>?_
   · refine zs<|yh [33,34,35,36,37,38,39,40,41] h fun C hC h=>ye 0 hC h fun _ h=>?_
     refine ye 1 hC h fun _ h=>?_
     refine yn 2 hC h fun _ h=>?_
     refine ye 3 hC h fun _ h=>?_
     refine ye 4 hC h fun _ h=>?_
     refine ye 5 hC h fun _ h=>?_
     refine ye 6 hC h fun _ h=>?_
     refine ye 7 hC h fun _ h=>?_
     refine ye 8 hC h fun _ h=>?_
     refine yq 9 1 ?_
     refine yu h fun w h=>zn ?_
     obtain ⟨C6,hC,h⟩:=h
     refine ⟨C6,hC,?_⟩
     refine yz<|zk<|yh [42,43,44,45,46,47,48,49,50] h fun C hC h=>ye 0 hC h fun _ h=>?_
     refine ye 1 hC h fun _ h=>?_
     refine yn 2 hC h fun _ h=>?_
     refine ye 3 hC h fun _ h=>?_
     refine ye 4 hC h fun _ h=>?_
     refine ye 5 hC h fun _ h=>?_
     refine ye 6 hC h fun _ h=>?_
     refine ye 7 hC h fun _ h=>?_
     refine ye 8 hC h fun _ h=>?_
     refine yq 9 1 ?_
     refine yu h fun w h=>zn ?_
     obtain ⟨C8,hC,h⟩:=h
     refine ⟨C8,hC,?_⟩
     refine yz<|zk ?_
     exact zt hkK4 h
   refine sim_skip<|zk ?_
   exact zt hkK4 h
 exact zk<|zr<|yv h fun _ w h=>yv h fun _ w h=>yc h c40 fun _ w h=>zn<|body_normal<|body_ret0 rfl h
def n35c1 (t1 t14:Value) (R:RT) (w:World):Prop :=
 opV Pg (Instr.lookup 59 t14 t1 true) (panK R) w fun t16 w =>
 opV Pg (Instr.extract t16 0) (panK R) w fun t17 w =>
 opV Pg (Instr.extract t16 1) (panK R) w fun t18 w =>
 opV Pg (Op.unary .not t18) (panK R) w fun t20 w =>
 condP t20 (
 R (.returned (.tuple #[(.int .i64 0),(.int .i64 9)])) w) (
 R (.returned (.tuple #[t17,(.int .i64 0)])) w)
def n35 (t0 t1 t2:Value) (R:RT) (w:World):Prop :=
 callK Pg 36 #[t0] (panK R) w fun t11 w =>
 condP t11 (
 R (.returned (.tuple #[(.int .i64 0),(.int .i64 1)])) w) (
 callV Pg t2 #[] (panK R) w fun t14 w =>
 n35c1 t1 t14 R w)
theorem n35s {t0 t1 t2:Value} {R:RT} {w:World} (h:n35 t0 t1 t2 R w):Calls Pg 49 #[t0,t1,t2] w R:=by
 refine yD Tryz.func49 ?_
 refine zs<|zr<|zm<|zm<|zn<|zk<|zs<|zs<|zr<|zm<|yc h c36 fun _ w h=>zn<|zk<|yC h (fun h=>zs<|zr<|zm<|zm<|zn<|zk<|sim_ret<|sim_then_ret<|body_ret2 rfl rfl rfl h) fun h=>?_
 refine sim_skip<|zk<|zs<|zr<|zm<|yV h fun _ w h=>zm<|yv h fun _ w h=>zm<|yv h fun _ w h=>yv h fun _ w h=>zm<|zm<|zn<|zk ?_
 refine zs<|zs<|zr<|zm<|yv h fun _ w h=>zn<|zk<|yC h (fun h=>zs<|zr<|zm<|zm<|zn<|zk<|sim_ret<|sim_then_ret<|body_ret2 rfl rfl rfl h) fun h=>sim_skip<|zk<|zs<|zr<|zm<|zm ?_
 exact zm<|zn<|zk<|sim_ret<|body_ret2 rfl rfl rfl h
def n31 (t0:Value) (R:RT) (w:World):Prop :=
 opV Pg (Instr.loadAt 27 t0) (panK R) w fun t2 w =>
 opN Pg (nilN t2) (panK R) w fun t3 w =>
 opV Pg (Instr.fieldAt 61 t3 3) (panK R) w fun t4 w =>
 opV Pg (Instr.loadAt 59 t4) (panK R) w fun t5 w =>
 R (.returned t5) w
theorem n31s {t0:Value} {R:RT} {w:World} (h:n31 t0 R w):Calls Pg 50 #[t0] w R:=by
 refine yD Tryz.func50 ?_
 refine zs<|zr<|zm<|zn<|zk<|zs<|zr<|yv h fun _ w h=>yN h fun _ w h=>yv h fun _ w h=>yv h fun _ w h=>zm<|zn<|zk<|sim_ret ?_
 exact body_ret1 rfl rfl h
def n33 (t0:Value) (R:RT) (w:World):Prop :=
 opV Pg (Instr.loadAt 27 t0) (panK R) w fun t2 w =>
 opN Pg (nilN t2) (panK R) w fun t3 w =>
 opV Pg (Instr.fieldAt 61 t3 2) (panK R) w fun t4 w =>
 opV Pg (Instr.loadAt 59 t4) (panK R) w fun t5 w =>
 R (.returned t5) w
theorem n33s {t0:Value} {R:RT} {w:World} (h:n33 t0 R w):Calls Pg 51 #[t0] w R:=by
 refine yD Tryz.func51 ?_
 refine zs<|zr<|zm<|zn<|zk<|zs<|zr<|yv h fun _ w h=>yN h fun _ w h=>yv h fun _ w h=>yv h fun _ w h=>zm<|zn<|zk<|sim_ret ?_
 exact body_ret1 rfl rfl h
def n121 (t0:Value) (R:RT) (w:World):Prop :=
 opV Pg (binS .eql 22 true t0 (Value.slice none 0 0)) (panK R) w fun t4 w =>
 condP t4 (
 R (.returned (Value.slice none 0 0)) w) (
 opV Pg (Instr.buildSlice 22 0 #[]) (panK R) w fun t5 w =>
 opV Pg (Builtin.append_ #[22,22] 22 #[t5,t0]) (panK R) w fun t7 w =>
 R (.returned t7) w)
theorem n121s {t0:Value} {R:RT} {w:World} (h:n121 t0 R w):Calls Pg 52 #[t0] w R:=by
 refine yD Tryz.func52 ?_
 refine zs<|zr<|zm<|zn<|zk<|zs<|zs<|zr<|zm<|yb h fun _ w h=>zn<|zk<|yC h (fun h=>zs<|zr<|zm<|zn<|zk<|sim_ret<|sim_then_ret<|body_ret1 rfl rfl h) fun h=>sim_skip ?_
 exact zk<|zs<|zr<|yS h fun _ w h=>zm<|yx h fun _ w h=>zm<|zn<|zk<|sim_ret<|body_ret1 rfl rfl h
def n120 (t0:Value) (R:RT) (w:World):Prop :=
 opV Pg (binS .eql 51 true t0 (Value.slice none 0 0)) (panK R) w fun t4 w =>
 condP t4 (
 R (.returned (Value.slice none 0 0)) w) (
 opV Pg (Instr.buildSlice 51 0 #[]) (panK R) w fun t5 w =>
 opV Pg (Builtin.append_ #[51,51] 51 #[t5,t0]) (panK R) w fun t7 w =>
 R (.returned t7) w)
theorem n120s {t0:Value} {R:RT} {w:World} (h:n120 t0 R w):Calls Pg 53 #[t0] w R:=by
 refine yD Tryz.func53 ?_
 refine zs<|zr<|zm<|zn<|zk<|zs<|zs<|zr<|zm<|yb h fun _ w h=>zn<|zk<|yC h (fun h=>zs<|zr<|zm<|zn<|zk<|sim_ret<|sim_then_ret<|body_ret1 rfl rfl h) fun h=>sim_skip ?_
 exact zk<|zs<|zr<|yS h fun _ w h=>zm<|yx h fun _ w h=>zm<|zn<|zk<|sim_ret<|body_ret1 rfl rfl h
def n122 (t0:Value) (R:RT) (w:World):Prop :=
 opV Pg (binS .eql 66 true t0 (Value.slice none 0 0)) (panK R) w fun t4 w =>
 condP t4 (
 R (.returned (Value.slice none 0 0)) w) (
 opV Pg (Instr.buildSlice 66 0 #[]) (panK R) w fun t5 w =>
 opV Pg (Builtin.append_ #[66,66] 66 #[t5,t0]) (panK R) w fun t7 w =>
 R (.returned t7) w)
theorem n122s {t0:Value} {R:RT} {w:World} (h:n122 t0 R w):Calls Pg 54 #[t0] w R:=by
 refine yD Tryz.func54 ?_
 refine zs<|zr<|zm<|zn<|zk<|zs<|zs<|zr<|zm<|yb h fun _ w h=>zn<|zk<|yC h (fun h=>zs<|zr<|zm<|zn<|zk<|sim_ret<|sim_then_ret<|body_ret1 rfl rfl h) fun h=>sim_skip ?_
 exact zk<|zs<|zr<|yS h fun _ w h=>zm<|yx h fun _ w h=>zm<|zn<|zk<|sim_ret<|body_ret1 rfl rfl h
def n119 (t0:Value) (R:RT) (w:World):Prop :=
 opV Pg (binS .eql 69 true t0 (Value.slice none 0 0)) (panK R) w fun t4 w =>
 condP t4 (
 R (.returned (Value.slice none 0 0)) w) (
 opV Pg (Instr.buildSlice 69 0 #[]) (panK R) w fun t5 w =>
 opV Pg (Builtin.append_ #[69,69] 69 #[t5,t0]) (panK R) w fun t7 w =>
 R (.returned t7) w)
theorem n119s {t0:Value} {R:RT} {w:World} (h:n119 t0 R w):Calls Pg 55 #[t0] w R:=by
 refine yD Tryz.func55 ?_
 refine zs<|zr<|zm<|zn<|zk<|zs<|zs<|zr<|zm<|yb h fun _ w h=>zn<|zk<|yC h (fun h=>zs<|zr<|zm<|zn<|zk<|sim_ret<|sim_then_ret<|body_ret1 rfl rfl h) fun h=>sim_skip ?_
 exact zk<|zs<|zr<|yS h fun _ w h=>zm<|yx h fun _ w h=>zm<|zn<|zk<|sim_ret<|body_ret1 rfl rfl h
def n102c1 (t2 t3 t9 t17:Value) (C1:World→Prop) (R:RT) (w:World):Prop :=
 pickK t9 t17 (.bool false) fun t18 =>
 joinK (fun (t24:Value) (w:World) =>
 pickK t18 t24 (.bool false) fun t25 =>
 R (.returned t25) w) fun K3 =>
 guardP t18 true (
 qV Pg C1 (Instr.fieldAt 71 t2 11) fun t20 =>
 qV Pg C1 (Instr.loadAt 69 t20) fun t21 =>
 qV Pg C1 (Instr.fieldAt 71 t3 11) fun t22 =>
 qV Pg C1 (Instr.loadAt 69 t22) fun t23 =>
 callK Pg 80 #[t21,t23] (panK R) w fun t24 w =>
 C1 w∧(
 K3 t24 w)) (
 K3 undef w)
def n102c2 (t2 t3 t6 t8:Value) (C1:World→Prop) (R:RT) (w:World):Prop :=
 qV Pg C1 (binS .eql 145 false t6 t8) fun t9 =>
 joinK (fun (t17:Value) (w:World) =>
 n102c1 t2 t3 t9 t17 C1 R w) fun K2 =>
 guardP t9 true (
 qV Pg C1 (Instr.fieldAt 71 t2 7) fun t11 =>
 qV Pg C1 (Instr.fieldAt 68 t11 1) fun t12 =>
 qV Pg C1 (Instr.loadAt 66 t12) fun t13 =>
 qV Pg C1 (Instr.fieldAt 71 t3 7) fun t14 =>
 qV Pg C1 (Instr.fieldAt 68 t14 1) fun t15 =>
 qV Pg C1 (Instr.loadAt 66 t15) fun t16 =>
 callK Pg 79 #[t13,t16] (panK R) w fun t17 w =>
 C1 w∧(
 K2 t17 w)) (
 K2 undef w)
def n102c3 (t2 t3:Value) (C1:World→Prop) (R:RT) (w:World):Prop :=
 qV Pg C1 (Instr.loadAt 71 t2) fun t5 =>
 qV Pg C1 (Instr.loadAt 71 t3) fun t7 =>
 callK Pg 78 #[t5] (panK R) w fun t6 w =>
 C1 w∧(
 callK Pg 78 #[t7] (panK R) w fun t8 w =>
 C1 w∧(
 n102c2 t2 t3 t6 t8 C1 R w))
def n102 (t0 t1:Value) (R:RT) (w:World):Prop :=
 opV Pg (Instr.box 71 t0) (panK R) w fun t2 w =>
 opV Pg (Instr.box 71 t1) (panK R) w fun t3 w =>
 drawK w fun C1 w =>
 n102c3 t2 t3 C1 R w
theorem n102s {t0 t1:Value} {R:RT} {w:World} (h:n102 t0 t1 R w):Calls Pg 59 #[t0,t1] w R:=by
 refine yD Tryz.func59 ?_
 refine zs<|zr<|yv h fun _ w h=>yv h fun _ w h=>zm<|zn<|zk<|zs<|yh [4,5,6,7,8,9,10,11,12,13,14,15,16,17,18,19,20,21,22,23,24,25] h fun C hC h=>ye 0 hC h fun _ h=>?_
 refine ye 2 hC h fun _ h=>?_
 refine yo 1 ?_
 refine yc h c78 fun _ w h=>zn ?_
 obtain ⟨hC,h⟩:=h
 refine ⟨hC,?_⟩
 refine yo 3 ?_
 refine yc h c78 fun _ w h=>zn ?_
 obtain ⟨hC,h⟩:=h
 refine ⟨hC,?_⟩
 refine ye 4 hC h fun _ h=>?_
 refine yw 5 hC ?_
 refine yj1 9 [12,11,10,9,8,7,6,5,4,3,1,2,0] [11,12,13,14,15,16,17] 17 h (fun _ hT hb h=>?_) (fun _ hT hb h=>?_) fun σ w hC h=>?_
 · refine ye 6 hC h fun _ h=>?_
   refine ye 7 hC h fun _ h=>?_
   refine ye 8 hC h fun _ h=>?_
   refine ye 9 hC h fun _ h=>?_
   refine ye 10 hC h fun _ h=>?_
   refine ye 11 hC h fun _ h=>?_
   refine yo 12 ?_
   refine yc h c79 fun _ w h=>zn ?_
   obtain ⟨hC,h⟩:=h
   refine ⟨hC,?_⟩
   exact yt hT hC h
 · refine yi 6 hC ?_
   refine yi 7 hC ?_
   refine yi 8 hC ?_
   refine yi 9 hC ?_
   refine yi 10 hC ?_
   refine yi 11 hC ?_
   refine yi 12 hC ?_
   exact yt hT hC h
 refine yP 13 hC h fun _ h=>?_
 refine yw 14 hC ?_
 refine yj1 2 [19,18,17,16,15,14,13,12,11,10,9,8,7,6,5,4,3,1,2,0] [20,21,22,23,24] 24 h (fun _ hT hb h=>?_) (fun _ hT hb h=>?_) fun σ w hC h=>?_
 · refine ye 15 hC h fun _ h=>?_
   refine ye 16 hC h fun _ h=>?_
   refine ye 17 hC h fun _ h=>?_
   refine ye 18 hC h fun _ h=>?_
   refine yo 19 ?_
   refine yc h c80 fun _ w h=>zn ?_
   obtain ⟨hC,h⟩:=h
   refine ⟨hC,?_⟩
   exact yt hT hC h
 · refine yi 15 hC ?_
   refine yi 16 hC ?_
   refine yi 17 hC ?_
   refine yi 18 hC ?_
   refine yi 19 hC ?_
   exact yt hT hC h
 refine yP 20 hC h fun _ h=>?_
 refine yw 21 hC ?_
 exact yz<|zk<|sim_ret<|body_ret1 rfl rfl h
def n76c1 (t9:Value) (R:RT) (w:World):Prop :=
 opV Pg (Builtin.max_ #[3,3] 3 #[t9,(.int .i64 0)]) (panK R) w fun t11 w =>
 opV Pg (binS .geq 3 true t9 (.int .i64 0)) (panK R) w fun t13 w =>
 R (.returned (.tuple #[t11,t13])) w
def n76 (t0 t1:Value) (R:RT) (w:World):Prop :=
 callK Pg 81 #[t0,t1] (panK R) w fun t9 w =>
 n76c1 t9 R w
theorem n76s {t0 t1:Value} {R:RT} {w:World} (h:n76 t0 t1 R w):Calls Pg 60 #[t0,t1] w R:=by
 refine yD Tryz.func60 ?_
 refine zs<|zr<|zm<|zm<|zn<|zk<|zs<|zr<|zm<|zm<|yc h c81 fun _ w h=>zm<|zn<|zk<|zs ?_
 exact zr<|zm<|yx h fun _ w h=>zm<|yb h fun _ w h=>zm<|zm<|zn<|zk<|sim_ret<|body_ret2 rfl rfl rfl h
def n58 (t0 t1:Value) (R:RT) (w:World):Prop :=
 opV Pg (Instr.box 53 t0) (panK R) w fun t2 w =>
 opV Pg (Instr.fieldAt 53 t2 0) (panK R) w fun t4 w =>
 opV Pg (Instr.loadAt 9 t4) (panK R) w fun t5 w =>
 opV Pg (Instr.loadAt 9 t1) (panK R) w fun t6 w =>
 opV Pg (binS .eql 9 false t5 t6) (panK R) w fun t7 w =>
 R (.returned t7) w
theorem n58s {t0 t1:Value} {R:RT} {w:World} (h:n58 t0 t1 R w):Calls Pg 61 #[t0,t1] w R:=by
 refine yD Tryz.func61 ?_
 refine zs<|zr<|yv h fun _ w h=>zm<|zn<|zk<|zs<|zr<|yv h fun _ w h=>yv h fun _ w h=>yv h fun _ w h=>yb h fun _ w h=>zm<|zn<|zk ?_
 exact sim_ret<|body_ret1 rfl rfl h
def n52c1 (t2 t9:Value) (R:RT) (w:World):Prop :=
 opV Pg (Instr.extract t9 0) (panK R) w fun t10 w =>
 opV Pg (Instr.extract t9 1) (panK R) w fun t11 w =>
 opV Pg (Instr.extract t9 2) (panK R) w fun t12 w =>
 opV Pg (Instr.alloc 92 true (.tuple #[])) (panK R) w fun t5 w =>
 opU Pg (Instr.storeAt 92 t5 t11) (panK R) w fun w =>
 opV Pg (Instr.loadAt 92 t5) (panK R) w fun t13 w =>
 opU Pg (Instr.storeAt 92 t2 t13) (panK R) w fun w =>
 qW Pg 92 t2 w fun r0 =>
 R (.returned (.tuple #[r0,t12])) w
def n52 (t0:Value) (R:RT) (w:World):Prop :=
 opV Pg (Instr.box 24 t0) (panK R) w fun t1 w =>
 opV Pg (Instr.alloc 92 true (.tuple #[])) (panK R) w fun t2 w =>
 opV Pg (Instr.loadAt 24 t1) (panK R) w fun t8 w =>
 callK Pg 85 #[t8] (panK R) w fun t9 w =>
 n52c1 t2 t9 R w
theorem n52s {t0:Value} {R:RT} {w:World} (h:n52 t0 R w):Calls Pg 71 #[t0] w R:=by
 refine yD Tryz.func71 ?_
 refine zs<|zr<|yv h fun _ w h=>yv h fun _ w h=>zm<|zn<|zk<|zs<|zr<|yv h fun _ w h=>yc h c85 fun _ w h=>zm<|yv h fun _ w h=>yv h fun _ w h=>yv h fun _ w h=>?_
 refine yv h fun _ w h=>zm<|yu h fun w h=>zm<|zn<|zk<|zs<|zr<|yv h fun _ w h=>zm<|yu h fun w h=>zm<|zn<|zk<|sim_ret ?_
 exact body_retCT rfl rfl rfl h
def n11 (t0:Value) (R:RT) (w:World):Prop :=
 opV Pg (Instr.box 51 t0) (panK R) w fun t1 w =>
 opV Pg (Instr.makeFunc (.func 86) #[] #[t1]) (panK R) w fun t3 w =>
 R (.returned t3) w
theorem n11s {t0:Value} {R:RT} {w:World} (h:n11 t0 R w):Calls Pg 72 #[t0] w R:=by
 refine yD Tryz.func72 ?_
 exact zs<|zr<|yv h fun _ w h=>zm<|zn<|zk<|zs<|zr<|yF h fun _ w h=>zm<|zn<|zk<|sim_ret<|body_ret1 rfl rfl h
def n14c1 (t1 t3 t5:Value) (R:RT) (w:World):Prop :=
 opV Pg (Instr.loadAt 51 t3) (panK R) w fun t15 w =>
 opV Pg (Instr.indexAt 51 t15 t1) (panK R) w fun t17 w =>
 opV Pg (Instr.loadAt 71 t17) (panK R) w fun t18 w =>
 opV Pg (Instr.alloc 71 true (.tuple #[])) (panK R) w fun t7 w =>
 opU Pg (Instr.storeAt 71 t7 t18) (panK R) w fun w =>
 opV Pg (Instr.makeFunc (.func 88) #[] #[t5,t7]) (panK R) w fun t19 w =>
 opV Pg (Instr.makeFunc (.func 90) #[] #[t3,t7]) (panK R) w fun t20 w =>
 opV Pg (Instr.build 161 #[(0,t19),(1,t20)]) (panK R) w fun t21 w =>
 opV Pg (Instr.alloc 161 true (.tuple #[])) (panK R) w fun t8 w =>
 opU Pg (Instr.storeAt 161 t8 t21) (panK R) w fun w =>
 opV Pg (Instr.sliceAt 161 t8 none none none) (panK R) w fun t22 w =>
 callK Pg 93 #[t22,(.func (.func 94) #[] #[])] (panK R) w fun t23 w =>
 R (.returned t23) w
def n14 (t0 t1 t2:Value) (R:RT) (w:World):Prop :=
 opV Pg (Instr.box 51 t0) (panK R) w fun t3 w =>
 opV Pg (Instr.box 3 t2) (panK R) w fun t5 w =>
 opV Pg (Instr.loadAt 51 t3) (panK R) w fun t10 w =>
 opV Pg (Builtin.len_ #[51] 3 #[t10]) (panK R) w fun t11 w =>
 opV Pg (binS .eql 3 false t1 t11) (panK R) w fun t12 w =>
 condP t12 (
 opV Pg (Instr.loadAt 3 t5) (panK R) w fun t13 w =>
 opV Pg (binS .neq 3 true t13 (.int .i64 0)) (panK R) w fun t14 w =>
 R (.returned t14) w) (
 n14c1 t1 t3 t5 R w)
theorem n14s {t0 t1 t2:Value} {R:RT} {w:World} (h:n14 t0 t1 t2 R w):Calls Pg 73 #[t0,t1,t2] w R:=by
 refine yD Tryz.func73 ?_
 refine zs<|zr<|yv h fun _ w h=>yv h fun _ w h=>zm<|zn<|zk<|zs<|zs<|zr<|zm<|yv h fun _ w h=>yx h fun _ w h=>yb h fun _ w h=>zn ?_
 refine zk<|yC h (fun h=>zs<|zr<|yv h fun _ w h=>yb h fun _ w h=>zm<|zn<|zk<|sim_ret<|sim_then_ret<|body_ret1 rfl rfl h) fun h=>sim_skip<|zk<|zs<|zr<|yv h fun _ w h=>zm<|yv h fun _ w h=>yv h fun _ w h=>yv h fun _ w h=>yu h fun w h=>zn<|zk ?_
 refine zs<|zr<|yF h fun _ w h=>yF h fun _ w h=>yB h fun _ w h=>yv h fun _ w h=>yu h fun w h=>zn<|zk<|zs<|zr<|yv h fun _ w h=>yc h c93 fun _ w h=>zm<|zn ?_
 exact zk<|sim_ret<|body_ret1 rfl rfl h
def n73c1 (t3 t4 t13:Value) (ds:List Deferred) (R:RT) (w:World):Prop :=
 opV Pg (Instr.build 92 #[]) (outQ Pg ds [(none,t13),(some 92,t3),(some 4,t4)] R) w fun t65 w =>
 opU Pg (Instr.storeAt 92 t3 t65) (outQ Pg ds [(none,t13),(some 92,t3),(some 4,t4)] R) w fun w =>
 opU Pg (Instr.storeAt 4 t4 (.bool false)) (outQ Pg ds [(none,t13),(some 92,t3),(some 4,t4)] R) w fun w =>
 outX Pg ds [(none,t13),(some 92,t3),(some 4,t4)] R w
def n73c2 (t1 t3 t4 t13:Value) (C3:World→Prop) (ds:List Deferred) (R:RT) (w:World):Prop :=
 qN Pg C3 (nilN t13) fun t53 =>
 qV Pg C3 (Instr.fieldAt 175 t53 1) fun t54 =>
 qV Pg C3 (Instr.loadAt 59 t54) fun t55 =>
 qV Pg C3 (Instr.fieldAt 24 t1 2) fun t56 =>
 qV Pg C3 (Instr.loadAt 9 t56) fun t57 =>
 qV Pg C3 (Instr.lookup 59 t55 t57 true) fun t58 =>
 qV Pg C3 (Instr.extract t58 0) fun t59 =>
 qV Pg C3 (Instr.extract t58 1) fun t60 =>
 callK Pg 105 #[t13,t60,(.int .i64 11)] (outQ Pg ds [(none,t13),(some 92,t3),(some 4,t4)] R) w fun t63 w =>
 n73c1 t3 t4 t13 ds R w
def n73c3 (t1 t3 t4 t13:Value) (ds:List Deferred) (R:RT) (w:World):Prop :=
 opN Pg (nilN t13) (outQ Pg ds [(none,t13),(some 92,t3),(some 4,t4)] R) w fun t49 w =>
 opV Pg (Instr.fieldAt 175 t49 3) (outQ Pg ds [(none,t13),(some 92,t3),(some 4,t4)] R) w fun t50 w =>
 opU Pg (Instr.storeAt 3 t50 (.int .i64 (-1))) (outQ Pg ds [(none,t13),(some 92,t3),(some 4,t4)] R) w fun w =>
 drawK w fun C3 w =>
 n73c2 t1 t3 t4 t13 C3 ds R w
def n73c4 (t3 t4 t13 t33 t35:Value) (next2:KV) (ds:List Deferred) (R:RT) (w:World):Prop :=
 opV Pg (Instr.indexAt 22 t33 t35) (outQ Pg ds [(none,t13),(some 92,t3),(some 4,t4)] R) w fun t38 w =>
 opV Pg (Instr.loadAt 53 t38) (outQ Pg ds [(none,t13),(some 92,t3),(some 4,t4)] R) w fun t39 w =>
 opV Pg (Instr.alloc 53 true (.tuple #[])) (outQ Pg ds [(none,t13),(some 92,t3),(some 4,t4)] R) w fun t6 w =>
 opU Pg (Instr.storeAt 53 t6 t39) (outQ Pg ds [(none,t13),(some 92,t3),(some 4,t4)] R) w fun w =>
 opN Pg (nilN t13) (outQ Pg ds [(none,t13),(some 92,t3),(some 4,t4)] R) w fun t42 w =>
 opV Pg (Instr.fieldAt 175 t42 3) (outQ Pg ds [(none,t13),(some 92,t3),(some 4,t4)] R) w fun t43 w =>
 opU Pg (Instr.storeAt 3 t43 t35) (outQ Pg ds [(none,t13),(some 92,t3),(some 4,t4)] R) w fun w =>
 opV Pg (Instr.loadAt 53 t6) (outQ Pg ds [(none,t13),(some 92,t3),(some 4,t4)] R) w fun t45 w =>
 callK Pg 107 #[t13,t45] (outQ Pg ds [(none,t13),(some 92,t3),(some 4,t4)] R) w fun t46 w =>
 opV Pg (binS .add 3 true t35 (.int .i64 1)) (outQ Pg ds [(none,t13),(some 92,t3),(some 4,t4)] R) w fun t47 w =>
 next2 t47 w
def n73c5 (t1 t3 t4 t13 t33 t34 t35:Value) (next2:KV) (ds:List Deferred) (R:RT) (w:World):Prop :=
 opV Pg (binS .lss 3 false t35 t34) (outQ Pg ds [(none,t13),(some 92,t3),(some 4,t4)] R) w fun t36 w =>
 condP t36 (
 n73c4 t3 t4 t13 t33 t35 next2 ds R w) (
 n73c3 t1 t3 t4 t13 ds R w)
def n73c6 (t1 t3 t4 t13:Value) (ds:List Deferred) (R:RT) (w:World):Prop :=
 opV Pg (Instr.fieldAt 24 t1 1) (outQ Pg ds [(none,t13),(some 92,t3),(some 4,t4)] R) w fun t32 w =>
 opV Pg (Instr.loadAt 22 t32) (outQ Pg ds [(none,t13),(some 92,t3),(some 4,t4)] R) w fun t33 w =>
 opV Pg (Builtin.len_ #[22] 3 #[t33]) (outQ Pg ds [(none,t13),(some 92,t3),(some 4,t4)] R) w fun t34 w =>
 loop1 (fun t35 w next2 =>
 n73c5 t1 t3 t4 t13 t33 t34 t35 next2 ds R w) (.int .i64 0) w
def n73c7 (t1 t3 t4 t13 t24 t29:Value) (ds:List Deferred) (R:RT) (w:World):Prop :=
 pickK t24 t29 (.bool false) fun t30 =>
 callK Pg 105 #[t13,t30,(.int .i64 3)] (outQ Pg ds [(none,t13),(some 92,t3),(some 4,t4)] R) w fun t31 w =>
 n73c6 t1 t3 t4 t13 ds R w
def n73c8 (t1 t3 t4 t13:Value) (K1:KV) (ds:List Deferred) (R:RT) (w:World):Prop :=
 opV Pg (Instr.fieldAt 24 t1 1) (outQ Pg ds [(none,t13),(some 92,t3),(some 4,t4)] R) w fun t26 w =>
 opV Pg (Instr.loadAt 22 t26) (outQ Pg ds [(none,t13),(some 92,t3),(some 4,t4)] R) w fun t27 w =>
 opV Pg (Builtin.len_ #[22] 3 #[t27]) (outQ Pg ds [(none,t13),(some 92,t3),(some 4,t4)] R) w fun t28 w =>
 opV Pg (binS .leq 3 true t28 (.int .i64 60)) (outQ Pg ds [(none,t13),(some 92,t3),(some 4,t4)] R) w fun t29 w =>
 K1 t29 w
def n73c9 (t1 t3 t4 t13:Value) (ds:List Deferred) (R:RT) (w:World):Prop :=
 opV Pg (Instr.fieldAt 24 t1 1) (outQ Pg ds [(none,t13),(some 92,t3),(some 4,t4)] R) w fun t21 w =>
 opV Pg (Instr.loadAt 22 t21) (outQ Pg ds [(none,t13),(some 92,t3),(some 4,t4)] R) w fun t22 w =>
 opV Pg (Builtin.len_ #[22] 3 #[t22]) (outQ Pg ds [(none,t13),(some 92,t3),(some 4,t4)] R) w fun t23 w =>
 opV Pg (binS .geq 3 true t23 (.int .i64 1)) (outQ Pg ds [(none,t13),(some 92,t3),(some 4,t4)] R) w fun t24 w =>
 joinK (fun (t29:Value) (w:World) =>
 n73c7 t1 t3 t4 t13 t24 t29 ds R w) fun K1 =>
 guardP t24 true (
 n73c8 t1 t3 t4 t13 K1 ds R w) (
 K1 undef w)
def n73 (t0:Value) (R:RT) (w:World):Prop :=
 (fun (ds:List Deferred) =>
 opV Pg (Instr.box 24 t0) (outQ Pg ds [(none,undef),(some 92,undef),(some 4,undef)] R) w fun t1 w =>
 opV Pg (Instr.alloc 92 true (.tuple #[])) (outQ Pg ds [(none,(Value.pointer none)),(some 92,undef),(some 4,undef)] R) w fun t3 w =>
 opV Pg (Instr.alloc 4 true (.tuple #[])) (outQ Pg ds [(none,(Value.pointer none)),(some 92,t3),(some 4,undef)] R) w fun t4 w =>
 opV Pg (Instr.loadAt 24 t1) (outQ Pg ds [(none,(Value.pointer none)),(some 92,t3),(some 4,t4)] R) w fun t9 w =>
 opV Pg (Instr.makeMap 59 none) (outQ Pg ds [(none,(Value.pointer none)),(some 92,t3),(some 4,t4)] R) w fun t10 w =>
 opV Pg (Instr.makeMap 99 none) (outQ Pg ds [(none,(Value.pointer none)),(some 92,t3),(some 4,t4)] R) w fun t11 w =>
 opV Pg (Instr.build 175 #[(0,t9),(1,t10),(2,t11),(3,(.int .i64 (-1))),(4,(.int .i64 (-1)))]) (outQ Pg ds [(none,(Value.pointer none)),(some 92,t3),(some 4,t4)] R) w fun t12 w =>
 opV Pg (Instr.box 175 t12) (outQ Pg ds [(none,(Value.pointer none)),(some 92,t3),(some 4,t4)] R) w fun t13 w =>
 opV Pg (Instr.makeFunc (.func 104) #[] #[t3,t4]) (outQ Pg ds [(none,t13),(some 92,t3),(some 4,t4)] R) w fun t14 w =>
 defK Pg t14 #[] ds w fun ds w =>
 opV Pg (Instr.fieldAt 24 t1 0) (outQ Pg ds [(none,t13),(some 92,t3),(some 4,t4)] R) w fun t16 w =>
 opV Pg (Instr.loadAt 9 t16) (outQ Pg ds [(none,t13),(some 92,t3),(some 4,t4)] R) w fun t17 w =>
 callK Pg 106 #[t17] (outQ Pg ds [(none,t13),(some 92,t3),(some 4,t4)] R) w fun t18 w =>
 callK Pg 105 #[t13,t18,(.int .i64 1)] (outQ Pg ds [(none,t13),(some 92,t3),(some 4,t4)] R) w fun t19 w =>
 n73c9 t1 t3 t4 t13 ds R w) []
theorem n73s {t0:Value} {R:RT} {w:World} (h:n73 t0 R w):Calls Pg 85 #[t0] w R:=by
 refine yE Tryz.func85 ?_
 unfold n73 at h
 dsimp only at h
 refine zs<|zr<|yv h fun _ w h=>zm<|yv h fun _ w h=>yv h fun _ w h=>zn<|zk<|zs<|zr<|yv h fun _ w h=>yv h fun _ w h=>yv h fun _ w h=>yB h fun _ w h=>yv h fun _ w h=>?_
 refine zm<|zn<|zk<|zs<|zr<|yF h fun _ w h=>?_
 refine sim_defer h rfl rfl ?_;intro ds w h
 refine zn<|zk<|zs<|zr<|zm<|yv h fun _ w h=>yv h fun _ w h=>yc h c106 fun _ w h=>yc h c105 fun _ w h=>zn<|zk<|zs<|sim_regionG<|yG 6<|zm ?_
 refine yv h fun _ w h=>yv h fun _ w h=>yx h fun _ w h=>yb h fun _ w h=>zm<|zn<|yg1 4 5 true [26,27,28,29] 29 h (fun _ T hT h=>?_) fun σ w h=>?_
 · refine yv h fun _ w h=>yv h fun _ w h=>yx h fun _ w h=>yb h fun _ w h=>zn ?_
   exact zt hT h
 refine yG 2<|yp h fun _ h=>yc h c105 fun _ w h=>zn<|sim_end<|zk<|zs<|zs<|zr<|yv h fun _ w h=>yv h fun _ w h=>yx h fun _ w h=>zm<|zn<|zk ?_
 refine sim_block<|yl1 [5,6,35,36,37,38,39,40,41,42,43,44,45,46,47] 35 h fun σ w next h=>zs<|zr<|yb h fun _ w h=>zn<|zk<|zs<|yC h (fun h=>?_) fun h=>?_
 · refine sim_skip<|zk<|zs<|sim_block<|zs<|zr<|zm<|yv h fun _ w h=>yv h fun _ w h=>yv h fun _ w h=>zm<|yu h fun w h=>zn<|zk<|zs ?_
   refine zr<|zm<|zm<|yN h fun _ w h=>yv h fun _ w h=>yu h fun w h=>zn<|zk<|zr<|zm<|yv h fun _ w h=>yc h c107 fun _ w h=>zn<|sim_block_normal<|zk ?_
   exact zr<|yb h fun _ w h=>zm<|zn<|zk<|⟨rfl,h⟩
 refine sim_exit<|sim_then_exit<|sim_then_exit<|sim_block_hit<|zk<|zs<|zr<|zm<|yN h fun _ w h=>yv h fun _ w h=>yu h fun w h=>zn<|zk<|zs<|yh [7,8,51,52,53,54,55,56,57,58,59,60] h fun C hC h=>?_
 refine yw 0 hC ?_
 refine yn 1 hC h fun _ h=>?_
 refine ye 2 hC h fun _ h=>?_
 refine ye 3 hC h fun _ h=>?_
 refine ye 4 hC h fun _ h=>?_
 refine ye 5 hC h fun _ h=>?_
 refine ye 6 hC h fun _ h=>?_
 refine yw 7 hC ?_
 refine ye 8 hC h fun _ h=>?_
 refine ye 9 hC h fun _ h=>?_
 refine yw 10 hC ?_
 refine yw 11 hC ?_
 refine yz<|zk<|zs<|zr<|zm<|zm<|yc h c105 fun _ w h=>zn<|zk<|zs<|zr<|zm<|yB h fun _ w h=>zm<|yu h fun w h=>?_
 exact yu h fun w h=>zn<|zk<|sim_ret<|bodyM_ret rfl h
def n12c1 (t3 t5 t25:Value) (K4:KV) (R:RT) (w:World):Prop :=
 opV Pg (Instr.loadAt 71 t5) (panK R) w fun t29 w =>
 callV Pg t25 #[t29,t3] (panK R) w fun t31 w =>
 opV Pg (binS .rem 3 true t31 (.int .i64 8)) (panK R) w fun t32 w =>
 K4 t32 w
def n12c2 (t3 t5 t10 t21 t23:Value) (C3:World→Prop) (next1:KW) (R:RT) (w:World):Prop :=
 qV Pg C3 (Instr.lookup 157 t21 t23 true) fun t24 =>
 qV Pg C3 (Instr.extract t24 0) fun t25 =>
 qV Pg C3 (Instr.extract t24 1) fun t26 =>
 joinK (fun (t3:Value) (w:World) =>
 opV Pg (binS .add 3 true t10 (.int .i64 1)) (panK R) w fun t33 w =>
 next1 t3 t33 w) fun K4 =>
 condP t26 (
 n12c1 t3 t5 t25 K4 R w) (
 K4 (.int .i64 0) w)
def n12c3 (t3 t5 t10:Value) (C2:World→Prop) (next1:KW) (R:RT) (w:World):Prop :=
 qV Pg C2 (Instr.fieldAt 71 t5 1) fun t22 =>
 qV Pg C2 (Instr.loadAt 65 t22) fun t23 =>
 callK Pg 87 #[] (panK R) w fun t21 w =>
 narrowK C2 w fun C3 w =>
 n12c2 t3 t5 t10 t21 t23 C3 next1 R w
def n12c4 (t0 t1 t3:Value) (R:RT) (w:World):Prop :=
 opV Pg (Instr.loadAt 51 t1) (panK R) w fun t35 w =>
 opV Pg (Builtin.len_ #[51] 3 #[t35]) (panK R) w fun t36 w =>
 callV Pg t0 #[t36,t3] (panK R) w fun t38 w =>
 R (.returned (.tuple #[])) w
def n12c5 (t0 t3 t8 t10:Value) (next1:KW) (R:RT) (w:World):Prop :=
 opV Pg (Instr.indexAt 51 t8 t10) (panK R) w fun t13 w =>
 opV Pg (Instr.loadAt 71 t13) (panK R) w fun t14 w =>
 opV Pg (Instr.alloc 71 true (.tuple #[])) (panK R) w fun t5 w =>
 opU Pg (Instr.storeAt 71 t5 t14) (panK R) w fun w =>
 callV Pg t0 #[t10,t3] (panK R) w fun t18 w =>
 opV Pg (Op.unary .not t18) (panK R) w fun t19 w =>
 condP t19 (
 R (.returned (.tuple #[])) w) (
 drawK w fun C2 w =>
 n12c3 t3 t5 t10 C2 next1 R w)
def n12 (t0 t1:Value) (R:RT) (w:World):Prop :=
 opV Pg (Instr.loadAt 51 t1) (panK R) w fun t8 w =>
 opV Pg (Builtin.len_ #[51] 3 #[t8]) (panK R) w fun t9 w =>
 loop2 (fun t3 t10 w next1 =>
 opV Pg (binS .lss 3 false t10 t9) (panK R) w fun t11 w =>
 condP t11 (
 n12c5 t0 t3 t8 t10 next1 R w) (
 n12c4 t0 t1 t3 R w)) (.int .i64 0) (.int .i64 0) w
theorem n12s {t0 t1:Value} {R:RT} {w:World} (h:n12 t0 t1 R w):Calls Pg 86 #[t0,t1] w R:=by
 refine yD Tryz.func86 ?_
 refine zs<|zr<|zm<|zn<|zk<|zs<|zs<|zr<|yv h fun _ w h=>yx h fun _ w h=>zm<|zn<|zk<|sim_block<|yl2 [3,4,5,6,7,10,11,12,13,14,15,16,17,18,19,20,21,22,23,24,25,26,27,28,29,30,31,32,33] 3 10 h fun σ w next h=>?_
 refine zs<|zr<|yb h fun _ w h=>zn<|zk<|zs<|yC h (fun h=>?_) fun h=>?_
 · refine sim_skip<|zk<|zs<|sim_block<|zs<|zr<|zm<|yv h fun _ w h=>yv h fun _ w h=>yv h fun _ w h=>zm<|yu h fun w h=>zn<|zk<|zs ?_
   refine zs<|zr<|zm<|zm<|zm<|yV h fun _ w h=>yv h fun _ w h=>zn<|zk<|yC h (fun h=>sim_ret<|sim_then_ret<|sim_block_ret<|sim_then_ret<|sim_then_ret<|sim_block_ret<|sim_then_ret<|body_ret0 rfl h) fun h=>sim_skip<|zk<|zs<|yh [6,7,20,21,22,23,24,25,26] h fun C hC h=>?_
   refine ye 1 hC h fun _ h=>?_
   refine ye 2 hC h fun _ h=>?_
   refine yr 0 ?_
   refine yc h c87 fun _ w h=>zn ?_
   obtain ⟨C3,hs,hC,h⟩:=h
   refine ⟨C3,hs,hC,?_⟩
   refine ye 3 hC h fun _ h=>?_
   refine yw 4 hC ?_
   refine ye 5 hC h fun _ h=>?_
   refine ye 6 hC h fun _ h=>?_
   refine yw 7 hC ?_
   refine yw 8 hC ?_
   refine yz<|zk<|zs<|zr<|zm<|zn<|zk<|yJ1 [3,28,29,30,31,32] 3 h (fun _ _ hkK4 h=>?_) fun σ w h=>?_
   · refine yC h (fun h=>?_) fun h=>?_
     · refine zr<|zm<|yv h fun _ w h=>zm<|yV h fun _ w h=>yb h fun _ w h=>zm<|zn<|zk ?_
       exact zt hkK4 h
     refine zr<|zm<|zn<|zk ?_
     exact zt hkK4 h
   exact sim_block_normal<|zk<|zr<|yb h fun _ w h=>zm<|zn<|zk<|⟨rfl,h⟩
 exact sim_exit<|sim_then_exit<|sim_then_exit<|sim_block_hit<|zk<|zr<|zm<|yv h fun _ w h=>yx h fun _ w h=>zm<|yV h fun _ w h=>zn<|body_normal<|body_ret0 rfl h
def n7 (R:RT) (w:World):Prop :=
 opV Pg (Instr.makeMap 157 none) (panK R) w fun t2 w =>
 opU Pg (Instr.mapUpdate 157 t2 (.int .i64 1) (.func (.func 108) #[] #[])) (panK R) w fun w =>
 opU Pg (Instr.mapUpdate 157 t2 (.int .i64 2) (.func (.func 108) #[] #[])) (panK R) w fun w =>
 opU Pg (Instr.mapUpdate 157 t2 (.int .i64 10) (.func (.func 109) #[] #[])) (panK R) w fun w =>
 R (.returned t2) w
theorem n7s {R:RT} {w:World} (h:n7 R w):Calls Pg 87 #[] w R:=by
 refine yD Tryz.func87 ?_
 refine zs<|zr<|zm<|zn<|zk<|zs<|zr<|zm<|zn<|zk<|zs<|zr<|yv h fun _ w h=>zm<|yu h fun w h=>?_
 exact zm<|yu h fun w h=>yu h fun w h=>zm<|zm<|zn<|zk<|sim_ret<|body_ret1 rfl rfl h
def n15 (t0 t1:Value) (R:RT) (w:World):Prop :=
 opV Pg (Instr.loadAt 3 t0) (panK R) w fun t3 w =>
 opV Pg (binS .eql 3 true t3 (.int .i64 0)) (panK R) w fun t4 w =>
 joinK (fun (t8:Value) (w:World) =>
 pickK t4 (.bool true) t8 fun t9 =>
 R (.returned t9) w) fun K1 =>
 guardP t4 false (
 opV Pg (Instr.loadAt 71 t1) (panK R) w fun t6 w =>
 callK Pg 89 #[t6] (panK R) w fun t7 w =>
 opV Pg (Op.unary .not t7) (panK R) w fun t8 w =>
 K1 t8 w) (
 K1 undef w)
theorem n15s {t0 t1:Value} {R:RT} {w:World} (h:n15 t0 t1 R w):Calls Pg 88 #[t0,t1] w R:=by
 refine yD Tryz.func88 ?_
 refine zs<|zr<|zm<|zn<|zk<|zs<|sim_regionG<|yG 3<|yv h fun _ w h=>yb h fun _ w h=>zm<|zn<|yg1 3 2 false [6,7,8] 8 h (fun _ T hT h=>?_) fun σ w h=>?_
 · refine yv h fun _ w h=>yc h c89 fun _ w h=>yv h fun _ w h=>zn ?_
   exact zt hT h
 exact yG 2<|yp h fun _ h=>zm<|zn<|sim_end<|zk<|sim_ret<|body_ret1 rfl rfl h
def n6c1 (t1 t6 t8:Value) (C2:World→Prop) (R:RT) (w:World):Prop :=
 qV Pg C2 (Instr.lookup 157 t6 t8 true) fun t9 =>
 qV Pg C2 (Instr.extract t9 0) fun t10 =>
 qV Pg C2 (Instr.extract t9 1) fun t11 =>
 opV Pg (Op.unary .not t11) (panK R) w fun t13 w =>
 joinK (fun (t16:Value) (w:World) =>
 pickK t13 (.bool true) t16 fun t17 =>
 R (.returned t17) w) fun K3 =>
 guardP t13 false (
 opV Pg (Instr.fieldAt 71 t1 3) (panK R) w fun t15 w =>
 opV Pg (Instr.loadAt 4 t15) (panK R) w fun t16 w =>
 K3 t16 w) (
 K3 undef w)
def n6c2 (t1:Value) (C1:World→Prop) (R:RT) (w:World):Prop :=
 qV Pg C1 (Instr.fieldAt 71 t1 1) fun t7 =>
 qV Pg C1 (Instr.loadAt 65 t7) fun t8 =>
 callK Pg 87 #[] (panK R) w fun t6 w =>
 narrowK C1 w fun C2 w =>
 n6c1 t1 t6 t8 C2 R w
def n6 (t0:Value) (R:RT) (w:World):Prop :=
 opV Pg (Instr.box 71 t0) (panK R) w fun t1 w =>
 drawK w fun C1 w =>
 n6c2 t1 C1 R w
theorem n6s {t0:Value} {R:RT} {w:World} (h:n6 t0 R w):Calls Pg 89 #[t0] w R:=by
 refine yD Tryz.func89 ?_
 refine zs<|zr<|yv h fun _ w h=>zm<|zn<|zk<|zs<|yh [3,4,5,6,7,8,9,10,11] h fun C hC h=>ye 1 hC h fun _ h=>?_
 refine ye 2 hC h fun _ h=>?_
 refine yr 0 ?_
 refine yc h c87 fun _ w h=>zn ?_
 obtain ⟨C2,hs,hC,h⟩:=h
 refine ⟨C2,hs,hC,?_⟩
 refine ye 3 hC h fun _ h=>?_
 refine yw 4 hC ?_
 refine ye 5 hC h fun _ h=>?_
 refine ye 6 hC h fun _ h=>?_
 refine yw 7 hC ?_
 refine yw 8 hC ?_
 refine yz<|zk<|zs<|sim_regionG<|yG 3<|zm<|yv h fun _ w h=>zm<|zn<|yg1 2 2 false [15,16] 16 h (fun _ T hT h=>?_) fun σ w h=>?_
 · refine yv h fun _ w h=>yv h fun _ w h=>zn ?_
   exact zt hT h
 exact yG 2<|yp h fun _ h=>zm<|zn<|sim_end<|zk<|sim_ret<|body_ret1 rfl rfl h
def n16c1 (t0 t1 t10:Value) (R:RT) (w:World):Prop :=
 opV Pg (Instr.extract t10 0) (panK R) w fun t11 w =>
 opV Pg (Instr.extract t10 1) (panK R) w fun t12 w =>
 opV Pg (Instr.fieldAt 71 t1 1) (panK R) w fun t13 w =>
 opV Pg (Instr.loadAt 65 t13) (panK R) w fun t14 w =>
 opV Pg (binS .neq 65 true t14 (.int .i64 11)) (panK R) w fun t15 w =>
 joinK (fun (t20:Value) (w:World) =>
 pickK t15 (.bool true) t20 fun t21 =>
 R (.returned t21) w) fun K1 =>
 guardP t15 false (
 opV Pg (Instr.loadAt 51 t0) (panK R) w fun t17 w =>
 callK Pg 92 #[t17,t11] (panK R) w fun t19 w =>
 opV Pg (binS .eql 3 true t19 (.int .i64 0)) (panK R) w fun t20 w =>
 K1 t20 w) (
 K1 undef w)
def n16 (t0 t1:Value) (R:RT) (w:World):Prop :=
 opV Pg (Instr.loadAt 51 t0) (panK R) w fun t6 w =>
 opV Pg (Instr.build 53 #[(1,t6)]) (panK R) w fun t7 w =>
 opV Pg (Instr.fieldAt 71 t1 10) (panK R) w fun t8 w =>
 opV Pg (Instr.loadAt 9 t8) (panK R) w fun t9 w =>
 callK Pg 91 #[t7,t9] (panK R) w fun t10 w =>
 n16c1 t0 t1 t10 R w
theorem n16s {t0 t1:Value} {R:RT} {w:World} (h:n16 t0 t1 R w):Calls Pg 90 #[t0,t1] w R:=by
 refine yD Tryz.func90 ?_
 refine zs<|zr<|zm<|zn<|zk<|zs<|zr<|yv h fun _ w h=>yB h fun _ w h=>yv h fun _ w h=>yv h fun _ w h=>yc h c91 fun _ w h=>zm<|yv h fun _ w h=>yv h fun _ w h=>?_
 refine zm<|zm<|zn<|zk<|zs<|sim_regionG<|yG 4<|yv h fun _ w h=>yv h fun _ w h=>yb h fun _ w h=>zm<|zn<|yg1 4 3 false [17,18,19,20] 20 h (fun _ T hT h=>?_) fun σ w h=>?_
 · refine yv h fun _ w h=>zm<|yc h c92 fun _ w h=>yb h fun _ w h=>zn ?_
   exact zt hT h
 exact yG 2<|yp h fun _ h=>zm<|zn<|sim_end<|zk<|sim_ret<|body_ret1 rfl rfl h
def n54 (t0 t1:Value) (R:RT) (w:World):Prop :=
 opV Pg (Instr.box 53 t0) (panK R) w fun t2 w =>
 opV Pg (Instr.box 9 t1) (panK R) w fun t3 w =>
 opV Pg (Instr.fieldAt 53 t2 1) (panK R) w fun t6 w =>
 opV Pg (Instr.loadAt 51 t6) (panK R) w fun t7 w =>
 opV Pg (Instr.makeFunc (.func 112) #[] #[t3]) (panK R) w fun t8 w =>
 callK Pg 111 #[t7,t8] (panK R) w fun t9 w =>
 opV Pg (Instr.extract t9 0) (panK R) w fun t10 w =>
 opV Pg (Instr.extract t9 1) (panK R) w fun t11 w =>
 R (.returned (.tuple #[t10,t11])) w
theorem n54s {t0 t1:Value} {R:RT} {w:World} (h:n54 t0 t1 R w):Calls Pg 91 #[t0,t1] w R:=by
 refine yD Tryz.func91 ?_
 refine zs<|zr<|yv h fun _ w h=>yv h fun _ w h=>zm<|zm<|zn<|zk<|zs<|zr<|yv h fun _ w h=>yv h fun _ w h=>yF h fun _ w h=>yc h c111 fun _ w h=>yv h fun _ w h=>?_
 exact yv h fun _ w h=>zm<|zm<|zn<|zk<|sim_ret<|body_ret2 rfl rfl rfl h
def n10c1 (t3 t4 t9 t10:Value) (Kr1:World→Prop) (Qr1:List PanicEntry→World→Prop) (Xr1:Nat→World→Prop) (R:RT) (w:World):Prop :=
 opV Pg (Instr.loadAt 3 t3) Qr1 w fun t12 w =>
 opV Pg (binS .eql 3 false t9 t12) Qr1 w fun t13 w =>
 condP t13 (
 opU Pg (Instr.storeAt 3 t4 t10) Qr1 w fun w =>
 Xr1 0 w) (
 Kr1 w)
def n10c2 (t3 t4 t8:Value) (ds:List Deferred) (R:RT) (w:World):Prop :=
 rangeN2 Pg t8 ds (fun l1 t9 t10 w Kr1 Xr1 Qr1 =>
 busyK l1 w fun w =>
 n10c1 t3 t4 t9 t10 Kr1 Qr1 Xr1 R w) (fun ch ds w=>outQ Pg ds [(some 3,t4)] R ch w) w (fun ds w =>
 opU Pg (Instr.storeAt 3 t4 (.int .i64 0)) (outQ Pg ds [(some 3,t4)] R) w fun w =>
 outX Pg ds [(some 3,t4)] R w) [fun ds w =>
 outX Pg ds [(some 3,t4)] R w]
def n10 (t0 t1:Value) (R:RT) (w:World):Prop :=
 (fun (ds:List Deferred) =>
 opV Pg (Instr.box 3 t1) (outQ Pg ds [(some 3,undef)] R) w fun t3 w =>
 opV Pg (Instr.alloc 3 true (.tuple #[])) (outQ Pg ds [(some 3,undef)] R) w fun t4 w =>
 callK Pg 72 #[t0] (outQ Pg ds [(some 3,t4)] R) w fun t8 w =>
 n10c2 t3 t4 t8 ds R w) []
theorem n10s {t0 t1:Value} {R:RT} {w:World} (h:n10 t0 t1 R w):Calls Pg 92 #[t0,t1] w R:=by
 refine yE Tryz.func92 ?_
 unfold n10 at h
 dsimp only at h
 refine zs<|zr<|yv h fun _ w h=>yv h fun _ w h=>zn<|zk<|zs<|zs<|zr<|zm<|yc h c72 fun _ w h=>zn<|zk<|sim_block<|sim_range2 [.ret] h rfl (fun l1 t9 t10 w Kr1 Xr1 Qr1 h=>?_) (fun ds w h=>?_) (fun c ds w h=>?_) (fun ch ds w h=>outQ_of rfl h)
 · refine zs<|zr<|zm<|zn<|zk<|zr<|zm<|zn<|zk ?_
   obtain ⟨hr,h⟩:=h
   refine ⟨rfl,hr,fun w hb=>?_⟩
   have h:=h w hb
   exact sim_block<|zs<|zr<|zm<|yv h fun _ w h=>yb h fun _ w h=>zn<|zk<|yC h (fun h=>zs<|zr<|zm<|yu h fun w h=>zn<|zk<|sim_ret<|sim_block_ret<|⟨rfl,0,rfl,h⟩) fun h=>sim_skip<|sim_block_normal<|⟨rfl,h⟩
 · exact sim_block_normal<|zk<|zs<|zr<|yu h fun w h=>zn<|zk<|sim_ret<|bodyM_ret rfl h
 rcases c with _ | c
 · refine ⟨_,rfl,.inl ⟨rfl,?_⟩⟩
   exact sim_block_ret<|sim_then_ret<|bodyM_ret rfl h
 exact h.elim
def n126 (t0 t1:Value) (R:RT) (w:World):Prop :=
 callK Pg 113 #[t0,t1] (panK R) w fun t7 w =>
 opV Pg (binS .geq 3 true t7 (.int .i64 0)) (panK R) w fun t8 w =>
 R (.returned t8) w
theorem n126s {t0 t1:Value} {R:RT} {w:World} (h:n126 t0 t1 R w):Calls Pg 93 #[t0,t1] w R:=by
 refine yD Tryz.func93 ?_
 refine zs<|zr<|zm<|zn<|zk<|zs<|zr<|zm<|zm<|yc h c113 fun _ w h=>yb h fun _ w h=>zm<|zn<|zk<|sim_ret ?_
 exact body_ret1 rfl rfl h
def n17 (t0:Value) (R:RT) (w:World):Prop :=
 callV Pg t0 #[] (panK R) w fun t4 w =>
 opV Pg (Op.unary .not t4) (panK R) w fun t5 w =>
 R (.returned t5) w
theorem n17s {t0:Value} {R:RT} {w:World} (h:n17 t0 R w):Calls Pg 94 #[t0] w R:=by
 refine yD Tryz.func94 ?_
 exact zs<|zr<|zm<|zn<|zk<|zs<|zr<|zm<|yV h fun _ w h=>yv h fun _ w h=>zm<|zn<|zk<|sim_ret<|body_ret1 rfl rfl h
def n62c1 (t0 t7 t11 t16:Value) (next1:KV) (R:RT) (w:World):Prop :=
 opV Pg (Op.unary .not t16) (panK R) w fun t17 w =>
 joinK (fun (t22:Value) (w:World) =>
 pickK t17 t22 (.bool false) fun t23 =>
 condP t23 (
 R (.returned (.tuple #[])) w) (
 opV Pg (binS .add 3 true t7 (.int .i64 1)) (panK R) w fun t24 w =>
 next1 t24 w)) fun K2 =>
 guardP t17 true (
 callV Pg t0 #[t11] (panK R) w fun t21 w =>
 opV Pg (Op.unary .not t21) (panK R) w fun t22 w =>
 K2 t22 w) (
 K2 undef w)
def n62c2 (t0 t1 t5 t7:Value) (next1:KV) (R:RT) (w:World):Prop :=
 opV Pg (Instr.indexAt 80 t5 t7) (panK R) w fun t10 w =>
 opV Pg (Instr.loadAt 9 t10) (panK R) w fun t11 w =>
 opV Pg (Instr.loadAt 80 t1) (panK R) w fun t12 w =>
 opV Pg (Instr.sliceAt 80 t12 none (some t7) none) (panK R) w fun t14 w =>
 callK Pg 96 #[t14,t11] (panK R) w fun t16 w =>
 n62c1 t0 t7 t11 t16 next1 R w
def n62 (t0 t1:Value) (R:RT) (w:World):Prop :=
 opV Pg (Instr.loadAt 80 t1) (panK R) w fun t5 w =>
 opV Pg (Builtin.len_ #[80] 3 #[t5]) (panK R) w fun t6 w =>
 loop1 (fun t7 w next1 =>
 opV Pg (binS .lss 3 false t7 t6) (panK R) w fun t8 w =>
 condP t8 (
 n62c2 t0 t1 t5 t7 next1 R w) (
 R (.returned (.tuple #[])) w)) (.int .i64 0) w
theorem n62s {t0 t1:Value} {R:RT} {w:World} (h:n62 t0 t1 R w):Calls Pg 95 #[t0,t1] w R:=by
 refine yD Tryz.func95 ?_
 refine zs<|zr<|yv h fun _ w h=>yx h fun _ w h=>zm<|zn<|zk<|sim_block<|yl1 [3,4,7,8,9,10,11,12,13,14,15,16,17,18,19,20,21,22,23,24] 7 h fun σ w next h=>zs<|zr<|yb h fun _ w h=>zn<|zk<|zs ?_
 refine yC h (fun h=>?_) fun h=>?_
 · refine sim_skip<|zk<|zs<|sim_block<|zs<|zr<|zm<|yv h fun _ w h=>yv h fun _ w h=>zm<|zm<|zn<|zk<|zs<|sim_regionG ?_
   refine yG 7<|yv h fun _ w h=>zm<|yv h fun _ w h=>zm<|yc h c96 fun _ w h=>yv h fun _ w h=>zm<|zn<|yg1 4 6 true [19,20,21,22] 22 h (fun _ T hT h=>?_) fun σ w h=>?_
   · refine zm<|zm<|yV h fun _ w h=>yv h fun _ w h=>zn ?_
     exact zt hT h
   refine yG 1<|yp h fun _ h=>zn<|sim_end<|zk<|yC h (fun h=>sim_ret<|sim_block_ret<|sim_then_ret<|sim_then_ret<|sim_block_ret<|body_ret0 rfl h) fun h=>sim_skip<|sim_block_normal<|zk<|zr<|yb h fun _ w h=>zm<|zn<|zk ?_
   exact ⟨rfl,h⟩
 exact sim_exit<|sim_then_exit<|sim_then_exit<|sim_block_hit<|body_normal<|body_ret0 rfl h
def n128 (t0 t1:Value) (R:RT) (w:World):Prop :=
 callK Pg 114 #[t0,t1] (panK R) w fun t7 w =>
 opV Pg (binS .geq 3 true t7 (.int .i64 0)) (panK R) w fun t8 w =>
 R (.returned t8) w
theorem n128s {t0 t1:Value} {R:RT} {w:World} (h:n128 t0 t1 R w):Calls Pg 96 #[t0,t1] w R:=by
 refine yD Tryz.func96 ?_
 refine zs<|zr<|zm<|zn<|zk<|zs<|zr<|zm<|zm<|yc h c114 fun _ w h=>yb h fun _ w h=>zm<|zn<|zk<|sim_ret ?_
 exact body_ret1 rfl rfl h
def n123 (t0 t1:Value) (R:RT) (w:World):Prop :=
 callK Pg 115 #[t0,t1] (panK R) w fun t7 w =>
 opV Pg (binS .geq 3 true t7 (.int .i64 0)) (panK R) w fun t8 w =>
 R (.returned t8) w
theorem n123s {t0 t1:Value} {R:RT} {w:World} (h:n123 t0 t1 R w):Calls Pg 97 #[t0,t1] w R:=by
 refine yD Tryz.func97 ?_
 refine zs<|zr<|zm<|zn<|zk<|zs<|zr<|zm<|zm<|yc h c115 fun _ w h=>yb h fun _ w h=>zm<|zn<|zk<|sim_ret ?_
 exact body_ret1 rfl rfl h
def n50c1 (t1 t2 t6 t11:Value) (R:RT) (w:World):Prop :=
 pickK t6 t11 (.bool false) fun t12 =>
 joinK (fun (t18:Value) (w:World) =>
 pickK t12 (.bool true) t18 fun t19 =>
 R (.returned t19) w) fun K2 =>
 guardP t12 false (
 opV Pg (Instr.fieldAt 71 t2 7) (panK R) w fun t14 w =>
 opV Pg (Instr.fieldAt 68 t14 1) (panK R) w fun t15 w =>
 opV Pg (Instr.loadAt 66 t15) (panK R) w fun t16 w =>
 opV Pg (Instr.makeFunc (.func 100) #[] #[t1]) (panK R) w fun t17 w =>
 callK Pg 99 #[t16,t17] (panK R) w fun t18 w =>
 K2 t18 w) (
 K2 undef w)
def n50 (t0 t1:Value) (R:RT) (w:World):Prop :=
 opV Pg (Instr.box 71 t0) (panK R) w fun t2 w =>
 opV Pg (Instr.fieldAt 71 t2 1) (panK R) w fun t4 w =>
 opV Pg (Instr.loadAt 65 t4) (panK R) w fun t5 w =>
 opV Pg (binS .eql 65 true t5 (.int .i64 9)) (panK R) w fun t6 w =>
 joinK (fun (t11:Value) (w:World) =>
 n50c1 t1 t2 t6 t11 R w) fun K1 =>
 guardP t6 true (
 opV Pg (Instr.fieldAt 71 t2 9) (panK R) w fun t8 w =>
 opV Pg (Instr.loadAt 9 t8) (panK R) w fun t9 w =>
 opV Pg (Instr.loadAt 9 t1) (panK R) w fun t10 w =>
 opV Pg (binS .eql 9 false t9 t10) (panK R) w fun t11 w =>
 K1 t11 w) (
 K1 undef w)
theorem n50s {t0 t1:Value} {R:RT} {w:World} (h:n50 t0 t1 R w):Calls Pg 98 #[t0,t1] w R:=by
 refine yD Tryz.func98 ?_
 refine zs<|zr<|yv h fun _ w h=>zm<|zn<|zk<|zs<|sim_regionG<|yG 4<|yv h fun _ w h=>yv h fun _ w h=>yb h fun _ w h=>zm<|zn<|yg1 4 3 true [8,9,10,11] 11 h (fun _ T hT h=>?_) fun σ w h=>?_
 · refine yv h fun _ w h=>yv h fun _ w h=>yv h fun _ w h=>yb h fun _ w h=>zn ?_
   exact zt hT h
 refine yG 2<|yp h fun _ h=>zm<|zn<|yg1 5 9 false [14,15,16,17,18] 18 h (fun _ T hT h=>?_) fun σ w h=>?_
 · refine yv h fun _ w h=>yv h fun _ w h=>yv h fun _ w h=>yF h fun _ w h=>yc h c99 fun _ w h=>zn ?_
   exact zt hT h
 exact yG 2<|yp h fun _ h=>zm<|zn<|sim_end<|zk<|sim_ret<|body_ret1 rfl rfl h
def n26c1 (t0 t2:Value) (R:RT) (w:World):Prop :=
 opN Pg (nilN t0) (panK R) w fun t7 w =>
 opV Pg (Instr.fieldAt 61 t7 0) (panK R) w fun t8 w =>
 opV Pg (Instr.fieldAt 58 t8 0) (panK R) w fun t9 w =>
 opV Pg (Instr.loadAt 24 t9) (panK R) w fun t10 w =>
 callK Pg 24 #[t10] (panK R) w fun t11 w =>
 opU Pg (Instr.storeAt 24 t2 t11) (panK R) w fun w =>
 qW Pg 24 t2 w fun r0 =>
 R (.returned r0) w
def n26c2 (t0 t2 t4:Value) (R:RT) (w:World):Prop :=
 condP t4 (
 opV Pg (Instr.build 24 #[]) (panK R) w fun t5 w =>
 opU Pg (Instr.storeAt 24 t2 t5) (panK R) w fun w =>
 qW Pg 24 t2 w fun r0 =>
 R (.returned r0) w) (
 n26c1 t0 t2 R w)
def n26 (t0:Value) (R:RT) (w:World):Prop :=
 opV Pg (Instr.alloc 24 true (.tuple #[])) (panK R) w fun t2 w =>
 callK Pg 36 #[t0] (panK R) w fun t4 w =>
 n26c2 t0 t2 t4 R w
theorem n26s {t0:Value} {R:RT} {w:World} (h:n26 t0 R w):Calls Pg 23 #[t0] w R:=by
 refine yD Tryz.func23 ?_
 refine zs<|zr<|yv h fun _ w h=>zn<|zk<|zs<|zs<|zr<|zm<|yc h c36 fun _ w h=>zn<|zk<|yC h (fun h=>zs<|zr<|yB h fun _ w h=>yu h fun w h=>zn<|zk<|sim_ret<|sim_then_ret<|body_retC rfl rfl h) fun h=>sim_skip ?_
 exact zk<|zs<|zr<|zm<|yN h fun _ w h=>yv h fun _ w h=>yv h fun _ w h=>yv h fun _ w h=>yc h c24 fun _ w h=>yu h fun w h=>zn<|zk<|sim_ret<|body_retC rfl rfl h
def n53c1 (t34 t42 t55:Value) (C4:World→Prop) (next2:KV) (R:RT) (w:World):Prop :=
 qN Pg C4 (nilN t42) fun t59 =>
 qV Pg C4 (Instr.fieldAt 71 t59 11) fun t60 =>
 opU Pg (Instr.storeAt 69 t60 t55) (panK R) w fun w =>
 turnK w fun C5 w =>
 opV Pg (binS .add 3 true t34 (.int .i64 1)) (panK R) w fun t61 w =>
 next2 t61 w
def n53c2 (t34 t42 t50 t55:Value) (C3:World→Prop) (next2:KV) (R:RT) (w:World):Prop :=
 qN Pg C3 (nilN t42) fun t56 =>
 qV Pg C3 (Instr.fieldAt 71 t56 7) fun t57 =>
 qV Pg C3 (Instr.fieldAt 68 t57 1) fun t58 =>
 opU Pg (Instr.storeAt 66 t58 t50) (panK R) w fun w =>
 turnK w fun C4 w =>
 n53c1 t34 t42 t55 C4 next2 R w
def n53c3 (t34 t42:Value) (C3:World→Prop) (next2:KV) (R:RT) (w:World):Prop :=
 qN Pg C3 (nilN t42) fun t46 =>
 qV Pg C3 (Instr.fieldAt 71 t46 7) fun t47 =>
 qV Pg C3 (Instr.fieldAt 68 t47 1) fun t48 =>
 qV Pg C3 (Instr.loadAt 66 t48) fun t49 =>
 qN Pg C3 (nilN t42) fun t52 =>
 qV Pg C3 (Instr.fieldAt 71 t52 11) fun t53 =>
 qV Pg C3 (Instr.loadAt 69 t53) fun t54 =>
 callK Pg 54 #[t49] (panK R) w fun t50 w =>
 C3 w∧(
 callK Pg 55 #[t54] (panK R) w fun t55 w =>
 C3 w∧(
 n53c2 t34 t42 t50 t55 C3 next2 R w))
def n53c4 (t20 t34:Value) (next2:KV) (R:RT) (w:World):Prop :=
 opN Pg (nilN t20) (panK R) w fun t38 w =>
 opV Pg (Instr.fieldAt 53 t38 1) (panK R) w fun t39 w =>
 opV Pg (Instr.loadAt 51 t39) (panK R) w fun t40 w =>
 opV Pg (Instr.indexAt 51 t40 t34) (panK R) w fun t42 w =>
 drawK w fun C3 w =>
 n53c3 t34 t42 C3 next2 R w
def n53c5 (t14 t20 t33 t34:Value) (next1:KV) (next2:KV) (R:RT) (w:World):Prop :=
 opV Pg (binS .lss 3 false t34 t33) (panK R) w fun t35 w =>
 condP t35 (
 n53c4 t20 t34 next2 R w) (
 opV Pg (binS .add 3 true t14 (.int .i64 1)) (panK R) w fun t62 w =>
 next1 t62 w)
def n53c6 (t14 t20 t26:Value) (next1:KV) (R:RT) (w:World):Prop :=
 opN Pg (nilN t20) (panK R) w fun t27 w =>
 opV Pg (Instr.fieldAt 53 t27 1) (panK R) w fun t28 w =>
 opU Pg (Instr.storeAt 51 t28 t26) (panK R) w fun w =>
 opN Pg (nilN t20) (panK R) w fun t30 w =>
 opV Pg (Instr.fieldAt 53 t30 1) (panK R) w fun t31 w =>
 opV Pg (Instr.loadAt 51 t31) (panK R) w fun t32 w =>
 opV Pg (Builtin.len_ #[51] 3 #[t32]) (panK R) w fun t33 w =>
 loop1 (fun t34 w next2 =>
 n53c5 t14 t20 t33 t34 next1 next2 R w) (.int .i64 0) w
def n53c7 (t1 t14:Value) (next1:KV) (R:RT) (w:World):Prop :=
 opV Pg (Instr.fieldAt 24 t1 1) (panK R) w fun t17 w =>
 opV Pg (Instr.loadAt 22 t17) (panK R) w fun t18 w =>
 opV Pg (Instr.indexAt 22 t18 t14) (panK R) w fun t20 w =>
 opN Pg (nilN t20) (panK R) w fun t23 w =>
 opV Pg (Instr.fieldAt 53 t23 1) (panK R) w fun t24 w =>
 opV Pg (Instr.loadAt 51 t24) (panK R) w fun t25 w =>
 callK Pg 53 #[t25] (panK R) w fun t26 w =>
 n53c6 t14 t20 t26 next1 R w
def n53c8 (t1 t2 t13 t14:Value) (next1:KV) (R:RT) (w:World):Prop :=
 opV Pg (binS .lss 3 false t14 t13) (panK R) w fun t15 w =>
 condP t15 (
 n53c7 t1 t14 next1 R w) (
 opV Pg (Instr.loadAt 24 t1) (panK R) w fun t63 w =>
 opU Pg (Instr.storeAt 24 t2 t63) (panK R) w fun w =>
 qW Pg 24 t2 w fun r0 =>
 R (.returned r0) w)
def n53c9 (t1 t2 t9:Value) (R:RT) (w:World):Prop :=
 opV Pg (Instr.fieldAt 24 t1 1) (panK R) w fun t10 w =>
 opU Pg (Instr.storeAt 22 t10 t9) (panK R) w fun w =>
 opV Pg (Instr.fieldAt 24 t1 1) (panK R) w fun t11 w =>
 opV Pg (Instr.loadAt 22 t11) (panK R) w fun t12 w =>
 opV Pg (Builtin.len_ #[22] 3 #[t12]) (panK R) w fun t13 w =>
 loop1 (fun t14 w next1 =>
 n53c8 t1 t2 t13 t14 next1 R w) (.int .i64 0) w
def n53 (t0:Value) (R:RT) (w:World):Prop :=
 opV Pg (Instr.box 24 t0) (panK R) w fun t1 w =>
 opV Pg (Instr.alloc 24 true (.tuple #[])) (panK R) w fun t2 w =>
 opV Pg (Instr.fieldAt 24 t1 1) (panK R) w fun t7 w =>
 opV Pg (Instr.loadAt 22 t7) (panK R) w fun t8 w =>
 callK Pg 52 #[t8] (panK R) w fun t9 w =>
 n53c9 t1 t2 t9 R w
theorem n53s {t0:Value} {R:RT} {w:World} (h:n53 t0 R w):Calls Pg 24 #[t0] w R:=by
 refine yD Tryz.func24 ?_
 refine zs<|zr<|yv h fun _ w h=>yv h fun _ w h=>zn<|zk<|zs<|zr<|yv h fun _ w h=>yv h fun _ w h=>yc h c52 fun _ w h=>yv h fun _ w h=>yu h fun w h=>zn<|zk ?_
 refine zs<|zs<|zr<|yv h fun _ w h=>yv h fun _ w h=>yx h fun _ w h=>zm<|zn<|zk<|sim_block<|yl1 [3,4,5,6,14,15,16,17,18,19,20,21,22,23,24,25,26,27,28,29,30,31,32,33,34,35,36,37,38,39,40,41,42,43,44,45,46,47,48,49,50,51,52,53,54,55,56,57,58,59,60,61,62] 14 h fun σ w next h=>zs<|zr<|yb h fun _ w h=>zn ?_
 refine zk<|zs<|yC h (fun h=>?_) fun h=>?_
 · refine sim_skip<|zk<|zs<|sim_block<|zs<|zr<|zm<|zm<|zn<|zk<|zs<|zr<|yv h fun _ w h=>yv h fun _ w h=>zm ?_
   refine yv h fun _ w h=>zm<|zn<|zk<|zs<|zr<|zm<|zm<|yN h fun _ w h=>yv h fun _ w h=>yv h fun _ w h=>yc h c53 fun _ w h=>yN h fun _ w h=>yv h fun _ w h=>yu h fun w h=>?_
   refine zn<|zk<|zs<|zr<|zm<|yN h fun _ w h=>yv h fun _ w h=>yv h fun _ w h=>yx h fun _ w h=>zm<|zn<|zk<|sim_block<|yl1 [5,6,34,35,36,37,38,39,40,41,42,43,44,45,46,47,48,49,50,51,52,53,54,55,56,57,58,59,60,61] 34 h fun σ w next h=>zs ?_
   refine zr<|yb h fun _ w h=>zn<|zk<|zs<|yC h (fun h=>?_) fun h=>?_
   · refine sim_skip<|zk<|zs<|sim_block<|zs<|zr<|zm<|zm<|zn<|zk<|zs<|zr<|zm<|yN h fun _ w h=>yv h fun _ w h=>?_
     refine yv h fun _ w h=>zm<|yv h fun _ w h=>zm<|zn<|zk<|yh [43,44,45,46,47,48,49,50,51,52,53,54,55,56,57,58,59,60] h fun C hC h=>yw 0 hC ?_
     refine yw 1 hC ?_
     refine yw 2 hC ?_
     refine yn 3 hC h fun _ h=>?_
     refine ye 4 hC h fun _ h=>?_
     refine ye 5 hC h fun _ h=>?_
     refine ye 6 hC h fun _ h=>?_
     refine yw 8 hC ?_
     refine yn 9 hC h fun _ h=>?_
     refine ye 10 hC h fun _ h=>?_
     refine ye 11 hC h fun _ h=>?_
     refine yo 7 ?_
     refine yc h c54 fun _ w h=>zn ?_
     obtain ⟨hC,h⟩:=h
     refine ⟨hC,?_⟩
     refine yo 12 ?_
     refine yc h c55 fun _ w h=>zn ?_
     obtain ⟨hC,h⟩:=h
     refine ⟨hC,?_⟩
     refine yn 13 hC h fun _ h=>?_
     refine ye 14 hC h fun _ h=>?_
     refine ye 15 hC h fun _ h=>?_
     refine yq 16 3 ?_
     refine yu h fun w h=>zn ?_
     obtain ⟨C4,hC,h⟩:=h
     refine ⟨C4,hC,?_⟩
     refine yn 17 hC h fun _ h=>?_
     refine ye 18 hC h fun _ h=>?_
     refine yq 19 2 ?_
     refine yu h fun w h=>zn ?_
     obtain ⟨C5,hC,h⟩:=h
     refine ⟨C5,hC,?_⟩
     exact yz<|sim_block_normal<|zk<|zr<|yb h fun _ w h=>zm<|zn<|zk<|⟨rfl,h⟩
   exact sim_exit<|sim_then_exit<|sim_then_exit<|sim_block_hit<|sim_block_normal<|zk<|zr<|yb h fun _ w h=>zm<|zn<|zk<|⟨rfl,h⟩
 exact sim_exit<|sim_then_exit<|sim_then_exit<|sim_block_hit<|zk<|zs<|zr<|yv h fun _ w h=>yu h fun w h=>zn<|zk<|sim_ret<|body_retC rfl rfl h
def n56 (t0 t1:Value) (R:RT) (w:World):Prop :=
 opV Pg (Instr.box 24 t0) (panK R) w fun t2 w =>
 opV Pg (Instr.box 9 t1) (panK R) w fun t3 w =>
 opV Pg (Instr.fieldAt 24 t2 1) (panK R) w fun t6 w =>
 opV Pg (Instr.loadAt 22 t6) (panK R) w fun t7 w =>
 opV Pg (Instr.makeFunc (.func 61) #[] #[t3]) (panK R) w fun t8 w =>
 callK Pg 60 #[t7,t8] (panK R) w fun t9 w =>
 opV Pg (Instr.extract t9 0) (panK R) w fun t10 w =>
 opV Pg (Instr.extract t9 1) (panK R) w fun t11 w =>
 R (.returned (.tuple #[t10,t11])) w
theorem n56s {t0 t1:Value} {R:RT} {w:World} (h:n56 t0 t1 R w):Calls Pg 26 #[t0,t1] w R:=by
 refine yD Tryz.func26 ?_
 refine zs<|zr<|yv h fun _ w h=>yv h fun _ w h=>zm<|zm<|zn<|zk<|zs<|zr<|yv h fun _ w h=>yv h fun _ w h=>yF h fun _ w h=>yc h c60 fun _ w h=>yv h fun _ w h=>?_
 exact yv h fun _ w h=>zm<|zm<|zn<|zk<|sim_ret<|body_ret2 rfl rfl rfl h
def n19 (R:RT) (w:World):Prop :=
 opV Pg (Instr.alloc 24 true (.tuple #[])) (panK R) w fun t0 w =>
 opV Pg (Instr.build 71 #[(0,(.string { data := #[120] })),(1,(.int .i64 1)),(2,(.int .i64 8)),(6,(.int .i64 1))]) (panK R) w fun t4 w =>
 opV Pg (Instr.buildSlice 51 1 #[(0,t4)]) (panK R) w fun t5 w =>
 opV Pg (Instr.build 53 #[(0,(.string { data := #[97] })),(1,t5)]) (panK R) w fun t6 w =>
 opV Pg (Instr.alloc 53 true (.tuple #[])) (panK R) w fun t1 w =>
 opU Pg (Instr.storeAt 53 t1 t6) (panK R) w fun w =>
 opV Pg (Instr.build 71 #[(0,(.string { data := #[122] })),(1,(.int .i64 2)),(2,(.int .i64 8))]) (panK R) w fun t7 w =>
 opV Pg (Instr.buildSlice 51 1 #[(0,t7)]) (panK R) w fun t8 w =>
 opV Pg (Instr.build 53 #[(0,(.string { data := #[98] })),(1,t8)]) (panK R) w fun t9 w =>
 opV Pg (Instr.alloc 53 true (.tuple #[])) (panK R) w fun t2 w =>
 opU Pg (Instr.storeAt 53 t2 t9) (panK R) w fun w =>
 opV Pg (Instr.build 71 #[(0,(.string { data := #[110] })),(1,(.int .i64 1)),(2,(.int .i64 8)),(6,(.int .i64 3))]) (panK R) w fun t10 w =>
 opV Pg (Instr.build 71 #[(0,(.string { data := #[116] })),(1,(.int .i64 2)),(2,(.int .i64 8)),(5,(.int .i64 2))]) (panK R) w fun t11 w =>
 opV Pg (Instr.build 113 #[(0,(.string { data := #[110] })),(1,(.int .i64 1))]) (panK R) w fun t12 w =>
 opV Pg (Instr.buildSlice 66 1 #[(0,t12)]) (panK R) w fun t13 w =>
 opV Pg (Instr.build 68 #[(1,t13)]) (panK R) w fun t14 w =>
 opV Pg (Instr.build 71 #[(0,(.string { data := #[108] })),(1,(.int .i64 7)),(8,(.string { data := #[97] })),(7,t14)]) (panK R) w fun t15 w =>
 opV Pg (Instr.build 85 #[(0,(.int .i64 2)),(1,(.int .i64 2)),(2,(.string { data := #[97] }))]) (panK R) w fun t16 w =>
 opV Pg (Instr.buildSlice 69 1 #[(0,t16)]) (panK R) w fun t17 w =>
 opV Pg (Instr.build 71 #[(0,(.string { data := #[99] })),(1,(.int .i64 9)),(9,(.string { data := #[116] })),(11,t17)]) (panK R) w fun t18 w =>
 opV Pg (Instr.buildSlice 51 4 #[(0,t10),(1,t11),(2,t15),(3,t18)]) (panK R) w fun t19 w =>
 opV Pg (Instr.build 53 #[(0,(.string { data := #[115] })),(1,t19)]) (panK R) w fun t20 w =>
 opV Pg (Instr.alloc 53 true (.tuple #[])) (panK R) w fun t3 w =>
 opU Pg (Instr.storeAt 53 t3 t20) (panK R) w fun w =>
 opV Pg (Instr.loadAt 53 t1) (panK R) w fun t21 w =>
 opV Pg (Instr.loadAt 53 t2) (panK R) w fun t22 w =>
 opV Pg (Instr.loadAt 53 t3) (panK R) w fun t23 w =>
 opV Pg (Instr.buildSlice 22 3 #[(0,t21),(1,t22),(2,t23)]) (panK R) w fun t24 w =>
 opV Pg (Instr.build 24 #[(0,(.string { data := #[100] })),(1,t24),(2,(.string { data := #[115] }))]) (panK R) w fun t25 w =>
 opU Pg (Instr.storeAt 24 t0 t25) (panK R) w fun w =>
 qW Pg 24 t0 w fun r0 =>
 R (.returned r0) w
theorem n19s {R:RT} {w:World} (h:n19 R w):Calls Pg 30 #[] w R:=by
 refine yD Tryz.func30 ?_
 refine zs<|zr<|yv h fun _ w h=>zn<|zk<|zs<|zr<|yB h fun _ w h=>yS h fun _ w h=>yB h fun _ w h=>yv h fun _ w h=>yu h fun w h=>zn<|zk<|zs ?_
 refine zr<|yB h fun _ w h=>yS h fun _ w h=>yB h fun _ w h=>yv h fun _ w h=>yu h fun w h=>zn<|zk<|zs<|zr<|yB h fun _ w h=>yB h fun _ w h=>yB h fun _ w h=>yS h fun _ w h=>yB h fun _ w h=>?_
 refine yB h fun _ w h=>yB h fun _ w h=>yS h fun _ w h=>yB h fun _ w h=>yS h fun _ w h=>yB h fun _ w h=>yv h fun _ w h=>yu h fun w h=>zn<|zk<|zs<|zr<|yv h fun _ w h=>yv h fun _ w h=>yv h fun _ w h=>?_
 exact yS h fun _ w h=>yB h fun _ w h=>yu h fun w h=>zn<|zk<|sim_ret<|body_retC rfl rfl h
def numberB (f:FieldD):Bool:=f.kind == 1||f.kind == 2||f.kind == 3
def highOf (f:FieldD):Int:=if f.kind == 2 then f.low else f.high
abbrev rangeVal (lo hi:Int):Value := .agg #[.int .i64 lo,.int .i64 hi]
theorem Number_ret (w0:World) (v:Value) (f:FieldD) (hf:FieldVal w0 v f):Ret Pg 76 #[v] w0 fun r w'=>r = .bool (numberB f)∧Ext w0 w':=by
 obtain ⟨tv,cv,rfl,hT,hC⟩:=hf
 refine n59s (R:=retR _) ?_;unfold n59
 simp (disch:=try exact DI) only [↓PR,QR,simprocAttr,↓n59c1]
 exact ⟨by first | trivial | rfl,ee⟩
theorem Range_ret (w0:World) (v:Value) (f:FieldD) (hf:FieldVal w0 v f):Ret Pg 173 #[v] w0 fun r w'=>r = .tuple #[if numberB f then rangeVal f.low (highOf f) else rangeVal 0 0,.int .i64 (if numberB f then 0 else 2)]∧Ext w0 w':=by
 obtain ⟨tv,cv,rfl,hT,hC⟩:=hf
 refine n60s (R:=retR _) ?_;unfold n60
 simp (disch:=try exact DI) only [↓PR,QR,simprocAttr,↓n60c1,↓n60c2,↓n60c3,↓n60c4]
 refine zcr (Number_ret _ _ f ⟨tv,cv,rfl,TermsOf.ext hT ee,CasesOf.ext hC ee⟩) fun w1 e1=>?_
 have s1:=e1.size
 try simp only [World.size_alloc,World.size_setCell,World.size_drew,World.putObj_size,Sw.putW_size] at s1
 cases hn:numberB f with
 | false =>
  simp (disch:=try exact DI) only [↓PR,QR,simprocAttr,↓n60c1,↓n60c2,↓n60c3,↓n60c4,e1.cellQ,e1.frozenQ]
  exact ⟨by first | trivial | rfl,ee⟩
 | true =>
  simp (disch:=try exact DI) only [↓PR,QR,simprocAttr,↓n60c1,↓n60c2,↓n60c3,↓n60c4,e1.cellQ,e1.frozenQ]
  unfold highOf
  cases f.kind == 2
  · simp (disch:=try exact DI) only [↓PR,QR,simprocAttr,↓n60c1,↓n60c2,↓n60c3,↓n60c4,e1.cellQ,e1.frozenQ]
    exact ⟨by first | trivial | rfl,ee⟩
  · simp (disch:=try exact DI) only [↓PR,QR,simprocAttr,↓n60c1,↓n60c2,↓n60c3,↓n60c4,e1.cellQ,e1.frozenQ]
    exact ⟨by first | trivial | rfl,ee⟩
theorem found_Message_ret (w0:World) (v:Value) (l:List MsgD) (g:FuncId) (caps:Array Value) (p:MsgD→Bool) (hs:MsgsOf w0 v l) (hg:Callable Pg g) (hc:Tests w0 MsgVal g caps p l) :
 Ret Pg 60 #[v,.func (.func g) #[] caps] w0 fun r w'=>r = .tuple #[.int .i64 (if idx p l < 0 then 0 else idx p l),.bool (l.any p)]∧Ext w0 w':=by
 refine n76s (R:=retR _) ?_;unfold n76
 refine zcr (IndexFunc_Message_ret _ _ l g caps p hs hg hc) fun w1 e1=>?_
 have s1:=e1.size
 try simp only [World.size_alloc,World.size_setCell,World.size_drew,World.putObj_size,Sw.putW_size] at s1
 simp (disch:=try exact DI) only [↓PR,QR,simprocAttr,↓n76c1]
 exact ⟨by rw [idx_neg],e1⟩
theorem found_Field_ret (w0:World) (v:Value) (l:List FieldD) (g:FuncId) (caps:Array Value) (p:FieldD→Bool) (hs:FieldsOf w0 v l) (hg:Callable Pg g) (hc:Tests w0 FieldVal g caps p l) :
 Ret Pg 111 #[v,.func (.func g) #[] caps] w0 fun r w'=>r = .tuple #[.int .i64 (if idx p l < 0 then 0 else idx p l),.bool (l.any p)]∧Ext w0 w':=by
 refine n75s (R:=retR _) ?_;unfold n75
 refine zcr (IndexFunc_Field_ret _ _ l g caps p hs hg hc) fun w1 e1=>?_
 have s1:=e1.size
 try simp only [World.size_alloc,World.size_setCell,World.size_drew,World.putObj_size,Sw.putW_size] at s1
 simp (disch:=try exact DI) only [↓PR,QR,simprocAttr,↓n75c1]
 exact ⟨by rw [idx_neg],e1⟩
def idx0 {α:Type} (p:α→Bool) (l:List α):Int:=if idx p l < 0 then 0 else idx p l
theorem FieldS1_ret (w0:World) (v:Value) (f:FieldD) (pb:Nat) (s:ByteArray) (hf:FieldVal w0 v f) (hp:w0.cell? ⟨pb,0,none⟩=some (.string s)):Ret Pg 112 #[v,.pointer (some ⟨pb,0,none⟩)] w0 fun r w'=>r = .bool (decide (f.name=s))∧Ext w0 w':=by
 obtain ⟨tv,cv,rfl,hT,hC⟩:=hf
 have hb:=World.block_lt_of_cell? w0 _ hp
 simp only at hb
 refine n55s (R:=retR _) ?_;unfold n55
 simp (disch:=try exact DI) only [↓PR,QR,simprocAttr,Sw.joinK_eq,hp]
 exact ⟨by first | trivial | rfl,ee⟩
theorem FindS1_ret (w0:World) (v:Value) (m:MsgD) (pb:Nat) (s:ByteArray) (hf:MsgVal w0 v m) (hp:w0.cell? ⟨pb,0,none⟩=some (.string s)):Ret Pg 61 #[v,.pointer (some ⟨pb,0,none⟩)] w0 fun r w'=>r = .bool (decide (m.name=s))∧Ext w0 w':=by
 obtain ⟨fv,rfl,hF⟩:=hf
 have hb:=World.block_lt_of_cell? w0 _ hp
 simp only at hb
 refine n58s (R:=retR _) ?_;unfold n58
 simp (disch:=try exact DI) only [↓PR,QR,simprocAttr,Sw.joinK_eq,hp]
 exact ⟨by first | trivial | rfl,ee⟩
theorem Field_ret (w0:World) (v:Value) (m:MsgD) (s:ByteArray) (hm:MsgVal w0 v m):Ret Pg 91 #[v,.string s] w0 fun r w'=>r = .tuple #[.int .i64 (idx0 (fun f=>decide (f.name=s)) m.fields),.bool (m.fields.any fun f=>decide (f.name=s))]∧Ext w0 w':=by
 obtain ⟨fv,rfl,hF⟩:=hm
 refine n54s (R:=retR _) ?_;unfold n54
 simp (disch:=try exact DI) only [↓PR,QR,simprocAttr,Sw.joinK_eq]
 refine callK_ret (found_Field_ret _ _ m.fields _ _ (fun f=>decide (f.name=s)) (hF.ext ee) c112 ?_) ?_
 · intro w v f hf e hv
   exact FieldS1_ret w v f _ s hv (e.cell (by simp (disch:=try exact DI) only [↓PR,QR,simprocAttr]))
 rintro _ w1 ⟨rfl,e1⟩
 simp (disch:=try exact DI) only [↓PR,QR,simprocAttr,Sw.joinK_eq]
 exact ⟨by first | trivial | rfl,ee⟩
theorem Find_ret (w0:World) (v:Value) (d:DefD) (s:ByteArray) (hd:DefVal w0 v d):Ret Pg 26 #[v,.string s] w0 fun r w'=>r = .tuple #[.int .i64 (idx0 (fun m=>decide (m.name=s)) d.msgs),.bool (d.msgs.any fun m=>decide (m.name=s))]∧Ext w0 w':=by
 obtain ⟨fv,rfl,hF⟩:=hd
 refine n56s (R:=retR _) ?_;unfold n56
 simp (disch:=try exact DI) only [↓PR,QR,simprocAttr,Sw.joinK_eq]
 refine callK_ret (found_Message_ret _ _ d.msgs _ _ (fun m=>decide (m.name=s)) (hF.ext ee) c61 ?_) ?_
 · intro w v f hf e hv
   exact FindS1_ret w v f _ s hv (e.cell (by simp (disch:=try exact DI) only [↓PR,QR,simprocAttr]))
 rintro _ w1 ⟨rfl,e1⟩
 simp (disch:=try exact DI) only [↓PR,QR,simprocAttr,Sw.joinK_eq]
 exact ⟨by first | trivial | rfl,ee⟩
open Go.RowKit (intOf Below)
theorem Clone_Term_ret (w0:World) (v:Value) (css:List (Cs 2)) (hs:SliceOf w0 2 (fun _ cs x=>cs=x.1) v css) (h1:∀ x∈css,∀ u∈x.1,u.oneCell'=true) (hb:css.length≤1048576) :
 Ret Pg 54 #[v] w0 fun r w'=>OwnE w' w0.heap.size 113 2 Subtype.val r css∧Ext w0 w':=by
 obtain ⟨A,c,rfl,hlc,hcm,hlm,hel⟩:=SliceOf.open hs
 refine n122s (R:=retR _) ?_;unfold n122
 simp (disch:=try exact DI) only [↓PR,QR,simprocAttr]
 cases A with
 | none =>
  have:css=[]:=by
   cases css with
   | nil=>rfl
   | cons x l=>obtain ⟨_,_,_,h,_⟩:=hel 0 x rfl;cases h
  subst this
  simp only [Option.isNone_none]
  simp (disch:=try exact DI) only [↓PR,QR,simprocAttr]
  exact ⟨OwnE.nil _ _ _ _ _,ee⟩
 | some a =>
  simp only [Option.isNone_some]
  simp (disch:=try exact DI) only [↓PR,QR,simprocAttr]
  have hO:=OwnE.new w0 113 2 (Subtype.val:Cs 2→List Value) [] (fun x=>x.2) (by simp)
  simp only [List.flatMap_nil,List.length_nil] at hO
  have eW:Ext w0 (w0.alloc (.cells #[] 113)):=ee
  have hsz:w0.heap.size≤(w0.alloc (.cells #[] 113)).heap.size:=eW.size
  generalize w0.alloc (.cells #[] 113)=W at hO eW hsz ⊢
  cases hcs:css with
  | nil =>
   subst hcs
   simp only [List.length_nil]
   rw [op_append0 Tryz.underlying66 ty113 _ _ _ _ _ (Nat.le_refl 0)]
   simp (disch:=try exact DI) only [↓PR,QR,simprocAttr]
   exact ⟨hO,eW⟩
  | cons x0 l0 =>
   obtain ⟨b,o,_,hA,_⟩:=hel 0 x0 (by rw [hcs];rfl)
   injection hA with hA
   subst hA
   rw [← hcs]
   refine op_appendE Tryz.underlying66 ty113 rfl (by decide) (fun x=>x.2) h1 hO (fun j x hx=>?_) hsz ?_ (by simp;omega) ?_
   · obtain ⟨b',o',cs,hA',hl',hE,rfl⟩:=hel j x hx
     injection hA' with hA'
     injection hA' with h3 h4
     subst h3 h4
     exact hE.ext eW
   · have:=by113
     rw [List.length_nil,Nat.zero_add]
     exact Nat.le_trans (Nat.mul_le_mul hb this) (by decide)
   · intro v' w' ho hg
     simp (disch:=try exact DI) only [↓PR,QR,simprocAttr]
     refine ⟨ho,eW.grown hg ?_⟩
     intro k hk
     have h:=hO.lt k hk
     exact h.1
theorem Clone_Case_ret (w0:World) (v:Value) (css:List (Cs 3)) (hs:SliceOf w0 3 (fun _ cs x=>cs=x.1) v css) (h1:∀ x∈css,∀ u∈x.1,u.oneCell'=true) (hb:css.length≤1048576) :
 Ret Pg 55 #[v] w0 fun r w'=>OwnE w' w0.heap.size 85 3 Subtype.val r css∧Ext w0 w':=by
 obtain ⟨A,c,rfl,hlc,hcm,hlm,hel⟩:=SliceOf.open hs
 refine n119s (R:=retR _) ?_;unfold n119
 simp (disch:=try exact DI) only [↓PR,QR,simprocAttr]
 cases A with
 | none =>
  have:css=[]:=by
   cases css with
   | nil=>rfl
   | cons x l=>obtain ⟨_,_,_,h,_⟩:=hel 0 x rfl;cases h
  subst this
  simp only [Option.isNone_none]
  simp (disch:=try exact DI) only [↓PR,QR,simprocAttr]
  exact ⟨OwnE.nil _ _ _ _ _,ee⟩
 | some a =>
  simp only [Option.isNone_some]
  simp (disch:=try exact DI) only [↓PR,QR,simprocAttr]
  have hO:=OwnE.new w0 85 3 (Subtype.val:Cs 3→List Value) [] (fun x=>x.2) (by simp)
  simp only [List.flatMap_nil,List.length_nil] at hO
  have eW:Ext w0 (w0.alloc (.cells #[] 85)):=ee
  have hsz:w0.heap.size≤(w0.alloc (.cells #[] 85)).heap.size:=eW.size
  generalize w0.alloc (.cells #[] 85)=W at hO eW hsz ⊢
  cases hcs:css with
  | nil =>
   subst hcs
   simp only [List.length_nil]
   rw [op_append0 Tryz.underlying69 ty85 _ _ _ _ _ (Nat.le_refl 0)]
   simp (disch:=try exact DI) only [↓PR,QR,simprocAttr]
   exact ⟨hO,eW⟩
  | cons x0 l0 =>
   obtain ⟨b,o,_,hA,_⟩:=hel 0 x0 (by rw [hcs];rfl)
   injection hA with hA
   subst hA
   rw [← hcs]
   refine op_appendE Tryz.underlying69 ty85 rfl (by decide) (fun x=>x.2) h1 hO (fun j x hx=>?_) hsz ?_ (by simp;omega) ?_
   · obtain ⟨b',o',cs,hA',hl',hE,rfl⟩:=hel j x hx
     injection hA' with hA'
     injection hA' with h3 h4
     subst h3 h4
     exact hE.ext eW
   · have:=by85
     rw [List.length_nil,Nat.zero_add]
     exact Nat.le_trans (Nat.mul_le_mul hb this) (by decide)
   · intro v' w' ho hg
     simp (disch:=try exact DI) only [↓PR,QR,simprocAttr]
     refine ⟨ho,eW.grown hg ?_⟩
     intro k hk
     have h:=hO.lt k hk
     exact h.1
theorem Clone_Field_ret (w0:World) (v:Value) (css:List (Cs 15)) (hs:SliceOf w0 15 (fun _ cs x=>cs=x.1) v css) (h1:∀ x∈css,∀ u∈x.1,u.oneCell'=true) (hb:css.length≤1048576) :
 Ret Pg 53 #[v] w0 fun r w'=>OwnE w' w0.heap.size 71 15 Subtype.val r css∧Ext w0 w':=by
 obtain ⟨A,c,rfl,hlc,hcm,hlm,hel⟩:=SliceOf.open hs
 refine n120s (R:=retR _) ?_;unfold n120
 simp (disch:=try exact DI) only [↓PR,QR,simprocAttr]
 cases A with
 | none =>
  have:css=[]:=by
   cases css with
   | nil=>rfl
   | cons x l=>obtain ⟨_,_,_,h,_⟩:=hel 0 x rfl;cases h
  subst this
  simp only [Option.isNone_none]
  simp (disch:=try exact DI) only [↓PR,QR,simprocAttr]
  exact ⟨OwnE.nil _ _ _ _ _,ee⟩
 | some a =>
  simp only [Option.isNone_some]
  simp (disch:=try exact DI) only [↓PR,QR,simprocAttr]
  have hO:=OwnE.new w0 71 15 (Subtype.val:Cs 15→List Value) [] (fun x=>x.2) (by simp)
  simp only [List.flatMap_nil,List.length_nil] at hO
  have eW:Ext w0 (w0.alloc (.cells #[] 71)):=ee
  have hsz:w0.heap.size≤(w0.alloc (.cells #[] 71)).heap.size:=eW.size
  generalize w0.alloc (.cells #[] 71)=W at hO eW hsz ⊢
  cases hcs:css with
  | nil =>
   subst hcs
   simp only [List.length_nil]
   rw [op_append0 Tryz.underlying51 ty71 _ _ _ _ _ (Nat.le_refl 0)]
   simp (disch:=try exact DI) only [↓PR,QR,simprocAttr]
   exact ⟨hO,eW⟩
  | cons x0 l0 =>
   obtain ⟨b,o,_,hA,_⟩:=hel 0 x0 (by rw [hcs];rfl)
   injection hA with hA
   subst hA
   rw [← hcs]
   refine op_appendE Tryz.underlying51 ty71 rfl (by decide) (fun x=>x.2) h1 hO (fun j x hx=>?_) hsz ?_ (by simp;omega) ?_
   · obtain ⟨b',o',cs,hA',hl',hE,rfl⟩:=hel j x hx
     injection hA' with hA'
     injection hA' with h3 h4
     subst h3 h4
     exact hE.ext eW
   · have:=by71
     rw [List.length_nil,Nat.zero_add]
     exact Nat.le_trans (Nat.mul_le_mul hb this) (by decide)
   · intro v' w' ho hg
     simp (disch:=try exact DI) only [↓PR,QR,simprocAttr]
     refine ⟨ho,eW.grown hg ?_⟩
     intro k hk
     have h:=hO.lt k hk
     exact h.1
theorem Clone_Message_ret (w0:World) (v:Value) (css:List (Cs 2)) (hs:SliceOf w0 2 (fun _ cs x=>cs=x.1) v css) (h1:∀ x∈css,∀ u∈x.1,u.oneCell'=true) (hb:css.length≤1048576) :
 Ret Pg 52 #[v] w0 fun r w'=>OwnE w' w0.heap.size 53 2 Subtype.val r css∧Ext w0 w':=by
 obtain ⟨A,c,rfl,hlc,hcm,hlm,hel⟩:=SliceOf.open hs
 refine n121s (R:=retR _) ?_;unfold n121
 simp (disch:=try exact DI) only [↓PR,QR,simprocAttr]
 cases A with
 | none =>
  have:css=[]:=by
   cases css with
   | nil=>rfl
   | cons x l=>obtain ⟨_,_,_,h,_⟩:=hel 0 x rfl;cases h
  subst this
  simp only [Option.isNone_none]
  simp (disch:=try exact DI) only [↓PR,QR,simprocAttr]
  exact ⟨OwnE.nil _ _ _ _ _,ee⟩
 | some a =>
  simp only [Option.isNone_some]
  simp (disch:=try exact DI) only [↓PR,QR,simprocAttr]
  have hO:=OwnE.new w0 53 2 (Subtype.val:Cs 2→List Value) [] (fun x=>x.2) (by simp)
  simp only [List.flatMap_nil,List.length_nil] at hO
  have eW:Ext w0 (w0.alloc (.cells #[] 53)):=ee
  have hsz:w0.heap.size≤(w0.alloc (.cells #[] 53)).heap.size:=eW.size
  generalize w0.alloc (.cells #[] 53)=W at hO eW hsz ⊢
  cases hcs:css with
  | nil =>
   subst hcs
   simp only [List.length_nil]
   rw [op_append0 Tryz.underlying22 ty53 _ _ _ _ _ (Nat.le_refl 0)]
   simp (disch:=try exact DI) only [↓PR,QR,simprocAttr]
   exact ⟨hO,eW⟩
  | cons x0 l0 =>
   obtain ⟨b,o,_,hA,_⟩:=hel 0 x0 (by rw [hcs];rfl)
   injection hA with hA
   subst hA
   rw [← hcs]
   refine op_appendE Tryz.underlying22 ty53 rfl (by decide) (fun x=>x.2) h1 hO (fun j x hx=>?_) hsz ?_ (by simp;omega) ?_
   · obtain ⟨b',o',cs,hA',hl',hE,rfl⟩:=hel j x hx
     injection hA' with hA'
     injection hA' with h3 h4
     subst h3 h4
     exact hE.ext eW
   · have:=by53
     rw [List.length_nil,Nat.zero_add]
     exact Nat.le_trans (Nat.mul_le_mul hb this) (by decide)
   · intro v' w' ho hg
     simp (disch:=try exact DI) only [↓PR,QR,simprocAttr]
     refine ⟨ho,eW.grown hg ?_⟩
     intro k hk
     have h:=hO.lt k hk
     exact h.1
abbrev TT:TypeId:=113
abbrev TC:TypeId:=85
abbrev TF:TypeId:=71
abbrev TM:TypeId:=53
def EFieldN (w:World) (lo hi:Nat) (cs:List Value) (f:FieldD):Prop:=∃ tv cv,cs=fieldCells f tv cv∧OwnR w lo hi TT 2 (fun t:TermD=>termCells t) tv f.terms∧OwnR w lo hi TC 3 (fun c:CaseD=>caseCells c) cv f.cases
def FieldsN (w:World) (lo hi:Nat) (v:Value) (l:List FieldD):Prop:=∃ css:List (Cs 15),OwnR w lo hi TF 15 Subtype.val v css∧Mates 15 (EFieldN w lo hi) css l
def EMsgN (w:World) (lo hi:Nat) (cs:List Value) (m:MsgD):Prop:=∃ fv,cs=msgCells m fv∧FieldsN w lo hi fv m.fields
def MsgsN (w:World) (lo hi:Nat) (v:Value) (l:List MsgD):Prop:=∃ css:List (Cs 2),OwnR w lo hi TM 2 Subtype.val v css∧Mates 2 (EMsgN w lo hi) css l
def DefN (w:World) (lo hi:Nat) (v:Value) (d:DefD):Prop:=∃ mv,v = .agg (defCells d mv).toArray∧MsgsN w lo hi mv d.msgs
section
variable {w w':World} {lo hi lo' hi':Nat}
theorem EFieldN.ext {cs:List Value} {f:FieldD} (h:EFieldN w lo hi cs f) (e:Ext w w'):EFieldN w' lo hi cs f:=by obtain ⟨tv,cv,h1,h2,h3⟩:=h;exact ⟨tv,cv,h1,h2.ext e,h3.ext e⟩
theorem FieldsN.ext {v:Value} {l:List FieldD} (h:FieldsN w lo hi v l) (e:Ext w w'):FieldsN w' lo hi v l:=by obtain ⟨css,h1,h2⟩:=h;exact ⟨css,h1.ext e,h2.imp fun _ _ h=>h.ext e⟩
theorem EMsgN.ext {cs:List Value} {m:MsgD} (h:EMsgN w lo hi cs m) (e:Ext w w'):EMsgN w' lo hi cs m:=by obtain ⟨fv,h1,h2⟩:=h;exact ⟨fv,h1,h2.ext e⟩
theorem MsgsN.ext {v:Value} {l:List MsgD} (h:MsgsN w lo hi v l) (e:Ext w w'):MsgsN w' lo hi v l:=by obtain ⟨css,h1,h2⟩:=h;exact ⟨css,h1.ext e,h2.imp fun _ _ h=>h.ext e⟩
theorem EFieldN.mono {cs:List Value} {f:FieldD} (h:EFieldN w lo hi cs f) (h1:lo'≤lo) (h2:hi≤hi'):EFieldN w lo' hi' cs f:=by obtain ⟨tv,cv,a,b,c⟩:=h;exact ⟨tv,cv,a,b.mono h1 h2,c.mono h1 h2⟩
theorem FieldsN.mono {v:Value} {l:List FieldD} (h:FieldsN w lo hi v l) (h1:lo'≤lo) (h2:hi≤hi'):FieldsN w lo' hi' v l:=by obtain ⟨css,a,b⟩:=h;exact ⟨css,a.mono h1 h2,b.imp fun _ _ h=>h.mono h1 h2⟩
theorem EMsgN.mono {cs:List Value} {m:MsgD} (h:EMsgN w lo hi cs m) (h1:lo'≤lo) (h2:hi≤hi'):EMsgN w lo' hi' cs m:=by obtain ⟨fv,a,b⟩:=h;exact ⟨fv,a,b.mono h1 h2⟩
theorem MsgsN.mono {v:Value} {l:List MsgD} (h:MsgsN w lo hi v l) (h1:lo'≤lo) (h2:hi≤hi'):MsgsN w lo' hi' v l:=by obtain ⟨css,a,b⟩:=h;exact ⟨css,a.mono h1 h2,b.imp fun _ _ h=>h.mono h1 h2⟩
def Harmless (w:World) (lo hi b:Nat) (Ts:List TypeId):Prop:=hi≤b∨b < lo∨∃ T',TypeAt w b T'∧∀ T∈Ts,T'≠T
theorem Harmless.one {b:Nat} {Ts:List TypeId} (h:Harmless w lo hi b Ts) {T:TypeId} (hT:T∈Ts):hi≤b∨b < lo∨∃ T',TypeAt w b T'∧T'≠T:=by
 rcases h with h | h | ⟨T',h1,h2⟩
 · exact .inl h
 · exact .inr (.inl h)
 · exact .inr (.inr ⟨T',h1,h2 T hT⟩)
theorem Harmless.sub {b:Nat} {Ts Ts':List TypeId} (h:Harmless w lo hi b Ts) (hs:∀ T∈Ts',T∈Ts):Harmless w lo hi b Ts':=by
 rcases h with h | h | ⟨T',h1,h2⟩
 · exact .inl h
 · exact .inr (.inl h)
 · exact .inr (.inr ⟨T',h1,fun T hT=>h2 T (hs T hT)⟩)
theorem EFieldN.only {b:Nat} {cs:List Value} {f:FieldD} (h:EFieldN w lo hi cs f) (ho:Only b w w') (hb:Harmless w lo hi b [TT,TC]):EFieldN w' lo hi cs f:=by
 obtain ⟨tv,cv,h1,h2,h3⟩:=h
 exact ⟨tv,cv,h1,h2.only ho (hb.one (by simp)),h3.only ho (hb.one (by simp))⟩
theorem FieldsN.only {b:Nat} {v:Value} {l:List FieldD} (h:FieldsN w lo hi v l) (ho:Only b w w') (hb:Harmless w lo hi b [TT,TC,TF]):FieldsN w' lo hi v l:=by
 obtain ⟨css,h1,h2⟩:=h
 exact ⟨css,h1.only ho (hb.one (by simp)),h2.imp fun _ _ h=>h.only ho (hb.sub (by simp))⟩
theorem EMsgN.only {b:Nat} {cs:List Value} {m:MsgD} (h:EMsgN w lo hi cs m) (ho:Only b w w') (hb:Harmless w lo hi b [TT,TC,TF]):EMsgN w' lo hi cs m:=by
 obtain ⟨fv,h1,h2⟩:=h;exact ⟨fv,h1,h2.only ho hb⟩
theorem EFieldN.plain {cs:List Value} {f:FieldD} (h:EFieldN w lo hi cs f):EField w cs f:=by
 obtain ⟨tv,cv,h1,h2,h3⟩:=h
 exact ⟨tv,cv,h1,h2.1.slice (fun _=>rfl) (fun _ _=>rfl),h3.1.slice (fun _=>rfl) (fun _ _=>rfl)⟩
theorem FieldsN.plain {v:Value} {l:List FieldD} (h:FieldsN w lo hi v l):FieldsOf w v l:=by
 obtain ⟨css,h1,h2⟩:=h;exact h1.1.reads (h2.imp fun _ _ h=>h.plain)
theorem EMsgN.plain {cs:List Value} {m:MsgD} (h:EMsgN w lo hi cs m):EMsg w cs m:=by
 obtain ⟨fv,h1,h2⟩:=h;exact ⟨fv,h1,h2.plain⟩
theorem MsgsN.plain {v:Value} {l:List MsgD} (h:MsgsN w lo hi v l):MsgsOf w v l:=by
 obtain ⟨css,h1,h2⟩:=h;exact h1.1.reads (h2.imp fun _ _ h=>h.plain)
end
def tameF (f:FieldD):Prop:=f.terms.length≤1048576∧f.cases.length≤1048576
def tameM (m:MsgD):Prop:=m.fields.length≤1048576∧∀ f∈m.fields,tameF f
def tame (d:DefD):Prop:=d.msgs.length≤1048576∧∀ m∈d.msgs,tameM m
theorem EMsg.one {w:World} {cs:List Value} {m:MsgD} (h:EMsg w cs m):∀ u∈cs,u.oneCell'=true:=by
 obtain ⟨fv,rfl,h1⟩:=h
 have:=h1.oneCell
 intro u hu
 simp only [List.mem_cons,List.not_mem_nil,or_false] at hu
 rcases hu with rfl | rfl
 · rfl
 · exact this
theorem EField.one {w:World} {cs:List Value} {f:FieldD} (h:EField w cs f):∀ u∈cs,u.oneCell'=true:=by
 obtain ⟨tv,cv,rfl,h1,h2⟩:=h
 have h1:=h1.oneCell
 have h2:=h2.oneCell
 intro u hu
 simp only [List.mem_cons,List.not_mem_nil,or_false] at hu
 rcases hu with rfl | rfl | rfl | rfl | rfl | rfl | rfl | rfl | rfl | rfl | rfl | rfl | rfl | rfl | rfl<;>first | rfl | assumption
theorem ETerm.one {w:World} {cs:List Value} {t:TermD} (h:ETerm w cs t):∀ u∈cs,u.oneCell'=true:=by
 obtain rfl:=h
 intro u hu
 simp only [List.mem_cons,List.not_mem_nil,or_false] at hu
 rcases hu with rfl | rfl<;>rfl
theorem ECase.one {w:World} {cs:List Value} {t:CaseD} (h:ECase w cs t):∀ u∈cs,u.oneCell'=true:=by
 obtain rfl:=h
 intro u hu
 simp only [List.mem_cons,List.not_mem_nil,or_false] at hu
 rcases hu with rfl | rfl | rfl<;>rfl
def own1 (cs:List Value):Option Nat:=(cs[1]?).bind Value.ownBlock
def ApartM (css:List (Cs 2)) (k:Nat):Prop:=∀ (i j:Nat) (ci cj:Cs 2) (a b:Nat),i < j→j < k→css[i]?=some ci→css[j]?=some cj→own1 ci.1=some a→own1 cj.1=some b→a < b
def MsgsA (w:World) (lo hi:Nat) (v:Value) (l:List MsgD):Prop:=∃ css:List (Cs 2),OwnR w lo hi TM 2 Subtype.val v css∧Mates 2 (EMsgN w lo hi) css l∧ApartM css css.length
theorem MsgsA.toN {w:World} {lo hi:Nat} {v:Value} {l:List MsgD} (h:MsgsA w lo hi v l):MsgsN w lo hi v l:=by obtain ⟨css,h1,h2,_⟩:=h;exact ⟨css,h1,h2⟩
theorem MsgsA.mono {w:World} {lo hi lo' hi':Nat} {v:Value} {l:List MsgD} (h:MsgsA w lo hi v l) (h1:lo'≤lo) (h2:hi≤hi'):MsgsA w lo' hi' v l:=by obtain ⟨css,a,b,c⟩:=h;exact ⟨css,a.mono h1 h2,b.imp fun _ _ h=>h.mono h1 h2,c⟩
theorem MsgsA.only {w w':World} {lo hi b:Nat} {v:Value} {l:List MsgD} (h:MsgsA w lo hi v l) (ho:Only b w w') (hb:Harmless w lo hi b [TT,TC,TF,TM]):MsgsA w' lo hi v l:=by
 obtain ⟨css,h1,h2,h3⟩:=h
 exact ⟨css,h1.only ho (hb.one (by simp)),h2.imp fun _ _ h=>h.only ho (hb.sub (by simp)),h3⟩
theorem Copy_retA (w0:World) (v:Value) (d:DefD) (hd:DefVal w0 v d) (ht:tame d) :
 Ret Pg 24 #[v] w0 fun r w'=>(∃ mv,r = .agg (defCells d mv).toArray∧MsgsA w' w0.heap.size w'.heap.size mv d.msgs)∧Ext w0 w':=by
 obtain ⟨mv,rfl,hM⟩:=hd
 refine n53s (R:=retR _) ?_;unfold n53
 simp (disch:=try exact DI) only [↓PR,QR,simprocAttr]
 obtain ⟨cssM,hraw,hmates⟩:=SliceOf.raw hM
 generalize hW:(World.alloc (World.alloc w0 _) _)=W
 have eW:Ext w0 W:=by rw [← hW];exact ee
 have hsz:W.heap.size=w0.heap.size+1+1:=by rw [← hW];simp only [World.size_alloc]
 have hX:W.heap[w0.heap.size]?=some (.cells #[.string d.name,mv,.string d.start] 24 (0,0)):=by
  rw [← hW];exact ((Ext.refl _).alloc _).obj (heap_new w0 _ _)
 have hR:W.heap[w0.heap.size+1]?=some (.cells #[.string ByteArray.empty,.slice none 0 0,.string ByteArray.empty] 24 (0,0)):=by
  rw [← hW]
  have:=heap_new (w0.alloc (Obj.cells (defCells d mv).toArray 24)) #[.string ByteArray.empty,.slice none 0 0,.string ByteArray.empty] 24
  rw [World.size_alloc] at this
  exact this
 clear hW
 refine callK_ret (Clone_Message_ret W mv cssM (hraw.ext keptRaw eW) (fun x hx=>by obtain ⟨m,_,hm⟩:=hmates.mem hx;exact hm.one) (by rw [hmates.1];exact ht.1)) ?_
 rintro t9 w1 ⟨hO,e1⟩
 obtain ⟨A,c,rfl,hlc,hcm,hlm,hel⟩:=SliceOf.open (hO.slice (E:=fun _ cs x=>cs=x.1) (fun x=>x.2) (fun _ _=>rfl))
 clear hel
 have s1:=e1.size
 have hX1:=e1.obj hX
 have hX2:(w1.setCell ⟨w0.heap.size,1,none⟩ (.slice A cssM.length c)).heap[w0.heap.size]?=some (.cells #[.string d.name,.slice A cssM.length c,.string d.start] 24 (0,0)):=by
  have:=heap_set (o:=1) hX1 (.slice A cssM.length c)
  simpa using this
 have hR2:(w1.setCell ⟨w0.heap.size,1,none⟩ (.slice A cssM.length c)).heap[w0.heap.size+1]?=some (.cells #[.string ByteArray.empty,.slice none 0 0,.string ByteArray.empty] 24 (0,0)):=by
  rw [Only.setCell w1 w0.heap.size 1 _ _ (by omega)];exact e1.obj hR
 have hO2:OwnE (w1.setCell ⟨w0.heap.size,1,none⟩ (.slice A cssM.length c)) W.heap.size TM 2 Subtype.val (.slice A cssM.length c) cssM:=(hO.range.only (Only.setCell w1 w0.heap.size 1 _) (.inr (.inl (by omega)))).1
 have e02:Ext w0 (w1.setCell ⟨w0.heap.size,1,none⟩ (.slice A cssM.length c)):=(eW.trans e1).setCell (Nat.le_refl _) _
 simp (disch:=try exact DI) only [↓PR,QR,simprocAttr,↓n53c1,↓n53c2,↓n53c3,↓n53c4,↓n53c5,↓n53c6,↓n53c7,↓n53c8,↓n53c9,(cells_of_heap hX1).1,(cells_of_heap hX1).2]
 generalize (World.setCell w1 ⟨w0.heap.size,1,none⟩ (.slice A cssM.length c))=w2 at hX2 hR2 hO2 e02 ⊢
 simp only [hmates.1] at *
 refine loop1_intro (fun a0 w=>∃ (k:Nat) , a0 = .int .i64 (k:Int)∧k≤d.msgs.length∧Ext w0 w∧(∃ css:List (Cs 2),OwnE w W.heap.size TM 2 Subtype.val (.slice A d.msgs.length c) css∧css.length=d.msgs.length∧(∀ (i:Nat) (m:MsgD) (cs:Cs 2),d.msgs[i]?=some m→css[i]?=some cs→if i < k then EMsgN w W.heap.size w.heap.size cs.1 m else EMsg w0 cs.1 m)∧Below W.heap.size w2 w∧ApartM css k)) (fun a0 _=>d.msgs.length - (intOf a0).toNat) ⟨0,rfl,Nat.zero_le _,ee,⟨cssM,hO2,hmates.1,fun i m cs hm hcs=>hmates.2 i m cs hm hcs,Below.refl _ _,fun _ _ _ _ _ _ _ hj=>absurd hj (Nat.not_lt_zero _)⟩⟩ ?_
 rintro _ w ⟨k,rfl,hk,e,hI⟩
 have se:=e.size
 rcases drop_cases hk with ⟨x,hx,hd,hlt,hdec⟩ | ⟨hk,hd,hdec⟩
 · obtain ⟨css,hOc,hlen,hE,hBel,hAp⟩:=hI
   obtain ⟨cs,hcs⟩:=getElem?_lt (l:=css) (k:=k) (by omega)
   have hEk:=hE k x cs hx hcs
   rw [if_neg (by omega)] at hEk
   obtain ⟨fv,hfv,hF⟩:=hEk
   obtain ⟨g,cap,hv,hglo,hglt,hTy,hfrz,hEl⟩:=hOc.row (fun x=>x.2) (by omega)
   injection hv with hv hv' hv''
   subst hv hv''
   have hEk:=hEl k cs hcs
   rw [hfv] at hEk
   have er:=Ext.refl w
   have hXw:w.heap[w0.heap.size]?=some (.cells #[.string d.name,.slice (some ⟨g,0,none⟩) d.msgs.length c,.string d.start] 24 (0,0)):=(hBel.block _ (by omega)).trans hX2
   simp (disch:=try exact DI) only [↓PR,QR,simprocAttr,↓n53c1,↓n53c2,↓n53c3,↓n53c4,↓n53c5,↓n53c6,↓n53c7,↓n53c8,↓n53c9,(cells_of_heap hXw).1,hdec,hEk.c2]
   obtain ⟨cssF,hrawF,hmatesF⟩:=SliceOf.raw hF
   have htx:=ht.2 x (List.mem_of_getElem? hx)
   refine callK_ret (Clone_Field_ret w fv cssF (hrawF.ext keptRaw e) (fun y hy=>by obtain ⟨m,_,hm⟩:=hmatesF.mem hy;exact hm.one) (by rw [hmatesF.1];exact htx.1)) ?_
   rintro t26 w3 ⟨hOF,e3⟩
   obtain ⟨AF,cF,rfl,hlcF,hcmF,hlmF,helF⟩:=SliceOf.open (hOF.slice (E:=fun _ cs x=>cs=x.1) (fun x=>x.2) (fun _ _=>rfl))
   clear helF
   have s3:=e3.size
   have hO3:=hOc.ext e3
   have hcsl:k < css.length:=(List.getElem?_eq_some_iff.1 hcs).1
   simp only [hv'] at hO3
   have hO4:=hO3.set hcs (show 1 < 2 by decide) (.slice AF cssF.length cF)
   simp only [← hv'] at hO4
   have oG:=Only.setCell w3 g (k*2+1) (.slice AF cssF.length cF)
   have hF4:=(hOF.range.only oG (.inr (.inr ⟨TM,hTy.ext e3,by decide⟩))).1
   have e4:Ext w0 (w3.setCell ⟨g,k*2+1,none⟩ (.slice AF cssF.length cF)):=(e.trans e3).setCell (show w0.heap.size≤g by omega) _
   have hBel4:Below W.heap.size w2 (w3.setCell ⟨g,k*2+1,none⟩ (.slice AF cssF.length cF)):=(hBel.trans (e3.below.mono (by omega))).setCell hglo _
   have hTy4:TypeAt (w3.setCell ⟨g,k*2+1,none⟩ (.slice AF cssF.length cF)) g TM:=by
    obtain ⟨cur,fr,h⟩:=hTy.ext e3
    exact ⟨_,fr,heap_set h _⟩
   have hprev:∀ (i:Nat) (m:MsgD) (cs:Cs 2),i≠k→d.msgs[i]?=some m→css[i]?=some cs→if i < k then EMsgN (w3.setCell ⟨g,k*2+1,none⟩ (.slice AF cssF.length cF)) W.heap.size w.heap.size cs.1 m else EMsg w0 cs.1 m:=by
    intro i m cs' hik hm hcs'
    have h:=hE i m cs' hm hcs'
    by_cases hlt':i < k
    · rw [if_pos hlt'] at h ⊢
      exact (h.ext e3).only oG (.inr (.inr ⟨TM,hTy.ext e3,by decide⟩))
    · rw [if_neg hlt'] at h ⊢;exact h
   have hfrz3:∀ o,w3.frozen? ⟨g,o,none⟩=false:=fun o=>by rw [e3.frozenQ hglt];exact hfrz o
   simp (disch:=try exact DI) only [↓PR,QR,simprocAttr,↓n53c1,↓n53c2,↓n53c3,↓n53c4,↓n53c5,↓n53c6,↓n53c7,↓n53c8,↓n53c9,hEk.c2,hfrz3]
   have hsz4:w.heap.size≤(w3.setCell ⟨g,k*2+1,none⟩ (.slice AF cssF.length cF)).heap.size:=by simpa using s3
   generalize (World.setCell w3 ⟨g,k*2+1,none⟩ (.slice AF cssF.length cF))=w4 at hO4 hF4 e4 hBel4 hTy4 hprev hsz4 ⊢
   simp only [hmatesF.1] at *
   refine loop1_intro (fun a0 wa=>∃ (ka:Nat) , a0 = .int .i64 (ka:Int)∧ka≤x.fields.length∧Ext w0 wa∧(∃ cF':List (Cs 15),OwnE wa w.heap.size TF 15 Subtype.val (.slice AF x.fields.length cF) cF'∧cF'.length=x.fields.length∧(∀ (i:Nat) (f:FieldD) (cs:Cs 15),x.fields[i]?=some f→cF'[i]?=some cs→if i < ka then EFieldN wa W.heap.size wa.heap.size cs.1 f else EField w0 cs.1 f)∧OwnE wa W.heap.size TM 2 Subtype.val (.slice (some ⟨g,0,none⟩) d.msgs.length c) (css.set k ⟨cs.1.set 1 (.slice AF x.fields.length cF),by simp [cs.2]⟩)∧(∀ (i:Nat) (m:MsgD) (cs:Cs 2),i≠k→d.msgs[i]?=some m→css[i]?=some cs→if i < k then EMsgN wa W.heap.size w.heap.size cs.1 m else EMsg w0 cs.1 m)∧Below W.heap.size w2 wa∧TypeAt wa g TM∧w.heap.size≤wa.heap.size)) (fun a0 _=>x.fields.length - (intOf a0).toNat) ⟨0,rfl,Nat.zero_le _,ee,⟨cssF,hF4,hmatesF.1,fun i m cs hm hcs=>hmatesF.2 i m cs hm hcs,hO4,hprev,hBel4,hTy4,hsz4⟩⟩ ?_
   rintro _ wa ⟨ka,rfl,hka,ea,hIa⟩
   have sea:=ea.size
   rcases drop_cases hka with ⟨xa,hxa,hda,hlta,hdeca⟩ | ⟨hka,hda,hdeca⟩
   · obtain ⟨cF',h1,h2,h3,h4,h5,h6,h7,h8⟩:=hIa
     obtain ⟨cf,hcf⟩:=getElem?_lt (l:=cF') (k:=ka) (by omega)
     have hEf:=h3 ka xa cf hxa hcf
     rw [if_neg (by omega)] at hEf
     obtain ⟨tv,cv,hcfv,hT,hC⟩:=hEf
     obtain ⟨gF,capF,hvF,hgFlo,hgFlt,hTyF,hfrzF,hElF⟩:=h1.row (fun x=>x.2) (by omega)
     injection hvF with hvF hvF' hvF''
     subst hvF hvF''
     have hEfk:=hElF ka cf hcf
     rw [hcfv] at hEfk
     have era:=Ext.refl wa
     obtain ⟨g',cap',hv2,_,hgltA,_,_,hElM⟩:=h4.row (fun x=>x.2) (by simp;omega)
     injection hv2 with hv2 hv2' hv2''
     injection hv2 with hv2
     injection hv2 with hv2
     subst hv2
     have hEm:=hElM k _ (List.getElem?_set_self hcsl)
     simp only [hfv,List.set_cons_succ,List.set_cons_zero] at hEm
     simp (disch:=try exact DI) only [↓PR,QR,simprocAttr,↓n53c1,↓n53c2,↓n53c3,↓n53c4,↓n53c5,↓n53c6,↓n53c7,↓n53c8,↓n53c9,hdeca,hEm.c2,hEfk.c15]
     refine drawK_intro ?_
     simp (disch:=try exact DI) only [↓PR,QR,simprocAttr,↓n53c1,↓n53c2,↓n53c3,↓n53c4,↓n53c5,↓n53c6,↓n53c7,↓n53c8,↓n53c9,hEfk.c15]
     obtain ⟨cssT,hrawT,hmatesT⟩:=SliceOf.raw hT
     obtain ⟨cssC,hrawC,hmatesC⟩:=SliceOf.raw hC
     have htf:=htx.2 xa (List.mem_of_getElem? hxa)
     refine callK_ret (Clone_Term_ret wa.drew tv cssT (hrawT.ext keptRaw ea.wdrew) (fun y hy=>by obtain ⟨m,_,hm⟩:=hmatesT.mem hy;exact hm.one) (by rw [hmatesT.1];exact htf.1)) ?_
     rintro t50 w5 ⟨hOT,e5⟩
     refine ⟨e5,?_⟩
     refine callK_ret (Clone_Case_ret w5 cv cssC (hrawC.ext keptRaw (ea.wdrew.trans e5)) (fun y hy=>by obtain ⟨m,_,hm⟩:=hmatesC.mem hy;exact hm.one) (by rw [hmatesC.1];exact htf.2)) ?_
     rintro t55 w6 ⟨hOC,e6⟩
     refine ⟨e5.trans e6,?_⟩
     have s5:=e5.size
     have s6:=e6.size
     simp only [World.size_drew] at s5
     have eA6:Ext wa w6:=era.wdrew.trans (e5.trans e6)
     have hTy6:=hTyF.ext eA6
     have hfrz6:∀ o,w6.frozen? ⟨gF,o,none⟩=false:=fun o=>by rw [eA6.frozenQ hgFlt];exact hfrzF o
     obtain ⟨AT,cT,rfl,_⟩:=SliceOf.open (hOT.slice (E:=fun _ cs x=>cs=x.1) (fun x=>x.2) (fun _ _=>rfl))
     obtain ⟨AC,cC,rfl,_⟩:=SliceOf.open (hOC.slice (E:=fun _ cs x=>cs=x.1) (fun x=>x.2) (fun _ _=>rfl))
     simp (disch:=try exact DI) only [↓PR,QR,simprocAttr,↓n53c1,↓n53c2,↓n53c3,↓n53c4,↓n53c5,↓n53c6,↓n53c7,↓n53c8,↓n53c9,hEfk.c15,hfrz6]
     obtain ⟨w7,hw7⟩:∃ w7,w6.setCell ⟨gF,ka*15+8,none⟩ (.slice AT cssT.length cT)=w7:=⟨_,rfl⟩
     have o7:Only gF w6 w7:=by rw [← hw7];exact Only.setCell _ _ _ _
     have hE7:∀ j,w7.frozen? ⟨gF,j,none⟩=false:=fun j=>by rw [← hw7,frozen_set];exact hfrz6 j
     have hc7:w7.cell? ⟨gF,ka*15+12,none⟩=some cv:=by
      rw [← hw7,cell_set_other (by omega)];exact eA6.cell (hEfk.c15 era).2.2.2.2.2.2.2.2.2.2.2.2.1
     have hTy7:TypeAt w7 gF TF:=by
      obtain ⟨cur,fr,h⟩:=hTy6
      exact ⟨_,fr,by rw [← hw7];exact heap_set h _⟩
     have s7:w7.heap.size=w6.heap.size:=by rw [← hw7];simp
     have h16:=h1.ext eA6
     have hcfl:ka < cF'.length:=(List.getElem?_eq_some_iff.1 hcf).1
     simp only [hvF'] at h16
     have hF7:=h16.set hcf (show 8 < 15 by decide) (.slice AT cssT.length cT)
     rw [hw7] at hF7
     have e07:Ext w0 w7:=by rw [← hw7];exact (ea.trans eA6).setCell (show w0.heap.size≤gF by omega) _
     have hB7:Below W.heap.size w2 w7:=by rw [← hw7];exact (h6.trans (eA6.below.mono (by omega))).setCell (show W.heap.size≤gF by omega) _
     rw [hw7]
     refine turnK_intro ?_
     simp (disch:=try exact DI) only [↓PR,QR,simprocAttr,↓n53c1,↓n53c2,↓n53c3,↓n53c4,↓n53c5,↓n53c6,↓n53c7,↓n53c8,↓n53c9,hc7,hE7]
     obtain ⟨w8,hw8⟩:∃ w8,w7.setCell ⟨gF,ka*15+12,none⟩ (.slice AC cssC.length cC)=w8:=⟨_,rfl⟩
     have o8:Only gF w7 w8:=by rw [← hw8];exact Only.setCell _ _ _ _
     have hF8:=hF7.set (List.getElem?_set_self hcfl) (show 12 < 15 by decide) (.slice AC cssC.length cC)
     rw [hw8] at hF8
     have s8:w8.heap.size=w7.heap.size:=by rw [← hw8];simp
     have hTy8:TypeAt w8 g TM:=((h7.ext eA6).only o7 (by rintro rfl;obtain ⟨_,_,a⟩:=h7;obtain ⟨_,_,b⟩:=hTyF;rw [a] at b;injection b with b;injection b with _ b _;exact absurd b (by decide))).only o8 (by rintro rfl;obtain ⟨_,_,a⟩:=h7;obtain ⟨_,_,b⟩:=hTyF;rw [a] at b;injection b with b;injection b with _ b _;exact absurd b (by decide))
     have e08:Ext w0 w8:=by rw [← hw8];exact e07.setCell (show w0.heap.size≤gF by omega) _
     have hB8:Below W.heap.size w2 w8:=by rw [← hw8];exact hB7.setCell (show W.heap.size≤gF by omega) _
     have hM8:=((((h4.ext eA6).range.only o7 (.inr (.inr ⟨TF,hTy6,by decide⟩))).1).range.only o8 (.inr (.inr ⟨TF,hTy7,by decide⟩))).1
     have hT8:OwnR w8 W.heap.size w8.heap.size TT 2 (fun t:TermD=>termCells t) (.slice AT cssT.length cT) xa.terms:=by
      have h:=(((hOT.ext e6).range.only o7 (.inr (.inr ⟨TF,hTy6,by decide⟩))).only o8 (.inr (.inr ⟨TF,hTy7,by decide⟩)))
      refine ⟨(OwnE.mates h.1 (hmatesT.imp fun _ _ h=>h)).base (by simp only [World.size_drew];omega),fun b hb=>?_⟩
      have:=h.2 b hb
      omega
     have hC8:OwnR w8 W.heap.size w8.heap.size TC 3 (fun c:CaseD=>caseCells c) (.slice AC cssC.length cC) xa.cases:=by
      have h:=((hOC.range.only o7 (.inr (.inr ⟨TF,hTy6,by decide⟩))).only o8 (.inr (.inr ⟨TF,hTy7,by decide⟩)))
      refine ⟨(OwnE.mates h.1 (hmatesC.imp fun _ _ h=>h)).base (by omega),fun b hb=>?_⟩
      have:=h.2 b hb
      omega
     rw [hw8]
     refine turnK_intro ?_
     simp (disch:=try exact DI) only [↓PR,QR,simprocAttr]
     have hf8:∀ (i:Nat) (f:FieldD) (cs'':Cs 15),xa.name=xa.name→x.fields[i]?=some f→((cF'.set ka ⟨cf.1.set 8 (.slice AT cssT.length cT),by simp [cf.2]⟩).set ka ⟨(cf.1.set 8 (.slice AT cssT.length cT)).set 12 (.slice AC cssC.length cC),by simp [cf.2]⟩)[i]?=some cs''→if i < ka+1 then EFieldN w8 W.heap.size w8.heap.size cs''.1 f else EField w0 cs''.1 f:=by
      intro i f cs'' _ hf hcs''
      by_cases hik:i=ka
      · subst hik
        rw [if_pos (by omega)]
        rw [List.getElem?_set_self (by simp;omega)] at hcs''
        injection hcs'' with hcs''
        subst hcs''
        rw [hxa] at hf
        injection hf with hf
        subst hf
        exact ⟨_,_,by show (cf.1.set 8 _).set 12 _=_;rw [hcfv];rfl,hT8,hC8⟩
      · rw [List.getElem?_set_ne (Ne.symm hik),List.getElem?_set_ne (Ne.symm hik)] at hcs''
        have h:=h3 i f cs'' hf hcs''
        by_cases hlt':i < ka
        · rw [if_pos hlt'] at h
          rw [if_pos (by omega)]
          exact (((h.ext eA6).only o7 (.inr (.inr ⟨TF,hTy6,by decide⟩))).only o8 (.inr (.inr ⟨TF,hTy7,by decide⟩))).mono (Nat.le_refl _) (by omega)
        · rw [if_neg hlt'] at h
          rw [if_neg (by omega)]
          exact h
     have hm8:∀ (i:Nat) (m:MsgD) (cs:Cs 2),i≠k→d.msgs[i]?=some m→css[i]?=some cs→if i < k then EMsgN w8 W.heap.size w.heap.size cs.1 m else EMsg w0 cs.1 m:=by
      intro i m cs' hik hm hcs'
      have h:=h5 i m cs' hik hm hcs'
      by_cases hlt':i < k
      · rw [if_pos hlt'] at h ⊢
        exact (((h.ext eA6).only o7 (.inl hgFlo)).only o8 (.inl hgFlo))
      · rw [if_neg hlt'] at h ⊢;exact h
     simp only [← hvF'] at hF8
     exact ⟨⟨ka+1,rfl,by omega,ee,⟨_,hF8,by simp [h2],fun i f cs'' hf hc=>hf8 i f cs'' rfl hf hc,hM8,hm8,hB8,hTy8,by omega⟩⟩,meas_lt (kd := .i64) hlta⟩
   · subst hka
     obtain ⟨cF',h1,h2,h3,h4,h5,h6,h7,h8⟩:=hIa
     simp (disch:=try exact DI) only [↓PR,QR,simprocAttr,↓n53c1,↓n53c2,↓n53c3,↓n53c4,↓n53c5,↓n53c6,↓n53c7,↓n53c8,↓n53c9,hdeca]
     have hfin:∀ (i:Nat) (m:MsgD) (cs':Cs 2),d.msgs[i]?=some m→(css.set k ⟨cs.1.set 1 (.slice AF x.fields.length cF),by simp [cs.2]⟩)[i]?=some cs'→if i < k+1 then EMsgN wa W.heap.size wa.heap.size cs'.1 m else EMsg w0 cs'.1 m:=by
      intro i m cs' hm hcs'
      by_cases hik:i=k
      · subst hik
        rw [if_pos (by omega)]
        rw [List.getElem?_set_self (by omega)] at hcs'
        injection hcs' with hcs'
        subst hcs'
        rw [hx] at hm
        injection hm with hm
        subst hm
        refine ⟨.slice AF x.fields.length cF,by show cs.1.set 1 _=_;rw [hfv];rfl,cF',⟨h1.base (by omega),h1.range.2⟩,h2,fun j f cs'' hf hcs''=>?_⟩
        have:=h3 j f cs'' hf hcs''
        rw [if_pos (List.getElem?_eq_some_iff.1 hf).1] at this
        exact this
      · rw [List.getElem?_set_ne (Ne.symm hik)] at hcs'
        have h:=h5 i m cs' hik hm hcs'
        by_cases hlt':i < k
        · rw [if_pos hlt'] at h
          rw [if_pos (by omega)]
          exact h.mono (Nat.le_refl _) h8
        · rw [if_neg hlt'] at h
          rw [if_neg (by omega)]
          exact h
     have hap:ApartM (css.set k ⟨cs.1.set 1 (.slice AF x.fields.length cF),by simp [cs.2]⟩) (k+1):=by
      intro i j ci cj a b hij hjk hci hcj ha hb
      have hik:i≠k:=by omega
      rw [List.getElem?_set_ne (Ne.symm hik)] at hci
      by_cases hjk':j=k
      · subst hjk'
        rw [List.getElem?_set_self (by omega)] at hcj
        injection hcj with hcj
        subst hcj
        have hb':(Value.slice AF x.fields.length cF).ownBlock=some b:=by
         unfold own1 at hb
         simp only [hfv,List.set_cons_succ,List.set_cons_zero] at hb
         exact hb
        have h1b:=(h1.lt b hb').1
        obtain ⟨mi,hmi⟩:=getElem?_lt (l:=d.msgs) (k:=i) (by omega)
        have h:=h5 i mi ci hik hmi hci
        rw [if_pos hij] at h
        obtain ⟨fvi,hcs,_,hOi,_⟩:=h
        have:=hOi.2 a (by unfold own1 at ha;rw [hcs] at ha;exact ha)
        omega
      · rw [List.getElem?_set_ne (Ne.symm hjk')] at hcj
        exact hAp i j ci cj a b hij (by omega) hci hcj ha hb
     exact ⟨⟨k+1,rfl,by omega,ee,⟨_,h4,by simp [hlen],hfin,h6,hap⟩⟩,meas_lt (kd := .i64) hlt⟩
 · subst hk
   obtain ⟨css,hOc,hlen,hE,hBel,hAp⟩:=hI
   have hXw:w.heap[w0.heap.size]?=some (.cells #[.string d.name,.slice A d.msgs.length c,.string d.start] 24 (0,0)):=(hBel.block _ (by omega)).trans hX2
   have hRw:w.heap[w0.heap.size+1]?=some (.cells #[.string ByteArray.empty,.slice none 0 0,.string ByteArray.empty] 24 (0,0)):=(hBel.block _ (by omega)).trans hR2
   have hN:MsgsA w W.heap.size w.heap.size (.slice A d.msgs.length c) d.msgs:=by
    refine ⟨css,hOc.range,⟨hlen,fun i m cs hm hcs=>?_⟩,by rw [hlen];exact hAp⟩
    have:=hE i m cs hm hcs
    rw [if_pos (List.getElem?_eq_some_iff.1 hm).1] at this
    exact this
   have ho:∀ (w':World) o v,MsgsA w' W.heap.size w.heap.size (.slice A d.msgs.length c) d.msgs→MsgsA (w'.setCell ⟨w0.heap.size+1,o,none⟩ v) W.heap.size w.heap.size (.slice A d.msgs.length c) d.msgs:=fun w' o v h=>h.only (Only.setCell w' _ o v) (.inr (.inl (by omega)))
   simp (disch:=try exact DI) only [↓PR,QR,simprocAttr,↓n53c1,↓n53c2,↓n53c3,↓n53c4,↓n53c5,↓n53c6,↓n53c7,↓n53c8,↓n53c9,hdec,(cells_of_heap hXw).1,(cells_of_heap hRw).1,(cells_of_heap hRw).2]
   refine ⟨⟨_,rfl,(ho _ _ _ (ho _ _ _ (ho _ _ _ hN))).mono (by omega) (by simp)⟩,ee⟩
theorem Copy_ret (w0:World) (v:Value) (d:DefD) (hd:DefVal w0 v d) (ht:tame d) :
 Ret Pg 24 #[v] w0 fun r w'=>DefN w' w0.heap.size w'.heap.size r d∧Ext w0 w' :=
 (Copy_retA w0 v d hd ht).mono fun _ _ ⟨⟨mv,h1,h2⟩,e⟩=>⟨⟨mv,h1,h2.toN⟩,e⟩
def numPairs (l:List FieldD):List (ByteArray×Value):=(l.filter numberB).map fun f=>(f.name,rangeVal f.low (highOf f))
theorem numPairs_snoc (l:List FieldD) (f:FieldD):numPairs (l++[f])=numPairs l++(if numberB f then [(f.name,rangeVal f.low (highOf f))] else []):=by
 unfold numPairs
 rw [List.filter_append,List.map_append]
 cases h:numberB f<;>simp [List.filter_cons,h]
theorem take_snoc {α:Type} {l:List α} {k:Nat} {x:α} (hx:l[k]?=some x):l.take (k+1)=l.take k++[x]:=by
 rw [List.take_add_one,hx];rfl
theorem ranges_ret (w0:World) (v:Value) (l:List FieldD) (hs:FieldsOf w0 v l) :
 Ret Pg 167 #[v] w0 fun r w'=>∃ m,r = .map (some m)∧w0.heap.size≤m∧MapOf w' m (numPairs l)∧Ext w0 w':=by
 obtain ⟨A,c,rfl,hlc,hcm,hlm,hel⟩:=SliceOf.open hs
 refine n101s (R:=retR _) ?_;unfold n101
 simp (disch:=try exact DI) only [↓PR,QR,simprocAttr]
 have hM0:=MapOf.new w0
 have e0:Ext w0 (w0.alloc (.map #[] 0)):=ee
 refine loop1_intro (fun a0 w=>∃ (k:Nat) , a0 = .int .i64 (k:Int)∧k≤l.length∧Ext w0 w∧MapOf w w0.heap.size (numPairs (l.take k))) (fun a0 _=>l.length - (intOf a0).toNat) ⟨0,rfl,Nat.zero_le _,ee,hM0⟩ ?_
 rintro _ w ⟨k,rfl,hk,e,hI⟩
 have se:=e.size
 rcases drop_cases hk with ⟨x,hx,hd,hlt,hdec⟩ | ⟨hk,hd,hdec⟩
 · obtain ⟨b,o,cs,rfl,hl,hA,hE⟩:=hel k x hx
   obtain ⟨tv,cv,rfl,hT,hC,ht1,hc1⟩:=hE.op
   have hlt2:=hI.lt
   simp (disch:=try exact DI) only [↓PR,QR,simprocAttr,↓n101c1,↓n101c2,↓n101c3,hdec,hA.c15]
   refine zcr (Range_ret _ _ x ⟨tv,cv,rfl,TermsOf.ext hT ee,CasesOf.ext hC ee⟩) fun w1 e1=>?_
   have s1:=e1.size
   try simp only [World.size_alloc,World.size_setCell,World.size_drew,World.putObj_size,Sw.putW_size] at s1
   have hI1:=(hI.ext ((Ext.refl w).alloc _)).ext e1
   have hI2:∀ o,MapOf (w1.alloc o) w0.heap.size (numPairs (l.take k)):=fun o=>hI1.ext ((Ext.refl w1).alloc _)
   cases hn:numberB x with
   | false =>
    simp (disch:=try exact DI) only [↓PR,QR,simprocAttr,↓n101c1,↓n101c2,↓n101c3,e1.cellQ,e1.frozenQ,rangeVal]
    have hf:=hI2 (.cells #[.int .i64 0,.int .i64 0] 223)
    rw [show numPairs (l.take k)=numPairs (l.take (k+1)) by rw [take_snoc hx,numPairs_snoc,hn];simp] at hf
    exact ⟨⟨k+1,rfl,by omega,ee,hf⟩,meas_lt (kd := .i64) hlt⟩
   | true =>
    simp (disch:=try exact DI) only [↓PR,QR,simprocAttr,↓n101c1,↓n101c2,↓n101c3,e1.cellQ,e1.frozenQ,rangeVal]
    have hf:=hI2 (.cells #[.int .i64 x.low,.int .i64 (highOf x)] 223)
    rw [op_updateO Tryz.underlying219 Tryz.underlying9 hf]
    have hg:=hf.put x.name (rangeVal x.low (highOf x))
    have eg:Ext w0 (putW (w1.alloc (.cells #[.int .i64 x.low,.int .i64 (highOf x)] 223)) w0.heap.size (numPairs (l.take k)) x.name (rangeVal x.low (highOf x))):=Ext.putW ee (Nat.le_refl _) _ _
    rw [show numPairs (l.take k)++[(x.name,rangeVal x.low (highOf x))]=numPairs (l.take (k+1)) by rw [take_snoc hx,numPairs_snoc,hn];simp] at hg
    simp (disch:=try exact DI) only [↓PR,QR,simprocAttr,↓n101c1,↓n101c2,↓n101c3]
    exact ⟨⟨k+1,rfl,by omega,ee,hg⟩,meas_lt (kd := .i64) hlt⟩
 · subst hk
   simp (disch:=try exact DI) only [↓PR,QR,simprocAttr,↓n101c1,↓n101c2,↓n101c3,hdec]
   rw [List.take_length] at hI
   exact ⟨_,rfl,Nat.le_refl _,hI,e⟩
def TermsAt (w:World) (pb:Nat) (tv:Value) (ts:List TermD):Prop:=w.cell? ⟨pb,0,none⟩=some tv∧TermsOf w tv ts∧∀ A m c,tv = .slice (some A) m c→pb < A.block
theorem TermsAt.ext {w w':World} {pb:Nat} {tv:Value} {ts:List TermD} (h:TermsAt w pb tv ts) (e:Ext w w'):TermsAt w' pb tv ts:=⟨e.cell h.1,TermsOf.ext h.2.1 e,h.2.2⟩
theorem TermsAt.set {w:World} {pb:Nat} {tv:Value} {ts:List TermD} (h:TermsAt w pb tv ts) {b o:Nat} (hb:b < pb) (u:Value):TermsAt (w.setCell ⟨b,o,none⟩ u) pb tv ts :=
 ⟨by rw [cell_set_other (by omega)];exact h.1,SliceOf.setOther h.2.1 u (fun A m c e=>by have:=h.2.2 A m c e;omega) (fun _ _ h=>h),h.2.2⟩
theorem Names_ret (w0:World) (v:Value) (base:Int) (ts:List TermD) (hs:SizeVal w0 v base ts) (hb:ts.length≤1048576) :
 Ret Pg 168 #[v] w0 fun r w'=>∃ pb tv,r = .func (.func 174) #[] #[.pointer (some ⟨pb,0,none⟩)]∧TermsAt w' pb tv (if sizeB base ts then ts else [])∧w0.heap.size≤pb∧Ext w0 w':=by
 obtain ⟨tv,rfl,hT⟩:=hs
 have ht1:=SliceOf.oneCell hT
 refine n109s (R:=retR _) ?_;unfold n109
 simp (disch:=try exact DI) only [↓PR,QR,simprocAttr,↓n109c1]
 refine zcr (Valid_ret _ _ base ts ⟨tv,rfl,TermsOf.ext hT ee⟩) fun w1 e1=>?_
 have s1:=e1.size
 try simp only [World.size_alloc,World.size_setCell,World.size_drew,World.putObj_size,Sw.putW_size] at s1
 cases hv:sizeB base ts with
 | false =>
  simp (disch:=try exact DI) only [↓PR,QR,simprocAttr,↓n109c1]
  refine ⟨_,_,rfl,⟨e1.cell (by simp (disch:=try exact DI) only [↓PR,QR,simprocAttr]),SliceOf.nil _ _ _,fun A m c e=>by cases e⟩,by omega,ee⟩
 | true =>
  simp (disch:=try exact DI) only [↓PR,QR,simprocAttr,↓n109c1,e1.cellQ,e1.frozenQ]
  obtain ⟨cssT,hrawT,hmatesT⟩:=SliceOf.raw hT
  refine callK_ret (Clone_Term_ret _ tv cssT (hrawT.ext keptRaw ee) (fun y hy=>by obtain ⟨m,_,hm⟩:=hmatesT.mem hy;exact hm.one) (by rw [hmatesT.1];exact hb)) ?_
  rintro t8 w2 ⟨hO,e2⟩
  have s2:=e2.size
  have hO':=OwnE.mates hO (hmatesT.imp fun _ _ h=>h)
  have hS:=hO'.slice (E:=ETerm) (fun _=>rfl) (fun _ _=>rfl)
  have h8:=SliceOf.oneCell hS
  have hTy:TypeAt w2 (w0.heap.size+1) 66:=(TypeAt.ext (w:=(w0.alloc _).alloc (.cells #[.slice none 0 0] 66)) ⟨_,_,by have:=heap_new (w0.alloc (.cells #[.int .i64 base,tv] 68)) #[.slice none 0 0] 66;rw [World.size_alloc] at this;exact this⟩ (e1.trans e2))
  simp (disch:=try exact DI) only [↓PR,QR,simprocAttr,↓n109c1,e1.cellQ,e1.frozenQ,e2.cellQ,e2.frozenQ]
  have hS2:=((hO'.range.only (Only.setCell w2 (w0.heap.size+1) 0 t8) (.inr (.inl (by omega)))).1).slice (E:=ETerm) (fun _=>rfl) (fun _ _=>rfl)
  refine ⟨_,t8,rfl,⟨?_,hS2,fun A m c e=>by subst e;have:=hO'.lt A.block rfl;omega⟩,by omega,ee⟩
  simp (disch:=try exact DI) only [↓PR,QR,simprocAttr,e1.cellQ,e1.frozenQ,e2.cellQ,e2.frozenQ]
def namesX (ts:List TermD) (k:Nat):Value:=match ts[k]? with
 | some t => .string t.field
 | none=>undef
theorem Names_seq (pb:Nat) (tv:Value) (ts:List TermD):SeqIt Pg 174 #[.pointer (some ⟨pb,0,none⟩)] ts.length (namesX ts) (fun w=>TermsAt w pb tv ts):=by
 intro yv J Jx Jp w hFP hJe hJx hstep h0
 obtain ⟨hc,hT,_⟩:=hFP 0 w h0
 obtain ⟨A,c,rfl,hlc,hcm,hlm,hel⟩:=SliceOf.open hT
 refine n110s (t0:=yv) (t1 := .pointer (some ⟨pb,0,none⟩)) ?_
 unfold n110
 simp (disch:=try exact DI) only [↓PR,QR,simprocAttr,hc]
 refine loop1_intro (fun i w=>∃ k:Nat,i = .int .i64 k∧k≤ts.length∧J k w) (fun i _=>ts.length - (intOf i).toNat) ⟨0,rfl,by omega,h0⟩ ?_
 rintro i w' ⟨k,rfl,hk,hJ⟩
 rcases drop_cases hk with ⟨x,hx,hd,hlt,hdec⟩ | ⟨hk,hd,hdec⟩
 · obtain ⟨_,hT',_⟩:=hFP k w' hJ
   obtain ⟨A',c',hv,_,_,_,hel'⟩:=SliceOf.open hT'
   injection hv with hv _ hv'
   subst hv hv'
   obtain ⟨b,o,cs,rfl,hl,hA,rfl⟩:=hel' k x hx
   have er:=Ext.refl w'
   simp (disch:=try exact DI) only [↓PR,QR,simprocAttr,↓n110c1,↓n110c2,hdec,hA.c2]
   have hs:=hstep k hlt _ (hJe k w' _ hJ ((Ext.refl w').alloc (.cells #[.string x.field,.int .i64 x.factor] 113)))
   rw [show namesX ts k = .string x.field by unfold namesX;rw [hx]] at hs
   refine callV_mono hs (fun ch w h=>h) ?_
   rintro v w2 (⟨rfl,h2⟩ | ⟨rfl,h2⟩)
   · simp (disch:=try exact DI) only [↓PR,QR,simprocAttr,↓n110c1,↓n110c2]
     exact ⟨⟨k+1,rfl,by omega,h2⟩,meas_lt (kd := .i64) hlt⟩
   · simp (disch:=try exact DI) only [↓PR,QR,simprocAttr,↓n110c1,↓n110c2]
     exact .inr h2
 · subst hk
   simp (disch:=try exact DI) only [↓PR,QR,simprocAttr,↓n110c1,↓n110c2,hdec]
   exact .inl hJ
theorem TermsAt.lasts (B pb:Nat) (tv:Value) (ts:List TermD):Lasts B (fun w=>TermsAt w pb tv ts) :=
 Lasts.and (Lasts.cell B) (Lasts.and ⟨fun _ _ h e=>TermsOf.ext h e,fun _ _ _ _ _ h hl=>SliceOf.putLoop (fun _ _ h=>h) hl h⟩ (Lasts.const _ _))
def checkedF (but:ByteArray) (ps:List (ByteArray×Value)) (p:Value→Bool):List TermD→Bool→Int
 | [],no=>if no then 9 else 0
 | t::ts,no=>if t.field=but then checkedF but ps p ts no else match lastOf ps t.field with
  | none=>checkedF but ps p ts true
  | some v=>if p v then checkedF but ps p ts no else 2
theorem checked_Range_ret (w0:World) (v:Value) (base:Int) (ts:List TermD) (but:ByteArray) (m:Nat) (ps:List (ByteArray×Value)) (g:FuncId) (caps:Array Value) (p:Value→Bool) (hs:SizeVal w0 v base ts) (hb:ts.length≤1048576)
 (hm:MapOf w0 m ps) (hr:∀ k v,lastOf ps k=some v→∃ lo hi,v=rangeVal lo hi) (hg:Callable Pg g) (hc:∀ w lo hi,Ext w0 w→Ret Pg g (#[rangeVal lo hi]++caps) w fun r w'=>r = .bool (p (rangeVal lo hi))∧Ext w w') :
 Ret Pg 176 #[v,.string but,.map (some m),.func (.func g) #[] caps] w0 fun r w'=>r = .int .i64 (if sizeB base ts then checkedF but ps p ts false else 2)∧Ext w0 w':=by
 obtain ⟨tv,rfl,hT⟩:=hs
 have ht1:=SliceOf.oneCell hT
 have hmlt:=hm.lt
 refine n114s (R:=retR _) ?_;unfold n114
 simp (disch:=try exact DI) only [↓PR,QR,simprocAttr,↓n114c1,↓n114c2,↓n114c3,↓n114c4,↓n114c5,↓n114c6]
 refine zcr (Valid_ret _ _ base ts ⟨tv,rfl,TermsOf.ext hT ee⟩) fun w1 e1=>?_
 have s1:=e1.size
 try simp only [World.size_alloc,World.size_setCell,World.size_drew,World.putObj_size,Sw.putW_size] at s1
 cases hv:sizeB base ts with
 | false =>
  simp (disch:=try exact DI) only [↓PR,QR,simprocAttr,↓n114c1,↓n114c2,↓n114c3,↓n114c4,↓n114c5,↓n114c6,e1.cellQ,e1.frozenQ,outX_nil,retV,resOne]
  exact ⟨by first | trivial | rfl,ee⟩
 | true =>
  simp (disch:=try exact DI) only [↓PR,QR,simprocAttr,↓n114c1,↓n114c2,↓n114c3,↓n114c4,↓n114c5,↓n114c6,e1.cellQ,e1.frozenQ]
  refine callK_ret (Names_ret _ _ base ts ⟨tv,rfl,TermsOf.ext hT ee⟩ hb) ?_
  rintro _ w2 ⟨pb,tv2,rfl,hTA,hpb,e2⟩
  rw [hv] at hTA
  simp only [if_true] at hTA
  have s2:=e2.size
  simp only [World.size_alloc] at s2 hpb
  have o5:w2.heap[w0.heap.size+1]?=some (.cells #[.string but] 9 (0,0)):=by simp (disch:=try exact DI) only [↓PR,QR,simprocAttr,e1.heapQ,e2.heapQ]
  have o6:w2.heap[w0.heap.size+1+1]?=some (.cells #[.map (some m)] 219 (0,0)):=by simp (disch:=try exact DI) only [↓PR,QR,simprocAttr,e1.heapQ,e2.heapQ]
  have o7:w2.heap[w0.heap.size+1+1+1]?=some (.cells #[.func (.func g) #[] caps] 228 (0,0)):=by simp (disch:=try exact DI) only [↓PR,QR,simprocAttr,e1.heapQ,e2.heapQ]
  have o8:w2.heap[w0.heap.size+1+1+1+1]?=some (.cells #[.int .i64 0] 37 (0,0)):=by simp (disch:=try exact DI) only [↓PR,QR,simprocAttr,e1.heapQ,e2.heapQ]
  have o9:w2.heap[w1.heap.size]?=some (.cells #[.bool false] 4 (0,0)):=by simp (disch:=try exact DI) only [↓PR,QR,simprocAttr,e1.heapQ,e2.heapQ]
  have eW:Ext w0 w2:=ee
  simp only [World.size_alloc]
  unfold n114c4
  let I:Nat→World→Prop:=fun k w=>Ext w0 w∧w.heap[w0.heap.size+1]?=some (.cells #[.string but] 9 (0,0))∧w.heap[w0.heap.size+1+1]?=some (.cells #[.map (some m)] 219 (0,0)) ∧
   w.heap[w0.heap.size+1+1+1]?=some (.cells #[.func (.func g) #[] caps] 228 (0,0))∧TermsAt w pb tv2 ts ∧
   ∃ nb x,w.heap[w0.heap.size+1+1+1+1]?=some (.cells #[.int .i64 x] 37 (0,0))∧w.heap[w1.heap.size]?=some (.cells #[.bool nb] 4 (0,0))∧checkedF but ps p (ts.drop k) nb=checkedF but ps p ts false
  let Ix:Nat→World→Prop:=fun c w=>c=0∧Ext w0 w∧w.heap[w0.heap.size+1+1+1+1]?=some (.cells #[.int .i64 2] 37 (0,0))∧checkedF but ps p ts false=2
  have hLI:∀ k,Lasts w2.heap.size (I k):=fun k=>Lasts.and (Lasts.from (by omega)) (Lasts.and (Lasts.has _ (by simp)) (Lasts.and (Lasts.has _ (by simp)) (Lasts.and (Lasts.has _ (by simp)) (Lasts.and (TermsAt.lasts _ _ _ _)
   (Lasts.ex fun nb=>Lasts.ex fun x=>Lasts.and (Lasts.has _ (by simp)) (Lasts.and (Lasts.has _ (by simp)) (Lasts.const _ _)))))))
  have hLX:∀ k,Lasts w2.heap.size (Ix k):=fun k=>Lasts.and (Lasts.const _ _)<|Lasts.and (Lasts.from (by omega)) (Lasts.and (Lasts.has _ (by simp)) (Lasts.const _ _))
  refine ⟨_,_,ts.length,namesX ts,fun w=>TermsAt w pb tv2 ts,I,Ix,fun _ _=>False,rfl,c174,Names_seq pb tv2 ts,⟨eW,o5,o6,o7,hTA,false,0,o8,o9,rfl⟩,fun k w h=>h.2.2.2.2.1,hLI,hLX,?_,?_,?_,?_⟩
  · intro rec j w3 hj hI3 hrec hready
    refine ⟨hready,fun w4 hbz=>?_⟩
    have hrec4:=hrec.busied hbz
    have hI4:=(hLI j).busied hbz (Nat.le_succ _) hI3
    clear hI3 hrec hready hbz
    obtain ⟨e4,o5,o6,o7,hTA4,nb,x,o8,o9,hF⟩:=hI4
    obtain ⟨t,hx⟩:=getElem?_lt hj
    rw [show namesX ts j = .string t.field by unfold namesX;rw [hx]]
    have hd:ts.drop j=t::ts.drop (j+1):=by
     rw [List.drop_eq_getElem_cons hj]
     congr 1
     exact (List.getElem?_eq_some_iff.1 hx).2
    rw [hd] at hF
    simp only [checkedF] at hF
    have hm4:=hm.ext e4
    have s4:=e4.size
    have l9:w1.heap.size < w4.heap.size:=(Array.getElem?_eq_some_iff.1 o9).1
    have l8:w0.heap.size+1+1+1+1 < w4.heap.size:=(Array.getElem?_eq_some_iff.1 o8).1
    simp (disch:=try exact DI) only [↓PR,QR,simprocAttr,↓n114c1,↓n114c2,↓n114c3,↓n114c4,↓n114c5,↓n114c6,(cells_of_heap o5).1,(cells_of_heap o6).1]
    rw [op_lookupO Tryz.underlying219 Tryz.underlying9 ty223 hm4]
    have next:∀ nb' w5,Ext w4 w5→checkedF but ps p (ts.drop (j+1)) nb'=checkedF but ps p ts false→nb'=nb→I (j+1) w5:=fun nb' w5 e5 h hn=>(hLI (j+1)).ext _ _ ⟨e4,o5,o6,o7,hTA4,nb,x,o8,o9,hn ▸ h⟩ e5
    cases hl:lastOf ps t.field with
    | none =>
     rw [hl] at hF
     simp (disch:=try exact DI) only [↓PR,QR,simprocAttr,↓n114c1,↓n114c2,↓n114c3,↓n114c4,↓n114c5,↓n114c6,(cells_of_heap o5).1]
     by_cases hbut:t.field=but
     · rw [if_pos hbut] at hF
       simp only [hbut,decide_true]
       simp (disch:=try exact DI) only [↓PR,QR,simprocAttr]
       exact ⟨hrec4.alloc _,next nb _ ee hF rfl⟩
     · rw [if_neg hbut] at hF
       simp only [hbut,decide_false]
       simp (disch:=try exact DI) only [↓PR,QR,simprocAttr,↓n114c1,↓n114c2,↓n114c3,↓n114c4,↓n114c5,↓n114c6,(cells_of_heap o9).1,(cells_of_heap o9).2]
       refine ⟨(hrec4.setCell _ _).alloc _,ee,by simp (disch:=try exact DI) only [↓PR,QR,simprocAttr,o5],by simp (disch:=try exact DI) only [↓PR,QR,simprocAttr,o6],by simp (disch:=try exact DI) only [↓PR,QR,simprocAttr,o7],(hTA4.set (by omega) _).ext ((Ext.refl _).alloc _),true,x,by simp (disch:=try exact DI) only [↓PR,QR,simprocAttr,o8],?_,hF⟩
       have:=((Ext.refl _).alloc (.cells #[.int .i64 0,.int .i64 0] 223)).obj (heap_set (o:=0) o9 (.bool true))
       simpa using this
    | some v =>
     obtain ⟨lo,hi,rfl⟩:=hr _ _ hl
     rw [hl] at hF
     simp (disch:=try exact DI) only [↓PR,QR,simprocAttr,↓n114c1,↓n114c2,↓n114c3,↓n114c4,↓n114c5,↓n114c6,(cells_of_heap o5).1,rangeVal]
     by_cases hbut:t.field=but
     · rw [if_pos hbut] at hF
       simp only [hbut,decide_true]
       simp (disch:=try exact DI) only [↓PR,QR,simprocAttr]
       exact ⟨hrec4.alloc _,next nb _ ee hF rfl⟩
     · rw [if_neg hbut] at hF
       simp only [hbut,decide_false]
       simp (disch:=try exact DI) only [↓PR,QR,simprocAttr,↓n114c1,↓n114c2,↓n114c3,↓n114c4,↓n114c5,↓n114c6,(cells_of_heap o7).1]
       rw [callV_func hg]
       refine zcr (hc _ lo hi ee) fun w6 e6=>?_
       have s6:=e6.size
       simp only [World.size_alloc] at s6
       cases hp:p (rangeVal lo hi) with
       | true =>
        simp only [hp,if_true] at hF
        simp (disch:=try exact DI) only [↓PR,QR,simprocAttr,↓n114c1,↓n114c2,↓n114c3,↓n114c4,↓n114c5,↓n114c6]
        exact ⟨(hrec4.alloc _).ext e6,next nb _ ee hF rfl⟩
       | false =>
        simp only [hp,Bool.false_eq_true,if_false] at hF
        simp (disch:=try exact DI) only [↓PR,QR,simprocAttr,↓n114c1,↓n114c2,↓n114c3,↓n114c4,↓n114c5,↓n114c6,e6.cellQ,e6.frozenQ,(cells_of_heap o8).1,(cells_of_heap o8).2]
        refine ⟨((hrec4.alloc _).ext e6).setCell _ _,rfl,ee,?_,hF.symm⟩
        have:=heap_set (o:=0) ((((Ext.refl w4).alloc (.cells #[.int .i64 lo,.int .i64 hi] 223)).trans e6).obj o8) (.int .i64 2)
        simpa using this
  · rintro w3 ⟨e3,o5,o6,o7,hTA3,nb,x,o8,o9,hF⟩ hmk
    rw [List.drop_length] at hF
    simp only [checkedF] at hF
    have l2:w2.heap.size < w3.heap.size:=(Array.getElem?_eq_some_iff.1 hmk).1
    cases nb with
    | true =>
     simp (disch:=try exact DI) only [↓PR,QR,simprocAttr,↓n114c1,↓n114c2,↓n114c3,↓n114c4,↓n114c5,↓n114c6,(cells_of_heap o8).1,(cells_of_heap o8).2,(cells_of_heap o9).1]
     refine outX_mark (hmk.setCell _ _) ?_
     simp (disch:=try exact DI) only [↓PR,QR,simprocAttr,outX_nil,retV,resOne,cell_putMark (hmk.setCell _ _),(cells_of_heap o8).1]
     exact ⟨by rw [← hF];rfl,ee⟩
    | false =>
     simp (disch:=try exact DI) only [↓PR,QR,simprocAttr,↓n114c1,↓n114c2,↓n114c3,↓n114c4,↓n114c5,↓n114c6,(cells_of_heap o8).1,(cells_of_heap o8).2,(cells_of_heap o9).1]
     refine outX_mark (hmk.setCell _ _) ?_
     simp (disch:=try exact DI) only [↓PR,QR,simprocAttr,outX_nil,retV,resOne,cell_putMark (hmk.setCell _ _),(cells_of_heap o8).1]
     exact ⟨by rw [← hF];rfl,ee⟩
  · rintro c w3 ⟨rfl,e3,o8,hF⟩ hmk
    have l2:w2.heap.size < w3.heap.size:=(Array.getElem?_eq_some_iff.1 hmk).1
    show outX _ _ _ _ _
    refine outX_mark hmk ?_
    simp (disch:=try exact DI) only [↓PR,QR,simprocAttr,outX_nil,retV,resOne,cell_putMark hmk,(cells_of_heap o8).1]
    exact ⟨by rw [hF],ee⟩
  · rintro _ _ h
    exact h.elim
def numW (base:Int) (vf:TermD→Int) (ts:List TermD):Int:=ts.foldl (fun n t=>IntKind.i64.wrap (n+IntKind.i64.wrap (t.factor*vf t))) base
theorem number_ret (w0:World) (v:Value) (base:Int) (ts:List TermD) (g:FuncId) (caps:Array Value) (vf:TermD→Int) (hs:SizeVal w0 v base ts) (hg:Callable Pg g)
 (hc:∀ w t,Ext w0 w→Ret Pg g (#[termVal t]++caps) w fun r w'=>r = .int .i64 (vf t)∧Ext w w') :
 Ret Pg 178 #[v,.func (.func g) #[] caps] w0 fun r w'=>r = .int .i64 (numW base vf ts)∧Ext w0 w':=by
 obtain ⟨tv,rfl,hT⟩:=hs
 obtain ⟨A,c,rfl,hlc,hcm,hlm,hel⟩:=SliceOf.open hT
 refine n117s (R:=retR _) ?_;unfold n117
 simp (disch:=try exact DI) only [↓PR,QR,simprocAttr,↓n117c1,↓n117c2,↓n117c3]
 refine loop2_intro (fun a0 a1 w=>∃ (k:Nat) (n:Int),a0 = .int .i64 n∧a1 = .int .i64 (k:Int)∧k≤ts.length∧Ext w0 w∧numW n vf (ts.drop k)=numW base vf ts) (fun a0 a1 _=>ts.length - (intOf a1).toNat) ⟨0,base,rfl,rfl,Nat.zero_le _,ee,rfl⟩ ?_
 rintro _ _ w ⟨k,n,rfl,rfl,hk,e,hI⟩
 have se:=e.size
 rcases drop_cases hk with ⟨x,hx,hd,hlt,hdec⟩ | ⟨hk,hd,hdec⟩
 · obtain ⟨b,o,cs,rfl,hl,hA,rfl⟩:=hel k x hx
   rw [hd] at hI
   simp (disch:=try exact DI) only [↓PR,QR,simprocAttr,↓n117c1,↓n117c2,↓n117c3,hdec,hA.c2]
   refine drawK_intro ?_
   simp (disch:=try exact DI) only [↓PR,QR,simprocAttr,↓n117c1,↓n117c2,↓n117c3]
   rw [callV_func hg]
   refine zcr (hc _ x ee) fun w1 e1=>?_
   refine ⟨e1,?_⟩
   simp (disch:=try exact DI) only [↓PR,QR,simprocAttr,↓n117c1,↓n117c2,↓n117c3]
   exact ⟨⟨k+1,_,rfl,rfl,by omega,ee,hI⟩,meas_lt (kd := .i64) hlt⟩
 · subst hk
   simp (disch:=try exact DI) only [↓PR,QR,simprocAttr,↓n117c1,↓n117c2,↓n117c3,hdec]
   rw [hd] at hI
   exact ⟨by rw [← hI];rfl,e⟩
def RP (rp:List (ByteArray×Int×Int)):List (ByteArray×Value):=rp.map fun p=>(p.1,rangeVal p.2.1 p.2.2)
def lastR (rp:List (ByteArray×Int×Int)) (s:ByteArray):Option (Int×Int):=(rp.reverse.find? (fun p=>decide (p.1=s))).map (·.2)
theorem lastOf_RP (rp:List (ByteArray×Int×Int)) (s:ByteArray):lastOf (RP rp) s=(lastR rp s).map fun q=>rangeVal q.1 q.2:=by
 unfold lastOf RP lastR
 rw [← List.map_reverse,List.find?_map]
 simp only [Option.map_map]
 rfl
def numR (l:List FieldD):List (ByteArray×Int×Int):=(l.filter numberB).map fun f=>(f.name,f.low,highOf f)
theorem numPairs_RP (l:List FieldD):numPairs l=RP (numR l):=by
 unfold numPairs RP numR
 rw [List.map_map]
 rfl
def endF (rp:List (ByteArray×Int×Int)) (least:Bool) (t:TermD):Int:=match lastR rp t.field with
 | some (lo,hi)=>if least == decide (t.factor > 0) then lo else hi
 | none=>0
theorem end_ret (w0:World) (t:TermD) (pm pl m:Nat) (rp:List (ByteArray×Int×Int)) (least:Bool) (h1:w0.cell? ⟨pm,0,none⟩=some (.map (some m))) (h2:w0.cell? ⟨pl,0,none⟩=some (.bool least)) (hm:MapOf w0 m (RP rp)) :
 Ret Pg 179 #[termVal t,.pointer (some ⟨pm,0,none⟩),.pointer (some ⟨pl,0,none⟩)] w0 fun r w'=>r = .int .i64 (endF rp least t)∧Ext w0 w':=by
 have hb1:=World.block_lt_of_cell? w0 _ h1
 have hb2:=World.block_lt_of_cell? w0 _ h2
 simp only at hb1 hb2
 unfold termVal
 refine n106s (R:=retR _) ?_;unfold n106
 simp (disch:=try exact DI) only [↓PR,QR,simprocAttr,h1,h2]
 rw [op_lookup1O Tryz.underlying219 Tryz.underlying9 ty223 (hm.ext ee),lastOf_RP]
 unfold endF
 cases hl:lastR rp t.field with
 | none =>
  simp (disch:=try exact DI) only [↓PR,QR,simprocAttr,↓n106c1,h1,h2,Option.map_none]
  cases (least == decide (0 < t.factor)) with
  | true=>simp (disch:=try exact DI) only [↓PR,QR,simprocAttr,↓n106c1,h1,h2];exact ⟨by first | trivial | rfl,ee⟩
  | false =>
   simp (disch:=try exact DI) only [↓PR,QR,simprocAttr,↓n106c1,h1,h2]
   rw [op_lookup1O Tryz.underlying219 Tryz.underlying9 ty223 (hm.ext ee),lastOf_RP,hl]
   simp (disch:=try exact DI) only [↓PR,QR,simprocAttr,↓n106c1,Option.map_none]
   exact ⟨by first | trivial | rfl,ee⟩
 | some q =>
  obtain ⟨lo,hi⟩:=q
  simp (disch:=try exact DI) only [↓PR,QR,simprocAttr,↓n106c1,h1,h2,rangeVal]
  cases (least == decide (0 < t.factor)) with
  | true=>simp (disch:=try exact DI) only [↓PR,QR,simprocAttr,↓n106c1,h1,h2];exact ⟨by first | trivial | rfl,ee⟩
  | false =>
   simp (disch:=try exact DI) only [↓PR,QR,simprocAttr,↓n106c1,h1,h2]
   rw [op_lookup1O Tryz.underlying219 Tryz.underlying9 ty223 (hm.ext ee),lastOf_RP,hl]
   simp (disch:=try exact DI) only [↓PR,QR,simprocAttr,↓n106c1,rangeVal]
   exact ⟨by first | trivial | rfl,ee⟩
def wideB (lo hi:Int):Bool:=decide (0≤lo)&&decide (lo≤hi)&&decide (hi < 34359738368)
def wideV:Value→Bool
 | .agg a=>match a.toList with
  | [.int _ lo,.int _ hi]=>wideB lo hi
  | _=>false
 | _=>false
theorem fine_ret (w0:World) (lo hi:Int):Ret Pg 175 #[rangeVal lo hi] w0 fun r w'=>r = .bool (wideV (rangeVal lo hi))∧Ext w0 w':=by
 unfold rangeVal
 refine n104s (R:=retR _) ?_;unfold n104
 simp (disch:=try exact DI) only [↓PR,QR,simprocAttr,Sw.joinK_eq]
 refine zcr (all3_ret (by simp only [World.size_alloc]) _ _ _ _) fun w1 e1=>?_
 have s1:=e1.size
 try simp only [World.size_alloc,World.size_setCell,World.size_drew,World.putObj_size,Sw.putW_size] at s1
 simp (disch:=try exact DI) only [↓PR,QR,simprocAttr,Sw.joinK_eq]
 exact ⟨rfl,ee⟩
theorem ends_ret (w0:World) (pm ps m:Nat) (rp:List (ByteArray×Int×Int)) (least:Bool) (base:Int) (tv:Value) (ts:List TermD) (h0:w0.cell? ⟨ps,0,none⟩=some (.int .i64 base)) (h0':w0.cell? ⟨ps,1,none⟩=some tv) (hT:TermsOf w0 tv ts)
 (h1:w0.cell? ⟨pm,0,none⟩=some (.map (some m))) (hm:MapOf w0 m (RP rp)) :
 Ret Pg 177 #[.bool least,.pointer (some ⟨ps,0,none⟩),.pointer (some ⟨pm,0,none⟩)] w0 fun r w'=>r = .int .i64 (numW base (endF rp least) ts)∧Ext w0 w':=by
 have hb1:=World.block_lt_of_cell? w0 _ h0
 have hb2:=World.block_lt_of_cell? w0 _ h1
 simp only at hb1 hb2
 refine n105s (R:=retR _) ?_;unfold n105
 simp (disch:=try exact DI) only [↓PR,QR,simprocAttr,h0,h0']
 refine callK_ret (number_ret _ _ base ts _ _ (endF rp least) ⟨tv,rfl,TermsOf.ext hT ee⟩ c179 ?_) ?_
 · intro w t e
   exact end_ret w t pm w0.heap.size m rp least (((Ext.refl w0).alloc _).trans e |>.cell h1) (e.cell (by simp (disch:=try exact DI) only [↓PR,QR,simprocAttr])) (hm.ext (((Ext.refl w0).alloc _).trans e))
 rintro _ w1 ⟨rfl,e1⟩
 simp (disch:=try exact DI) only [↓PR,QR,simprocAttr,Sw.joinK_eq]
 exact ⟨by first | trivial | rfl,ee⟩
def intervalE (base:Int) (ts:List TermD) (rp:List (ByteArray×Int×Int)):Int:=if sizeB base ts then checkedF ByteArray.empty (RP rp) wideV ts false else 2
def intervalL (base:Int) (ts:List TermD) (rp:List (ByteArray×Int×Int)):Int:=if intervalE base ts rp=0 then numW base (endF rp true) ts else 0
def intervalH (base:Int) (ts:List TermD) (rp:List (ByteArray×Int×Int)):Int:=if intervalE base ts rp=0 then numW base (endF rp false) ts else 0
theorem Interval_ret (w0:World) (v:Value) (base:Int) (ts:List TermD) (m:Nat) (rp:List (ByteArray×Int×Int)) (hs:SizeVal w0 v base ts) (hb:ts.length≤1048576) (hm:MapOf w0 m (RP rp)) :
 Ret Pg 169 #[v,.map (some m)] w0 fun r w'=>r = .tuple #[rangeVal (intervalL base ts rp) (intervalH base ts rp),.int .i64 (intervalE base ts rp)]∧Ext w0 w':=by
 obtain ⟨tv,rfl,hT⟩:=hs
 have hT1:=SliceOf.oneCell hT
 have hmlt:=hm.lt
 refine n103s (R:=retR _) ?_;unfold n103
 simp (disch:=try exact DI) only [↓PR,QR,simprocAttr,↓n103c1,↓n103c2,↓n103c3]
 refine callK_ret (checked_Range_ret _ _ base ts ByteArray.empty m (RP rp) _ _ wideV ⟨tv,rfl,TermsOf.ext hT ee⟩ hb (hm.ext ee) (fun k v hv=>?_) c175 (fun w lo hi e=>by simpa using fine_ret w lo hi)) ?_
 · rw [lastOf_RP] at hv
   obtain ⟨q,_,rfl⟩:=Option.map_eq_some_iff.1 hv
   exact ⟨q.1,q.2,rfl⟩
 rintro _ w1 ⟨rfl,e1⟩
 have s1:=e1.size
 simp only [World.size_alloc] at s1
 show n103c3 _ _ _ (.int .i64 (intervalE base ts rp)) _ w1
 unfold intervalL intervalH
 by_cases hE:intervalE base ts rp=0
 · rw [hE]
   simp (disch:=try exact DI) only [↓PR,QR,simprocAttr,↓n103c1,↓n103c2,↓n103c3]
   have c0:w1.cell? ⟨w0.heap.size,0,none⟩=some (.int .i64 base):=by simp (disch:=try exact DI) only [↓PR,QR,simprocAttr,e1.cellQ]
   have c1:w1.cell? ⟨w0.heap.size,1,none⟩=some tv:=by simp (disch:=try exact DI) only [↓PR,QR,simprocAttr,e1.cellQ]
   have c2:w1.cell? ⟨w0.heap.size+1,0,none⟩=some (.map (some m)):=by simp (disch:=try exact DI) only [↓PR,QR,simprocAttr,e1.cellQ]
   have eW:Ext w0 w1:=ee
   rw [callV_func c177]
   refine zcr (ends_ret w1 _ _ m rp true base tv ts c0 c1 (hT.ext eW) c2 (hm.ext eW)) fun w2 e2=>?_
   have s2:=e2.size
   simp only [World.size_alloc]
   rw [callV_func c177]
   refine zcr (ends_ret w2 _ _ m rp false base tv ts (e2.cell c0) (e2.cell c1) ((TermsOf.ext hT eW).ext e2) (e2.cell c2) ((hm.ext eW).ext e2)) fun w3 e3=>?_
   have s3:=e3.size
   simp (disch:=try exact DI) only [↓PR,QR,simprocAttr,↓n103c1,↓n103c2,↓n103c3,e1.cellQ,e1.frozenQ,e2.cellQ,e2.frozenQ,e3.cellQ,e3.frozenQ]
   exact ⟨by first | trivial | rfl,ee⟩
 · have hne:(intervalE base ts rp != 0)=true:=by simpa using hE
   simp (disch:=try exact DI) only [↓PR,QR,simprocAttr,↓n103c1,↓n103c2,↓n103c3,hne,e1.cellQ,e1.frozenQ]
   simp only [hE,if_false]
   exact ⟨by first | trivial | rfl,ee⟩
end Go.Proofs.YtfdecdnmooaegaaGreatDoor
