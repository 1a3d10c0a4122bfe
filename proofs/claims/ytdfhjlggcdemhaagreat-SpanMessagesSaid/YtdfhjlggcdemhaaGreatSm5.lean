/-
  Lemmas for the claim.
-/
import Derived.Test.YtdfhjlggcdemhaaGreatSm4
set_option linter.all false
set_option maxHeartbeats 4000000
set_option maxRecDepth 100000
namespace Go.Proofs.YtdfhjlggcdemhaaGreat
open Sw
def n15c1 (t1 t7 t34 t42 t54:Value) (C3:World→Prop) (K2:KV) (R:RT) (w:World):Prop :=
 pickK t42 (.bool true) t54 fun t55 =>
 joinK (fun (t62:Value) (w:World) =>
 pickK t55 (.bool true) t62 fun t63 =>
 condP t63 (
 R (.returned (.tuple #[(.int .i64 0),(.int .i64 0),(.int .i64 2)])) w) (
 K2 t7 w)) fun K5 =>
 guardP t55 false (
 qV Pg C3 (Instr.indexAt 111 t1 t34) fun t59 =>
 qV Pg C3 (Instr.fieldAt 149 t59 2) fun t60 =>
 qV Pg C3 (Instr.loadAt 3 t60) fun t61 =>
 qV Pg C3 (binS .geq 3 true t61 (.int .i64 34359738368)) fun t62 =>
 K5 t62 w) (
 K5 undef w)
def n15c2 (t1 t7 t34:Value) (C3:World→Prop) (K2:KV) (R:RT) (w:World):Prop :=
 qV Pg C3 (Instr.indexAt 111 t1 t34) fun t39 =>
 qV Pg C3 (Instr.fieldAt 149 t39 1) fun t40 =>
 qV Pg C3 (Instr.loadAt 3 t40) fun t41 =>
 qV Pg C3 (binS .lss 3 true t41 (.int .i64 0)) fun t42 =>
 joinK (fun (t54:Value) (w:World) =>
 n15c1 t1 t7 t34 t42 t54 C3 K2 R w) fun K4 =>
 guardP t42 false (
 qV Pg C3 (Instr.indexAt 111 t1 t34) fun t46 =>
 qV Pg C3 (Instr.fieldAt 149 t46 1) fun t47 =>
 qV Pg C3 (Instr.loadAt 3 t47) fun t48 =>
 qV Pg C3 (Instr.indexAt 111 t1 t34) fun t51 =>
 qV Pg C3 (Instr.fieldAt 149 t51 2) fun t52 =>
 qV Pg C3 (Instr.loadAt 3 t52) fun t53 =>
 qV Pg C3 (binS .gtr 3 false t48 t53) fun t54 =>
 K4 t54 w) (
 K4 undef w)
def n15c3 (t2 t13 t14 t16:Value) (next7:KW) (R:RT) (w:World):Prop :=
 F0 35 t2 1 R w fun t103 w =>
 L0 33 t103 R w fun t104 w =>
 X0 33 t104 t14 R w fun t106 w =>
 F0 121 t106 1 R w fun t107 w =>
 L0 3 t107 R w fun t108 w =>
 B0 .mul 3 false t108 t16 R w fun t110 w =>
 B0 .add 3 false t13 t110 R w fun t111 w =>
 B0 .add 3 true t14 (.int .i64 1) R w fun t81 w =>
 next7 t111 t81 w
def n15c4 (t1 t2 t12 t13 t14 t90:Value) (next7:KW) (R:RT) (w:World):Prop :=
 X0 111 t1 t90 R w fun t91 w =>
 L0 149 t91 R w fun t92 w =>
 opV Pg (Instr.alloc 149 true (.tuple #[])) (panK R) w fun t15 w =>
 opU Pg (Instr.storeAt 149 t15 t92) (panK R) w fun w =>
 F0 149 t15 1 R w fun t93 w =>
 L0 3 t93 R w fun t94 w =>
 B0 .shr 3 false t12 t14 R w fun t97 w =>
 B0 .rem 3 true t97 (.int .i64 2) R w fun t98 w =>
 B0 .eql 3 true t98 (.int .i64 1) R w fun t99 w =>
 joinK (fun (t16:Value) (w:World) =>
 n15c3 t2 t13 t14 t16 next7 R w) fun K8 =>
 condP t99 (
 F0 149 t15 2 R w fun t100 w =>
 L0 3 t100 R w fun t101 w =>
 K8 t101 w) (
 K8 t94 w)
def n15c5 (t10 t11 t12 t13 t121 t125:Value) (next6:Value→Value→Value→World→Prop) (R:RT) (w:World):Prop :=
 pickK t121 (.bool true) t125 fun t126 =>
 joinK (fun (t11:Value) (w:World) =>
 B0 .add 3 true t12 (.int .i64 1) R w fun t72 w =>
 next6 t10 t11 t72 w) fun K12 =>
 condP t126 (
 K12 t13 w) (
 K12 t11 w)
def n15c6 (t10 t11 t12 t13:Value) (next6:Value→Value→Value→World→Prop) (R:RT) (w:World):Prop :=
 B0 .eql 3 true t12 (.int .i64 0) R w fun t121 w =>
 joinK (fun (t125:Value) (w:World) =>
 n15c5 t10 t11 t12 t13 t121 t125 next6 R w) fun K11 =>
 guardP t121 false (
 B0 .gtr 3 false t13 t11 R w fun t125 w =>
 K11 t125 w) (
 K11 undef w)
def n15c7 (t10 t11 t12 t13:Value) (next6:Value→Value→Value→World→Prop) (R:RT) (w:World):Prop :=
 B0 .eql 3 true t12 (.int .i64 0) R w fun t113 w =>
 joinK (fun (t117:Value) (w:World) =>
 pickK t113 (.bool true) t117 fun t118 =>
 joinK (fun (t10:Value) (w:World) =>
 n15c6 t10 t11 t12 t13 next6 R w) fun K10 =>
 condP t118 (
 K10 t13 w) (
 K10 t10 w)) fun K9 =>
 guardP t113 false (
 B0 .lss 3 false t13 t10 R w fun t117 w =>
 K9 t117 w) (
 K9 undef w)
def n15c8 (t1 t2 t12 t13 t14:Value) (next7:KW) (R:RT) (w:World):Prop :=
 F0 35 t2 1 R w fun t84 w =>
 L0 33 t84 R w fun t85 w =>
 X0 33 t85 t14 R w fun t87 w =>
 F0 121 t87 0 R w fun t88 w =>
 L0 9 t88 R w fun t89 w =>
 C0 113 #[t1,t89] R w fun t90 w =>
 n15c4 t1 t2 t12 t13 t14 t90 next7 R w
def n15c9 (t1 t2 t10 t11 t12 t13 t14:Value) (next6:Value→Value→Value→World→Prop) (next7:KW) (R:RT) (w:World):Prop :=
 F0 35 t2 1 R w fun t76 w =>
 L0 33 t76 R w fun t77 w =>
 opV Pg (Builtin.len_ #[33] 3 #[t77]) (panK R) w fun t78 w =>
 B0 .lss 3 false t14 t78 R w fun t79 w =>
 condP t79 (
 n15c8 t1 t2 t12 t13 t14 next7 R w) (
 n15c7 t10 t11 t12 t13 next6 R w)
def n15c10 (t1 t2 t10 t11 t12:Value) (next6:Value→Value→Value→World→Prop) (R:RT) (w:World):Prop :=
 F0 35 t2 0 R w fun t73 w =>
 L0 3 t73 R w fun t74 w =>
 loop2 (fun t13 t14 w next7 =>
 n15c9 t1 t2 t10 t11 t12 t13 t14 next6 next7 R w) t74 (.int .i64 0) w
def n15c11 (t1 t2 t10 t11 t12:Value) (next6:Value→Value→Value→World→Prop) (R:RT) (w:World):Prop :=
 F0 35 t2 1 R w fun t66 w =>
 L0 33 t66 R w fun t67 w =>
 opV Pg (Builtin.len_ #[33] 3 #[t67]) (panK R) w fun t68 w =>
 B0 .shl 3 true (.int .i64 1) t68 R w fun t69 w =>
 B0 .lss 3 false t12 t69 R w fun t70 w =>
 condP t70 (
 n15c10 t1 t2 t10 t11 t12 next6 R w) (
 R (.returned (.tuple #[t10,t11,(.int .i64 0)])) w)
def n15c12 (t1 t2 t7:Value) (R:RT) (w:World):Prop :=
 condP t7 (
 R (.returned (.tuple #[(.int .i64 0),(.int .i64 0),(.int .i64 9)])) w) (
 loop3 (fun t10 t11 t12 w next6 =>
 n15c11 t1 t2 t10 t11 t12 next6 R w) (.int .i64 0) (.int .i64 0) (.int .i64 0) w)
def n15c13 (t1 t2 t7 t8:Value) (next1:KW) (R:RT) (w:World):Prop :=
 joinK (fun (t7:Value) (w:World) =>
 B0 .add 3 true t8 (.int .i64 1) R w fun t26 w =>
 next1 t7 t26 w) fun K2 =>
 F0 35 t2 1 R w fun t28 w =>
 L0 33 t28 R w fun t29 w =>
 X0 33 t29 t8 R w fun t31 w =>
 F0 121 t31 0 R w fun t32 w =>
 L0 9 t32 R w fun t33 w =>
 C0 113 #[t1,t33] R w fun t34 w =>
 B0 .lss 3 true t34 (.int .i64 0) R w fun t36 w =>
 condP t36 (
 K2 (.bool true) w) (
 drawK w fun C3 w =>
 n15c2 t1 t7 t34 C3 K2 R w)
def n15c14 (t1 t2 t7 t8:Value) (next1:KW) (R:RT) (w:World):Prop :=
 F0 35 t2 1 R w fun t21 w =>
 L0 33 t21 R w fun t22 w =>
 opV Pg (Builtin.len_ #[33] 3 #[t22]) (panK R) w fun t23 w =>
 B0 .lss 3 false t8 t23 R w fun t24 w =>
 condP t24 (
 n15c13 t1 t2 t7 t8 next1 R w) (
 n15c12 t1 t2 t7 R w)
def n15c15 (t1 t2 t18:Value) (R:RT) (w:World):Prop :=
 opV Pg (Op.unary .not t18) (panK R) w fun t19 w =>
 condP t19 (
 R (.returned (.tuple #[(.int .i64 0),(.int .i64 0),(.int .i64 2)])) w) (
 loop2 (fun t7 t8 w next1 =>
 n15c14 t1 t2 t7 t8 next1 R w) (.bool false) (.int .i64 0) w)
def n15 (t0 t1:Value) (R:RT) (w:World):Prop :=
 opV Pg (Instr.box 35 t0) (panK R) w fun t2 w =>
 L0 35 t2 R w fun t17 w =>
 C0 112 #[t17] R w fun t18 w =>
 n15c15 t1 t2 t18 R w
set_option maxHeartbeats 40000000 in
theorem n15s {t0 t1:Value} {R:RT} {w:World} (h:n15 t0 t1 R w):Calls Pg 72 #[t0,t1] w R:=by
 refine yD Tryz.func72 ?_
 refine zs<|zr<|yv h fun _ w h=>zm<|zm<|zm<|zn<|zk<|zs<|zs<|zr<|yv h fun _ w h=>yc h c112 fun _ w h=>yv h fun _ w h=>zn ?_
 refine zk<|yC h (fun h=>zs<|zr<|zm<|zm<|zm<|zn<|zk<|sim_ret<|sim_then_ret<|body_ret3 rfl rfl rfl rfl h) fun h=>sim_skip<|zk<|zs<|zr<|zm<|zn<|zk<|zs<|zs<|zr<|zm<|zn ?_
 refine zk<|sim_block<|yl2 [4,5,6,7,8,9,20,21,22,23,24,25,26,27,28,29,30,31,32,33,34,35,36,37,38,39,40,41,42,43,44,45,46,47,48,49,50,51,52,53,54,55,56,57,58,59,60,61,62,63] 7 8 h fun σ w next h=>zs<|zs<|zr<|zm<|yv h fun _ w h=>yv h fun _ w h=>yx h fun _ w h=>yb h fun _ w h=>zn<|zk<|yC h (fun h=>?_) fun h=>?_
 · refine sim_skip<|zk<|zs<|yJ1 [4,5,6,7,9,27,28,29,30,31,32,33,34,35,36,37,38,39,40,41,42,43,44,45,46,47,48,49,50,51,52,53,54,55,56,57,58,59,60,61,62,63] 7 h (fun _ _ hkK2 h=>?_) fun σ w h=>?_
   · refine sim_block<|zs<|zr<|zm<|yv h fun _ w h=>yv h fun _ w h=>zm<|yv h fun _ w h=>yv h fun _ w h=>yv h fun _ w h=>yc h c113 fun _ w h=>zm<|zn<|zk<|zs ?_
     refine zs<|zr<|zm<|yb h fun _ w h=>zn<|zk<|yC h (fun h=>?_) fun h=>?_
     · refine zs<|zr<|zm<|zn<|zk<|sim_exit<|sim_then_exit<|sim_block_hit<|zk ?_
       exact zt hkK2 h
     refine sim_skip<|zk<|zs<|yh [37,38,39,40,41,42,43,44,45,46,47,48,49,50,51,52,53,54,55,56,57,58,59,60,61,62,63] h fun C hC h=>yw 0 hC ?_
     refine yw 1 hC ?_
     refine ye 2 hC h fun _ h=>?_
     refine ye 3 hC h fun _ h=>?_
     refine ye 4 hC h fun _ h=>?_
     refine ye 5 hC h fun _ h=>?_
     refine yw 6 hC ?_
     refine yj1 9 [17,16,15,14,13,12,11,10,9,8,7,6,5,4,3,2,1,0] [44,45,46,47,48,49,50,51,52,53,54] 54 h (fun _ hT hb h=>?_) (fun _ hT hb h=>?_) fun σ w hC h=>?_
     · refine yw 7 hC ?_
       refine yw 8 hC ?_
       refine ye 9 hC h fun _ h=>?_
       refine ye 10 hC h fun _ h=>?_
       refine ye 11 hC h fun _ h=>?_
       refine yw 12 hC ?_
       refine yw 13 hC ?_
       refine ye 14 hC h fun _ h=>?_
       refine ye 15 hC h fun _ h=>?_
       refine ye 16 hC h fun _ h=>?_
       refine ye 17 hC h fun _ h=>?_
       exact yt hT hC h
     · refine yi 7 hC ?_
       refine yi 8 hC ?_
       refine yi 9 hC ?_
       refine yi 10 hC ?_
       refine yi 11 hC ?_
       refine yi 12 hC ?_
       refine yi 13 hC ?_
       refine yi 14 hC ?_
       refine yi 15 hC ?_
       refine yi 16 hC ?_
       refine yi 17 hC ?_
       exact yt hT hC h
     refine yP 18 hC h fun _ h=>?_
     refine yw 19 hC ?_
     refine yj1 1 [25,24,23,22,21,20,19,18,17,16,15,14,13,12,11,10,9,8,7,6,5,4,3,2,1,0] [57,58,59,60,61,62] 62 h (fun _ hT hb h=>?_) (fun _ hT hb h=>?_) fun σ w hC h=>?_
     · refine yw 20 hC ?_
       refine yw 21 hC ?_
       refine ye 22 hC h fun _ h=>?_
       refine ye 23 hC h fun _ h=>?_
       refine ye 24 hC h fun _ h=>?_
       refine ye 25 hC h fun _ h=>?_
       exact yt hT hC h
     · refine yi 20 hC ?_
       refine yi 21 hC ?_
       refine yi 22 hC ?_
       refine yi 23 hC ?_
       refine yi 24 hC ?_
       refine yi 25 hC ?_
       exact yt hT hC h
     refine yP 26 hC h fun _ h=>?_
     refine yz<|zk<|yC h (fun h=>zs<|zr<|zm<|zm<|zm<|zn<|zk<|sim_ret<|sim_block_ret<|sim_then_ret<|sim_then_ret<|sim_then_ret<|sim_block_ret<|sim_then_ret<|body_ret3 rfl rfl rfl rfl h) fun h=>sim_skip<|sim_block_normal<|zk ?_
     exact zt hkK2 h
   exact zk<|zr<|zm<|yb h fun _ w h=>zm<|zn<|zk<|⟨rfl,h⟩
 refine sim_exit<|sim_then_exit<|sim_then_exit<|sim_block_hit<|zk<|zs<|zs<|zr<|zm<|zn<|zk<|yC h (fun h=>zs<|zr<|zm<|zm<|zm<|zn<|zk<|sim_ret<|sim_then_ret<|body_ret3 rfl rfl rfl rfl h) fun h=>sim_skip<|zk ?_
 refine zs<|zr<|zm<|zm<|zn<|zk<|zs<|zs<|zr<|zm<|zn<|zk<|sim_block<|yl3 [10,11,12,13,14,15,16,65,66,67,68,69,70,71,72,73,74,75,76,77,78,79,80,81,82,83,84,85,86,87,88,89,90,91,92,93,94,95,96,97,98,99,100,101,102,103,104,105,106,107,108,109,110,111,112,113,114,115,116,117,118,119,120,121,122,123,124,125,126,127] 10 11 12 h fun σ w next h=>zs ?_
 refine zs<|zr<|zm<|yv h fun _ w h=>yv h fun _ w h=>yx h fun _ w h=>yb h fun _ w h=>yb h fun _ w h=>zn<|zk<|yC h (fun h=>?_) fun h=>?_
 · refine sim_skip<|zk<|zs<|sim_block<|zs<|zr<|yv h fun _ w h=>yv h fun _ w h=>zm<|zn<|zk<|zs<|zs<|zr<|zm ?_
   refine zn<|zk<|sim_block<|yl2 [13,14,15,16,75,76,77,78,79,80,81,82,83,84,85,86,87,88,89,90,91,92,93,94,95,96,97,98,99,100,101,102,103,104,105,106,107,108,109,110,111] 13 14 h fun σ w next h=>zs<|zs<|zr<|zm<|yv h fun _ w h=>yv h fun _ w h=>yx h fun _ w h=>yb h fun _ w h=>zn<|zk<|yC h (fun h=>?_) fun h=>?_
   · refine sim_skip<|zk<|zs<|sim_block<|zs<|zr<|zm<|zm<|yv h fun _ w h=>yv h fun _ w h=>zm<|yv h fun _ w h=>yv h fun _ w h=>yv h fun _ w h=>yc h c113 fun _ w h=>?_
     refine yv h fun _ w h=>yv h fun _ w h=>yv h fun _ w h=>yu h fun w h=>zn<|zk<|zs<|zr<|yv h fun _ w h=>yv h fun _ w h=>zm<|zn<|zk<|zs<|zs ?_
     refine zr<|zm<|zm<|yb h fun _ w h=>yb h fun _ w h=>yb h fun _ w h=>zn<|zk<|yJ1 [16,100,101] 16 h (fun _ _ hkK8 h=>?_) fun σ w h=>?_
     · refine yC h (fun h=>?_) fun h=>?_
       · refine zr<|yv h fun _ w h=>yv h fun _ w h=>zm<|zn<|zk ?_
         exact zt hkK8 h
       refine sim_skip<|zk ?_
       exact zt hkK8 h
     refine zk<|zr<|zm<|yv h fun _ w h=>yv h fun _ w h=>zm<|yv h fun _ w h=>yv h fun _ w h=>yv h fun _ w h=>zm<|yb h fun _ w h=>yb h fun _ w h=>zm<|zn<|sim_block_normal ?_
     exact zk<|zr<|zm<|yb h fun _ w h=>zm<|zn<|zk<|⟨rfl,h⟩
   refine sim_exit<|sim_then_exit<|sim_then_exit<|sim_block_hit<|zk<|zs<|zs<|sim_regionG<|yG 3<|zm<|yb h fun _ w h=>zm<|zn<|yg1 3 2 false [115,116,117] 117 h (fun _ T hT h=>?_) fun σ w h=>?_
   · refine zm<|zm<|yb h fun _ w h=>zn ?_
     exact zt hT h
   refine yG 1<|yp h fun _ h=>zn<|sim_end<|zk<|yJ1 [10,119] 10 h (fun _ _ hkK10 h=>?_) fun σ w h=>?_
   · refine yC h (fun h=>?_) fun h=>?_
     · refine zr<|zm<|zm<|zn<|zk ?_
       exact zt hkK10 h
     refine sim_skip<|zk ?_
     exact zt hkK10 h
   refine zk<|zs<|sim_regionG<|yG 3<|zm<|yb h fun _ w h=>zm<|zn<|yg1 3 2 false [123,124,125] 125 h (fun _ T hT h=>?_) fun σ w h=>?_
   · refine zm<|zm<|yb h fun _ w h=>zn ?_
     exact zt hT h
   refine yG 1<|yp h fun _ h=>zn<|sim_end<|zk<|yJ1 [11,127] 11 h (fun _ _ hkK12 h=>?_) fun σ w h=>?_
   · refine yC h (fun h=>?_) fun h=>?_
     · refine zr<|zm<|zm<|zn<|zk ?_
       exact zt hkK12 h
     refine sim_skip<|zk ?_
     exact zt hkK12 h
   exact sim_block_normal<|zk<|zr<|zm<|yb h fun _ w h=>zm<|zn<|zk<|⟨rfl,h⟩
 refine sim_exit<|sim_then_exit<|sim_then_exit<|sim_block_hit<|zk<|zs<|zr<|zm<|zm<|zm<|zm<|zm<|zn<|zk<|sim_ret ?_
 exact body_ret3 rfl rfl rfl rfl h
def n48c1 (t1 t3 t4 t26:Value) (K2:KV) (R:RT) (w:World):Prop :=
 opV Pg (Instr.extract t26 0) (panK R) w fun t27 w =>
 opV Pg (Instr.extract t26 1) (panK R) w fun t28 w =>
 F0 44 t1 1 R w fun t30 w =>
 L0 42 t30 R w fun t31 w =>
 X0 42 t31 t4 R w fun t33 w =>
 F0 38 t33 0 R w fun t34 w =>
 L0 9 t34 R w fun t35 w =>
 opV Pg (Instr.build 149 #[(0,t35),(1,t27),(2,t28)]) (panK R) w fun t38 w =>
 opV Pg (Instr.buildSlice 111 1 #[(0,t38)]) (panK R) w fun t39 w =>
 opV Pg (Builtin.append_ #[111,111] 111 #[t3,t39]) (panK R) w fun t40 w =>
 K2 t40 w
def n48c2 (t1 t3 t4:Value) (K2:KV) (R:RT) (w:World):Prop :=
 F0 44 t1 1 R w fun t21 w =>
 L0 42 t21 R w fun t22 w =>
 X0 42 t22 t4 R w fun t24 w =>
 L0 38 t24 R w fun t25 w =>
 C0 115 #[t25] R w fun t26 w =>
 n48c1 t1 t3 t4 t26 K2 R w
def n48c3 (t1 t3 t4 t19:Value) (next1:KW) (R:RT) (w:World):Prop :=
 joinK (fun (t3:Value) (w:World) =>
 B0 .add 3 true t4 (.int .i64 1) R w fun t13 w =>
 next1 t3 t13 w) fun K2 =>
 condP t19 (
 n48c2 t1 t3 t4 K2 R w) (
 K2 t3 w)
def n48c4 (t1 t3 t4:Value) (next1:KW) (R:RT) (w:World):Prop :=
 F0 44 t1 1 R w fun t14 w =>
 L0 42 t14 R w fun t15 w =>
 X0 42 t15 t4 R w fun t17 w =>
 L0 38 t17 R w fun t18 w =>
 C0 114 #[t18] R w fun t19 w =>
 n48c3 t1 t3 t4 t19 next1 R w
def n48c5 (t1 t3 t4:Value) (next1:KW) (R:RT) (w:World):Prop :=
 F0 44 t1 1 R w fun t8 w =>
 L0 42 t8 R w fun t9 w =>
 opV Pg (Builtin.len_ #[42] 3 #[t9]) (panK R) w fun t10 w =>
 B0 .lss 3 false t4 t10 R w fun t11 w =>
 condP t11 (
 n48c4 t1 t3 t4 next1 R w) (
 R (.returned t3) w)
def n48 (t0:Value) (R:RT) (w:World):Prop :=
 opV Pg (Instr.box 44 t0) (panK R) w fun t1 w =>
 loop2 (fun t3 t4 w next1 =>
 n48c5 t1 t3 t4 next1 R w) (Value.slice none 0 0) (.int .i64 0) w
theorem n48s {t0:Value} {R:RT} {w:World} (h:n48 t0 R w):Calls Pg 73 #[t0] w R:=by
 refine yD Tryz.func73 ?_
 refine zs<|zr<|yv h fun _ w h=>zm<|zn<|zk<|zs<|zr<|zm<|zn<|zk<|zs<|zs<|zr<|zm ?_
 refine zn<|zk<|sim_block<|yl2 [3,4,5,6,7,8,9,10,11,12,13,14,15,16,17,18,19,20,21,22,23,24,25,26,27,28,29,30,31,32,33,34,35,36,37,38,39,40] 3 4 h fun σ w next h=>zs<|zs<|zr<|zm<|yv h fun _ w h=>yv h fun _ w h=>yx h fun _ w h=>yb h fun _ w h=>zn<|zk<|yC h (fun h=>?_) fun h=>?_
 · refine sim_skip<|zk<|zs<|sim_block<|zs<|zr<|yv h fun _ w h=>yv h fun _ w h=>zm<|yv h fun _ w h=>yv h fun _ w h=>yc h c114 fun _ w h=>zn<|zk<|yJ1 [3,5,6,20,21,22,23,24,25,26,27,28,29,30,31,32,33,34,35,36,37,38,39,40] 3 h (fun _ _ hkK2 h=>?_) fun σ w h=>?_
   · refine yC h (fun h=>?_) fun h=>?_
     · refine zs<|zr<|yv h fun _ w h=>yv h fun _ w h=>zm<|yv h fun _ w h=>yv h fun _ w h=>yc h c115 fun _ w h=>zm<|yv h fun _ w h=>yv h fun _ w h=>zm<|zm<|zn<|zk ?_
       refine zr<|zm<|yv h fun _ w h=>yv h fun _ w h=>zm<|yv h fun _ w h=>yv h fun _ w h=>yv h fun _ w h=>zm<|zm<|yB h fun _ w h=>yS h fun _ w h=>yx h fun _ w h=>zm<|zn ?_
       refine zk ?_
       exact zt hkK2 h
     refine sim_skip<|zk ?_
     exact zt hkK2 h
   exact sim_block_normal<|zk<|zr<|zm<|yb h fun _ w h=>zm<|zn<|zk<|⟨rfl,h⟩
 exact sim_exit<|sim_then_exit<|sim_then_exit<|sim_block_hit<|zk<|zs<|zr<|zm<|zm<|zn<|zk<|sim_ret<|body_ret1 rfl rfl h
def n24c1 (t1 t3 t7:Value) (next1:KV) (R:RT) (w:World):Prop :=
 F0 24 t3 1 R w fun t13 w =>
 L0 22 t13 R w fun t14 w =>
 X0 22 t14 t7 R w fun t16 w =>
 F0 44 t16 0 R w fun t17 w =>
 L0 9 t17 R w fun t18 w =>
 B0 .eql 9 false t18 t1 R w fun t20 w =>
 condP t20 (
 R (.returned t7) w) (
 B0 .add 3 true t7 (.int .i64 1) R w fun t12 w =>
 next1 t12 w)
def n24 (t0 t1 t2:Value) (R:RT) (w:World):Prop :=
 opV Pg (Instr.box 24 t0) (panK R) w fun t3 w =>
 loop1 (fun t7 w next1 =>
 B0 .lss 3 false t7 t2 R w fun t10 w =>
 condP t10 (
 n24c1 t1 t3 t7 next1 R w) (
 R (.returned (.int .i64 (-1))) w)) (.int .i64 0) w
theorem n24s {t0 t1 t2:Value} {R:RT} {w:World} (h:n24 t0 t1 t2 R w):Calls Pg 74 #[t0,t1,t2] w R:=by
 refine yD Tryz.func74 ?_
 refine zs<|zr<|yv h fun _ w h=>zm<|zn<|zk<|zs<|zs<|zr<|zm<|zn<|zk<|sim_block<|yl1 [6,7,8,9,10,11,12,13,14,15,16,17,18,19,20,21] 7 h fun σ w next h=>zs ?_
 refine zs<|zr<|zm<|zm<|yb h fun _ w h=>zn<|zk<|yC h (fun h=>?_) fun h=>?_
 · refine sim_skip<|zk<|zs<|sim_block<|zs<|zr<|yv h fun _ w h=>yv h fun _ w h=>zm<|yv h fun _ w h=>yv h fun _ w h=>yv h fun _ w h=>zm<|yb h fun _ w h=>zn ?_
   exact zk<|yC h (fun h=>zs<|zr<|zm<|zm<|zn<|zk<|sim_ret<|sim_block_ret<|sim_then_ret<|sim_then_ret<|sim_block_ret<|sim_then_ret<|body_ret1 rfl rfl h) fun h=>sim_skip<|sim_block_normal<|zk<|zr<|zm<|yb h fun _ w h=>zm<|zn<|zk<|⟨rfl,h⟩
 exact sim_exit<|sim_then_exit<|sim_then_exit<|sim_block_hit<|zk<|zs<|zr<|zm<|zn<|zk<|sim_ret<|body_ret1 rfl rfl h
def n46c1 (t0:Value) (R:RT) (w:World):Prop :=
 B0 .quo 3 true t0 (.int .i64 128) R w fun t6 w =>
 C0 75 #[t6] R w fun t7 w =>
 B0 .add 3 true (.int .i64 1) t7 R w fun t8 w =>
 R (.returned t8) w
def n46 (t0:Value) (R:RT) (w:World):Prop :=
 B0 .lss 3 true t0 (.int .i64 128) R w fun t4 w =>
 condP t4 (
 R (.returned (.int .i64 1)) w) (
 n46c1 t0 R w)
theorem n46s {t0:Value} {R:RT} {w:World} (h:n46 t0 R w):Calls Pg 75 #[t0] w R:=by
 refine yD Tryz.func75 ?_
 refine zs<|zr<|zm<|zn<|zk<|zs<|zs<|zr<|zm<|yb h fun _ w h=>zn<|zk<|yC h (fun h=>zs<|zr<|zm<|zn<|zk<|sim_ret<|sim_then_ret<|body_ret1 rfl rfl h) fun h=>sim_skip ?_
 exact zk<|zs<|zr<|zm<|yb h fun _ w h=>yc h c75 fun _ w h=>yb h fun _ w h=>zm<|zn<|zk<|sim_ret<|body_ret1 rfl rfl h
def n49 (t0 t1:Value) (R:RT) (w:World):Prop :=
 B0 .gtr 3 true t0 (.int .i64 0) R w fun t6 w =>
 joinK (fun (t11:Value) (w:World) =>
 pickK t6 t11 (.bool false) fun t12 =>
 condP t12 (
 R (.returned (.int .i64 1099511627776)) w) (
 B0 .mul 3 false t0 t1 R w fun t15 w =>
 R (.returned t15) w)) fun K1 =>
 guardP t6 true (
 B0 .quo 3 true (.int .i64 1099511627776) t0 R w fun t10 w =>
 B0 .gtr 3 false t1 t10 R w fun t11 w =>
 K1 t11 w) (
 K1 undef w)
theorem n49s {t0 t1:Value} {R:RT} {w:World} (h:n49 t0 t1 R w):Calls Pg 76 #[t0,t1] w R:=by
 refine yD Tryz.func76 ?_
 refine zs<|zr<|zm<|zn<|zk<|zs<|zs<|sim_regionG<|yG 3<|zm<|yb h fun _ w h=>zm<|zn<|yg1 4 2 true [8,9,10,11] 11 h (fun _ T hT h=>?_) fun σ w h=>?_
 · refine zm<|zm<|yb h fun _ w h=>yb h fun _ w h=>zn ?_
   exact zt hT h
 refine yG 1<|yp h fun _ h=>zn<|sim_end<|zk<|yC h (fun h=>zs<|zr<|zm<|zn<|zk<|sim_ret<|sim_then_ret<|body_ret1 rfl rfl h) fun h=>sim_skip<|zk<|zs<|zr<|zm<|zm<|yb h fun _ w h=>zm ?_
 exact zn<|zk<|sim_ret<|body_ret1 rfl rfl h
def n135 (t0:Value) (R:RT) (w:World):Prop :=
 opV Pg (Instr.box 105 t0) (panK R) w fun t1 w =>
 opV Pg (Instr.alloc 67 true (.tuple #[])) (panK R) w fun t2 w =>
 F0 105 t1 1 R w fun t3 w =>
 L0 103 t3 R w fun t4 w =>
 F0 105 t1 0 R w fun t5 w =>
 F0 44 t5 0 R w fun t6 w =>
 L0 9 t6 R w fun t7 w =>
 opV Pg (Instr.lookup 103 t4 t7 false) (panK R) w fun t8 w =>
 opU Pg (Instr.storeAt 67 t2 t8) (panK R) w fun w =>
 qW Pg 67 t2 w fun r0 =>
 R (.returned r0) w
theorem n135s {t0:Value} {R:RT} {w:World} (h:n135 t0 R w):Calls Pg 77 #[t0] w R:=by
 refine yD Tryz.func77 ?_
 refine zs<|zr<|yv h fun _ w h=>yv h fun _ w h=>zn<|zk<|zs<|zr<|yv h fun _ w h=>yv h fun _ w h=>yv h fun _ w h=>yv h fun _ w h=>yv h fun _ w h=>yv h fun _ w h=>yu h fun w h=>?_
 exact zn<|zk<|sim_ret<|body_retC rfl rfl h
open Go.RowKit (intOf Below)
theorem rng_some {rp:List (ByteArray×Int×Int)} {t:TermD} {q:Int×Int} (h:lastR rp t.field=some q):rngT rp t=q:=by unfold rngT;rw [h];rfl
theorem rInterval_ret (w0:World) (v rv:Value) (base:Int) (ts:List TermD) (rp:List (ByteArray×Int×Int)) (hs:SizeVal w0 v base ts) (hR:RansOf w0 rv rp) (hin:∀ t∈ts,(lastR rp t.field).isSome=true):Ret Pg 72 #[v,rv] w0 fun r w'=>r=ivOf base ts rp∧Ext w0 w':=by
 obtain ⟨tv,rfl,hT⟩:=hs
 have hS1:=hT
 obtain ⟨A,c,rfl,hlc,hcm,hlm,hel⟩:=SliceOf.open hT
 obtain ⟨A2,c2,rfl,hlc2,hcm2,hlm2,hel2⟩:=SliceOf.open hR
 refine n15s (R:=retR _) ?_;unfold n15
 simp (disch:=try exact DI) only [↓PR,QR,simprocAttr]
 have hBW:=ElemAt.new (w:=w0) ([.int .i64 base,.slice A ts.length c]) (35)
 have eW:Ext w0 (w0.alloc (Obj.cells (List.toArray ([.int .i64 base,.slice A ts.length c])) (35))):=(Ext.refl _).alloc _
 generalize (w0.alloc (Obj.cells (List.toArray ([.int .i64 base,.slice A ts.length c])) (35)))=W at hBW eW ⊢
 refine zcr (rSizeValid_ret _ _ base ts ⟨_,rfl,hS1.ext eW⟩) fun w1 e1=>?_
 have E1:=eW.trans e1
 unfold n15c15
 cases hsz:sizeB base ts with
 | false =>
  simp (disch:=try exact DI) only [↓PR,QR,simprocAttr]
  refine ⟨?_,E1⟩
  rw [iv_bad (by unfold intervalE;rw [hsz];rfl)]
 | true =>
 obtain ⟨hb,h4,hterm⟩:=terms_names hsz
 simp (disch:=try exact DI) only [↓PR,QR,simprocAttr]
 refine loop2_intro (fun a0 a1 w=>∃ (k:Nat) , a0 = .bool false∧a1 = .int .i64 (k:Int)∧k≤ts.length∧Ext w1 w∧∀ j t,j < k→ts[j]?=some t→wideB (rngT rp t).1 (rngT rp t).2=true) (fun a0 a1 _=>ts.length - (intOf a1).toNat) ⟨0,rfl,rfl,Nat.zero_le _,ee,by intro j x h;omega⟩ ?_
 rintro _ _ w ⟨k,rfl,rfl,hk,e,hI⟩
 have se:=e.size
 rcases drop_cases hk with ⟨x,hx,hd,hlt,hdec⟩ | ⟨hk,hd,hdec⟩
 · obtain ⟨b,o,cs,rfl,hl,hA,rfl⟩:=hel k x hx
   have E:=E1.trans e
   have f:=e1.trans e
   unfold n15c14
   simp (disch:=try exact DI) only [↓PR,QR,simprocAttr,hBW.c2,hdec]
   unfold n15c13
   simp (disch:=try exact DI) only [↓PR,QR,simprocAttr,hBW.c2,(hA.c2 E).1]
   refine callK_ret (rFindRange_ret _ _ rp x.field (hR.ext E)) ?_
   rintro _ w2 ⟨⟨a,rfl,ha⟩,e2⟩
   have hxm:=List.mem_of_getElem? hx
   rcases ha with ⟨rfl,hno⟩ | ⟨j,q,rfl,hj,hq⟩
   · have:=hin x hxm
     rw [hno] at this;cases this
   obtain ⟨b',o',cs',rfl,_,hB,rfl⟩:=hel2 j _ hj
   have hjl:(j:Int) < (rp.length:Int):=by have:=(List.getElem?_eq_some_iff.1 hj).1;omega
   have E2:=E.trans e2
   have hq':=rng_some hq
   have d0:decide ((j:Int) < 0)=false:=by simp
   have stop:wideB q.1 q.2=false→(Value.tuple #[.int .i64 0,.int .i64 0,.int .i64 2])=ivOf base ts rp:=fun h=>(iv_wide hsz hin hxm (by rw [hq'];exact h)).symm
   simp (disch:=try exact DI) only [↓PR,QR,simprocAttr,d0]
   refine drawK_intro ?_
   unfold n15c2
   by_cases h1:q.1 < 0
   · have d1:decide (q.1 < 0)=true:=by simpa using h1
     simp (disch:=try exact DI) only [↓PR,QR,simprocAttr,(hB.c3 E2).1,(hB.c3 E2).2,d1]
     unfold n15c1
     simp (disch:=try exact DI) only [↓PR,QR,simprocAttr]
     exact ⟨stop (by unfold wideB;simp;omega),ee⟩
   have d1:decide (q.1 < 0)=false:=by simpa using h1
   by_cases h2:q.1 > q.2
   · have d2:decide (q.1 > q.2)=true:=by simpa using h2
     simp (disch:=try exact DI) only [↓PR,QR,simprocAttr,(hB.c3 E2).1,(hB.c3 E2).2,d1,d2]
     unfold n15c1
     simp (disch:=try exact DI) only [↓PR,QR,simprocAttr]
     exact ⟨stop (by unfold wideB;simp;omega),ee⟩
   have d2:decide (q.1 > q.2)=false:=by simpa using h2
   by_cases h3:q.2≥34359738368
   · have d3:decide (q.2≥34359738368)=true:=by simpa using h3
     simp (disch:=try exact DI) only [↓PR,QR,simprocAttr,(hB.c3 E2).1,(hB.c3 E2).2,d1,d2,d3]
     unfold n15c1
     simp (disch:=try exact DI) only [↓PR,QR,simprocAttr,(hB.c3 E2).1,(hB.c3 E2).2,d3]
     exact ⟨stop (by unfold wideB;simp;omega),ee⟩
   have d3:decide (q.2≥34359738368)=false:=by simpa using h3
   simp (disch:=try exact DI) only [↓PR,QR,simprocAttr,(hB.c3 E2).1,(hB.c3 E2).2,d1,d2,d3]
   unfold n15c1
   simp (disch:=try exact DI) only [↓PR,QR,simprocAttr,(hB.c3 E2).1,(hB.c3 E2).2,d3]
   refine ⟨⟨k+1,by first | trivial | rfl,by first | trivial | rfl,by omega,e.trans e2.wdrew,fun i z hi hz=>?_⟩,meas_lt hlt⟩
   by_cases hij:i=k
   · subst hij;rw [hx] at hz;injection hz with hz;subst hz;rw [hq'];unfold wideB;simp;omega
   · exact hI i z (by omega) hz
 · subst hk
   have E:=E1.trans e
   have f:=e1.trans e
   obtain ⟨hsm,hiv⟩:=iv_fine hsz hin (fun t ht=>by obtain ⟨j,hj⟩:=List.getElem?_of_mem ht;exact hI j t (List.getElem?_eq_some_iff.1 hj).1 hj)
   rw [hiv]
   clear hiv hI
   unfold n15c14
   simp (disch:=try exact DI) only [↓PR,QR,simprocAttr,hBW.c2,hdec]
   unfold n15c12
   simp (disch:=try exact DI) only [↓PR,QR,simprocAttr]
   obtain ⟨hall,⟨mL,hmL,hvL⟩,⟨mH,hmH,hvH⟩⟩:=mix_least (rp:=rp) (ts:=ts) (fun t ht=>⟨hin t ht,hsm t ht⟩)
   have hp16:2 ^ ts.length≤16:=by
    have:(2:Nat) ^ ts.length≤2 ^ 4:=Nat.pow_le_pow_right (by decide) h4
    exact this
   have hpow:IntKind.i64.wrap (1*2 ^ ((ts.length:Int)).toNat)=((2 ^ ts.length:Nat):Int):=by
    rw [Int.toNat_natCast,Int.one_mul]
    rw [show ((2:Int) ^ ts.length)=((2 ^ ts.length:Nat):Int) by simp]
    exact wrap_ok (by omega) (by omega)
   have hbase : -1048576≤base∧base≤1048576:=by unfold smallB at hb;simpa using hb
   refine loop3_intro (fun x y i w'=>∃ (lo hi:Int) (mix:Nat),x = .int .i64 lo∧y = .int .i64 hi∧i = .int .i64 mix∧mix≤2 ^ ts.length∧Ext w0 w'∧Ext W w'∧(mix≠0→base+sumT (endF rp true) ts≤lo∧hi≤base+sumT (endF rp false) ts)∧∀ j,j < mix→lo≤base+mixS rp j 0 ts∧base+mixS rp j 0 ts≤hi) (fun _ _ i _=>2 ^ ts.length - (intOf i).toNat) ⟨0,0,0,rfl,rfl,rfl,Nat.zero_le _,E,f,by simp,by intro j h;omega⟩ ?_
   rintro _ _ _ w3 ⟨lo,hi,mix,rfl,rfl,rfl,hmix,E3,f3,hLH,hall3⟩
   unfold n15c11
   by_cases hm:mix < 2 ^ ts.length
   · have d1:decide ((mix:Int) < ((2 ^ ts.length:Nat):Int))=true:=by simp only [decide_eq_true_eq];exact Int.ofNat_lt.2 hm
     simp (disch:=try exact DI) only [↓PR,QR,simprocAttr,hBW.c2,hpow,d1]
     unfold n15c10
     simp (disch:=try exact DI) only [↓PR,QR,simprocAttr,hBW.c2]
     have hnext:∀ (n:Int) (w':World),n=base+mixS rp mix 0 ts→Ext w3 w'→n15c7 (.int .i64 lo) (.int .i64 hi) (.int .i64 (mix:Int)) (.int .i64 n) (fun t10 t11 t12 w'=>(∃ (lo hi:Int) (mix:Nat),t10 = .int .i64 lo∧t11 = .int .i64 hi∧t12 = .int .i64 mix∧mix≤2 ^ ts.length∧Ext w0 w'∧Ext W w'∧(mix≠0→base+sumT (endF rp true) ts≤lo∧hi≤base+sumT (endF rp false) ts)∧∀ j,j < mix→lo≤base+mixS rp j 0 ts∧base+mixS rp j 0 ts≤hi)∧2 ^ ts.length - (intOf t12).toNat < 2 ^ ts.length - (intOf (.int .i64 (mix:Int))).toNat) (retR fun r w'=>r=Value.tuple #[.int .i64 (base+sumT (endF rp true) ts),.int .i64 (base+sumT (endF rp false) ts),.int .i64 0]∧Ext w0 w') w':=by
      intro n w' hn e'
      have hv:=hall mix
      have hw:IntKind.i64.wrap ((mix:Int)+1)=((mix+1:Nat):Int):=by rw [wrap_ok (by omega) (by omega)];omega
      have hgo:∀ lo' hi':Int,(base+sumT (endF rp true) ts≤lo'∧hi'≤base+sumT (endF rp false) ts)→(lo'≤n∧n≤hi')→(∀ j,j < mix→lo'≤base+mixS rp j 0 ts∧base+mixS rp j 0 ts≤hi')→(∃ (lo hi:Int) (mix_1:Nat),Value.int .i64 lo' = .int .i64 lo∧Value.int .i64 hi' = .int .i64 hi∧Value.int .i64 ((mix+1:Nat):Int) = .int .i64 mix_1∧mix_1≤2 ^ ts.length∧Ext w0 w'∧Ext W w'∧(mix_1≠0→base+sumT (endF rp true) ts≤lo∧hi≤base+sumT (endF rp false) ts)∧∀ j,j < mix_1→lo≤base+mixS rp j 0 ts∧base+mixS rp j 0 ts≤hi)∧2 ^ ts.length - (intOf (Value.int .i64 ((mix+1:Nat):Int))).toNat < 2 ^ ts.length - (intOf (.int .i64 (mix:Int))).toNat:=by
       intro lo' hi' h1 h2 h3
       refine ⟨⟨lo',hi',mix+1,rfl,rfl,rfl,hm,E3.trans e',f3.trans e',fun _=>h1,fun j hj=>?_⟩,meas_lt hm⟩
       by_cases hjm:j=mix
       · subst hjm;rw [← hn];exact h2
       · exact h3 j (by omega)
      unfold n15c7
      by_cases hz:mix=0
      · subst hz
        simp (disch:=try exact DI) only [↓PR,QR,simprocAttr]
        unfold n15c6
        simp (disch:=try exact DI) only [↓PR,QR,simprocAttr]
        unfold n15c5
        simp (disch:=try exact DI) only [↓PR,QR,simprocAttr]
        exact hgo n n (by omega) (by omega) (by intro j hj;omega)
      · have d2:((mix:Int) == 0)=false:=by simp;omega
        have hl:=hLH hz
        by_cases hlo:n < lo
        · have d3:decide (n < lo)=true:=by simpa using hlo
          simp (disch:=try exact DI) only [↓PR,QR,simprocAttr,d2,d3]
          unfold n15c6
          by_cases hhi:n > hi
          · have d4:decide (n > hi)=true:=by simpa using hhi
            simp (disch:=try exact DI) only [↓PR,QR,simprocAttr,d2,d4]
            unfold n15c5
            simp (disch:=try exact DI) only [↓PR,QR,simprocAttr]
            exact hgo n n (by omega) (by omega) (fun j hj=>by have:=hall3 j hj;omega)
          · have d4:decide (n > hi)=false:=by simpa using hhi
            simp (disch:=try exact DI) only [↓PR,QR,simprocAttr,d2,d4]
            unfold n15c5
            simp (disch:=try exact DI) only [↓PR,QR,simprocAttr]
            exact hgo n hi (by omega) (by omega) (fun j hj=>by have:=hall3 j hj;omega)
        · have d3:decide (n < lo)=false:=by simpa using hlo
          simp (disch:=try exact DI) only [↓PR,QR,simprocAttr,d2,d3]
          unfold n15c6
          by_cases hhi:n > hi
          · have d4:decide (n > hi)=true:=by simpa using hhi
            simp (disch:=try exact DI) only [↓PR,QR,simprocAttr,d2,d4]
            unfold n15c5
            simp (disch:=try exact DI) only [↓PR,QR,simprocAttr]
            exact hgo lo n (by omega) (by omega) (fun j hj=>by have:=hall3 j hj;omega)
          · have d4:decide (n > hi)=false:=by simpa using hhi
            simp (disch:=try exact DI) only [↓PR,QR,simprocAttr,d2,d4]
            unfold n15c5
            simp (disch:=try exact DI) only [↓PR,QR,simprocAttr]
            exact hgo lo hi (by omega) (by omega) (fun j hj=>by have:=hall3 j hj;omega)
     refine loop2_intro (fun a0 a1 wb=>∃ (kb:Nat) (n:Int),a0 = .int .i64 n∧a1 = .int .i64 (kb:Int)∧kb≤ts.length∧Ext w3 wb∧n+mixS rp mix kb (ts.drop kb)=base+mixS rp mix 0 ts ∧ -1048576 - kb*36028797018963968≤n∧n≤1048576+kb*36028797018963968) (fun a0 a1 _=>ts.length - (intOf a1).toNat) ⟨0,base,rfl,rfl,Nat.zero_le _,ee,⟨rfl,by omega,by omega⟩⟩ ?_
     rintro _ _ wb ⟨kb,n,rfl,rfl,hkb,eb,hIb⟩
     have seb:=eb.size
     rcases drop_cases hkb with ⟨xb,hxb,hdb,hltb,hdecb⟩ | ⟨hkb,hdb,hdecb⟩
     · obtain ⟨hsum,hn1,hn2⟩:=hIb
       obtain ⟨b,o,cs,rfl,hl,hA,rfl⟩:=hel kb xb hxb
       have Eb:=E3.trans eb
       have fb:=f3.trans eb
       unfold n15c9
       simp (disch:=try exact DI) only [↓PR,QR,simprocAttr,hBW.c2,hdecb]
       unfold n15c8
       simp (disch:=try exact DI) only [↓PR,QR,simprocAttr,hBW.c2,(hA.c2 Eb).1]
       refine callK_ret (rFindRange_ret _ _ rp xb.field (hR.ext Eb)) ?_
       rintro _ w5 ⟨⟨a,rfl,ha⟩,e5⟩
       have hxm:=List.mem_of_getElem? hxb
       rcases ha with ⟨rfl,hno⟩ | ⟨j,q,rfl,hj,hq⟩
       · have:=hin xb hxm
         rw [hno] at this;cases this
       obtain ⟨b',o',cs',rfl,_,hB,rfl⟩:=hel2 j _ hj
       have hjl:(j:Int) < (rp.length:Int):=by have:=(List.getElem?_eq_some_iff.1 hj).1;omega
       have E5:=Eb.trans e5
       have f5:=fb.trans e5
       have hq':=rng_some hq
       obtain ⟨s1,s2,s3,s4,s5⟩:=hsm xb hxm
       rw [hq'] at s3 s4 s5
       unfold n15c4
       have hmod:(((mix / 2 ^ kb:Nat):Int)).tmod 2=((mix / 2 ^ kb % 2:Nat):Int):=(Int.ofNat_tmod _ 2).symm
       have hstep:∀ u:Int,u=mixT rp mix kb xb→(∃ (kb_1:Nat) (n4:Int),Value.int .i64 (n+xb.factor*u) = .int .i64 n4∧Value.int .i64 ((kb+1:Nat):Int) = .int .i64 kb_1∧kb_1≤ts.length∧n4+mixS rp mix kb_1 (ts.drop kb_1)=base+mixS rp mix 0 ts ∧ -1048576 - kb_1*36028797018963968≤n4∧n4≤1048576+kb_1*36028797018963968):=by
        intro u hu
        have hmb : -36028797018963968≤xb.factor*u∧xb.factor*u≤36028797018963968:=by
         rw [hu]
         unfold mixT
         rw [hq']
         split
         · exact mul_bound s1 s2 (by omega) s5
         · exact mul_bound s1 s2 s3 (by omega)
        refine ⟨kb+1,_,rfl,rfl,hltb,?_,by omega,by omega⟩
        rw [hdb] at hsum
        simp only [mixS] at hsum
        rw [hu]
        omega
       simp (disch:=try exact DI) only [↓PR,QR,simprocAttr,hB.c3 E5]
       rw [op_shr _ _ mix .i64 kb (by omega)]
       have hmul:∀ u:Int,u=mixT rp mix kb xb→IntKind.i64.wrap (xb.factor*u)=xb.factor*u∧IntKind.i64.wrap (n+xb.factor*u)=n+xb.factor*u:=by
        intro u hu
        have hmb : -36028797018963968≤xb.factor*u∧xb.factor*u≤36028797018963968:=by
         rw [hu]
         unfold mixT
         rw [hq']
         split
         · exact mul_bound s1 s2 (by omega) s5
         · exact mul_bound s1 s2 s3 (by omega)
        exact ⟨wrap_ok (by omega) (by omega),wrap_ok (by omega) (by omega)⟩
       by_cases hbit:mix / 2 ^ kb % 2=1
       · have f6:Ext W (w5.alloc (Obj.cells #[.string xb.field,.int .i64 q.1,.int .i64 q.2] 149)):=f5.alloc _
         have E6:Ext w0 (w5.alloc (Obj.cells #[.string xb.field,.int .i64 q.1,.int .i64 q.2] 149)):=E5.alloc _
         have hu:q.2=mixT rp mix kb xb:=by unfold mixT;rw [if_pos hbit,hq']
         have d5:((((mix / 2 ^ kb % 2:Nat)):Int) == 1)=true:=by rw [hbit];rfl
         simp (disch:=try exact DI) only [↓PR,QR,simprocAttr,hmod,d5]
         unfold n15c3
         simp (disch:=try exact DI) only [↓PR,QR,simprocAttr,hBW.c2,(hA.c2 E6).2,(hmul _ hu).1,(hmul _ hu).2]
         obtain ⟨kk,nn,h1,h2,h3,h4,h5,h6⟩:=hstep _ hu
         exact ⟨⟨kk,nn,h1,h2,h3,eb.trans (e5.alloc _),h4,h5,h6⟩,meas_lt hltb⟩
       · have f6:Ext W (w5.alloc (Obj.cells #[.string xb.field,.int .i64 q.1,.int .i64 q.2] 149)):=f5.alloc _
         have E6:Ext w0 (w5.alloc (Obj.cells #[.string xb.field,.int .i64 q.1,.int .i64 q.2] 149)):=E5.alloc _
         have hu:q.1=mixT rp mix kb xb:=by unfold mixT;rw [if_neg hbit,hq']
         have d5:((((mix / 2 ^ kb % 2:Nat)):Int) == 1)=false:=by simp only [beq_eq_false_iff_ne,ne_eq];omega
         simp (disch:=try exact DI) only [↓PR,QR,simprocAttr,hmod,d5]
         unfold n15c3
         simp (disch:=try exact DI) only [↓PR,QR,simprocAttr,hBW.c2,(hA.c2 E6).2,(hmul _ hu).1,(hmul _ hu).2]
         obtain ⟨kk,nn,h1,h2,h3,h4,h5,h6⟩:=hstep _ hu
         exact ⟨⟨kk,nn,h1,h2,h3,eb.trans (e5.alloc _),h4,h5,h6⟩,meas_lt hltb⟩
     · subst hkb
       obtain ⟨hsum,_⟩:=hIb
       have fb:=f3.trans eb
       rw [hdb] at hsum
       simp only [mixS] at hsum
       unfold n15c9
       simp (disch:=try exact DI) only [↓PR,QR,simprocAttr,hBW.c2,hdecb]
       exact hnext n wb (by omega) eb
   · have hme:mix=2 ^ ts.length:=by omega
     have d1:decide ((mix:Int) < ((2 ^ ts.length:Nat):Int))=false:=by simp only [decide_eq_false_iff_not];exact fun h=>hm (Int.ofNat_lt.1 h)
     simp (disch:=try exact DI) only [↓PR,QR,simprocAttr,hBW.c2,hpow,d1]
     have hpos:0 < 2 ^ ts.length:=Nat.two_pow_pos _
     have h1:=hLH (by omega)
     have h2:=hall3 mL (by omega)
     have h3:=hall3 mH (by omega)
     rw [hvL] at h2
     rw [hvH] at h3
     have e1:lo=base+sumT (endF rp true) ts:=by omega
     have e2:hi=base+sumT (endF rp false) ts:=by omega
     subst e1 e2
     exact ⟨rfl,E3⟩
theorem take_get {α:Type} {l:List α} {n k:Nat} {x:α} (h:(l.take n)[k]?=some x):l[k]?=some x:=by
 rw [List.getElem?_take] at h
 split at h
 · exact h
 · cases h
theorem rFind_ret (w0:World) (v:Value) (d:DefD) (s:ByteArray) (n:Nat) (hd:DefVal w0 v d) (hn:n≤d.msgs.length) :
 Ret Pg 74 #[v,.string s,.int .i64 (n:Int)] w0 fun r w'=>r = .int .i64 (idx (fun m=>decide (m.name=s)) (d.msgs.take n))∧Ext w0 w':=by
 obtain ⟨mv,rfl,hM⟩:=hd
 obtain ⟨A,c,rfl,hlc,hcm,hlm,hel⟩:=SliceOf.open hM
 have hlen:(d.msgs.take n).length=n:=by rw [List.length_take];omega
 refine n24s (R:=retR _) ?_;unfold n24
 simp (disch:=try exact DI) only [↓PR,QR,simprocAttr]
 generalize hW:World.alloc w0 _=W
 have e0:Ext w0 W:=by rw [← hW];exact ee
 have o3:W.heap[w0.heap.size]?=some (.cells #[.string d.name,.slice A d.msgs.length c,.string d.start] 24 (0,0)):=by rw [← hW];simp (disch:=try exact DI) only [↓PR,QR,simprocAttr]
 clear hW
 refine loop1_intro (fun a0 w=>∃ (k:Nat) , a0 = .int .i64 (k:Int)∧k≤(d.msgs.take n).length∧Ext W w∧∀ (j:Nat) y,j < k→(d.msgs.take n)[j]?=some y→decide (y.name=s)=false) (fun a0 _=>(d.msgs.take n).length - (intOf a0).toNat) ⟨0,rfl,Nat.zero_le _,ee,fun j y h=>by omega⟩ ?_
 rintro _ w ⟨k,rfl,hk,e,hI⟩
 have se:=e.size
 rcases drop_cases hk with ⟨x,hx,hd,hlt,hdec⟩ | ⟨hk,hd,hdec⟩
 · obtain ⟨b,o,cs,rfl,_,hA,hE⟩:=hel k x (take_get hx)
   obtain ⟨fv,rfl,hF⟩:=hE
   rw [hlen] at hdec hlt
   have hlt':k < d.msgs.length:=by omega
   have e0':=e0.trans e
   simp (disch:=try exact DI) only [↓PR,QR,simprocAttr,↓n24c1,hdec,(cells_of_heap (e.obj o3)).1,hA.c2]
   cases hp:decide (x.name=s) with
   | true =>
    simp (disch:=try exact DI) only [↓PR,QR,simprocAttr]
    exact ⟨by rw [idx_here hx hp hI],e0'⟩
   | false =>
    simp (disch:=try exact DI) only [↓PR,QR,simprocAttr]
    have hlt:k < (d.msgs.take n).length:=by omega
    exact ⟨⟨k+1,rfl,by omega,ee,before_succ hI hx hp⟩,meas_lt hlt⟩
 · rw [hlen] at hk hdec
   subst hk
   simp (disch:=try exact DI) only [↓PR,QR,simprocAttr,↓n24c1,hdec]
   exact ⟨by rw [idx_none fun j y hy=>hI j y (by have:=(List.getElem?_eq_some_iff.1 hy).1;omega) hy],e0.trans e⟩
theorem rField_ret (w0:World) (v:Value) (d:MsgD) (s:ByteArray) (n:Nat) (hd:MsgVal w0 v d) (hn:n≤d.fields.length) :
 Ret Pg 53 #[v,.string s,.int .i64 (n:Int)] w0 fun r w'=>r = .int .i64 (idx (fun m=>decide (m.name=s)) (d.fields.take n))∧Ext w0 w':=by
 obtain ⟨mv,rfl,hM⟩:=hd
 obtain ⟨A,c,rfl,hlc,hcm,hlm,hel⟩:=SliceOf.open hM
 have hlen:(d.fields.take n).length=n:=by rw [List.length_take];omega
 refine n23s (R:=retR _) ?_;unfold n23
 simp (disch:=try exact DI) only [↓PR,QR,simprocAttr]
 generalize hW:World.alloc w0 _=W
 have e0:Ext w0 W:=by rw [← hW];exact ee
 have o3:W.heap[w0.heap.size]?=some (.cells #[.string d.name,.slice A d.fields.length c] 44 (0,0)):=by rw [← hW];simp (disch:=try exact DI) only [↓PR,QR,simprocAttr]
 clear hW
 refine loop1_intro (fun a0 w=>∃ (k:Nat) , a0 = .int .i64 (k:Int)∧k≤(d.fields.take n).length∧Ext W w∧∀ (j:Nat) y,j < k→(d.fields.take n)[j]?=some y→decide (y.name=s)=false) (fun a0 _=>(d.fields.take n).length - (intOf a0).toNat) ⟨0,rfl,Nat.zero_le _,ee,fun j y h=>by omega⟩ ?_
 rintro _ w ⟨k,rfl,hk,e,hI⟩
 have se:=e.size
 rcases drop_cases hk with ⟨x,hx,hd,hlt,hdec⟩ | ⟨hk,hd,hdec⟩
 · obtain ⟨b,o,cs,rfl,_,hA,hE⟩:=hel k x (take_get hx)
   obtain ⟨tv,cv,rfl,hT,hC,ht1,hc1⟩:=hE.op
   rw [hlen] at hdec hlt
   have hlt':k < d.fields.length:=by omega
   have e0':=e0.trans e
   simp (disch:=try exact DI) only [↓PR,QR,simprocAttr,↓n23c1,hdec,(cells_of_heap (e.obj o3)).1,hA.c15]
   cases hp:decide (x.name=s) with
   | true =>
    simp (disch:=try exact DI) only [↓PR,QR,simprocAttr]
    exact ⟨by rw [idx_here hx hp hI],e0'⟩
   | false =>
    simp (disch:=try exact DI) only [↓PR,QR,simprocAttr]
    have hlt:k < (d.fields.take n).length:=by omega
    exact ⟨⟨k+1,rfl,by omega,ee,before_succ hI hx hp⟩,meas_lt hlt⟩
 · rw [hlen] at hk hdec
   subst hk
   simp (disch:=try exact DI) only [↓PR,QR,simprocAttr,↓n23c1,hdec]
   exact ⟨by rw [idx_none fun j y hy=>hI j y (by have:=(List.getElem?_eq_some_iff.1 hy).1;omega) hy],e0.trans e⟩
def hasB (s:ByteArray) (c:Int):Bool:=s.data.toList.any (fun x=>(x.toNat:Int) == c)
theorem rhas_ret (w0:World) (s:ByteArray) (c:Int) (hl:s.size≤9223372036854775806):Ret Pg 148 #[.string s,.int .u8 c] w0 fun r w'=>r = .bool (hasB s c)∧w'=w0:=by
 have hsz:s.data.toList.length=s.size:=by rw [Array.length_toList];rfl
 refine n32s (R:=retR _) ?_;unfold n32
 refine loop1_intro (fun i w'=>∃ k:Nat,i = .int .i64 k∧k≤s.data.toList.length∧w'=w0∧(s.data.toList.drop k).any (fun x=>(x.toNat:Int) == c)=hasB s c) (fun i _=>s.data.toList.length - (intOf i).toNat) ⟨0,rfl,by omega,rfl,rfl⟩ ?_
 rintro _ w2 ⟨k,rfl,hk,rfl,hI⟩
 unfold n32c2
 rcases drop_cases hk with ⟨x,hx,hd,hlt,hdec⟩ | ⟨hk,hd,hdec⟩
 · rw [hsz] at hdec
   rw [hd,List.any_cons] at hI
   simp (disch:=try exact DI) only [↓PR,QR,simprocAttr,hdec]
   unfold n32c1
   rw [op_indexS Tryz.underlying9 s .i64 k hx]
   cases hb:((x.toNat:Int) == c) with
   | true =>
    rw [hb] at hI
    simp (disch:=try exact DI) only [↓PR,QR,simprocAttr,hb]
    exact ⟨by rw [← hI];rfl,by trivial⟩
   | false =>
    rw [hb] at hI
    simp (disch:=try exact DI) only [↓PR,QR,simprocAttr,hb]
    exact ⟨⟨k+1,rfl,hlt,by trivial,by simpa using hI⟩,meas_lt hlt⟩
 · rw [hsz] at hdec
   rw [hd] at hI
   simp (disch:=try exact DI) only [↓PR,QR,simprocAttr,hdec]
   exact ⟨by rw [← hI];rfl,by trivial⟩
theorem rwide_ret (w0:World) (lo hi:Int):Ret Pg 150 #[.int .i64 lo,.int .i64 hi] w0 fun r w'=>r = .bool (wideB lo hi)∧Ext w0 w':=by
 refine n39s (R:=retR _) ?_;unfold n39
 unfold wideB
 by_cases h1:0≤lo
 · have d1:decide (lo≥0)=true:=by simpa using h1
   by_cases h2:lo≤hi
   · have d2:decide (lo≤hi)=true:=by simpa using h2
     simp (disch:=try exact DI) only [↓PR,QR,simprocAttr,d1,d2]
     unfold n39c1
     simp (disch:=try exact DI) only [↓PR,QR,simprocAttr]
     exact ⟨by simp [h1,h2],Ext.refl _⟩
   · have d2:decide (lo≤hi)=false:=by simpa using h2
     simp (disch:=try exact DI) only [↓PR,QR,simprocAttr,d1,d2]
     unfold n39c1
     simp (disch:=try exact DI) only [↓PR,QR,simprocAttr]
     exact ⟨by simp [h2],Ext.refl _⟩
 · have d1:decide (lo≥0)=false:=by simpa using h1
   simp (disch:=try exact DI) only [↓PR,QR,simprocAttr,d1]
   unfold n39c1
   simp (disch:=try exact DI) only [↓PR,QR,simprocAttr]
   exact ⟨by simp [h1],Ext.refl _⟩
def usedS (k:Int):ByteArray:=if k=1 then ⟨#[98,108,120,104]⟩ else if k=2 then ⟨#[98,108,120]⟩ else if k=3 then ⟨#[111,120,104]⟩ else if k=4 then ⟨#[115]⟩ else if k=5 then ⟨#[120,104]⟩ else if k=6 then ⟨#[111,104]⟩ else if k=7 then ⟨#[102,115]⟩ else if k=8 then ⟨#[102]⟩ else if k=9 then ⟨#[116,99]⟩ else if k=10 then ⟨#[98]⟩ else if k=11 then ⟨#[114,107]⟩ else if k=12 then ⟨#[102,115,121]⟩ else ByteArray.empty
theorem rused_ret (w0:World) (k:Int) (h1:1≤k) (h2:k≤12):Ret Pg 147 #[.int .i64 k] w0 fun r w'=>r = .string (usedS k)∧Ext w0 w':=by
 refine n38s (R:=retR _) ?_;unfold n38
 obtain ⟨n,rfl⟩:∃ n:Nat,k=n:=⟨k.toNat,by omega⟩
 have:n=1∨n=2∨n=3∨n=4∨n=5∨n=6∨n=7∨n=8∨n=9∨n=10∨n=11∨n=12:=by omega
 have hn:(n:Int) < ((13:Nat):Int):=by omega
 have hget:[Value.string ⟨#[]⟩,.string ⟨#[98,108,120,104]⟩,.string ⟨#[98,108,120]⟩,.string ⟨#[111,120,104]⟩,.string ⟨#[115]⟩,.string ⟨#[120,104]⟩,.string ⟨#[111,104]⟩,.string ⟨#[102,115]⟩,.string ⟨#[102]⟩,.string ⟨#[116,99]⟩,.string ⟨#[98]⟩,.string ⟨#[114,107]⟩,.string ⟨#[102,115,121]⟩][n*1]?=some (.string (usedS (n:Int))):=by
  rcases this with rfl | rfl | rfl | rfl | rfl | rfl | rfl | rfl | rfl | rfl | rfl | rfl<;>rfl
 simp (disch:=try exact DI) only [↓PR,QR,simprocAttr,hget]
 exact ⟨by first | trivial | rfl,ee⟩
def n36c1 (t5 t6 t7 t56:Value) (next1:KW) (R:RT) (w:World):Prop :=
 opV Pg (Instr.extract t56 0) (panK R) w fun t57 w =>
 opV Pg (Instr.extract t56 1) (panK R) w fun t58 w =>
 F0 35 t5 1 R w fun t60 w =>
 L0 33 t60 R w fun t61 w =>
 X0 33 t61 t7 R w fun t63 w =>
 F0 121 t63 0 R w fun t64 w =>
 L0 9 t64 R w fun t65 w =>
 opV Pg (Instr.build 149 #[(0,t65),(1,t57),(2,t58)]) (panK R) w fun t68 w =>
 opV Pg (Instr.buildSlice 111 1 #[(0,t68)]) (panK R) w fun t69 w =>
 opV Pg (Builtin.append_ #[111,111] 111 #[t6,t69]) (panK R) w fun t70 w =>
 B0 .add 3 true t7 (.int .i64 1) R w fun t29 w =>
 next1 t70 t29 w
def n36c2 (t2 t5 t6 t7 t38:Value) (next1:KW) (R:RT) (w:World):Prop :=
 F0 44 t2 1 R w fun t51 w =>
 L0 42 t51 R w fun t52 w =>
 X0 42 t52 t38 R w fun t54 w =>
 L0 38 t54 R w fun t55 w =>
 C0 115 #[t55] R w fun t56 w =>
 n36c1 t5 t6 t7 t56 next1 R w
def n36c3 (t2 t5 t6 t7 t38:Value) (next1:KW) (R:RT) (w:World):Prop :=
 B0 .lss 3 true t38 (.int .i64 0) R w fun t40 w =>
 joinK (fun (t48:Value) (w:World) =>
 pickK t40 (.bool true) t48 fun t49 =>
 condP t49 (
 R (.returned (.int .i64 8)) w) (
 n36c2 t2 t5 t6 t7 t38 next1 R w)) fun K3 =>
 guardP t40 false (
 F0 44 t2 1 R w fun t42 w =>
 L0 42 t42 R w fun t43 w =>
 X0 42 t43 t38 R w fun t45 w =>
 L0 38 t45 R w fun t46 w =>
 C0 114 #[t46] R w fun t47 w =>
 opV Pg (Op.unary .not t47) (panK R) w fun t48 w =>
 K3 t48 w) (
 K3 undef w)
def n36c4 (t1 t2 t5 t6 t7:Value) (C2:World→Prop) (next1:KW) (R:RT) (w:World):Prop :=
 qV Pg C2 (Instr.loadAt 44 t2) fun t30 =>
 qV Pg C2 (Instr.fieldAt 35 t5 1) fun t31 =>
 qV Pg C2 (Instr.loadAt 33 t31) fun t32 =>
 qV Pg C2 (Instr.indexAt 33 t32 t7) fun t34 =>
 qV Pg C2 (Instr.fieldAt 121 t34 0) fun t35 =>
 qV Pg C2 (Instr.loadAt 9 t35) fun t36 =>
 C0 53 #[t30,t36,t1] R w fun t38 w =>
 C2 w∧(
 n36c3 t2 t5 t6 t7 t38 next1 R w)
def n36c5 (t76 t79 t82:Value) (R:RT) (w:World):Prop :=
 pickK t79 (.bool true) t82 fun t83 =>
 joinK (fun (t86:Value) (w:World) =>
 pickK t83 (.bool true) t86 fun t87 =>
 condP t87 (
 R (.returned (.int .i64 9)) w) (
 R (.returned (.int .i64 0)) w)) fun K5 =>
 guardP t83 false (
 B0 .gtr 3 true t76 (.int .i64 1048576) R w fun t86 w =>
 K5 t86 w) (
 K5 undef w)
def n36c6 (t74:Value) (R:RT) (w:World):Prop :=
 opV Pg (Instr.extract t74 0) (panK R) w fun t75 w =>
 opV Pg (Instr.extract t74 1) (panK R) w fun t76 w =>
 opV Pg (Instr.extract t74 2) (panK R) w fun t77 w =>
 B0 .neq 3 true t77 (.int .i64 0) R w fun t79 w =>
 joinK (fun (t82:Value) (w:World) =>
 n36c5 t76 t79 t82 R w) fun K4 =>
 guardP t79 false (
 B0 .lss 3 true t75 (.int .i64 0) R w fun t82 w =>
 K4 t82 w) (
 K4 undef w)
def n36c7 (t1 t2 t5 t6 t7:Value) (next1:KW) (R:RT) (w:World):Prop :=
 F0 35 t5 1 R w fun t24 w =>
 L0 33 t24 R w fun t25 w =>
 opV Pg (Builtin.len_ #[33] 3 #[t25]) (panK R) w fun t26 w =>
 B0 .lss 3 false t7 t26 R w fun t27 w =>
 condP t27 (
 drawK w fun C2 w =>
 n36c4 t1 t2 t5 t6 t7 C2 next1 R w) (
 L0 35 t5 R w fun t72 w =>
 C0 72 #[t72,t6] R w fun t74 w =>
 n36c6 t74 R w)
def n36c8 (t1 t2 t5 t21:Value) (R:RT) (w:World):Prop :=
 opV Pg (Op.unary .not t21) (panK R) w fun t22 w =>
 condP t22 (
 R (.returned (.int .i64 9)) w) (
 loop2 (fun t6 t7 w next1 =>
 n36c7 t1 t2 t5 t6 t7 next1 R w) (Value.slice none 0 0) (.int .i64 0) w)
def n36 (t0 t1:Value) (R:RT) (w:World):Prop :=
 opV Pg (Instr.box 44 t0) (panK R) w fun t2 w =>
 F0 44 t2 1 R w fun t14 w =>
 L0 42 t14 R w fun t15 w =>
 X0 42 t15 t1 R w fun t17 w =>
 F0 38 t17 7 R w fun t18 w =>
 L0 35 t18 R w fun t19 w =>
 opV Pg (Instr.alloc 35 true (.tuple #[])) (panK R) w fun t5 w =>
 opU Pg (Instr.storeAt 35 t5 t19) (panK R) w fun w =>
 L0 35 t5 R w fun t20 w =>
 C0 112 #[t20] R w fun t21 w =>
 n36c8 t1 t2 t5 t21 R w
set_option maxHeartbeats 40000000 in
theorem n36s {t0 t1:Value} {R:RT} {w:World} (h:n36 t0 t1 R w):Calls Pg 151 #[t0,t1] w R:=by
 refine yD Tryz.func151 ?_
 refine zs<|zr<|yv h fun _ w h=>zm<|zn<|zk<|zs<|zr<|yv h fun _ w h=>yv h fun _ w h=>zm<|yv h fun _ w h=>yv h fun _ w h=>yv h fun _ w h=>yv h fun _ w h=>?_
 refine yu h fun w h=>zn<|zk<|zs<|zs<|zr<|yv h fun _ w h=>yc h c112 fun _ w h=>yv h fun _ w h=>zn<|zk<|yC h (fun h=>zs<|zr<|zm<|zn<|zk<|sim_ret<|sim_then_ret<|body_ret1 rfl rfl h) fun h=>sim_skip<|zk ?_
 refine zs<|zr<|zm<|zn<|zk<|zs<|zs<|zr<|zm<|zn<|zk<|sim_block<|yl2 [4,6,7,8,9,10,23,24,25,26,27,28,29,30,31,32,33,34,35,36,37,38,39,40,41,42,43,44,45,46,47,48,49,50,51,52,53,54,55,56,57,58,59,60,61,62,63,64,65,66,67,68,69,70] 6 7 h fun σ w next h=>zs<|zs ?_
 refine zr<|zm<|yv h fun _ w h=>yv h fun _ w h=>yx h fun _ w h=>yb h fun _ w h=>zn<|zk<|yC h (fun h=>?_) fun h=>?_
 · refine sim_skip<|zk<|zs<|sim_block<|zs<|yh [8,30,31,32,33,34,35,36,37,38] h fun C hC h=>ye 0 hC h fun _ h=>?_
   refine ye 1 hC h fun _ h=>?_
   refine ye 2 hC h fun _ h=>?_
   refine yw 3 hC ?_
   refine ye 4 hC h fun _ h=>?_
   refine ye 5 hC h fun _ h=>?_
   refine ye 6 hC h fun _ h=>?_
   refine yw 7 hC ?_
   refine yo 8 ?_
   refine yc h c53 fun _ w h=>zn ?_
   obtain ⟨hC,h⟩:=h
   refine ⟨hC,?_⟩
   refine yw 9 hC ?_
   refine yz<|zk<|zs<|zs<|sim_regionG<|yG 3<|zm<|yb h fun _ w h=>zm<|zn<|yg1 7 2 false [42,43,44,45,46,47,48] 48 h (fun _ T hT h=>?_) fun σ w h=>?_
   · refine yv h fun _ w h=>yv h fun _ w h=>zm<|yv h fun _ w h=>yv h fun _ w h=>yc h c114 fun _ w h=>yv h fun _ w h=>zn ?_
     exact zt hT h
   refine yG 1<|yp h fun _ h=>zn<|sim_end<|zk<|yC h (fun h=>zs<|zr<|zm<|zn<|zk<|sim_ret<|sim_then_ret<|sim_block_ret<|sim_then_ret<|sim_then_ret<|sim_block_ret<|sim_then_ret<|body_ret1 rfl rfl h) fun h=>sim_skip<|zk<|zs<|zr<|yv h fun _ w h=>yv h fun _ w h=>zm<|yv h fun _ w h=>?_
   refine yv h fun _ w h=>yc h c115 fun _ w h=>zm<|yv h fun _ w h=>yv h fun _ w h=>zm<|zm<|zn<|zk<|zr<|zm<|yv h fun _ w h=>yv h fun _ w h=>zm<|yv h fun _ w h=>?_
   refine yv h fun _ w h=>yv h fun _ w h=>zm<|zm<|yB h fun _ w h=>yS h fun _ w h=>yx h fun _ w h=>zm<|zn<|sim_block_normal<|zk<|zr<|zm<|yb h fun _ w h=>zm ?_
   exact zn<|zk<|⟨rfl,h⟩
 refine sim_exit<|sim_then_exit<|sim_then_exit<|sim_block_hit<|zk<|zs<|zr<|yv h fun _ w h=>zm<|yc h c72 fun _ w h=>zm<|yv h fun _ w h=>yv h fun _ w h=>yv h fun _ w h=>zm ?_
 refine zm<|zm<|zn<|zk<|zs<|zs<|sim_regionG<|yG 3<|zm<|yb h fun _ w h=>zm<|zn<|yg1 2 2 false [81,82] 82 h (fun _ T hT h=>?_) fun σ w h=>?_
 · refine zm<|yb h fun _ w h=>zn ?_
   exact zt hT h
 refine yG 2<|yp h fun _ h=>zm<|zn<|yg1 2 6 false [85,86] 86 h (fun _ T hT h=>?_) fun σ w h=>?_
 · refine zm<|yb h fun _ w h=>zn ?_
   exact zt hT h
 refine yG 1<|yp h fun _ h=>zn<|sim_end<|zk<|yC h (fun h=>zs<|zr<|zm<|zn<|zk<|sim_ret<|sim_then_ret<|body_ret1 rfl rfl h) fun h=>sim_skip<|zk<|zs<|zr<|zm<|zn<|zk<|sim_ret ?_
 exact body_ret1 rfl rfl h
def n37c1 (t1 t3 t7:Value) (next1:KV) (R:RT) (w:World):Prop :=
 F0 44 t3 1 R w fun t13 w =>
 L0 42 t13 R w fun t14 w =>
 X0 42 t14 t7 R w fun t16 w =>
 F0 38 t16 1 R w fun t17 w =>
 L0 32 t17 R w fun t18 w =>
 B0 .eql 32 true t18 (.int .i64 9) R w fun t19 w =>
 joinK (fun (t28:Value) (w:World) =>
 pickK t19 t28 (.bool false) fun t29 =>
 condP t29 (
 R (.returned (.bool true)) w) (
 B0 .add 3 true t7 (.int .i64 1) R w fun t12 w =>
 next1 t12 w)) fun K2 =>
 guardP t19 true (
 F0 44 t3 1 R w fun t21 w =>
 L0 42 t21 R w fun t22 w =>
 X0 42 t22 t7 R w fun t24 w =>
 F0 38 t24 9 R w fun t25 w =>
 L0 9 t25 R w fun t26 w =>
 B0 .eql 9 false t26 t1 R w fun t28 w =>
 K2 t28 w) (
 K2 undef w)
def n37 (t0 t1 t2:Value) (R:RT) (w:World):Prop :=
 opV Pg (Instr.box 44 t0) (panK R) w fun t3 w =>
 loop1 (fun t7 w next1 =>
 B0 .lss 3 false t7 t2 R w fun t10 w =>
 condP t10 (
 n37c1 t1 t3 t7 next1 R w) (
 R (.returned (.bool false)) w)) (.int .i64 0) w
theorem n37s {t0 t1 t2:Value} {R:RT} {w:World} (h:n37 t0 t1 t2 R w):Calls Pg 152 #[t0,t1,t2] w R:=by
 refine yD Tryz.func152 ?_
 refine zs<|zr<|yv h fun _ w h=>zm<|zn<|zk<|zs<|zs<|zr<|zm<|zn<|zk<|sim_block<|yl1 [6,7,8,9,10,11,12,13,14,15,16,17,18,19,20,21,22,23,24,25,26,27,28,29] 7 h fun σ w next h=>zs ?_
 refine zs<|zr<|zm<|zm<|yb h fun _ w h=>zn<|zk<|yC h (fun h=>?_) fun h=>?_
 · refine sim_skip<|zk<|zs<|sim_block<|zs<|sim_regionG<|yG 8<|yv h fun _ w h=>yv h fun _ w h=>zm<|yv h fun _ w h=>yv h fun _ w h=>yv h fun _ w h=>yb h fun _ w h=>zm ?_
   refine zn<|yg1 8 7 true [21,22,23,24,25,26,27,28] 28 h (fun _ T hT h=>?_) fun σ w h=>?_
   · refine yv h fun _ w h=>yv h fun _ w h=>zm<|yv h fun _ w h=>yv h fun _ w h=>yv h fun _ w h=>zm<|yb h fun _ w h=>zn ?_
     exact zt hT h
   refine yG 1<|yp h fun _ h=>zn<|sim_end<|zk<|yC h (fun h=>zs<|zr<|zm<|zn<|zk<|sim_ret<|sim_block_ret<|sim_then_ret<|sim_then_ret<|sim_block_ret<|sim_then_ret<|body_ret1 rfl rfl h) fun h=>sim_skip<|sim_block_normal<|zk<|zr<|zm<|yb h fun _ w h=>zm<|zn ?_
   exact zk<|⟨rfl,h⟩
 exact sim_exit<|sim_then_exit<|sim_then_exit<|sim_block_hit<|zk<|zs<|zr<|zm<|zn<|zk<|sim_ret<|body_ret1 rfl rfl h
def n30c1 (t11 t72:Value) (next2:KV) (R:RT) (w:World):Prop :=
 B0 .lss 3 true t72 (.int .i64 0) R w fun t73 w =>
 condP t73 (
 R (.returned (.int .i64 8)) w) (
 B0 .add 3 true t11 (.int .i64 1) R w fun t29 w =>
 next2 t29 w)
def n30c2 (t1 t5 t11 t12:Value) (next2:KV) (R:RT) (w:World):Prop :=
 L0 24 t5 R w fun t68 w =>
 F0 116 t12 2 R w fun t69 w =>
 L0 9 t69 R w fun t70 w =>
 C0 74 #[t68,t70,t1] R w fun t72 w =>
 n30c1 t11 t72 next2 R w
def n30c3 (t1 t5 t11 t12 t51 t55 t65:Value) (next2:KV) (R:RT) (w:World):Prop :=
 joinK (fun (t66:Value) (w:World) =>
 pickK t51 (.bool true) t66 fun t67 =>
 condP t67 (
 R (.returned (.int .i64 7)) w) (
 n30c2 t1 t5 t11 t12 next2 R w)) fun K8 =>
 guardP t51 false (
 pickK t55 t65 (.bool false) fun t66 =>
 K8 t66 w) (
 K8 undef w)
def n30c4 (t7 t11 t12:Value) (C3:World→Prop) (K7:KV) (R:RT) (w:World):Prop :=
 qV Pg C3 (Instr.fieldAt 116 t12 0) fun t56 =>
 qV Pg C3 (Instr.loadAt 3 t56) fun t57 =>
 qV Pg C3 (Instr.fieldAt 38 t7 11) fun t58 =>
 qV Pg C3 (Instr.loadAt 36 t58) fun t59 =>
 qV Pg C3 (binS .sub 3 true t11 (.int .i64 1)) fun t61 =>
 qV Pg C3 (Instr.indexAt 36 t59 t61) fun t62 =>
 qV Pg C3 (Instr.fieldAt 116 t62 1) fun t63 =>
 qV Pg C3 (Instr.loadAt 3 t63) fun t64 =>
 qV Pg C3 (binS .leq 3 false t57 t64) fun t65 =>
 K7 t65 w
def n30c5 (t1 t5 t7 t11 t12 t45 t50:Value) (C3:World→Prop) (next2:KV) (R:RT) (w:World):Prop :=
 pickK t45 (.bool true) t50 fun t51 =>
 joinK (fun (t55:Value) (w:World) =>
 joinK (fun (t65:Value) (w:World) =>
 n30c3 t1 t5 t11 t12 t51 t55 t65 next2 R w) fun K7 =>
 guardP t55 true (
 n30c4 t7 t11 t12 C3 K7 R w) (
 K7 undef w)) fun K6 =>
 guardP t51 false (
 qV Pg C3 (binS .gtr 3 true t11 (.int .i64 0)) fun t54 =>
 K6 t54 w) (
 K6 undef w)
def n30c6 (t1 t4 t5 t7 t11 t12 t38 t44:Value) (C3:World→Prop) (next2:KV) (R:RT) (w:World):Prop :=
 pickK t38 (.bool true) t44 fun t45 =>
 joinK (fun (t50:Value) (w:World) =>
 n30c5 t1 t5 t7 t11 t12 t45 t50 C3 next2 R w) fun K5 =>
 guardP t45 false (
 qV Pg C3 (Instr.fieldAt 116 t12 1) fun t47 =>
 qV Pg C3 (Instr.loadAt 3 t47) fun t48 =>
 qV Pg C3 (binS .gtr 3 false t48 t4) fun t50 =>
 K5 t50 w) (
 K5 undef w)
def n30c7 (t1 t3 t4 t5 t7 t11 t12:Value) (C3:World→Prop) (next2:KV) (R:RT) (w:World):Prop :=
 qV Pg C3 (Instr.fieldAt 116 t12 0) fun t35 =>
 qV Pg C3 (Instr.loadAt 3 t35) fun t36 =>
 qV Pg C3 (binS .lss 3 false t36 t3) fun t38 =>
 joinK (fun (t44:Value) (w:World) =>
 n30c6 t1 t4 t5 t7 t11 t12 t38 t44 C3 next2 R w) fun K4 =>
 guardP t38 false (
 qV Pg C3 (Instr.fieldAt 116 t12 0) fun t40 =>
 qV Pg C3 (Instr.loadAt 3 t40) fun t41 =>
 qV Pg C3 (Instr.fieldAt 116 t12 1) fun t42 =>
 qV Pg C3 (Instr.loadAt 3 t42) fun t43 =>
 qV Pg C3 (binS .gtr 3 false t41 t43) fun t44 =>
 K4 t44 w) (
 K4 undef w)
def n30c8 (t1 t3 t4 t5 t7 t11:Value) (next2:KV) (R:RT) (w:World):Prop :=
 F0 38 t7 11 R w fun t30 w =>
 L0 36 t30 R w fun t31 w =>
 X0 36 t31 t11 R w fun t33 w =>
 L0 116 t33 R w fun t34 w =>
 opV Pg (Instr.alloc 116 true (.tuple #[])) (panK R) w fun t12 w =>
 opU Pg (Instr.storeAt 116 t12 t34) (panK R) w fun w =>
 drawK w fun C3 w =>
 n30c7 t1 t3 t4 t5 t7 t11 t12 C3 next2 R w
def n30c9 (t1 t3 t4 t5 t7 t11:Value) (next2:KV) (R:RT) (w:World):Prop :=
 F0 38 t7 11 R w fun t24 w =>
 L0 36 t24 R w fun t25 w =>
 opV Pg (Builtin.len_ #[36] 3 #[t25]) (panK R) w fun t26 w =>
 B0 .lss 3 false t11 t26 R w fun t27 w =>
 condP t27 (
 n30c8 t1 t3 t4 t5 t7 t11 next2 R w) (
 R (.returned (.int .i64 0)) w)
def n30 (t0 t1 t2 t3 t4:Value) (R:RT) (w:World):Prop :=
 opV Pg (Instr.box 24 t0) (panK R) w fun t5 w =>
 opV Pg (Instr.box 38 t2) (panK R) w fun t7 w =>
 F0 38 t7 11 R w fun t13 w =>
 L0 36 t13 R w fun t14 w =>
 opV Pg (Builtin.len_ #[36] 3 #[t14]) (panK R) w fun t15 w =>
 B0 .lss 3 true t15 (.int .i64 1) R w fun t16 w =>
 joinK (fun (t21:Value) (w:World) =>
 pickK t16 (.bool true) t21 fun t22 =>
 condP t22 (
 R (.returned (.int .i64 3)) w) (
 loop1 (fun t11 w next2 =>
 n30c9 t1 t3 t4 t5 t7 t11 next2 R w) (.int .i64 0) w)) fun K1 =>
 guardP t16 false (
 F0 38 t7 11 R w fun t18 w =>
 L0 36 t18 R w fun t19 w =>
 opV Pg (Builtin.len_ #[36] 3 #[t19]) (panK R) w fun t20 w =>
 B0 .gtr 3 true t20 (.int .i64 40) R w fun t21 w =>
 K1 t21 w) (
 K1 undef w)
set_option maxHeartbeats 40000000 in
theorem n30s {t0 t1 t2 t3 t4:Value} {R:RT} {w:World} (h:n30 t0 t1 t2 t3 t4 R w):Calls Pg 153 #[t0,t1,t2,t3,t4] w R:=by
 refine yD Tryz.func153 ?_
 refine zs<|zr<|yv h fun _ w h=>yv h fun _ w h=>zm<|zn<|zk<|zs<|zs<|sim_regionG<|yG 5<|yv h fun _ w h=>yv h fun _ w h=>yx h fun _ w h=>yb h fun _ w h=>?_
 refine zm<|zn<|yg1 4 4 false [18,19,20,21] 21 h (fun _ T hT h=>?_) fun σ w h=>?_
 · refine yv h fun _ w h=>yv h fun _ w h=>yx h fun _ w h=>yb h fun _ w h=>zn ?_
   exact zt hT h
 refine yG 1<|yp h fun _ h=>zn<|sim_end<|zk<|yC h (fun h=>zs<|zr<|zm<|zn<|zk<|sim_ret<|sim_then_ret<|body_ret1 rfl rfl h) fun h=>sim_skip<|zk<|zs<|zs<|zr<|zm<|zn<|zk ?_
 refine sim_block<|yl1 [10,11,12,23,24,25,26,27,28,29,30,31,32,33,34,35,36,37,38,39,40,41,42,43,44,45,46,47,48,49,50,51,52,53,54,55,56,57,58,59,60,61,62,63,64,65,66,67,68,69,70,71,72,73] 11 h fun σ w next h=>zs<|zs<|zr<|zm<|yv h fun _ w h=>yv h fun _ w h=>yx h fun _ w h=>yb h fun _ w h=>zn<|zk<|yC h (fun h=>?_) fun h=>?_
 · refine sim_skip<|zk<|zs<|sim_block<|zs<|zr<|yv h fun _ w h=>yv h fun _ w h=>zm<|yv h fun _ w h=>yv h fun _ w h=>yv h fun _ w h=>yu h fun w h=>zn<|zk ?_
   refine zs<|zs<|yh [35,36,37,38,39,40,41,42,43,44,45,46,47,48,49,50,51,52,53,54,55,56,57,58,59,60,61,62,63,64,65,66,67] h fun C hC h=>ye 0 hC h fun _ h=>?_
   refine ye 1 hC h fun _ h=>?_
   refine yw 2 hC ?_
   refine ye 3 hC h fun _ h=>?_
   refine yw 4 hC ?_
   refine yj1 23 [9,8,7,6,5,4,3,2,1,0] [40,41,42,43,44] 44 h (fun _ hT hb h=>?_) (fun _ hT hb h=>?_) fun σ w hC h=>?_
   · refine ye 5 hC h fun _ h=>?_
     refine ye 6 hC h fun _ h=>?_
     refine ye 7 hC h fun _ h=>?_
     refine ye 8 hC h fun _ h=>?_
     refine ye 9 hC h fun _ h=>?_
     exact yt hT hC h
   · refine yi 5 hC ?_
     refine yi 6 hC ?_
     refine yi 7 hC ?_
     refine yi 8 hC ?_
     refine yi 9 hC ?_
     exact yt hT hC h
   refine yP 10 hC h fun _ h=>?_
   refine yw 11 hC ?_
   refine yj1 17 [15,14,13,12,11,10,9,8,7,6,5,4,3,2,1,0] [47,48,49,50] 50 h (fun _ hT hb h=>?_) (fun _ hT hb h=>?_) fun σ w hC h=>?_
   · refine ye 12 hC h fun _ h=>?_
     refine ye 13 hC h fun _ h=>?_
     refine yw 14 hC ?_
     refine ye 15 hC h fun _ h=>?_
     exact yt hT hC h
   · refine yi 12 hC ?_
     refine yi 13 hC ?_
     refine yi 14 hC ?_
     refine yi 15 hC ?_
     exact yt hT hC h
   refine yP 16 hC h fun _ h=>?_
   refine yw 17 hC ?_
   refine yj1 12 [20,19,18,17,16,15,14,13,12,11,10,9,8,7,6,5,4,3,2,1,0] [53,54,55] 55 h (fun _ hT hb h=>?_) (fun _ hT hb h=>?_) fun σ w hC h=>?_
   · refine yw 18 hC ?_
     refine ye 19 hC h fun _ h=>?_
     refine yw 20 hC ?_
     exact yt hT hC h
   · refine yi 18 hC ?_
     refine yi 19 hC ?_
     refine yi 20 hC ?_
     exact yt hT hC h
   refine yj1 2 [30,29,28,27,26,25,24,23,22,21,20,19,18,17,16,15,14,13,12,11,10,9,8,7,6,5,4,3,2,1,0] [56,57,58,59,60,61,62,63,64,65] 65 h (fun _ hT hb h=>?_) (fun _ hT hb h=>?_) fun σ w hC h=>?_
   · refine ye 21 hC h fun _ h=>?_
     refine ye 22 hC h fun _ h=>?_
     refine ye 23 hC h fun _ h=>?_
     refine ye 24 hC h fun _ h=>?_
     refine yw 25 hC ?_
     refine ye 26 hC h fun _ h=>?_
     refine ye 27 hC h fun _ h=>?_
     refine ye 28 hC h fun _ h=>?_
     refine ye 29 hC h fun _ h=>?_
     refine ye 30 hC h fun _ h=>?_
     exact yt hT hC h
   · refine yi 21 hC ?_
     refine yi 22 hC ?_
     refine yi 23 hC ?_
     refine yi 24 hC ?_
     refine yi 25 hC ?_
     refine yi 26 hC ?_
     refine yi 27 hC ?_
     refine yi 28 hC ?_
     refine yi 29 hC ?_
     refine yi 30 hC ?_
     exact yt hT hC h
   refine yj1 1 [31,30,29,28,27,26,25,24,23,22,21,20,19,18,17,16,15,14,13,12,11,10,9,8,7,6,5,4,3,2,1,0] [66] 66 h (fun _ hT hb h=>?_) (fun _ hT hb h=>?_) fun σ w hC h=>?_
   · refine yP 31 hC h fun _ h=>?_
     exact yt hT hC h
   · refine yi 31 hC ?_
     exact yt hT hC h
   refine yP 32 hC h fun _ h=>?_
   refine yz<|zk<|yC h (fun h=>zs<|zr<|zm<|zn<|zk<|sim_ret<|sim_then_ret<|sim_block_ret<|sim_then_ret<|sim_then_ret<|sim_block_ret<|sim_then_ret<|body_ret1 rfl rfl h) fun h=>sim_skip<|zk<|zs<|zr<|yv h fun _ w h=>yv h fun _ w h=>yv h fun _ w h=>zm<|yc h c74 fun _ w h=>yb h fun _ w h=>zn ?_
   exact zk<|yC h (fun h=>zs<|zr<|zm<|zn<|zk<|sim_ret<|sim_block_ret<|sim_then_ret<|sim_then_ret<|sim_block_ret<|sim_then_ret<|body_ret1 rfl rfl h) fun h=>sim_skip<|sim_block_normal<|zk<|zr<|zm<|yb h fun _ w h=>zm<|zn<|zk<|⟨rfl,h⟩
 exact sim_exit<|sim_then_exit<|sim_then_exit<|sim_block_hit<|zk<|zs<|zr<|zm<|zn<|zk<|sim_ret<|body_ret1 rfl rfl h
theorem rtagged_ret (w0:World) (v:Value) (m:MsgD) (s:ByteArray) (n:Nat) (hm:MsgVal w0 v m) (hn:n≤m.fields.length):Ret Pg 152 #[v,.string s,.int .i64 (n:Int)] w0 fun r w'=>r = .bool ((m.fields.take n).any (taggedP s))∧Ext w0 w':=by
 obtain ⟨fv,rfl,hF⟩:=hm
 obtain ⟨A,c,rfl,hlc,hcm,hlm,hel⟩:=SliceOf.open hF
 refine n37s (R:=retR _) ?_;unfold n37
 simp (disch:=try exact DI) only [↓PR,QR,simprocAttr]
 have hBW:=ElemAt.new (w:=w0) (msgCells m (.slice A m.fields.length c)) (44)
 have eW:Ext w0 (w0.alloc (Obj.cells (List.toArray (msgCells m (.slice A m.fields.length c))) (44))):=(Ext.refl _).alloc _
 generalize (w0.alloc (Obj.cells (List.toArray (msgCells m (.slice A m.fields.length c))) (44)))=W at hBW eW ⊢
 have hlen:(m.fields.take n).length=n:=by rw [List.length_take];omega
 refine loop1_intro (fun i w'=>∃ k:Nat,i = .int .i64 k∧k≤n∧Ext W w'∧∀ j x,j < k→m.fields[j]?=some x→taggedP s x=false) (fun i _=>n - (intOf i).toNat) ⟨0,rfl,by omega,Ext.refl _,by intro j x h;omega⟩ ?_
 rintro _ w ⟨k,rfl,hk,e,hI⟩
 have E:=eW.trans e
 by_cases hkn:k < n
 · obtain ⟨x,hx⟩:=getElem?_lt (l:=m.fields) (k:=k) (by omega)
   obtain ⟨b,o,cs,rfl,hl,hA,hE⟩:=hel k x hx
   obtain ⟨tv,cv,rfl,hT,hC,ht1,hc1⟩:=hE.op
   have hcell:=hA.c15 E
   have d1:decide ((k:Int) < (n:Int))=true:=by simp;omega
   have hkl:(k:Int) < (m.fields.length:Int):=by omega
   have stop:taggedP s x=true→(m.fields.take n).any (taggedP s)=true:=fun h=>List.any_eq_true.2 ⟨x,List.mem_of_getElem? (i:=k) (by rw [List.getElem?_take,if_pos hkn];exact hx),h⟩
   have next:taggedP s x=false→∀ w',Ext W w'→(∃ k_1:Nat,Value.int .i64 ((k+1:Nat):Int) = .int .i64 k_1∧k_1≤n∧Ext W w'∧∀ j x,j < k_1→m.fields[j]?=some x→taggedP s x=false)∧n - (intOf (Value.int .i64 ((k+1:Nat):Int))).toNat < n - (intOf (Value.int .i64 (k:Int))).toNat:=by
    intro h w' e'
    refine ⟨⟨k+1,rfl,hkn,e',fun j y hj hy=>?_⟩,meas_lt hkn⟩
    by_cases hjk:j=k
    · subst hjk;rw [hx] at hy;injection hy with hy;subst hy;exact h
    · exact hI j y (by omega) hy
   simp (disch:=try exact DI) only [↓PR,QR,simprocAttr,d1]
   unfold n37c1
   cases hk9:(x.kind == 9) with
   | false =>
    simp (disch:=try exact DI) only [↓PR,QR,simprocAttr,hBW.c2,hcell,hk9]
    exact next (by unfold taggedP;rw [hk9];rfl) _ e
   | true =>
    by_cases hs:x.tag=s
    · simp (disch:=try exact DI) only [↓PR,QR,simprocAttr,hBW.c2,hcell,hk9,show decide (x.tag=s)=true by simp [hs]]
      exact ⟨by rw [stop (by unfold taggedP;rw [hk9];simp [hs])],E⟩
    · simp (disch:=try exact DI) only [↓PR,QR,simprocAttr,hBW.c2,hcell,hk9,show decide (x.tag=s)=false by simp [hs]]
      exact next (by unfold taggedP;simp [hs]) _ e
 · have hke:k=n:=by omega
   subst hke
   have d1:decide ((k:Int) < (k:Int))=false:=by simp
   simp (disch:=try exact DI) only [↓PR,QR,simprocAttr,d1]
   refine ⟨?_,E⟩
   congr 1
   symm
   rw [List.any_eq_false]
   intro x hx
   obtain ⟨j,hj⟩:=List.getElem?_of_mem hx
   rw [List.getElem?_take] at hj
   split at hj
   · rw [hI j x (by assumption) hj];decide
   · cases hj
def numC (f:FieldD):Int:=if bitsB f then (if f.low < 0∨f.low > (if f.kind=2 then f.low else f.high)∨(if f.kind=2 then f.low else f.high)≥2 ^ f.bits.toNat then 7 else 0) else 6
theorem numC_one {f:FieldD} (h:f.kind=1):numC f=orC (needC (bitsB f) 6) (withinC (topF f) 0 [f.low,f.high]):=by
 unfold numC topF
 have h2:¬ f.kind=2:=by omega
 simp only [if_neg h2]
 clear h h2
 cases bitsB f with
 | false=>rfl
 | true =>
  have hp:(0:Int) < 2 ^ f.bits.toNat:=Int.pow_pos (by decide)
  generalize (2:Int) ^ f.bits.toNat=q at *
  simp only [needC,if_true,orC,withinC]
  split<;>simp only [Bool.and_eq_true,decide_eq_true_eq]<;>(repeat' split)<;>first | rfl | omega | (simp only [Bool.and_eq_true,decide_eq_true_eq] at *;omega)
theorem numC_two {f:FieldD} (h:f.kind=2):numC f=orC (needC (bitsB f) 6) (withinC (topF f) 0 [f.low]):=by
 unfold numC topF
 simp only [if_pos h]
 clear h
 cases bitsB f with
 | false=>rfl
 | true =>
  have hp:(0:Int) < 2 ^ f.bits.toNat:=Int.pow_pos (by decide)
  generalize (2:Int) ^ f.bits.toNat=q at *
  simp only [needC,if_true,orC,withinC]
  split<;>simp only [Bool.and_eq_true,decide_eq_true_eq]<;>(repeat' split)<;>first | rfl | omega | (simp only [Bool.and_eq_true,decide_eq_true_eq] at *;omega)
theorem rnumber_ret (w0:World) (v:Value) (f:FieldD) (hf:FieldVal w0 v f):Ret Pg 149 #[v] w0 fun r w'=>r = .int .i64 (numC f)∧Ext w0 w':=by
 obtain ⟨tv,cv,rfl,hT,hC,ht1,hc1⟩:=hf.op
 refine n35s (R:=retR _) ?_;unfold n35
 simp (disch:=try exact DI) only [↓PR,QR,simprocAttr]
 have hBW:=ElemAt.new (w:=w0) (fieldCells f tv cv) (38)
 have eW:Ext w0 (w0.alloc (Obj.cells (List.toArray (fieldCells f tv cv)) (38))):=(Ext.refl _).alloc _
 generalize (w0.alloc (Obj.cells (List.toArray (fieldCells f tv cv)) (38)))=W at hBW eW ⊢
 have hcell:=hBW.c15 (Ext.refl W)
 have hbad:bitsB f=false→Value.int .i64 6 = .int .i64 (numC f):=fun h=>by unfold numC;rw [h];rfl
 by_cases h1:f.bits < 1
 · have d1:decide (f.bits < 1)=true:=by simpa using h1
   simp (disch:=try exact DI) only [↓PR,QR,simprocAttr,hcell,d1,↓n35c1,↓n35c2,↓n35c3,↓n35c4,↓n35c5,↓n35c6,↓n35c7,↓n35c8]
   exact ⟨hbad (by unfold bitsB;simp;omega),eW⟩
 have d1:decide (f.bits < 1)=false:=by simpa using h1
 by_cases h2:f.bits > 32
 · have d2:decide (f.bits > 32)=true:=by simpa using h2
   simp (disch:=try exact DI) only [↓PR,QR,simprocAttr,hcell,d1,d2,↓n35c1,↓n35c2,↓n35c3,↓n35c4,↓n35c5,↓n35c6,↓n35c7,↓n35c8]
   exact ⟨hbad (by unfold bitsB;simp;omega),eW⟩
 have d2:decide (f.bits > 32)=false:=by simpa using h2
 have hsh:IntKind.i64.wrap (1*2 ^ f.bits.toNat)=2 ^ f.bits.toNat:=by
  have hle:f.bits.toNat≤32:=by omega
  have hq:(2:Nat) ^ f.bits.toNat≤2 ^ 32:=Nat.pow_le_pow_right (by decide) hle
  have hc:(2:Int) ^ f.bits.toNat=((2 ^ f.bits.toNat:Nat):Int):=by simp
  rw [Int.one_mul,hc]
  generalize (2:Nat) ^ f.bits.toNat=q at *
  have:(2:Nat) ^ 32=4294967296:=rfl
  exact wrap_ok (by omega) (by omega)
 have hrest:bitsB f=true→n35c3 (.pointer (some ⟨w0.heap.size,0,none⟩)) (retR fun r w'=>r = .int .i64 (numC f)∧Ext w0 w') W:=by
  intro hb
  have hv:numC f=if f.low < 0∨f.low > (if f.kind=2 then f.low else f.high)∨(if f.kind=2 then f.low else f.high)≥2 ^ f.bits.toNat then 7 else 0:=by unfold numC;rw [if_pos hb]
  rw [hv]
  clear hv
  have tail:∀ top:Int,top=(if f.kind=2 then f.low else f.high)→n35c2 (.pointer (some ⟨w0.heap.size,0,none⟩)) (.int .i64 top) (retR fun r w'=>r = .int .i64 (if f.low < 0∨f.low > (if f.kind=2 then f.low else f.high)∨(if f.kind=2 then f.low else f.high)≥2 ^ f.bits.toNat then 7 else 0)∧Ext w0 w') W:=by
   intro top ht
   rw [← ht]
   have h0:(0:Int)≤f.bits:=by omega
   have h64:f.bits≤64:=by omega
   unfold n35c2
   by_cases a1:f.low < 0
   · simp (disch:=try exact DI) only [↓PR,QR,simprocAttr,hcell,show decide (f.low < 0)=true by simpa using a1]
     unfold n35c1
     simp (disch:=try exact DI) only [↓PR,QR,simprocAttr]
     exact ⟨by rw [if_pos (.inl a1)],eW⟩
   by_cases a2:f.low > top
   · simp (disch:=try exact DI) only [↓PR,QR,simprocAttr,hcell,show decide (f.low < 0)=false by simpa using a1,show decide (f.low > top)=true by simpa using a2]
     unfold n35c1
     simp (disch:=try exact DI) only [↓PR,QR,simprocAttr]
     exact ⟨by rw [if_pos (.inr (.inl a2))],eW⟩
   by_cases a3:top≥2 ^ f.bits.toNat
   · simp (disch:=try exact DI) only [↓PR,QR,simprocAttr,hcell,show decide (f.low < 0)=false by simpa using a1,show decide (f.low > top)=false by simpa using a2]
     unfold n35c1
     simp (disch:=try exact DI) only [↓PR,QR,simprocAttr,hcell,hsh,show decide (top≥2 ^ f.bits.toNat)=true by simpa using a3]
     exact ⟨by rw [if_pos (.inr (.inr a3))],eW⟩
   · simp (disch:=try exact DI) only [↓PR,QR,simprocAttr,hcell,show decide (f.low < 0)=false by simpa using a1,show decide (f.low > top)=false by simpa using a2]
     unfold n35c1
     simp (disch:=try exact DI) only [↓PR,QR,simprocAttr,hcell,hsh,show decide (top≥2 ^ f.bits.toNat)=false by simpa using a3]
     exact ⟨by rw [if_neg (by rintro (h | h | h)<;>contradiction)],eW⟩
  unfold n35c3
  by_cases hk:f.kind=2
  · simp (disch:=try exact DI) only [↓PR,QR,simprocAttr,hcell,show (f.kind == 2)=true by simpa using hk]
    exact tail _ (by rw [if_pos hk])
  · simp (disch:=try exact DI) only [↓PR,QR,simprocAttr,hcell,show (f.kind == 2)=false by simpa using hk]
    exact tail _ (by rw [if_neg hk])
 cases hli:f.little with
 | false =>
  simp (disch:=try exact DI) only [↓PR,QR,simprocAttr,hcell,hli,d1,d2,↓n35c8,↓n35c7,↓n35c6,↓n35c5,↓n35c4]
  exact hrest (by unfold bitsB;rw [hli];simp;omega)
 | true =>
  by_cases h16:f.bits=16
  · simp (disch:=try exact DI) only [↓PR,QR,simprocAttr,hcell,hli,d1,d2,show (f.bits != 16)=false by simp [h16],↓n35c8,↓n35c7,↓n35c6,↓n35c5,↓n35c4]
    exact hrest (by unfold bitsB;rw [hli,h16];rfl)
  by_cases h24:f.bits=24
  · simp (disch:=try exact DI) only [↓PR,QR,simprocAttr,hcell,hli,d1,d2,show (f.bits != 16)=true by simp [h16],show (f.bits != 24)=false by simp [h24],↓n35c8,↓n35c7,↓n35c6,↓n35c5,↓n35c4]
    exact hrest (by unfold bitsB;rw [hli,h24];rfl)
  by_cases h32:f.bits=32
  · simp (disch:=try exact DI) only [↓PR,QR,simprocAttr,hcell,hli,d1,d2,show (f.bits != 16)=true by simp [h16],show (f.bits != 24)=true by simp [h24],show (f.bits != 32)=false by simp [h32],↓n35c8,↓n35c7,↓n35c6,↓n35c5,↓n35c4]
    exact hrest (by unfold bitsB;rw [hli,h32];rfl)
  · simp (disch:=try exact DI) only [↓PR,QR,simprocAttr,hcell,hli,d1,d2,show (f.bits != 16)=true by simp [h16],show (f.bits != 24)=true by simp [h24],show (f.bits != 32)=true by simp [h32],↓n35c8,↓n35c7,↓n35c6,↓n35c5,↓n35c4]
    refine ⟨hbad ?_,eW⟩
    unfold bitsB
    rw [hli]
    by_cases h8:8 < f.bits
    · have:f.bits.tmod 8≠0:=by
       rw [Int.tmod_eq_emod_of_nonneg (by omega)];omega
      simp [this]
    · simp [h8]
def zeroB (f:FieldD):Bool :=
 (hasB (usedS f.kind) 98||!(f.bits != 0))&&((hasB (usedS f.kind) 108||!f.little)&&((hasB (usedS f.kind) 111||!f.loose)&&((hasB (usedS f.kind) 120||!(f.low != 0))&&((hasB (usedS f.kind) 104||!(f.high != 0)) &&
 ((hasB (usedS f.kind) 115||!(f.base != 0||(f.terms.length:Int) != 0))&&((hasB (usedS f.kind) 102||!!decide (f.of=⟨#[]⟩))&&((hasB (usedS f.kind) 116||!!decide (f.tag=⟨#[]⟩))&&((hasB (usedS f.kind) 114||!!decide (f.fr=⟨#[]⟩)) &&
 ((hasB (usedS f.kind) 99||(f.cases.length:Int) == 0)&&((hasB (usedS f.kind) 107||f.check == 0)&&(hasB (usedS f.kind) 121||f.key == 0)))))))))))
theorem zeroB_clear {f:FieldD} (h:1≤f.kind∧f.kind≤12):zeroB f=decide (clearK f=bareF f):=by
 have:f.kind=1∨f.kind=2∨f.kind=3∨f.kind=4∨f.kind=5∨f.kind=6∨f.kind=7∨f.kind=8∨f.kind=9∨f.kind=10∨f.kind=11∨f.kind=12:=by omega
 have e:(⟨#[]⟩:ByteArray)=ByteArray.empty:=rfl
 rw [Bool.eq_iff_iff]
 unfold zeroB
 rcases this with hk | hk | hk | hk | hk | hk | hk | hk | hk | hk | hk | hk
 all_goals
  simp [clearK,clear1,clear2,clear3,clear4,clear5,clear6,clear7,clear8,clear9,clear10,clear11,clear12,bareF,hk,usedS,hasB,FieldD.mk.injEq,and_assoc,e]
  try omega
theorem HT:hasB (usedS 1) 98=true∧hasB (usedS 1) 108=true∧hasB (usedS 1) 111=false∧hasB (usedS 1) 120=true∧hasB (usedS 1) 104=true∧hasB (usedS 1) 115=false∧hasB (usedS 1) 102=false∧hasB (usedS 1) 116=false∧hasB (usedS 1) 114=false∧hasB (usedS 1) 99=false∧hasB (usedS 1) 107=false∧hasB (usedS 1) 121=false∧hasB (usedS 2) 98=true∧hasB (usedS 2) 108=true∧hasB (usedS 2) 111=false∧hasB (usedS 2) 120=true∧hasB (usedS 2) 104=false∧hasB (usedS 2) 115=false∧hasB (usedS 2) 102=false∧hasB (usedS 2) 116=false∧hasB (usedS 2) 114=false∧hasB (usedS 2) 99=false∧hasB (usedS 2) 107=false∧hasB (usedS 2) 121=false∧hasB (usedS 3) 98=false∧hasB (usedS 3) 108=false∧hasB (usedS 3) 111=true∧hasB (usedS 3) 120=true∧hasB (usedS 3) 104=true∧hasB (usedS 3) 115=false∧hasB (usedS 3) 102=false∧hasB (usedS 3) 116=false∧hasB (usedS 3) 114=false∧hasB (usedS 3) 99=false∧hasB (usedS 3) 107=false∧hasB (usedS 3) 121=false∧hasB (usedS 4) 98=false∧hasB (usedS 4) 108=false∧hasB (usedS 4) 111=false∧hasB (usedS 4) 120=false∧hasB (usedS 4) 104=false∧hasB (usedS 4) 115=true∧hasB (usedS 4) 102=false∧hasB (usedS 4) 116=false∧hasB (usedS 4) 114=false∧hasB (usedS 4) 99=false∧hasB (usedS 4) 107=false∧hasB (usedS 4) 121=false∧hasB (usedS 5) 98=false∧hasB (usedS 5) 108=false∧hasB (usedS 5) 111=false∧hasB (usedS 5) 120=true∧hasB (usedS 5) 104=true∧hasB (usedS 5) 115=false∧hasB (usedS 5) 102=false∧hasB (usedS 5) 116=false∧hasB (usedS 5) 114=false∧hasB (usedS 5) 99=false∧hasB (usedS 5) 107=false∧hasB (usedS 5) 121=false∧hasB (usedS 6) 98=false∧hasB (usedS 6) 108=false∧hasB (usedS 6) 111=true∧hasB (usedS 6) 120=false∧hasB (usedS 6) 104=true∧hasB (usedS 6) 115=false∧hasB (usedS 6) 102=false∧hasB (usedS 6) 116=false∧hasB (usedS 6) 114=false∧hasB (usedS 6) 99=false∧hasB (usedS 6) 107=false∧hasB (usedS 6) 121=false∧hasB (usedS 7) 98=false∧hasB (usedS 7) 108=false∧hasB (usedS 7) 111=false∧hasB (usedS 7) 120=false∧hasB (usedS 7) 104=false∧hasB (usedS 7) 115=true∧hasB (usedS 7) 102=true∧hasB (usedS 7) 116=false∧hasB (usedS 7) 114=false∧hasB (usedS 7) 99=false∧hasB (usedS 7) 107=false∧hasB (usedS 7) 121=false∧hasB (usedS 8) 98=false∧hasB (usedS 8) 108=false∧hasB (usedS 8) 111=false∧hasB (usedS 8) 120=false∧hasB (usedS 8) 104=false∧hasB (usedS 8) 115=false∧hasB (usedS 8) 102=true∧hasB (usedS 8) 116=false∧hasB (usedS 8) 114=false∧hasB (usedS 8) 99=false∧hasB (usedS 8) 107=false∧hasB (usedS 8) 121=false∧hasB (usedS 9) 98=false∧hasB (usedS 9) 108=false∧hasB (usedS 9) 111=false∧hasB (usedS 9) 120=false∧hasB (usedS 9) 104=false∧hasB (usedS 9) 115=false∧hasB (usedS 9) 102=false∧hasB (usedS 9) 116=true∧hasB (usedS 9) 114=false∧hasB (usedS 9) 99=true∧hasB (usedS 9) 107=false∧hasB (usedS 9) 121=false∧hasB (usedS 10) 98=true∧hasB (usedS 10) 108=false∧hasB (usedS 10) 111=false∧hasB (usedS 10) 120=false∧hasB (usedS 10) 104=false∧hasB (usedS 10) 115=false∧hasB (usedS 10) 102=false∧hasB (usedS 10) 116=false∧hasB (usedS 10) 114=false∧hasB (usedS 10) 99=false∧hasB (usedS 10) 107=false∧hasB (usedS 10) 121=false∧hasB (usedS 11) 98=false∧hasB (usedS 11) 108=false∧hasB (usedS 11) 111=false∧hasB (usedS 11) 120=false∧hasB (usedS 11) 104=false∧hasB (usedS 11) 115=false∧hasB (usedS 11) 102=false∧hasB (usedS 11) 116=false∧hasB (usedS 11) 114=true∧hasB (usedS 11) 99=false∧hasB (usedS 11) 107=true∧hasB (usedS 11) 121=false∧hasB (usedS 12) 98=false∧hasB (usedS 12) 108=false∧hasB (usedS 12) 111=false∧hasB (usedS 12) 120=false∧hasB (usedS 12) 104=false∧hasB (usedS 12) 115=true∧hasB (usedS 12) 102=true∧hasB (usedS 12) 116=false∧hasB (usedS 12) 114=false∧hasB (usedS 12) 99=false∧hasB (usedS 12) 107=false∧hasB (usedS 12) 121=true:=by
 repeat' apply And.intro
 all_goals decide
theorem rzero_ret (w0:World) (v:Value) (f:FieldD) (hf:FieldVal w0 v f) (hk:1≤f.kind∧f.kind≤12):Ret Pg 128 #[v] w0 fun r w'=>r = .bool (zeroB f)∧Ext w0 w':=by
 obtain ⟨tv,cv,rfl,hT,hC,_,_⟩:=hf.op
 obtain ⟨At,ct,rfl,_⟩:=SliceOf.open hT
 obtain ⟨Ac,cc,rfl,_⟩:=SliceOf.open hC
 refine n40s (R:=retR _) ?_;unfold n40
 simp (disch:=try exact DI) only [↓PR,QR,simprocAttr]
 have hBW:=ElemAt.new (w:=w0) (fieldCells f (.slice At f.terms.length ct) (.slice Ac f.cases.length cc)) (38)
 have eW:Ext w0 (w0.alloc (Obj.cells (List.toArray (fieldCells f (.slice At f.terms.length ct) (.slice Ac f.cases.length cc))) (38))):=(Ext.refl _).alloc _
 generalize (w0.alloc (Obj.cells (List.toArray (fieldCells f (.slice At f.terms.length ct) (.slice Ac f.cases.length cc))) (38)))=W at hBW eW ⊢
 have hcell:=hBW.c15 (Ext.refl W)
 simp (disch:=try exact DI) only [↓PR,QR,simprocAttr,hcell]
 refine zcr (rused_ret _ f.kind hk.1 hk.2) fun w1 e1=>?_
 have hcell:=hBW.c15 e1
 have E:=eW.trans e1
 unfold zeroB
 have this:f.kind=1∨f.kind=2∨f.kind=3∨f.kind=4∨f.kind=5∨f.kind=6∨f.kind=7∨f.kind=8∨f.kind=9∨f.kind=10∨f.kind=11∨f.kind=12:=by omega
 clear hk hT hC e1 eW hBW
 rcases this with hk | hk | hk | hk | hk | hk | hk | hk | hk | hk | hk | hk
 all_goals
  simp only [hk,HT,Bool.true_or,Bool.false_or,Bool.true_and]
  repeat' first
   | exact ⟨by trivial,by first | trivial | exact E⟩
   | (refine callK_ret (rhas_ret _ _ _ (by decide)) ?_;rintro _ _ ⟨rfl,rfl⟩;simp (disch:=try exact DI) only [↓PR,QR,simprocAttr,↓n40c1,↓n40c2,↓n40c3,↓n40c4,↓n40c5,↓n40c6,↓n40c7,↓n40c8,↓n40c9,↓n40c10,↓n40c11,↓n40c12,↓n40c13,↓n40c14,↓n40c15,↓n40c16,↓n40c17,↓n40c18,↓n40c19,↓n40c20,↓n40c21,↓n40c22,↓n40c23,↓n40c24,↓n40c25,HT, *])
   | (refine guard_cases (fun _=>?_) (fun _=>?_)<;>simp (disch:=try exact DI) only [↓PR,QR,simprocAttr,↓n40c1,↓n40c2,↓n40c3,↓n40c4,↓n40c5,↓n40c6,↓n40c7,↓n40c8,↓n40c9,↓n40c10,↓n40c11,↓n40c12,↓n40c13,↓n40c14,↓n40c15,↓n40c16,↓n40c17,↓n40c18,↓n40c19,↓n40c20,↓n40c21,↓n40c22,↓n40c23,↓n40c24,↓n40c25,HT, *])
   | (refine cond_cases (fun _=>?_) (fun _=>?_)<;>simp (disch:=try exact DI) only [↓PR,QR,simprocAttr,↓n40c1,↓n40c2,↓n40c3,↓n40c4,↓n40c5,↓n40c6,↓n40c7,↓n40c8,↓n40c9,↓n40c10,↓n40c11,↓n40c12,↓n40c13,↓n40c14,↓n40c15,↓n40c16,↓n40c17,↓n40c18,↓n40c19,↓n40c20,↓n40c21,↓n40c22,↓n40c23,↓n40c24,↓n40c25,HT, *])
theorem append_one {α:Type} {t T n m:Nat} {z:Value} {agg:Bool} {enc:α→List Value} {v:Value} {l:List α} {base b:Nat} {w:World} {QP:List PanicEntry→World→Prop} {k:Value→World→Prop} (ht:Pg.underlying t=some (.slice T)) (hT:TyInfo Pg T agg n m z) (hby:m≤4096) (hz:z.cells.size=n) (h0:0 < n) (hn:∀ x,(enc x).length=n) (x:α) (h1:∀ u∈enc x,u.oneCell'=true)
 (hown:OwnE w base T n enc v l) (hc:ElemAt w b 0 (enc x)) (hbase:base≤w.heap.size) (hl:l.length≤1048576)
 (hk:∀ v' w',OwnE w' base T n enc v' (l++[x])→(∀ a,Ext a w→a.heap.size≤base→Ext a w')→k v' w') :
 opV Pg (Builtin.append_ #[t,t] t #[v,.slice (some ⟨b,0,none⟩) 1 1]) QP w k:=by
 refine op_appendE (l':=[x]) ht hT hz h0 hn (fun y hy=>by simp at hy;subst hy;exact h1) hown (fun j y hy=>?_) hbase ?_ (by simp;omega) (fun v' w' ho hg=>hk v' w' ho fun a e ha=>e.grown hg fun k hk=>Nat.le_trans ha ((World.ownsRow.lt hown k hk).1))
 · cases j with
   | zero=>simp at hy;subst hy;simpa using hc
   | succ j=>simp at hy
 · simp only [List.length_cons,List.length_nil]
   exact Nat.le_trans (Nat.mul_le_mul (Nat.add_le_add_right hl 1) hby) (by decide)
theorem op_boxA {P:Program} {QP:List PanicEntry→World→Prop} {w:World} {k:Value→World→Prop} (T:TypeId) (cs:Array Value):opV P (Instr.box T (.agg cs)) QP w k=k (.pointer (some ⟨w.heap.size,0,none⟩)) (w.alloc (.cells cs T)):=op_box T (.agg cs)
theorem open1 {α:Type} {w:World} {n:Nat} {E:World→List Value→α→Prop} {v:Value} {l:List α} (h:SliceOf w n E v l) {i:Nat} {x:α} (hi:l[i]?=some x) :
 ∃ b o c,v = .slice (some ⟨b,o,none⟩) l.length c∧l.length≤c∧c≤9223372036854775807∧l.length≤9223372036854775807∧i < l.length∧∀ k x,l[k]?=some x→∃ cs,cs.length=n∧ElemAt w b (o+k*n) cs∧E w cs x:=by
 obtain ⟨A,c,h1,h2,h3,h4⟩:=h
 obtain ⟨b,o,rfl,h5⟩:=h4 (by rintro rfl;cases hi)
 exact ⟨b,o,c,h1,h2,h3,by omega,(List.getElem?_eq_some_iff.1 hi).1,h5⟩
theorem all_take {α:Type} {p:α→Prop} {l:List α} {k:Nat} {x:α} (h:∀ y∈l.take k,p y) (hx:l[k]?=some x) (hp:p x):∀ y∈l.take (k+1),p y:=by
 rw [take_snoc hx]
 intro y hy
 rcases List.mem_append.1 hy with hy | hy
 · exact h y hy
 · rw [List.mem_singleton.1 hy];exact hp
def Dist (l:List FieldD):Prop:=l.Pairwise fun a b=>a.name≠b.name
theorem Dist.eq {l:List FieldD} (h:Dist l) {a b:FieldD} (ha:a∈l) (hb:b∈l) (hn:a.name=b.name):a=b:=by
 induction l with
 | nil=>cases ha
 | cons x l ih =>
  obtain ⟨h1,h2⟩:=List.pairwise_cons.1 h
  rcases List.mem_cons.1 ha with ha' | ha'<;>rcases List.mem_cons.1 hb with hb' | hb'
  · rw [ha',hb']
  · subst ha';exact absurd hn (h1 _ hb')
  · subst hb';exact absurd hn.symm (h1 _ ha')
  · exact ih h2 ha' hb'
theorem lastR_none {rp:List (ByteArray×Int×Int)} {s:ByteArray}:lastR rp s=none↔∀ q,(s,q) ∉ rp:=by
 constructor
 · intro h q hq
   unfold lastR at h
   rw [Option.map_eq_none_iff,List.find?_eq_none] at h
   exact h (s,q) (List.mem_reverse.2 hq) (by simp)
 · intro h
   cases hl:lastR rp s with
   | none=>rfl
   | some q=>exact absurd (lastP_mem hl) (h q)
theorem mem_numR {l:List FieldD} {s:ByteArray} {q:Int×Int}:(s,q)∈numR l↔∃ f∈l,numberB f=true∧f.name=s∧q=(f.low,highOf f):=by
 unfold numR
 simp only [List.mem_map,List.mem_filter,Prod.mk.injEq]
 constructor
 · rintro ⟨f,⟨h1,h2⟩,h3,h4⟩;exact ⟨f,h1,h2,h3,by rw [← h4]⟩
 · rintro ⟨f,h1,h2,h3,h4⟩;exact ⟨f,⟨h1,h2⟩,h3,by rw [h4]⟩
theorem num_first {bef:List FieldD} (hd:Dist bef) (s:ByteArray):(idx (fun g=>decide (g.name=s)) bef = -1∧lastR (numR bef) s=none) ∨
 ∃ (k:Nat) (g:FieldD),idx (fun g=>decide (g.name=s)) bef=k∧bef[k]?=some g∧lastR (numR bef) s=if numberB g then some (g.low,highOf g) else none:=by
 unfold idx
 cases h:bef.findIdx? (fun g=>decide (g.name=s)) with
 | none =>
  rw [List.findIdx?_eq_none_iff] at h
  refine .inl ⟨rfl,lastR_none.2 fun q hq=>?_⟩
  obtain ⟨f,hf,_,h3,_⟩:=mem_numR.1 hq
  simpa [h3] using h f hf
 | some k =>
  obtain ⟨hk,hp,_⟩:=List.findIdx?_eq_some_iff_getElem.1 h
  refine .inr ⟨k,bef[k],rfl,List.getElem?_eq_getElem hk,?_⟩
  have hg:bef[k]∈bef:=List.getElem_mem hk
  generalize bef[k]=g at hg hp
  simp only [decide_eq_true_eq] at hp
  cases hl:lastR (numR bef) s with
  | none =>
   rw [if_neg]
   intro hn
   exact lastR_none.1 hl _ (mem_numR.2 ⟨g,hg,hn,hp,rfl⟩)
  | some q =>
   obtain ⟨f,hf,h2,h3,h4⟩:=mem_numR.1 (lastP_mem hl)
   have:=hd.eq hf hg (h3.trans hp.symm)
   subst this
   rw [if_pos h2,h4]
theorem checked_congr {ps ps':List (ByteArray×Value)} {but:ByteArray} {p:Value→Bool}:∀ (ts:List TermD) (no:Bool),(∀ t∈ts,lastOf ps t.field=lastOf ps' t.field)→checkedF but ps p ts no=checkedF but ps' p ts no
 | [],no,_=>rfl
 | t::ts,no,h=>by
  have ih:=fun no=>checked_congr (but:=but) (p:=p) ts no fun t ht=>h t (List.mem_cons_of_mem _ ht)
  simp only [checkedF,h t (List.mem_cons_self ..),ih]
theorem numW_congr {f g:TermD→Int}:∀ (ts:List TermD) (n:Int),(∀ t∈ts,f t=g t)→numW n f ts=numW n g ts
 | [],n,_=>rfl
 | t::ts,n,h=>by
  have ih:=fun n=>numW_congr ts n fun t ht=>h t (List.mem_cons_of_mem _ ht)
  unfold numW at *
  simp only [List.foldl_cons,h t (List.mem_cons_self ..),ih]
theorem iv_congr {base:Int} {ts:List TermD} {rp rp':List (ByteArray×Int×Int)} (h:∀ t∈ts,lastR rp t.field=lastR rp' t.field):intervalE base ts rp=intervalE base ts rp'∧intervalL base ts rp=intervalL base ts rp'∧intervalH base ts rp=intervalH base ts rp':=by
 have he:intervalE base ts rp=intervalE base ts rp':=by
  unfold intervalE
  rw [checked_congr (ps':=RP rp') ts false fun t ht=>by rw [lastOf_RP,lastOf_RP,h t ht]]
 have hl:∀ least,numW base (endF rp least) ts=numW base (endF rp' least) ts:=fun least=>numW_congr ts base fun t ht=>by unfold endF;rw [h t ht]
 unfold intervalL intervalH
 rw [he,hl,hl]
 exact ⟨rfl,rfl,rfl⟩
def termR (rp:List (ByteArray×Int×Int)) (ts:List TermD):List (ByteArray×Int×Int):=ts.map fun t=>(t.field,rngT rp t)
theorem termR_last {rp:List (ByteArray×Int×Int)} {ts:List TermD} (h:∀ t∈ts,(lastR rp t.field).isSome=true) {t:TermD} (ht:t∈ts):lastR (termR rp ts) t.field=lastR rp t.field:=by
 have e:∀ t∈ts,lastR rp t.field=some (rngT rp t):=fun t ht=>by
  have:=h t ht
  unfold rngT
  cases hl:lastR rp t.field with
  | none=>rw [hl] at this;cases this
  | some q=>rfl
 cases hl:lastR (termR rp ts) t.field with
 | none=>exact absurd (List.mem_map.2 ⟨t,ht,rfl⟩) (lastR_none.1 hl (rngT rp t))
 | some q =>
  obtain ⟨u,hu,h2⟩:=List.mem_map.1 (lastP_mem hl)
  injection h2 with h2 h3
  rw [← h3,← e u hu,h2]
theorem namesC_zero {rp:List (ByteArray×Int×Int)}:∀ {ts:List TermD},(∀ t∈ts,(lastR rp t.field).isSome=true)→namesC rp ts=0
 | [],_=>rfl
 | t::ts,h=>by
  simp only [namesC,h t (List.mem_cons_self ..),namesC_zero fun t ht=>h t (List.mem_cons_of_mem _ ht)]
  rfl
theorem namesC_bad {rp:List (ByteArray×Int×Int)}:∀ {ts:List TermD} {t:TermD},t∈ts→lastR rp t.field=none→namesC rp ts=8
 | u::ts,t,ht,h=>by
  simp only [namesC]
  cases hu:(lastR rp u.field).isSome with
  | false=>rfl
  | true =>
   rcases List.mem_cons.1 ht with rfl | ht
   · rw [h] at hu;cases hu
   · rw [namesC_bad ht h];rfl
theorem rsized_ret (w0:World) (v:Value) (m:MsgD) (i:Nat) (f:FieldD) (hm:MsgVal w0 v m) (hi:m.fields[i]?=some f) (hd:Dist (m.fields.take i)) (ht:f.terms.length≤1048576):Ret Pg 151 #[v,.int .i64 (i:Int)] w0 fun r w'=>r = .int .i64 (sizedC (numR (m.fields.take i)) f)∧Ext w0 w':=by
 obtain ⟨fv,rfl,hF⟩:=hm
 have hF0:=hF
 refine n36s (R:=retR _) ?_;unfold n36
 simp (disch:=try exact DI) only [↓PR,QR,simprocAttr]
 have hBW:=ElemAt.new (w:=w0) (msgCells m fv) (44)
 have eW:Ext w0 (w0.alloc (Obj.cells (List.toArray (msgCells m fv)) (44))):=(Ext.refl _).alloc _
 generalize (w0.alloc (Obj.cells (List.toArray (msgCells m fv)) (44)))=W at hBW eW ⊢
 obtain ⟨b,o,c,rfl,hlc,hcm,hlm,hil,hel⟩:=open1 hF hi
 obtain ⟨cs,_,hA,hE⟩:=hel i f hi
 obtain ⟨tv,cv,rfl,hT,hC,ht1,hc1⟩:=hE.op
 have hT0:=hT
 obtain ⟨At,ct,rfl,hlct,hcmt,hlmt,helt⟩:=SliceOf.open hT
 have hcA:=hA.c15 eW
 simp (disch:=try exact DI) only [↓PR,QR,simprocAttr,hBW.c2 (Ext.refl W),hcA]
 have hBX:=ElemAt.new (w:=W) ([.int .i64 f.base,.slice At f.terms.length ct]) (35)
 have eX:Ext W (W.alloc (Obj.cells (List.toArray ([.int .i64 f.base,.slice At f.terms.length ct])) (35))):=(Ext.refl _).alloc _
 generalize (W.alloc (Obj.cells (List.toArray ([.int .i64 f.base,.slice At f.terms.length ct])) (35)))=X at hBX eX ⊢
 refine zcr (rSizeValid_ret _ _ f.base f.terms ⟨_,rfl,TermsOf.ext hT0 (eW.trans eX)⟩) fun w1 e1=>?_
 have E1:Ext w0 w1:=eW.trans (eX.trans e1)
 unfold n36c8
 cases hs:sizeB f.base f.terms with
 | false =>
  simp (disch:=try exact DI) only [↓PR,QR,simprocAttr]
  exact ⟨by unfold sizedC;rw [hs];rfl,E1⟩
 | true =>
 obtain ⟨_,h4,_⟩:=terms_names hs
 have hsz:sizedC (numR (m.fields.take i)) f=orC (namesC (numR (m.fields.take i)) f.terms) (needC (lenB f.base f.terms (numR (m.fields.take i))) 9):=by unfold sizedC;rw [hs];rfl
 rw [hsz]
 have hnf:=num_first hd
 generalize hrp:numR (m.fields.take i)=rp at hnf ⊢
 simp (disch:=try exact DI) only [↓PR,QR,simprocAttr]
 refine loop2_intro (fun a b w'=>∃ (k:Nat) (sv:Value),a=sv∧b = .int .i64 k∧k≤f.terms.length∧Ext w1 w'∧OwnE w' w1.heap.size 149 3 ranCells sv (termR rp (f.terms.take k))∧∀ t∈f.terms.take k,(lastR rp t.field).isSome=true) (fun _ b _=>f.terms.length - (intOf b).toNat) ⟨0,_,rfl,rfl,by omega,Ext.refl _,OwnE.nil _ _ _ _ _,by simp⟩ ?_
 rintro sv _ w ⟨k,_,rfl,rfl,hk,e,hO,hin⟩
 have E:=E1.trans e
 have hcX:=hBX.c2 (e1.trans e)
 have hcW:=hBW.c2 (eX.trans (e1.trans e))
 unfold n36c7
 rcases drop_cases hk with ⟨x,hx,hdr,hlt,hdec⟩ | ⟨hk,hdr,hdec⟩
 · obtain ⟨bt,ot,cst,rfl,_,hAt,rfl⟩:=helt k x hx
   simp (disch:=try exact DI) only [↓PR,QR,simprocAttr,hdec,hcX]
   refine drawK_intro ?_
   unfold n36c4
   simp (disch:=try exact DI) only [↓PR,QR,simprocAttr,hcX,hcW,hAt.c2 E]
   refine zcr (rField_ret _ _ m x.field i ⟨_,rfl,hF0.ext ee⟩ (Nat.le_of_lt hil)) fun w2 e2=>?_
   refine ⟨e2,?_⟩
   unfold n36c3
   rcases hnf x.field with ⟨h1,h2⟩ | ⟨kk,g,h1,h2,h3⟩
   · rw [h1]
     simp (disch:=try exact DI) only [↓PR,QR,simprocAttr]
     exact ⟨by rw [namesC_bad (List.mem_of_getElem? hx) h2];rfl,ee⟩
   · have hg:=take_get h2
     have hkk:kk < m.fields.length:=(List.getElem?_eq_some_iff.1 hg).1
     obtain ⟨csg,_,hAg,hEg⟩:=hel kk g hg
     obtain ⟨tg,cg,rfl,hTg,hCg,htg,hcg⟩:=hEg.op
     have f2:Ext w0 w2:=E.drew.trans e2
     have hcg2:=hAg.c15 f2
     have hcW2:=hBW.c2 (eX.trans (e1.trans (e.drew.trans e2)))
     have hcX2:=hBX.c2 (e1.trans (e.drew.trans e2))
     rw [h1]
     simp (disch:=try exact DI) only [↓PR,QR,simprocAttr,show decide ((kk:Int) < 0)=false by simp,hcW2,hcg2]
     refine zcr (rNumber_ret _ _ g ⟨tg,cg,rfl,hTg.ext f2,hCg.ext f2⟩) fun w3 e3=>?_
     have f3:=f2.trans e3
     have hd0:decide ((kk:Int) < 0)=false:=by simp
     cases hn:numberB g with
     | false =>
      rw [hn,if_neg (by simp)] at h3
      simp (disch:=try exact DI) only [↓PR,QR,simprocAttr,hd0]
      exact ⟨by rw [namesC_bad (List.mem_of_getElem? hx) h3];rfl,f3⟩
     | true =>
      rw [hn,if_pos rfl] at h3
      have eW3:Ext w1 w3:=e.drew.trans (e2.trans e3)
      simp (disch:=try exact DI) only [↓PR,QR,simprocAttr,hd0]
      unfold n36c2
      simp (disch:=try exact DI) only [↓PR,QR,simprocAttr,hBW.c2 (eX.trans (e1.trans eW3)),hAg.c15 f3]
      refine zcr (rRange_ret _ _ g ⟨tg,cg,rfl,hTg.ext f3,hCg.ext f3⟩) fun w4 e4=>?_
      have eW4:Ext w1 w4:=eW3.trans e4
      have f4:=f3.trans e4
      unfold n36c1
      simp (disch:=try exact DI) only [↓PR,QR,simprocAttr,hBX.c2 (e1.trans eW4),hAt.c2 f4]
      have hO4:=hO.ext (((((Ext.refl w).drew.trans e2).trans e3).trans e4).alloc (Obj.cells #[.string x.field,.int .i64 g.low,.int .i64 (highOf g)] 149))
      have hlk:(termR rp (f.terms.take k)).length=k:=by unfold termR;rw [List.length_map,List.length_take];omega
      have sw:=eW4.size
      refine append_one Tryz.underlying111 ty149 by149 rfl (by decide) (fun _=>rfl) (x.field,g.low,highOf g) (by simp only [ranCells,List.forall_mem_cons];exact ⟨rfl,rfl,rfl,by simp⟩) hO4 (ElemAt.new _ _) (by simp only [World.size_alloc];omega) (by rw [hlk];omega) ?_
      intro v' w' hO' hext
      have eN:Ext w1 w':=hext w1 (eW4.alloc _) (Nat.le_refl _)
      simp (disch:=try exact DI) only [↓PR,QR,simprocAttr]
      refine ⟨⟨k+1,v',rfl,rfl,by omega,eN,?_,all_take hin hx (by rw [h3];rfl)⟩,meas_lt hlt⟩
      have:termR rp (f.terms.take (k+1))=termR rp (f.terms.take k)++[(x.field,g.low,highOf g)]:=by
       unfold termR
       rw [take_snoc hx,List.map_append]
       simp only [List.map_cons,List.map_nil]
       rw [rng_some h3]
      rw [this]
      exact hO'
 · subst hk
   rw [List.take_length] at hO hin
   simp (disch:=try exact DI) only [↓PR,QR,simprocAttr,hdec,hcX]
   have hs3:RansOf w sv (termR rp f.terms):=hO.slice (E:=ERan) (fun _=>rfl) (fun _ _=>rfl)
   have hcon:=iv_congr (base:=f.base) (rp:=termR rp f.terms) (rp':=rp) (ts:=f.terms) fun t ht=>termR_last hin ht
   refine zcr (rInterval_ret _ _ sv f.base f.terms (termR rp f.terms) ⟨_,rfl,hT0.ext E⟩ hs3 (fun t ht=>by rw [termR_last hin ht];exact hin t ht)) fun w2 e2=>?_
   have E2:=E.trans e2
   unfold ivOf
   rw [hcon.1,hcon.2.1,hcon.2.2,namesC_zero hin]
   unfold n36c6
   have hL:(intervalE f.base f.terms rp != 0||decide (intervalL f.base f.terms rp < 0)||decide (1048576 < intervalH f.base f.terms rp))=!lenB f.base f.terms rp:=by
    unfold lenB
    rw [Bool.eq_iff_iff]
    simp only [Bool.or_eq_true,bne_iff_ne,decide_eq_true_eq,Bool.not_eq_true',Bool.and_eq_false_iff,beq_eq_false_iff_ne,decide_eq_false_iff_not]
    omega
   simp (disch:=try exact DI) only [↓PR,QR,simprocAttr,n36c5,hL]
   cases lenB f.base f.terms rp with
   | false=>simp (disch:=try exact DI) only [↓PR,QR,simprocAttr];exact ⟨rfl,E2⟩
   | true=>simp (disch:=try exact DI) only [↓PR,QR,simprocAttr];exact ⟨rfl,E2⟩
theorem within2 {hi n a b:Int}:withinC hi n [a,b]=if a < n∨hi < a∨b < a∨hi < b then 7 else 0:=by
 by_cases h1:a < n<;>by_cases h2:hi < a<;>by_cases h3:b < a<;>by_cases h4:hi < b<;>simp [withinC,needC,orC, *]<;>omega
theorem idx_some {α:Type} {p:α→Bool} {l:List α}:decide (idx p l < 0)=!l.any p:=by
 rw [← idx_neg]
 by_cases h:idx p l < 0
 · have:¬ 0≤idx p l:=by omega
   simp [h,this]
 · have:0≤idx p l:=by omega
   simp [h,this]
theorem rcased_ret (w0:World) (v u:Value) (d:DefD) (n:Nat) (f:FieldD) (lo hi:Int) (deps:List (ByteArray×Int)) (hd:DefVal w0 v d) (hn:n≤d.msgs.length) (hf:FieldVal w0 u f) (hD:∀ s,(lastP deps s).isSome=(d.msgs.take n).any fun m=>decide (m.name=s)) (hlo : -4611686018427387904≤lo) (hhi:hi≤4611686018427387904) :
 Ret Pg 153 #[v,.int .i64 (n:Int),u,.int .i64 lo,.int .i64 hi] w0 fun r w'=>r = .int .i64 (orC (needC (decide (1≤(f.cases.length:Int))&&decide ((f.cases.length:Int)≤40)) 3) (casesL hi (vI deps) lo f.cases))∧Ext w0 w':=by
 obtain ⟨mv,rfl,hM⟩:=hd
 obtain ⟨tv,cv,rfl,hT,hC,ht1,hc1⟩:=hf.op
 refine n30s (R:=retR _) ?_;unfold n30
 rw [op_boxA]
 have hBW:=ElemAt.new (w:=w0) (defCells d mv) (24)
 have eW:Ext w0 (w0.alloc (Obj.cells (List.toArray (defCells d mv)) (24))):=(Ext.refl _).alloc _
 generalize (w0.alloc (Obj.cells (List.toArray (defCells d mv)) (24)))=W at hBW eW ⊢
 rw [op_boxA]
 have hBX:=ElemAt.new (w:=W) (fieldCells f tv cv) (38)
 have eX:Ext W (W.alloc (Obj.cells (List.toArray (fieldCells f tv cv)) (38))):=(Ext.refl _).alloc _
 generalize (W.alloc (Obj.cells (List.toArray (fieldCells f tv cv)) (38)))=X at hBX eX ⊢
 obtain ⟨A,c,rfl,hlc,hcm,hlm,hel⟩:=SliceOf.open hC
 have hcX:=hBX.c15 (Ext.refl X)
 simp (disch:=try exact DI) only [↓PR,QR,Int.reduceBEq,Int.reduceBNe,Int.reduceLT,Int.reduceLE,Int.reduceGT,Int.reduceGE,Int.reduceNeg,hcX]
 have hlen:(decide ((f.cases.length:Int) < 1)||decide (40 < (f.cases.length:Int)))=!(decide (1≤(f.cases.length:Int))&&decide ((f.cases.length:Int)≤40)):=by
  rw [Bool.eq_iff_iff];simp only [Bool.or_eq_true,decide_eq_true_eq,Bool.not_eq_true',Bool.and_eq_false_iff,decide_eq_false_iff_not];omega
 rw [hlen]
 have EX:Ext w0 X:=eW.trans eX
 cases hl:(decide (1≤(f.cases.length:Int))&&decide ((f.cases.length:Int)≤40)) with
 | false=>simp (disch:=try exact DI) only [↓PR,QR,simprocAttr];exact ⟨rfl,EX⟩
 | true =>
 simp (disch:=try exact DI) only [↓PR,QR,Int.reduceBEq,Int.reduceBNe,Int.reduceLT,Int.reduceLE,Int.reduceGT,Int.reduceGE,Int.reduceNeg]
 refine loop1_intro (fun a w'=>∃ (k:Nat) (b:Int),a = .int .i64 k∧k≤f.cases.length∧Ext X w'∧casesL hi (vI deps) b (f.cases.drop k)=casesL hi (vI deps) lo f.cases∧lo≤b∧(k=0→b=lo)∧∀ j p,k=j+1→f.cases[j]?=some p→b=p.high+1) (fun b _=>f.cases.length - (intOf b).toNat) ⟨0,lo,rfl,by omega,Ext.refl _,rfl,Int.le_refl _,fun _=>rfl,fun j p h=>by omega⟩ ?_
 rintro _ w ⟨k,b,rfl,hk,e,hI,hb0,hb1,hb2⟩
 have hcX:=hBX.c15 e
 have E:=EX.trans e
 unfold n30c9
 rcases drop_cases hk with ⟨x,hx,hdr,hlt,hdec⟩ | ⟨hk,hdr,hdec⟩
 ·
  simp (disch:=try exact DI) only [↓PR,QR,Int.reduceBEq,Int.reduceBNe,Int.reduceLT,Int.reduceLE,Int.reduceGT,Int.reduceGE,Int.reduceNeg,hdec,hcX]
  obtain ⟨bc,oc,cc,hA,_,_,_,_,hel2⟩:=open1 hC hx
  injection hA with hA _ _
  subst hA
  obtain ⟨csc,_,hAc,rfl⟩:=hel2 k x hx
  have hcx:=hAc.c3 E
  unfold n30c8
  simp (disch:=try exact DI) only [↓PR,QR,Int.reduceBEq,Int.reduceBNe,Int.reduceLT,Int.reduceLE,Int.reduceGT,Int.reduceGE,Int.reduceNeg,hcX,hcx]
  have hBY:=ElemAt.new (w:=w) (caseCells x) (116)
  have eY:Ext w (w.alloc (Obj.cells (List.toArray (caseCells x)) (116))):=(Ext.refl _).alloc _
  generalize (w.alloc (Obj.cells (List.toArray (caseCells x)) (116)))=Y at hBY eY ⊢
  have hcY:=hBY.c3 (Ext.refl Y)
  have hcW:=hBW.c3 (eX.trans (e.trans eY))
  have EY:Ext w0 Y:=E.trans eY
  refine drawK_intro ?_
  rw [hdr] at hI
  simp only [casesL,within2] at hI
  have hI7:(x.low < b∨hi < x.low∨x.high < x.low∨hi < x.high)→casesL hi (vI deps) lo f.cases=7:=fun h=>by rw [← hI,if_pos h];rfl
  have hI0:¬ (x.low < b∨hi < x.low∨x.high < x.low∨hi < x.high)→orC (needC (lastOf (vI deps) x.of).isSome 8) (casesL hi (vI deps) (x.high+1) (f.cases.drop (k+1)))=casesL hi (vI deps) lo f.cases:=fun h=>by
   rw [← hI,if_neg h,wrap_ok (by omega) (by omega)];rfl
  clear hI
  unfold n30c7
  rcases k with _ | k'
  case' zero =>
   have hb:=hb1 rfl
   subst hb
   simp (disch:=try exact DI) only [↓PR,QR,Int.reduceBEq,Int.reduceBNe,Int.reduceLT,Int.reduceLE,Int.reduceGT,Int.reduceGE,Int.reduceNeg,hcY,hcX,↓n30c1,↓n30c2,↓n30c3,↓n30c4,↓n30c5,↓n30c6,↓n30c7,↓n30c8,↓n30c9,show decide ((0:Int) < ((0:Nat):Int))=false by decide]
   refine guard_cases (fun hg=>?_) (fun hg=>?_)
   all_goals simp (disch:=try exact DI) only [↓PR,QR,Int.reduceBEq,Int.reduceBNe,Int.reduceLT,Int.reduceLE,Int.reduceGT,Int.reduceGE,Int.reduceNeg,hg,hcW,hcY,↓n30c1,↓n30c2,↓n30c3,↓n30c4,↓n30c5,↓n30c6,↓n30c7,↓n30c8,↓n30c9]
   all_goals simp only [Bool.or_eq_true,Bool.or_eq_false_iff,decide_eq_true_eq,decide_eq_false_iff_not] at hg
   · exact ⟨by rw [hI7 (by omega)];rfl,EY.drew⟩
   have hI0:=hI0 (by omega)
  case' succ =>
   obtain ⟨p,hp⟩:=getElem?_lt (l:=f.cases) (k:=k') (by omega)
   have hb:=hb2 k' p rfl hp
   subst hb
   obtain ⟨csp,_,hAp,rfl⟩:=hel2 k' p hp
   have hcp:=hAp.c3 EY
   simp (disch:=try exact DI) only [↓PR,QR,Int.reduceBEq,Int.reduceBNe,Int.reduceLT,Int.reduceLE,Int.reduceGT,Int.reduceGE,Int.reduceNeg,hcY,hcp,hBX.c15 (e.trans eY),↓n30c1,↓n30c2,↓n30c3,↓n30c4,↓n30c5,↓n30c6,↓n30c7,↓n30c8,↓n30c9,show decide ((0:Int) < ((k'+1:Nat):Int))=true by simp only [decide_eq_true_eq];omega,show IntKind.i64.wrap (((k'+1:Nat):Int) - 1)=(k':Int) by rw [wrap_ok (by omega) (by omega)];omega]
   refine guard_cases (fun hg=>?_) (fun hg=>?_)
   all_goals simp (disch:=try exact DI) only [↓PR,QR,Int.reduceBEq,Int.reduceBNe,Int.reduceLT,Int.reduceLE,Int.reduceGT,Int.reduceGE,Int.reduceNeg,hg,hcW,hcY,↓n30c1,↓n30c2,↓n30c3,↓n30c4,↓n30c5,↓n30c6,↓n30c7,↓n30c8,↓n30c9]
   all_goals simp only [Bool.or_eq_true,Bool.or_eq_false_iff,decide_eq_true_eq,decide_eq_false_iff_not] at hg
   · exact ⟨by rw [hI7 (by omega)];rfl,EY.drew⟩
   refine cond_cases (fun hg2=>⟨_,rfl,by simp only [decide_eq_true_eq] at hg2;rw [hI7 (by omega)];rfl,EY.drew⟩) (fun hg2=>?_)
   simp only [decide_eq_false_iff_not] at hg2
   have hI0:=hI0 (by omega)
   simp (disch:=try exact DI) only [↓PR,QR,Int.reduceBEq,Int.reduceBNe,Int.reduceLT,Int.reduceLE,Int.reduceGT,Int.reduceGE,Int.reduceNeg,hcW,hcY,↓n30c1,↓n30c2,↓n30c3,↓n30c4,↓n30c5,↓n30c6,↓n30c7,↓n30c8,↓n30c9]
  all_goals
   refine zcr (rFind_ret _ _ d x.of n ⟨_,rfl,hM.ext EY.drew⟩ hn) fun w2 e2=>?_
   have e3:Ext X w2:=(e.trans eY).drew.trans e2
   rw [lastOf_vI,Option.isSome_map,hD] at hI0
   have hdi:=idx_some (p:=fun m:MsgD=>decide (m.name=x.of)) (l:=d.msgs.take n)
   cases hs:(d.msgs.take n).any (fun m=>decide (m.name=x.of)) with
   | false =>
    rw [hs] at hI0 hdi
    simp (disch:=try exact DI) only [↓PR,QR,Int.reduceBEq,Int.reduceBNe,Int.reduceLT,Int.reduceLE,Int.reduceGT,Int.reduceGE,Int.reduceNeg,hdi,↓n30c1,↓n30c2,↓n30c3,↓n30c4,↓n30c5,↓n30c6,↓n30c7,↓n30c8,↓n30c9]
    exact ⟨by rw [← hI0];rfl,EX.trans e3⟩
   | true =>
    rw [hs] at hI0 hdi
    simp (disch:=try exact DI) only [↓PR,QR,Int.reduceBEq,Int.reduceBNe,Int.reduceLT,Int.reduceLE,Int.reduceGT,Int.reduceGE,Int.reduceNeg,hdi,↓n30c1,↓n30c2,↓n30c3,↓n30c4,↓n30c5,↓n30c6,↓n30c7,↓n30c8,↓n30c9]
    exact ⟨⟨_,x.high+1,rfl,hlt,e3,hI0,by omega,fun h=>by omega,fun j p h hp=>by injection h with h;subst h;rw [hx] at hp;injection hp with hp;subst hp;rfl⟩,meas_lt hlt⟩
 · rw [hdr] at hI
   simp (disch:=try exact DI) only [↓PR,QR,Int.reduceBEq,Int.reduceBNe,Int.reduceLT,Int.reduceLE,Int.reduceGT,Int.reduceGE,Int.reduceNeg,hdec,hcX]
   exact ⟨by rw [← hI];rfl,E⟩
end Go.Proofs.YtdfhjlggcdemhaaGreat
namespace Go.Sw
open Go.RowKit (Below)
section
variable {P:Program} {QP:List PanicEntry→World→Prop} {w:World}
theorem op_appendL {α:Type} {t ty T n m:Nat} {z:Value} {agg:Bool} {enc:α→List Value} {v:Value} {l l':List α} {base:Nat} {k:Value→World→Prop}
 (ht:P.underlying t=some (.slice T)) (hT:TyInfo P T agg n m z) (hz:z.cells.size=n) (h0:0 < n) (hn:∀ x,(enc x).length=n) (h1:∀ x,x∈l'→∀ u∈enc x,u.oneCell'=true)
 (hown:OwnE w base T n enc v l) {b o c:Nat} (hc:∀ j x,l'[j]?=some x→ElemAt w b (o+j*n) (enc x)) (hbase:base≤w.heap.size) (hl':0 < l'.length) (hm:(l.length+l'.length)*m≤140737488355328) (hb:l.length+l'.length≤140737488355328)
 (hk:∀ g cap w',OwnE w' base T n enc (.slice (some ⟨g,0,none⟩) (l.length+l'.length) cap) (l++l')→w.grownBy w' v.ownBlock→(v.ownBlock=some g∨g=w.heap.size)→g < w'.heap.size→k (.slice (some ⟨g,0,none⟩) (l.length+l'.length) cap) w') :
 opV P (Builtin.append_ #[t,t] ty #[v,.slice (some ⟨b,o,none⟩) l'.length c]) QP w k:=by
 obtain ⟨⟨i,hi,hs,hby,hzz⟩,_⟩:=hT
 have hfl:(l'.flatMap enc).length=l'.length*n:=by
  clear hm hb hc h1 hk hl'
  induction l' with
  | nil=>simp
  | cons a l ih=>rw [List.flatMap_cons,List.length_append,hn,ih,List.length_cons,Nat.add_mul];omega
 have hcells:∀ j u,(l'.flatMap enc)[j]?=some u→w.cell? ((⟨b,o,none⟩:Addr).add j)=some u:=by
  intro j u hu
  have hj:j < l'.length*n:=by have:=(List.getElem?_eq_some_iff.1 hu).1;rwa [hfl] at this
  have hq:j / n < l'.length:=Nat.div_lt_of_lt_mul (by rw [Nat.mul_comm];exact hj)
  obtain ⟨x,hx⟩:=getElem?_lt hq
  have hjn:j % n < (enc x).length:=by rw [hn];exact Nat.mod_lt _ h0
  have hdm:j / n*n+j % n=j:=by rw [Nat.mul_comm];exact Nat.div_add_mod j n
  have hg:=flatMap_get hn l' (j / n) x (j % n) _ hx (List.getElem?_eq_getElem hjn)
  rw [hdm,hu] at hg
  injection hg with hg
  rw [Addr.add_lit]
  have:=hc _ _ hx (j % n) _ (List.getElem?_eq_getElem hjn)
  rw [hg,← this]
  congr 2;omega
 obtain ⟨g,cap,w',hr,ho,hg,hgl,hlt⟩:=run_append_lies (P:=P) (w:=w) t ty base T i z n m ht hi hzz hs hby hz h0 v l.length (l.flatMap enc) hown ⟨b,o,none⟩ l'.length c (l'.flatMap enc) hfl hcells
  (by intro u hu;obtain ⟨x,hx,hux⟩:=List.mem_flatMap.1 hu;exact h1 x hx u hux) hl' (by simp only [maxLen];omega) hm hbase _ rfl
 rw [opV_ok hr]
 refine hk g cap w' ?_ hg hgl hlt
 unfold OwnE
 rw [List.flatMap_append,List.length_append];exact ho
end
theorem OwnE.grown {α:Type} {w w':World} {lo n:Nat} {T:TypeId} {enc:α→List Value} {v:Value} {l:List α} {row:Option Nat} (h:OwnE w lo T n enc v l) (hg:w.grownBy w' row) (hne:∀ b,v.ownBlock=some b→row≠some b):OwnE w' lo T n enc v l:=by
 obtain ⟨h1,h2⟩:=h
 refine ⟨h1,?_⟩
 rcases h2 with h2 | ⟨g,cap,cur,hv,hb,hc,h3⟩
 · exact .inl h2
 · refine .inr ⟨g,cap,cur,hv,hb,?_,h3⟩
   rw [hg.block g (Array.getElem?_eq_some_iff.1 hc).1 (fun e=>hne g (by rw [hv];rfl) e.symm)]
   exact hc
end Go.Sw
namespace Go.Proofs.YtdfhjlggcdemhaaGreat
open Sw
def n27c1 (t3 t6 t8 t9 t10:Value) (C9:World→Prop) (next8:KW) (R:RT) (w:World):Prop :=
 joinK (fun (t84:Value) (w:World) =>
 pickK t9 (.bool true) t84 fun t85 =>
 B0 .add 3 true t10 (.int .i64 1) R w fun t73 w =>
 next8 t85 t73 w) fun K10 =>
 guardP t9 false (
 qV Pg C9 (Instr.indexAt 138 t3 t10) fun t78 =>
 qV Pg C9 (Instr.loadAt 9 t78) fun t79 =>
 qV Pg C9 (Instr.indexAt 138 t6 t8) fun t82 =>
 qV Pg C9 (Instr.loadAt 9 t82) fun t83 =>
 qV Pg C9 (binS .eql 9 false t79 t83) fun t84 =>
 K10 t84 w) (
 K10 undef w)
def n27c2 (t3 t6 t8:Value) (K11:KV) (R:RT) (w:World):Prop :=
 X0 138 t6 t8 R w fun t91 w =>
 L0 9 t91 R w fun t92 w =>
 opV Pg (Instr.buildSlice 138 1 #[(0,t92)]) (panK R) w fun t93 w =>
 opV Pg (Builtin.append_ #[138,138] 138 #[t3,t93]) (panK R) w fun t94 w =>
 K11 t94 w
def n27c3 (t3 t6 t8 t9:Value) (next7:KW) (R:RT) (w:World):Prop :=
 opV Pg (Op.unary .not t9) (panK R) w fun t87 w =>
 joinK (fun (t3:Value) (w:World) =>
 B0 .add 3 true t8 (.int .i64 1) R w fun t67 w =>
 next7 t3 t67 w) fun K11 =>
 condP t87 (
 n27c2 t3 t6 t8 K11 R w) (
 K11 t3 w)
def n27c4 (t3 t6 t8 t9 t10:Value) (next7:KW) (next8:KW) (R:RT) (w:World):Prop :=
 opV Pg (Builtin.len_ #[138] 3 #[t3]) (panK R) w fun t70 w =>
 B0 .lss 3 false t10 t70 R w fun t71 w =>
 condP t71 (
 drawK w fun C9 w =>
 n27c1 t3 t6 t8 t9 t10 C9 next8 R w) (
 n27c3 t3 t6 t8 t9 next7 R w)
def n27c5 (t3 t4 t6 t8:Value) (next1:KW) (next7:KW) (R:RT) (w:World):Prop :=
 opV Pg (Builtin.len_ #[138] 3 #[t6]) (panK R) w fun t64 w =>
 B0 .lss 3 false t8 t64 R w fun t65 w =>
 condP t65 (
 loop2 (fun t9 t10 w next8 =>
 n27c4 t3 t6 t8 t9 t10 next7 next8 R w) (.bool false) (.int .i64 0) w) (
 B0 .add 3 true t4 (.int .i64 1) R w fun t17 w =>
 next1 t3 t17 w)
def n27c6 (t5 t6 t7:Value) (next5:KW) (R:RT) (w:World):Prop :=
 F0 38 t5 11 R w fun t54 w =>
 L0 36 t54 R w fun t55 w =>
 X0 36 t55 t7 R w fun t57 w =>
 F0 116 t57 2 R w fun t58 w =>
 L0 9 t58 R w fun t59 w =>
 opV Pg (Instr.buildSlice 138 1 #[(0,t59)]) (panK R) w fun t60 w =>
 opV Pg (Builtin.append_ #[138,138] 138 #[t6,t60]) (panK R) w fun t61 w =>
 B0 .add 3 true t7 (.int .i64 1) R w fun t52 w =>
 next5 t61 t52 w
def n27c7 (t3 t4 t5 t6 t7 t43 t49:Value) (next1:KW) (next5:KW) (R:RT) (w:World):Prop :=
 pickK t43 t49 (.bool false) fun t50 =>
 condP t50 (
 n27c6 t5 t6 t7 next5 R w) (
 loop2 (fun t3 t8 w next7 =>
 n27c5 t3 t4 t6 t8 next1 next7 R w) t3 (.int .i64 0) w)
def n27c8 (t3 t4 t5 t6 t7:Value) (next1:KW) (next5:KW) (R:RT) (w:World):Prop :=
 F0 38 t5 1 R w fun t41 w =>
 L0 32 t41 R w fun t42 w =>
 B0 .eql 32 true t42 (.int .i64 9) R w fun t43 w =>
 joinK (fun (t49:Value) (w:World) =>
 n27c7 t3 t4 t5 t6 t7 t43 t49 next1 next5 R w) fun K6 =>
 guardP t43 true (
 F0 38 t5 11 R w fun t46 w =>
 L0 36 t46 R w fun t47 w =>
 opV Pg (Builtin.len_ #[36] 3 #[t47]) (panK R) w fun t48 w =>
 B0 .lss 3 false t7 t48 R w fun t49 w =>
 K6 t49 w) (
 K6 undef w)
def n27c9 (t5:Value) (K4:KV) (R:RT) (w:World):Prop :=
 F0 38 t5 8 R w fun t37 w =>
 L0 9 t37 R w fun t38 w =>
 opV Pg (Instr.buildSlice 138 1 #[(0,t38)]) (panK R) w fun t39 w =>
 opV Pg (Builtin.append_ #[138,138] 138 #[(Value.slice none 0 0),t39]) (panK R) w fun t40 w =>
 K4 t40 w
def n27c10 (t3 t4 t5 t30 t34:Value) (next1:KW) (R:RT) (w:World):Prop :=
 pickK t30 (.bool true) t34 fun t35 =>
 joinK (fun (t6:Value) (w:World) =>
 loop2 (fun t6 t7 w next5 =>
 n27c8 t3 t4 t5 t6 t7 next1 next5 R w) t6 (.int .i64 0) w) fun K4 =>
 condP t35 (
 n27c9 t5 K4 R w) (
 K4 (Value.slice none 0 0) w)
def n27c11 (t3 t4 t5 t25 t29:Value) (next1:KW) (R:RT) (w:World):Prop :=
 pickK t25 (.bool true) t29 fun t30 =>
 joinK (fun (t34:Value) (w:World) =>
 n27c10 t3 t4 t5 t30 t34 next1 R w) fun K3 =>
 guardP t30 false (
 F0 38 t5 1 R w fun t32 w =>
 L0 32 t32 R w fun t33 w =>
 B0 .eql 32 true t33 (.int .i64 12) R w fun t34 w =>
 K3 t34 w) (
 K3 undef w)
def n27c12 (t1 t3 t4:Value) (next1:KW) (R:RT) (w:World):Prop :=
 F0 44 t1 1 R w fun t18 w =>
 L0 42 t18 R w fun t19 w =>
 X0 42 t19 t4 R w fun t21 w =>
 L0 38 t21 R w fun t22 w =>
 opV Pg (Instr.alloc 38 true (.tuple #[])) (panK R) w fun t5 w =>
 opU Pg (Instr.storeAt 38 t5 t22) (panK R) w fun w =>
 F0 38 t5 1 R w fun t23 w =>
 L0 32 t23 R w fun t24 w =>
 B0 .eql 32 true t24 (.int .i64 7) R w fun t25 w =>
 joinK (fun (t29:Value) (w:World) =>
 n27c11 t3 t4 t5 t25 t29 next1 R w) fun K2 =>
 guardP t25 false (
 F0 38 t5 1 R w fun t27 w =>
 L0 32 t27 R w fun t28 w =>
 B0 .eql 32 true t28 (.int .i64 8) R w fun t29 w =>
 K2 t29 w) (
 K2 undef w)
def n27c13 (t1 t3 t4:Value) (next1:KW) (R:RT) (w:World):Prop :=
 F0 44 t1 1 R w fun t12 w =>
 L0 42 t12 R w fun t13 w =>
 opV Pg (Builtin.len_ #[42] 3 #[t13]) (panK R) w fun t14 w =>
 B0 .lss 3 false t4 t14 R w fun t15 w =>
 condP t15 (
 n27c12 t1 t3 t4 next1 R w) (
 R (.returned t3) w)
def n27 (t0:Value) (R:RT) (w:World):Prop :=
 opV Pg (Instr.box 44 t0) (panK R) w fun t1 w =>
 loop2 (fun t3 t4 w next1 =>
 n27c13 t1 t3 t4 next1 R w) (Value.slice none 0 0) (.int .i64 0) w
set_option maxHeartbeats 40000000 in
theorem n27s {t0:Value} {R:RT} {w:World} (h:n27 t0 R w):Calls Pg 97 #[t0] w R:=by
 refine yD Tryz.func97 ?_
 refine zs<|zr<|yv h fun _ w h=>zm<|zn<|zk<|zs<|zr<|zm<|zn<|zk<|zs<|zs<|zr<|zm ?_
 refine zn<|zk<|sim_block<|yl2 [3,4,5,6,7,8,9,10,11,12,13,14,15,16,17,18,19,20,21,22,23,24,25,26,27,28,29,30,31,32,33,34,35,36,37,38,39,40,41,42,43,44,45,46,47,48,49,50,51,52,53,54,55,56,57,58,59,60,61,62,63,64,65,66,67,68,69,70,71,72,73,74,75,76,77,78,79,80,81,82,83,84,85,86,87,88,89,90,91,92,93,94] 3 4 h fun σ w next h=>zs<|zs<|zr<|zm<|yv h fun _ w h=>yv h fun _ w h=>yx h fun _ w h=>yb h fun _ w h=>zn<|zk<|yC h (fun h=>?_) fun h=>?_
 · refine sim_skip<|zk<|zs<|sim_block<|zs<|zr<|yv h fun _ w h=>yv h fun _ w h=>zm<|yv h fun _ w h=>yv h fun _ w h=>yv h fun _ w h=>yu h fun w h=>zn<|zk ?_
   refine zs<|zr<|zm<|zn<|zk<|zs<|zs<|sim_regionG<|yG 4<|yv h fun _ w h=>yv h fun _ w h=>yb h fun _ w h=>zm<|zn<|yg1 3 3 false [27,28,29] 29 h (fun _ T hT h=>?_) fun σ w h=>?_
   · refine yv h fun _ w h=>yv h fun _ w h=>yb h fun _ w h=>zn ?_
     exact zt hT h
   refine yG 2<|yp h fun _ h=>zm<|zn<|yg1 3 8 false [32,33,34] 34 h (fun _ T hT h=>?_) fun σ w h=>?_
   · refine yv h fun _ w h=>yv h fun _ w h=>yb h fun _ w h=>zn ?_
     exact zt hT h
   refine yG 1<|yp h fun _ h=>zn<|sim_end<|zk<|yJ1 [6,36,37,38,39,40] 6 h (fun _ _ hkK4 h=>?_) fun σ w h=>?_
   · refine yC h (fun h=>?_) fun h=>?_
     · refine zr<|zm<|yv h fun _ w h=>yv h fun _ w h=>yS h fun _ w h=>yx h fun _ w h=>zm<|zn<|zk ?_
       exact zt hkK4 h
     refine sim_skip<|zk ?_
     exact zt hkK4 h
   refine zk<|zs<|zs<|zr<|zm<|zn<|zk<|sim_block<|yl2 [6,7,41,42,43,44,45,46,47,48,49,50,51,52,53,54,55,56,57,58,59,60,61] 6 7 h fun σ w next h=>zs<|zs<|sim_regionG<|yG 4<|yv h fun _ w h=>yv h fun _ w h=>?_
   refine yb h fun _ w h=>zm<|zn<|yg1 5 3 true [45,46,47,48,49] 49 h (fun _ T hT h=>?_) fun σ w h=>?_
   · refine zm<|yv h fun _ w h=>yv h fun _ w h=>yx h fun _ w h=>yb h fun _ w h=>zn ?_
     exact zt hT h
   refine yG 1<|yp h fun _ h=>zn<|sim_end<|zk<|yC h (fun h=>?_) fun h=>?_
   · refine sim_skip<|zk<|zs<|sim_block<|zr<|zm<|yv h fun _ w h=>yv h fun _ w h=>zm<|yv h fun _ w h=>yv h fun _ w h=>yv h fun _ w h=>yS h fun _ w h=>yx h fun _ w h=>zm ?_
     exact zn<|sim_block_normal<|zk<|zr<|zm<|yb h fun _ w h=>zm<|zn<|zk<|⟨rfl,h⟩
   refine sim_exit<|sim_then_exit<|sim_then_exit<|sim_block_hit<|zk<|zs<|zr<|zm<|zn<|zk<|sim_block<|yl2 [3,8,9,10,62,63,64,65,66,67,68,69,70,71,72,73,74,75,76,77,78,79,80,81,82,83,84,85,86,87,88,89,90,91,92,93,94] 3 8 h fun σ w next h=>zs<|zs<|zr ?_
   refine zm<|zm<|yx h fun _ w h=>yb h fun _ w h=>zn<|zk<|yC h (fun h=>?_) fun h=>?_
   · refine sim_skip<|zk<|zs<|sim_block<|zs<|zr<|zm<|zn<|zk<|zs<|zs<|zr<|zm<|zn<|zk ?_
     refine sim_block<|yl2 [9,10,68,69,70,71,72,73,74,75,76,77,78,79,80,81,82,83,84,85] 9 10 h fun σ w next h=>zs<|zs<|zr<|zm<|zm<|yx h fun _ w h=>yb h fun _ w h=>zn<|zk<|yC h (fun h=>?_) fun h=>?_
     · refine sim_skip<|zk<|zs<|sim_block<|yh [9,74,75,76,77,78,79,80,81,82,83,84,85] h fun C hC h=>yw 0 hC ?_
       refine yw 1 hC ?_
       refine yj1 2 [10,9,8,7,6,5,4,3,2,1,0] [76,77,78,79,80,81,82,83,84] 84 h (fun _ hT hb h=>?_) (fun _ hT hb h=>?_) fun σ w hC h=>?_
       · refine yw 2 hC ?_
         refine yw 3 hC ?_
         refine ye 4 hC h fun _ h=>?_
         refine ye 5 hC h fun _ h=>?_
         refine yw 6 hC ?_
         refine yw 7 hC ?_
         refine ye 8 hC h fun _ h=>?_
         refine ye 9 hC h fun _ h=>?_
         refine ye 10 hC h fun _ h=>?_
         exact yt hT hC h
       · refine yi 2 hC ?_
         refine yi 3 hC ?_
         refine yi 4 hC ?_
         refine yi 5 hC ?_
         refine yi 6 hC ?_
         refine yi 7 hC ?_
         refine yi 8 hC ?_
         refine yi 9 hC ?_
         refine yi 10 hC ?_
         exact yt hT hC h
       refine yP 11 hC h fun _ h=>?_
       refine yw 12 hC ?_
       exact yz<|sim_block_normal<|zk<|zr<|zm<|yb h fun _ w h=>zm<|zn<|zk<|⟨rfl,h⟩
     refine sim_exit<|sim_then_exit<|sim_then_exit<|sim_block_hit<|zk<|zs<|zr<|zm<|yv h fun _ w h=>zn<|zk<|yJ1 [3,88,89,90,91,92,93,94] 3 h (fun _ _ hkK11 h=>?_) fun σ w h=>?_
     · refine yC h (fun h=>?_) fun h=>?_
       · refine zr<|zm<|zm<|zm<|yv h fun _ w h=>yv h fun _ w h=>yS h fun _ w h=>yx h fun _ w h=>zm<|zn<|zk ?_
         exact zt hkK11 h
       refine sim_skip<|zk ?_
       exact zt hkK11 h
     exact sim_block_normal<|zk<|zr<|zm<|yb h fun _ w h=>zm<|zn<|zk<|⟨rfl,h⟩
   exact sim_exit<|sim_then_exit<|sim_then_exit<|sim_block_hit<|sim_block_normal<|zk<|zr<|zm<|yb h fun _ w h=>zm<|zn<|zk<|⟨rfl,h⟩
 exact sim_exit<|sim_then_exit<|sim_then_exit<|sim_block_hit<|zk<|zs<|zr<|zm<|zm<|zn<|zk<|sim_ret<|body_ret1 rfl rfl h
def n157c1 (t1 t4 t23:Value) (R:RT) (w:World):Prop :=
 X0 165 t23 t1 R w fun t25 w =>
 L0 105 t25 R w fun t26 w =>
 opU Pg (Instr.storeAt 105 t4 t26) (panK R) w fun w =>
 qW Pg 105 t4 w fun r0 =>
 R (.returned (.tuple #[r0,(.int .i64 0)])) w
def n157c2 (t4:Value) (R:RT) (w:World):Prop :=
 opV Pg (Instr.build 105 #[]) (panK R) w fun t21 w =>
 opU Pg (Instr.storeAt 105 t4 t21) (panK R) w fun w =>
 qW Pg 105 t4 w fun r0 =>
 R (.returned (.tuple #[r0,(.int .i64 3)])) w
def n157c3 (t1 t2 t4 t13 t19:Value) (R:RT) (w:World):Prop :=
 pickK t13 (.bool true) t19 fun t20 =>
 condP t20 (
 n157c2 t4 R w) (
 L0 24 t2 R w fun t22 w =>
 C0 130 #[t22] R w fun t23 w =>
 n157c1 t1 t4 t23 R w)
def n157c4 (t4:Value) (R:RT) (w:World):Prop :=
 opV Pg (Instr.build 105 #[]) (panK R) w fun t10 w =>
 opU Pg (Instr.storeAt 105 t4 t10) (panK R) w fun w =>
 qW Pg 105 t4 w fun r0 =>
 R (.returned (.tuple #[r0,(.int .i64 2)])) w
def n157c5 (t1 t2 t4:Value) (R:RT) (w:World):Prop :=
 B0 .lss 3 true t1 (.int .i64 0) R w fun t13 w =>
 joinK (fun (t19:Value) (w:World) =>
 n157c3 t1 t2 t4 t13 t19 R w) fun K1 =>
 guardP t13 false (
 F0 24 t2 1 R w fun t16 w =>
 L0 22 t16 R w fun t17 w =>
 opV Pg (Builtin.len_ #[22] 3 #[t17]) (panK R) w fun t18 w =>
 B0 .geq 3 false t1 t18 R w fun t19 w =>
 K1 t19 w) (
 K1 undef w)
def n157 (t0 t1:Value) (R:RT) (w:World):Prop :=
 opV Pg (Instr.box 24 t0) (panK R) w fun t2 w =>
 opV Pg (Instr.alloc 105 true (.tuple #[])) (panK R) w fun t4 w =>
 L0 24 t2 R w fun t7 w =>
 C0 43 #[t7] R w fun t8 w =>
 opV Pg (Op.unary .not t8) (panK R) w fun t9 w =>
 condP t9 (
 n157c4 t4 R w) (
 n157c5 t1 t2 t4 R w)
theorem n157s {t0 t1:Value} {R:RT} {w:World} (h:n157 t0 t1 R w):Calls Pg 100 #[t0,t1] w R:=by
 refine yD Tryz.func100 ?_
 refine zs<|zr<|yv h fun _ w h=>yv h fun _ w h=>zm<|zn<|zk<|zs<|sim_block<|zs<|zr<|yv h fun _ w h=>yc h c43 fun _ w h=>yv h fun _ w h=>zm ?_
 refine zn<|zk<|yC h (fun h=>zs<|zr<|yB h fun _ w h=>yu h fun w h=>zm<|zn<|zk<|sim_ret<|sim_block_ret<|sim_then_ret<|body_retCT rfl rfl rfl h) fun h=>zs<|sim_regionG<|yG 3<|zm<|yb h fun _ w h=>zm<|zn<|yg1 5 2 false [15,16,17,18,19] 19 h (fun _ T hT h=>?_) fun σ w h=>?_
 · refine zm<|yv h fun _ w h=>yv h fun _ w h=>yx h fun _ w h=>yb h fun _ w h=>zn ?_
   exact zt hT h
 refine yG 2<|yp h fun _ h=>zm<|zn<|sim_end<|zk<|yC h (fun h=>zs<|zr<|yB h fun _ w h=>yu h fun w h=>zm<|zn<|zk<|sim_ret<|sim_block_ret<|sim_then_ret<|body_retCT rfl rfl rfl h) fun h=>sim_skip<|sim_block_normal<|zk<|zs<|zr<|yv h fun _ w h=>yc h c130 fun _ w h=>?_
 exact zm<|yv h fun _ w h=>yv h fun _ w h=>yu h fun w h=>zm<|zn<|zk<|sim_ret<|body_retCT rfl rfl rfl h
def n149 (t0:Value) (R:RT) (w:World):Prop :=
 opV Pg (Instr.box 38 t0) (panK R) w fun t1 w =>
 opV Pg (Instr.alloc 67 true (.tuple #[])) (panK R) w fun t2 w =>
 F0 38 t1 2 R w fun t3 w =>
 L0 3 t3 R w fun t4 w =>
 C0 79 #[t4] R w fun t5 w =>
 opU Pg (Instr.storeAt 67 t2 t5) (panK R) w fun w =>
 qW Pg 67 t2 w fun r0 =>
 R (.returned r0) w
theorem n149s {t0:Value} {R:RT} {w:World} (h:n149 t0 R w):Calls Pg 101 #[t0] w R:=by
 refine yD Tryz.func101 ?_
 refine zs<|zr<|yv h fun _ w h=>yv h fun _ w h=>zn<|zk<|zs<|zr<|yv h fun _ w h=>yv h fun _ w h=>yc h c79 fun _ w h=>yu h fun w h=>zn<|zk<|sim_ret ?_
 exact body_retC rfl rfl h
def n146c1 (t3 t4 t5:Value) (R:RT) (w:World):Prop :=
 F0 38 t3 4 R w fun t13 w =>
 L0 4 t13 R w fun t14 w =>
 joinK (fun (w:World) =>
 L0 67 t5 R w fun t16 w =>
 opU Pg (Instr.storeAt 67 t4 t16) (panK R) w fun w =>
 qW Pg 67 t4 w fun r0 =>
 R (.returned r0) w) fun K3 =>
 condP t14 (
 F0 67 t5 1 R w fun t15 w =>
 opU Pg (Instr.storeAt 3 t15 (.int .i64 40)) (panK R) w fun w =>
 K3 w) (
 K3 w)
def n146c2 (t10 t11:Value) (C1:World→Prop) (K2:KV) (R:RT) (w:World):Prop :=
 (
 callK Pg 78 #[t10,t11,(.func (.func 131) #[] #[])] (panK R) w fun t12 w =>
 C1 w∧(
 opV Pg (Instr.alloc 67 true (.tuple #[])) (panK R) w fun t5 w =>
 C1 w∧(
 opU Pg (Instr.storeAt 67 t5 t12) (panK R) w fun w =>
 turnK w fun C4 w =>
 K2 t5 w)))∧(
 opV Pg (Instr.alloc 67 true (.tuple #[])) (panK R) w fun t5 w =>
 C1 w∧(
 callK Pg 78 #[t10,t11,(.func (.func 131) #[] #[])] (panK R) w fun t12 w =>
 C1 w∧(
 opU Pg (Instr.storeAt 67 t5 t12) (panK R) w fun w =>
 turnK w fun C5 w =>
 K2 t5 w)))
def n146c3 (t5 t10 t11:Value) (C1:World→Prop) (K2:KV) (R:RT) (w:World):Prop :=
 C1 w∧(
 callK Pg 78 #[t10,t11,(.func (.func 131) #[] #[])] (panK R) w fun t12 w =>
 C1 w∧(
 opU Pg (Instr.storeAt 67 t5 t12) (panK R) w fun w =>
 turnK w fun C6 w =>
 K2 t5 w))
def n146c4 (t3 t4:Value) (C1:World→Prop) (R:RT) (w:World):Prop :=
 qV Pg C1 (Instr.fieldAt 38 t3 5) fun t6 =>
 qV Pg C1 (Instr.loadAt 3 t6) fun t7 =>
 qV Pg C1 (Instr.fieldAt 38 t3 6) fun t8 =>
 qV Pg C1 (Instr.loadAt 3 t8) fun t9 =>
 qV Pg C1 (Instr.build 67 #[(0,t7),(1,t9)]) fun t10 =>
 joinK (fun (t5:Value) (w:World) =>
 n146c1 t3 t4 t5 R w) fun K2 =>
 (
 C0 79 #[(.int .i64 8)] R w fun t11 w =>
 C1 w∧(
 n146c2 t10 t11 C1 K2 R w))∧(
 opV Pg (Instr.alloc 67 true (.tuple #[])) (panK R) w fun t5 w =>
 C1 w∧(
 C0 79 #[(.int .i64 8)] R w fun t11 w =>
 n146c3 t5 t10 t11 C1 K2 R w))
def n146 (t0 t1:Value) (R:RT) (w:World):Prop :=
 opV Pg (Instr.box 105 t0) (panK R) w fun t2 w =>
 opV Pg (Instr.box 38 t1) (panK R) w fun t3 w =>
 opV Pg (Instr.alloc 67 true (.tuple #[])) (panK R) w fun t4 w =>
 drawK w fun C1 w =>
 n146c4 t3 t4 C1 R w
theorem n146s {t0 t1:Value} {R:RT} {w:World} (h:n146 t0 t1 R w):Calls Pg 102 #[t0,t1] w R:=by
 refine yD Tryz.func102 ?_
 refine zs<|zr<|yv h fun _ w h=>yv h fun _ w h=>yv h fun _ w h=>zn<|zk<|zs<|yh [5,6,7,8,9,10,11,12] h fun C hC h=>ye 0 hC h fun _ h=>?_
 refine ye 1 hC h fun _ h=>?_
 refine ye 2 hC h fun _ h=>?_
 refine ye 3 hC h fun _ h=>?_
 refine ye 4 hC h fun _ h=>?_
 refine joinK_elim h (fun K2 hK h=>?_)
 refine sim_dmeet [5,11,12] (fun ρ w=>K2 (ρ 5) w) (fun T hT=>?_) (fun σ w h=>?_)
 · obtain ⟨h0,h1⟩:=h
   refine sim_dloud2 5 7 rfl rfl (by kernel_rfl) (fun _ _=>rfl) (fun _ _=>rfl) ?_ ?_
   · have h:=h0
     refine yc h c79 fun _ w h=>zn ?_
     obtain ⟨hC,h⟩:=h
     refine ⟨_,fun _ h=>h,hC,?_⟩
     obtain ⟨h0,h1⟩:=h
     refine sim_dloud2 6 7 rfl rfl (by kernel_rfl) (fun _ _=>rfl) (fun _ _=>rfl) ?_ ?_
     · have h:=h0
       refine yc h c78 fun _ w h=>zn ?_
       obtain ⟨hC,h⟩:=h
       refine ⟨_,fun _ h=>h,hC,?_⟩
       refine yo 7 ?_
       refine yv h fun _ w h=>zn ?_
       obtain ⟨hC,h⟩:=h
       refine ⟨hC,?_⟩
       refine yq 8 1 ?_
       refine yu h fun w h=>zn ?_
       obtain ⟨C4,hC,h⟩:=h
       refine ⟨C4,hC,?_⟩
       refine yz ?_
       exact zt hT h
     have h:=h1
     refine yv h fun _ w h=>zn ?_
     obtain ⟨hC,h⟩:=h
     refine ⟨_,fun _ h=>h,hC,?_⟩
     refine yo 6 ?_
     refine yc h c78 fun _ w h=>zn ?_
     obtain ⟨hC,h⟩:=h
     refine ⟨hC,?_⟩
     refine yq 8 1 ?_
     refine yu h fun w h=>zn ?_
     obtain ⟨C5,hC,h⟩:=h
     refine ⟨C5,hC,?_⟩
     refine yz ?_
     exact zt hT h
   have h:=h1
   refine yv h fun _ w h=>zn ?_
   obtain ⟨hC,h⟩:=h
   refine ⟨_,fun _ h=>h,hC,?_⟩
   refine yo 5 ?_
   refine yc h c79 fun _ w h=>zn ?_
   obtain ⟨hC,h⟩:=h
   refine ⟨hC,?_⟩
   refine yo 6 ?_
   refine yc h c78 fun _ w h=>zn ?_
   obtain ⟨hC,h⟩:=h
   refine ⟨hC,?_⟩
   refine yq 8 1 ?_
   refine yu h fun w h=>zn ?_
   obtain ⟨C6,hC,h⟩:=h
   refine ⟨C6,hC,?_⟩
   refine yz ?_
   exact zt hT h
 subst hK
 refine zk<|zs<|zs<|zr<|yv h fun _ w h=>yv h fun _ w h=>zn<|zk<|yJ0 [15] h (fun _ _ hkK3 h=>?_) fun σ w h=>?_
 · refine yC h (fun h=>?_) fun h=>?_
   · refine zr<|yv h fun _ w h=>yu h fun w h=>zn<|zk ?_
     exact zt hkK3 h
   refine sim_skip<|zk ?_
   exact zt hkK3 h
 exact zk<|zs<|zr<|yv h fun _ w h=>yu h fun w h=>zn<|zk<|sim_ret<|body_retC rfl rfl h
def n142c1 (t4 t7 t8:Value) (R:RT) (w:World):Prop :=
 callK Pg 78 #[t7,t8,(.func (.func 134) #[] #[])] (panK R) w fun t9 w =>
 opU Pg (Instr.storeAt 67 t4 t9) (panK R) w fun w =>
 qW Pg 67 t4 w fun r0 =>
 R (.returned r0) w
def n142 (t0 t1:Value) (R:RT) (w:World):Prop :=
 opV Pg (Instr.box 105 t0) (panK R) w fun t2 w =>
 opV Pg (Instr.box 38 t1) (panK R) w fun t3 w =>
 opV Pg (Instr.alloc 67 true (.tuple #[])) (panK R) w fun t4 w =>
 L0 105 t2 R w fun t5 w =>
 L0 38 t3 R w fun t6 w =>
 C0 133 #[t5,t6] R w fun t7 w =>
 C0 79 #[(.int .i64 8)] R w fun t8 w =>
 n142c1 t4 t7 t8 R w
theorem n142s {t0 t1:Value} {R:RT} {w:World} (h:n142 t0 t1 R w):Calls Pg 103 #[t0,t1] w R:=by
 refine yD Tryz.func103 ?_
 refine zs<|zr<|yv h fun _ w h=>yv h fun _ w h=>yv h fun _ w h=>zn<|zk<|zs<|zr<|yv h fun _ w h=>yv h fun _ w h=>yc h c133 fun _ w h=>yc h c79 fun _ w h=>yc h c78 fun _ w h=>yu h fun w h=>?_
 exact zn<|zk<|sim_ret<|body_retC rfl rfl h
def n150 (t0:Value) (R:RT) (w:World):Prop :=
 opV Pg (Instr.box 38 t0) (panK R) w fun t1 w =>
 opV Pg (Instr.alloc 67 true (.tuple #[])) (panK R) w fun t2 w =>
 F0 38 t1 6 R w fun t3 w =>
 L0 3 t3 R w fun t4 w =>
 B0 .add 3 true t4 (.int .i64 1) R w fun t5 w =>
 B0 .mul 3 true (.int .i64 8) t5 R w fun t6 w =>
 opV Pg (Instr.build 67 #[(0,(.int .i64 8)),(1,t6)]) (panK R) w fun t7 w =>
 opU Pg (Instr.storeAt 67 t2 t7) (panK R) w fun w =>
 qW Pg 67 t2 w fun r0 =>
 R (.returned r0) w
theorem n150s {t0:Value} {R:RT} {w:World} (h:n150 t0 R w):Calls Pg 104 #[t0] w R:=by
 refine yD Tryz.func104 ?_
 refine zs<|zr<|yv h fun _ w h=>yv h fun _ w h=>zn<|zk<|zs<|zr<|yv h fun _ w h=>yv h fun _ w h=>yb h fun _ w h=>yb h fun _ w h=>yB h fun _ w h=>yu h fun w h=>zn ?_
 exact zk<|sim_ret<|body_retC rfl rfl h
def n151 (t0:Value) (R:RT) (w:World):Prop :=
 opV Pg (Instr.box 38 t0) (panK R) w fun t1 w =>
 opV Pg (Instr.alloc 67 true (.tuple #[])) (panK R) w fun t2 w =>
 F0 38 t1 6 R w fun t3 w =>
 L0 3 t3 R w fun t4 w =>
 B0 .mul 3 true (.int .i64 8) t4 R w fun t5 w =>
 opV Pg (Instr.build 67 #[(0,(.int .i64 16)),(1,t5)]) (panK R) w fun t6 w =>
 opU Pg (Instr.storeAt 67 t2 t6) (panK R) w fun w =>
 qW Pg 67 t2 w fun r0 =>
 R (.returned r0) w
theorem n151s {t0:Value} {R:RT} {w:World} (h:n151 t0 R w):Calls Pg 105 #[t0] w R:=by
 refine yD Tryz.func105 ?_
 refine zs<|zr<|yv h fun _ w h=>yv h fun _ w h=>zn<|zk<|zs<|zr<|yv h fun _ w h=>yv h fun _ w h=>yb h fun _ w h=>yB h fun _ w h=>yu h fun w h=>zn<|zk ?_
 exact sim_ret<|body_retC rfl rfl h
def n145c1 (t4 t7 t12:Value) (C1:World→Prop) (R:RT) (w:World):Prop :=
 callK Pg 78 #[t7,t12,(.func (.func 134) #[] #[])] (panK R) w fun t13 w =>
 C1 w∧(
 opU Pg (Instr.storeAt 67 t4 t13) (panK R) w fun w =>
 turnK w fun C2 w =>
 qW Pg 67 t4 w fun r0 =>
 R (.returned r0) w)
def n145c2 (t2 t3 t4:Value) (C1:World→Prop) (R:RT) (w:World):Prop :=
 qV Pg C1 (Instr.loadAt 105 t2) fun t5 =>
 qV Pg C1 (Instr.loadAt 38 t3) fun t6 =>
 qV Pg C1 (Instr.fieldAt 105 t2 1) fun t8 =>
 qV Pg C1 (Instr.loadAt 103 t8) fun t9 =>
 qV Pg C1 (Instr.fieldAt 38 t3 8) fun t10 =>
 qV Pg C1 (Instr.loadAt 9 t10) fun t11 =>
 qV Pg C1 (Instr.lookup 103 t9 t11 false) fun t12 =>
 C0 133 #[t5,t6] R w fun t7 w =>
 C1 w∧(
 n145c1 t4 t7 t12 C1 R w)
def n145 (t0 t1:Value) (R:RT) (w:World):Prop :=
 opV Pg (Instr.box 105 t0) (panK R) w fun t2 w =>
 opV Pg (Instr.box 38 t1) (panK R) w fun t3 w =>
 opV Pg (Instr.alloc 67 true (.tuple #[])) (panK R) w fun t4 w =>
 drawK w fun C1 w =>
 n145c2 t2 t3 t4 C1 R w
theorem n145s {t0 t1:Value} {R:RT} {w:World} (h:n145 t0 t1 R w):Calls Pg 106 #[t0,t1] w R:=by
 refine yD Tryz.func106 ?_
 refine zs<|zr<|yv h fun _ w h=>yv h fun _ w h=>yv h fun _ w h=>zn<|zk<|zs<|yh [5,6,7,8,9,10,11,12,13] h fun C hC h=>ye 0 hC h fun _ h=>?_
 refine ye 1 hC h fun _ h=>?_
 refine ye 3 hC h fun _ h=>?_
 refine ye 4 hC h fun _ h=>?_
 refine ye 5 hC h fun _ h=>?_
 refine ye 6 hC h fun _ h=>?_
 refine ye 7 hC h fun _ h=>?_
 refine yo 2 ?_
 refine yc h c133 fun _ w h=>zn ?_
 obtain ⟨hC,h⟩:=h
 refine ⟨hC,?_⟩
 refine yo 8 ?_
 refine yc h c78 fun _ w h=>zn ?_
 obtain ⟨hC,h⟩:=h
 refine ⟨hC,?_⟩
 refine yq 9 1 ?_
 refine yu h fun w h=>zn ?_
 obtain ⟨C2,hC,h⟩:=h
 refine ⟨C2,hC,?_⟩
 exact yz<|zk<|sim_ret<|body_retC rfl rfl h
def n152 (t0 t1:Value) (R:RT) (w:World):Prop :=
 opV Pg (Instr.box 38 t0) (panK R) w fun t2 w =>
 opV Pg (Instr.alloc 67 true (.tuple #[])) (panK R) w fun t3 w =>
 F0 105 t1 1 R w fun t4 w =>
 L0 103 t4 R w fun t5 w =>
 F0 38 t2 8 R w fun t6 w =>
 L0 9 t6 R w fun t7 w =>
 opV Pg (Instr.lookup 103 t5 t7 false) (panK R) w fun t8 w =>
 opU Pg (Instr.storeAt 67 t3 t8) (panK R) w fun w =>
 qW Pg 67 t3 w fun r0 =>
 R (.returned r0) w
theorem n152s {t0 t1:Value} {R:RT} {w:World} (h:n152 t0 t1 R w):Calls Pg 107 #[t0,t1] w R:=by
 refine yD Tryz.func107 ?_
 refine zs<|zr<|yv h fun _ w h=>yv h fun _ w h=>zn<|zk<|zs<|zr<|yv h fun _ w h=>yv h fun _ w h=>yv h fun _ w h=>yv h fun _ w h=>yv h fun _ w h=>yu h fun w h=>zn ?_
 exact zk<|sim_ret<|body_retC rfl rfl h
open Go.RowKit (intOf Below)
def addS (o:List ByteArray) (s:ByteArray):List ByteArray:=if o.any (fun y=>decide (y=s)) then o else o++[s]
theorem dedup_snoc:∀ (l seen:List ByteArray) (s:ByteArray),dedupA seen (l++[s])=dedupA seen l++(if (seen++l).any (fun y=>decide (s=y)) then [] else [s])
 | [],seen,s=>by
  simp only [List.nil_append,dedupA,List.append_nil]
 | a::l,seen,s=>by
  simp only [List.cons_append,dedupA]
  rw [dedup_snoc l (seen++[a]) s]
  have:(seen++[a]++l)=seen++a::l:=by simp
  rw [this]
  split<;>simp
theorem mem_dedup:∀ (l seen:List ByteArray) (s:ByteArray),s∈dedupA seen l↔s∈l∧s ∉ seen
 | [],seen,s=>by simp [dedupA]
 | a::l,seen,s=>by
  simp only [dedupA]
  by_cases h:(seen.any fun y=>decide (a=y))=true
  · rw [if_pos h,mem_dedup l]
    have ha:a∈seen:=by obtain ⟨y,h1,h2⟩:=List.any_eq_true.1 h;simp at h2;subst h2;exact h1
    simp only [List.mem_append,List.mem_singleton,List.mem_cons,not_or]
    constructor
    · rintro ⟨h1,h2,h3⟩;exact ⟨.inr h1,h2⟩
    · rintro ⟨h1 | h1,h2⟩
      · subst h1;exact absurd ha h2
      · exact ⟨h1,h2,⟨fun (e:s=a)=>h2 (e ▸ ha),by simp⟩⟩
  · rw [if_neg h]
    have ha:a ∉ seen:=fun h2=>h (List.any_eq_true.2 ⟨a,h2,by simp⟩)
    simp only [List.mem_cons,mem_dedup l,List.mem_append,List.mem_singleton,not_or]
    by_cases e:s=a
    · subst e;simp [ha]
    · simp [e]
theorem dedup_fold (l:List ByteArray):dedupA [] l=l.foldl addS []:=by
 refine snoc_induct (motive:=fun l=>dedupA [] l=l.foldl addS []) rfl (fun l a ih=>?_) l
 rw [dedup_snoc,List.foldl_append,← ih,List.nil_append]
 show _=addS (dedupA [] l) a
 unfold addS
 have:((dedupA [] l).any fun y=>decide (y=a))=(l.any fun y=>decide (a=y)):=by
  rw [Bool.eq_iff_iff,List.any_eq_true,List.any_eq_true]
  constructor
  · rintro ⟨y,h1,h2⟩;simp at h2;subst h2;exact ⟨y,((mem_dedup l [] y).1 h1).1,by simp⟩
  · rintro ⟨y,h1,h2⟩;simp at h2;subst h2;exact ⟨a,(mem_dedup l [] a).2 ⟨h1,by simp⟩,by simp⟩
 rw [this]
 split<;>simp
theorem addS_len (o:List ByteArray) (s:ByteArray):o.length≤(addS o s).length∧(addS o s).length≤o.length+1:=by unfold addS;split<;>simp
theorem foldl_addS_len:∀ (l o:List ByteArray),(l.foldl addS o).length≤o.length+l.length
 | [],o=>by simp
 | s::l,o=>by
  have h1:=foldl_addS_len l (addS o s)
  have h2:=(addS_len o s).2
  simp only [List.foldl_cons,List.length_cons];omega
abbrev OwnS (w:World) (base:Nat) (v:Value) (l:List ByteArray):Prop:=OwnE w base 9 1 strEnc v l
theorem append_strL {w:World} {QP:List PanicEntry→World→Prop} {k:Value→World→Prop} {base:Nat} {v:Value} {l:List ByteArray} (s:ByteArray) {p:Nat} (hown:OwnS w base v l) (hp:w.heap[p]?=some (.cells #[.string s] 9 (0,0))) (hbase:base≤w.heap.size) (hl:l.length≤1048576)
 (hk:∀ v' w',OwnS w' base v' (l++[s])→w.grownBy w' v.ownBlock→(∀ b,v'.ownBlock=some b→v.ownBlock=some b∨b=w.heap.size)→k v' w') :
 opV Pg (Builtin.append_ #[138,138] 138 #[v,.slice (some ⟨p,0,none⟩) 1 1]) QP w k:=by
 have hby:=by9
 refine op_appendL (l':=[s]) Tryz.underlying138 ty9 rfl (by decide) (fun _=>rfl) (fun x _ u hu=>by simp at hu;subst hu;rfl) hown (fun j x hx=>?_) hbase (Nat.zero_lt_one) ?_ (by simp;omega) ?_
 · cases j with
   | zero =>
    simp at hx;subst hx
    intro j v hv
    rw [(cells_of_heap hp).1]
    simpa using hv
   | succ j=>simp at hx
 · simp only [List.length_cons,List.length_nil]
   exact Nat.le_trans (Nat.mul_le_mul (Nat.add_le_add_right hl 1) hby) (by decide)
 · intro g cap w' h1 h2 h3 h4
   refine hk _ w' h1 h2 (fun b hb=>?_)
   simp only [Value.ownBlock,Option.some.injEq] at hb
   subst hb
   exact h3
def Apart (v u:Value):Prop:=∀ b,v.ownBlock=some b→u.ownBlock≠some b
theorem OwnS.lt {w:World} {base:Nat} {v:Value} {l:List ByteArray} (h:OwnS w base v l):∀ b,v.ownBlock=some b→b < w.heap.size:=fun b hb=>(World.ownsRow.lt h b hb).2
theorem Apart.after {v u v':Value} {n:Nat} (h:Apart v u) (hu:∀ b,u.ownBlock=some b→b < n) (hv:∀ b,v'.ownBlock=some b→v.ownBlock=some b∨b=n):Apart v' u:=fun b hb e=>by
 rcases hv b hb with h1 | h1
 · exact h b h1 e
 · have:=hu b e;omega
def refsL (m:MsgD):List ByteArray:=dedupA [] (allRefs m.fields)
section
variable {W:World} {R:RT}
theorem rre_in2 {w:World} (e:Ext W w) (sv t6 t4:Value) (out L:List ByteArray) (hO:OwnS w W.heap.size sv out) (hL:OwnS w W.heap.size t6 L) (hA:Apart sv t6) (hlen:out.length+L.length≤1048576) (next1:Value→Value→World→Prop)
 (i:Nat) (hi:i < 9223372036854775807) (h4:t4 = .int .i64 (i:Int)) (hn:∀ sv' w',Ext W w'→OwnS w' W.heap.size sv' (L.foldl addS out)→next1 sv' (.int .i64 ((i+1:Nat):Int)) w') :
 loop2 (fun t3 t8 w next7=>n27c5 t3 t4 t6 t8 next1 next7 R w) sv (.int .i64 0) w:=by
 refine loop2_intro (fun a b w'=>∃ (k:Nat) (sv':Value),a=sv'∧b = .int .i64 k∧k≤L.length∧Ext W w'∧OwnS w' W.heap.size sv' ((L.take k).foldl addS out)∧OwnS w' W.heap.size t6 L∧Apart sv' t6) (fun _ b _=>L.length - (intOf b).toNat) ⟨0,sv,rfl,rfl,by omega,e,hO,hL,hA⟩ ?_
 rintro _ _ w1 ⟨k,sv',rfl,rfl,hk,e1,hO1,hL1,hA1⟩
 have hsl:=hL1.slice (E:=EStr) (fun _=>rfl) (fun _ _=>rfl)
 obtain ⟨A,c,h6,hlc,hcm,hlm,hel⟩:=SliceOf.open hsl
 unfold n27c5
 rcases drop_cases hk with ⟨x,hx,hd,hlt,hdec⟩ | ⟨hk,hd,hdec⟩
 · have hstep:(L.take (k+1)).foldl addS out=addS ((L.take k).foldl addS out) x:=by rw [take_snoc hx,List.foldl_append];rfl
   have hol:((L.take k).foldl addS out).length≤1048576:=by
    have:=foldl_addS_len (L.take k) out
    have h2:(L.take k).length≤L.length:=by rw [List.length_take];omega
    omega
   generalize ((L.take k).foldl addS out)=o1 at hO1 hstep hol
   obtain ⟨b6,o6,cs6,hA6,_,hE6,hcs6⟩:=hel k x hx
   subst h6 hA6
   subst hcs6
   simp (disch:=try exact DI) only [↓PR,QR,simprocAttr,hdec]
   refine loop2_intro (fun a b w'=>∃ (j:Nat),a = .bool ((o1.take j).any fun y=>decide (y=x))∧b = .int .i64 j∧j≤o1.length∧Ext w1 w') (fun _ b _=>o1.length - (intOf b).toNat) ⟨0,by simp,rfl,by omega,Ext.refl _⟩ ?_
   rintro _ _ w2 ⟨j,rfl,rfl,hj,e2⟩
   have hso:=hO1.slice (E:=EStr) (fun _=>rfl) (fun _ _=>rfl)
   obtain ⟨A3,c3,h3,hlc3,hcm3,hlm3,hel3⟩:=SliceOf.open hso
   unfold n27c4
   rcases drop_cases hj with ⟨y,hy,hdj,hltj,hdecj⟩ | ⟨hj,hdj,hdecj⟩
   · obtain ⟨b3,o3,cs3,hA3,_,hE3,hcs3⟩:=hel3 j y hy
     subst h3 hA3
     subst hcs3
     have hany:((o1.take (j+1)).any fun y=>decide (y=x))=(((o1.take j).any fun y=>decide (y=x))||decide (y=x)):=by rw [take_snoc hy,List.any_append];simp
     simp (disch:=try exact DI) only [↓PR,QR,simprocAttr,hdecj]
     refine drawK_intro ?_
     unfold n27c1
     generalize hsn:((o1.take j).any fun y=>decide (y=x))=sn at hany
     cases sn with
     | true =>
      simp (disch:=try exact DI) only [↓PR,QR,simprocAttr]
      refine ⟨⟨j+1,?_,rfl,by omega,ee⟩,meas_lt hltj⟩
      rw [hany];rfl
     | false =>
      simp (disch:=try exact DI) only [↓PR,QR,simprocAttr,hE3.c1 e2,hE6.c1 e2]
      refine ⟨⟨j+1,?_,rfl,by omega,ee⟩,meas_lt hltj⟩
      rw [hany];rfl
   · subst hj
     rw [List.take_length]
     have hadd:addS o1 x=if (o1.any fun y=>decide (y=x))=true then o1 else o1++[x]:=rfl
     rw [hadd] at hstep
     subst h3
     simp (disch:=try exact DI) only [↓PR,QR,simprocAttr,hdecj]
     unfold n27c3
     generalize (o1.any fun y=>decide (y=x))=sn at hstep
     cases sn with
     | true =>
      rw [if_pos rfl] at hstep
      simp (disch:=try exact DI) only [↓PR,QR,simprocAttr]
      exact ⟨⟨k+1,_,rfl,rfl,by omega,e1.trans e2,by rw [hstep];exact hO1.ext e2,hL1.ext e2,hA1⟩,meas_lt hlt⟩
     | false =>
      rw [if_neg (by simp)] at hstep
      simp (disch:=try exact DI) only [↓PR,QR,simprocAttr,n27c2,hE6.c1 e2]
      have ea:Ext w1 (w2.alloc (Obj.cells #[.string x] 9)):=e2.alloc _
      have hsz:(w2.alloc (Obj.cells #[.string x] 9)).heap.size=w2.heap.size+1:=by simp only [World.size_alloc]
      have s1:=e1.size
      have s2:=e2.size
      refine append_strL x (hO1.ext ea) (heap_new w2 _ _) (by omega) hol ?_
      intro v' w' hO' hg hv'
      have ew:Ext W w':=(e1.trans ea).grown hg (fun b hb=>(World.ownsRow.lt hO1 b hb).1)
      simp (disch:=try exact DI) only [↓PR,QR,simprocAttr]
      refine ⟨⟨k+1,v',rfl,rfl,by omega,ew,by rw [hstep];exact hO',(hL1.ext ea).grown hg (fun b hb e=>hA1 b e hb),hA1.after (fun b hb=>?_) hv'⟩,meas_lt hlt⟩
      have:=hL1.lt b hb
      omega
 · subst hk
   rw [List.take_length] at hO1
   subst h6
   rw [h4]
   simp (disch:=try exact DI) only [↓PR,QR,simprocAttr,hdec]
   exact hn _ w1 e1 hO1
theorem rre_c8 {w:World} (e:Ext W w) (x:FieldD) (tv cv:Value) (p5:Nat) (o5:w.heap[p5]?=some (.cells (fieldCells x tv cv).toArray 38 (0,0))) (hC:CasesOf W cv x.cases) (sv t6 t4:Value) (out:List ByteArray) (hO:OwnS w W.heap.size sv out) (hlen:out.length+(refsF x).length≤1048576)
 (h6:(x.kind≠9∧OwnS w W.heap.size t6 (refsF x)∧Apart sv t6)∨(x.kind=9∧t6 = .slice none 0 0)) (next1:Value→Value→World→Prop) (i:Nat) (hi:i < 9223372036854775807) (h4:t4 = .int .i64 (i:Int))
 (hn:∀ sv' w',Ext W w'→OwnS w' W.heap.size sv' ((refsF x).foldl addS out)→next1 sv' (.int .i64 ((i+1:Nat):Int)) w') :
 loop2 (fun t6 t7 w next5=>n27c8 sv t4 (.pointer (some ⟨p5,0,none⟩)) t6 t7 next1 next5 R w) t6 (.int .i64 0) w:=by
 rcases h6 with ⟨hk,hL,hA⟩ | ⟨hk,rfl⟩
 · refine loop2_intro (fun a b w'=>a=t6∧b = .int .i64 0∧w'=w) (fun _ _ _=>0) ⟨rfl,rfl,rfl⟩ ?_
   rintro _ _ _ ⟨rfl,rfl,rfl⟩
   unfold n27c8
   have k9:(x.kind == 9)=false:=by simpa using hk
   simp (disch:=try exact DI) only [↓PR,QR,simprocAttr,(cells_of_heap o5).1,k9,n27c7]
   exact rre_in2 e sv _ t4 out (refsF x) hO hL hA hlen next1 i hi h4 hn
 · have hr:refsF x=x.cases.map (·.of):=by unfold refsF;rw [if_neg (by omega),if_pos hk]
   have k9:(x.kind == 9)=true:=by simpa using hk
   obtain ⟨A,c,rfl,hlc,hcm,hlm,hel⟩:=SliceOf.open hC
   have l5:p5 < w.heap.size:=(Array.getElem?_eq_some_iff.1 o5).1
   rw [hr] at hlen hn
   simp only [List.length_map] at hlen
   refine loop2_intro (fun a b w'=>∃ (k:Nat) (u:Value),a=u∧b = .int .i64 k∧k≤x.cases.length∧Ext W w'∧w'.heap[p5]?=some (.cells (fieldCells x tv (.slice A x.cases.length c)).toArray 38 (0,0))∧OwnS w' w.heap.size u ((x.cases.take k).map (·.of))∧OwnS w' W.heap.size sv out∧w.heap.size≤w'.heap.size) (fun _ b _=>x.cases.length - (intOf b).toNat) ⟨0,_,rfl,rfl,by omega,e,o5,OwnE.nil _ _ _ _ _,hO,Nat.le_refl _⟩ ?_
   rintro u _ w1 ⟨k,_,rfl,rfl,hk1,e1,y5,hU,hO1,hs1⟩
   have hAp:Apart sv u:=fun b hb e=>by
    have h1:=hO.lt b hb
    have h2:=(World.ownsRow.lt hU b e).1
    omega
   unfold n27c8
   rcases drop_cases hk1 with ⟨y,hy,hd,hlt,hdec⟩ | ⟨hk1,hd,hdec⟩
   · obtain ⟨b,o,cs,rfl,hl,hA,rfl⟩:=hel k y hy
     simp (disch:=try exact DI) only [↓PR,QR,simprocAttr,(cells_of_heap y5).1,k9,hdec,n27c7]
     unfold n27c6
     simp (disch:=try exact DI) only [↓PR,QR,simprocAttr,(cells_of_heap y5).1,hA.c3 e1]
     have ea:Ext w1 (w1.alloc (Obj.cells #[.string y.of] 9)):=ee
     have hsz:(w1.alloc (Obj.cells #[.string y.of] 9)).heap.size=w1.heap.size+1:=by simp only [World.size_alloc]
     have sW:=e.size
     refine append_strL y.of (hU.ext ea) (heap_new w1 _ _) (by omega) (by rw [List.length_map,List.length_take];omega) ?_
     intro v' w' hO' hg hv'
     have ew:Ext W w':=(e1.trans ea).grown hg (fun b hb=>by have:=(World.ownsRow.lt hU b hb).1;omega)
     have hsw:=hg.size
     simp (disch:=try exact DI) only [↓PR,QR,simprocAttr]
     refine ⟨⟨k+1,v',rfl,rfl,by omega,ew,?_,?_,(hO1.ext ea).grown hg (fun b hb e=>hAp b hb e),by omega⟩,meas_lt hlt⟩
     · rw [hg.block p5 (by omega) (fun e=>by have:=(World.ownsRow.lt hU p5 e.symm).1;omega)]
       exact ea.obj y5
     · rw [take_snoc hy,List.map_append];exact hO'
   · subst hk1
     rw [List.take_length] at hU
     simp (disch:=try exact DI) only [↓PR,QR,simprocAttr,(cells_of_heap y5).1,k9,hdec,n27c7]
     exact rre_in2 e1 sv _ t4 out (x.cases.map (·.of)) hO1 (OwnE.base hU e.size) hAp (by simpa using hlen) next1 i hi h4 hn
theorem rRefers_ret (w0:World) (v:Value) (m:MsgD) (hm:MsgVal w0 v m) (hb:(allRefs m.fields).length≤1048576) :
 Ret Pg 97 #[v] w0 fun r w'=>OwnS w' w0.heap.size r (refsL m)∧Ext w0 w':=by
 obtain ⟨fv,rfl,hF⟩:=hm
 obtain ⟨A,c,rfl,hlc,hcm,hlm,hel⟩:=SliceOf.open hF
 refine n27s (R:=retR _) ?_;unfold n27
 simp (disch:=try exact DI) only [↓PR,QR,simprocAttr]
 have hBW:=ElemAt.new (w:=w0) (msgCells m (.slice A m.fields.length c)) (44)
 have eW:Ext w0 (w0.alloc (Obj.cells (List.toArray (msgCells m (.slice A m.fields.length c))) (44))):=(Ext.refl _).alloc _
 generalize (w0.alloc (Obj.cells (List.toArray (msgCells m (.slice A m.fields.length c))) (44)))=W at hBW eW ⊢
 have hW:w0.heap.size≤W.heap.size:=eW.size
 refine loop2_intro (fun a b w'=>∃ (k:Nat) (sv:Value),a=sv∧b = .int .i64 k∧k≤m.fields.length∧Ext W w'∧OwnS w' W.heap.size sv (dedupA [] (allRefs (m.fields.take k)))) (fun _ b _=>m.fields.length - (intOf b).toNat) ⟨0,_,rfl,rfl,by omega,Ext.refl _,OwnE.nil _ _ _ _ _⟩ ?_
 rintro sv _ w1 ⟨k,_,rfl,rfl,hk,e,hO⟩
 have e':=eW.trans e
 have s1:=e.size
 unfold n27c13
 rcases drop_cases hk with ⟨x,hx,hd,hlt,hdec⟩ | ⟨hk,hd,hdec⟩
 · obtain ⟨b,o,cs,rfl,hl,hA,hE⟩:=hel k x hx
   obtain ⟨tv,cv,rfl,hT,hC,ht1,hc1⟩:=hE.op
   have hpre:allRefs (m.fields.take (k+1))=allRefs (m.fields.take k)++refsF x:=by unfold allRefs;rw [take_snoc hx,List.flatMap_append];simp
   have hle:(allRefs (m.fields.take k)).length+(refsF x).length≤1048576:=by
    have h1:(allRefs (m.fields.take (k+1))).length≤(allRefs m.fields).length:=by
     conv=>rhs;rw [← List.take_append_drop (k+1) m.fields]
     unfold allRefs
     rw [List.flatMap_append,List.length_append];omega
    rw [hpre,List.length_append] at h1;omega
   have hout:(dedupA [] (allRefs (m.fields.take k))).length≤(allRefs (m.fields.take k)).length:=by
    rw [dedup_fold];have:=foldl_addS_len (allRefs (m.fields.take k)) [];simpa using this
   have hle':(dedupA [] (allRefs (m.fields.take k))).length+(refsF x).length≤1048576:=by omega
   have hnext:dedupA [] (allRefs (m.fields.take (k+1)))=(refsF x).foldl addS (dedupA [] (allRefs (m.fields.take k))):=by rw [hpre,dedup_fold,dedup_fold,List.foldl_append]
   simp (disch:=try exact DI) only [↓PR,QR,simprocAttr,hdec,hBW.c2]
   unfold n27c12
   simp (disch:=try exact DI) only [↓PR,QR,simprocAttr,hBW.c2,hA.c15 e']
   have ea:Ext w1 (w1.alloc (Obj.cells (fieldCells x tv cv).toArray 38)):=ee
   have o5:=heap_new w1 (fieldCells x tv cv).toArray 38
   have hO2:=hO.ext ea
   have ew:=e.trans ea
   have hbn:∀ sv' w',Ext W w'→OwnS w' W.heap.size sv' ((refsF x).foldl addS (dedupA [] (allRefs (m.fields.take k))))→(∃ (k':Nat) (sv:Value),sv'=sv∧(Value.int .i64 ((k+1:Nat):Int)) = .int .i64 k'∧k'≤m.fields.length∧Ext W w'∧OwnS w' W.heap.size sv (dedupA [] (allRefs (m.fields.take k'))))∧m.fields.length - (intOf (Value.int .i64 ((k+1:Nat):Int))).toNat < m.fields.length - (intOf (Value.int .i64 (k:Int))).toNat :=
    fun sv' w' ew h=>⟨⟨k+1,sv',rfl,rfl,by omega,ew,by rw [hnext];exact h⟩,meas_lt hlt⟩
   have hCW:=CasesOf.ext hC eW
   have lo:∀ b,sv.ownBlock=some b→b < w1.heap.size:=fun b hb=>hO.lt b hb
   generalize hw2:(w1.alloc (Obj.cells (fieldCells x tv cv).toArray 38))=w2 at ea o5 hO2 ew
   have hs2:w2.heap.size=w1.heap.size+1:=by rw [← hw2];simp only [World.size_alloc]
   by_cases hr:x.kind=7∨x.kind=8∨x.kind=12
   · have hrf:refsF x=[x.of]:=by unfold refsF;rw [if_pos hr]
     have tail:joinK (fun (t6:Value) (w:World)=>loop2 (fun t6 t7 w next5=>n27c8 sv (.int .i64 (k:Int)) (.pointer (some ⟨w1.heap.size,0,none⟩)) t6 t7 (fun a0' a1' w'=>(∃ (k':Nat) (sv:Value),a0'=sv∧a1' = .int .i64 k'∧k'≤m.fields.length∧Ext W w'∧OwnS w' W.heap.size sv (dedupA [] (allRefs (m.fields.take k'))))∧m.fields.length - (intOf a1').toNat < m.fields.length - (intOf (Value.int .i64 (k:Int))).toNat) next5 (retR fun r w'=>OwnS w' w0.heap.size r (refsL m)∧Ext w0 w') w) t6 (.int .i64 0) w) fun K4=>n27c9 (.pointer (some ⟨w1.heap.size,0,none⟩)) K4 (retR fun r w'=>OwnS w' w0.heap.size r (refsL m)∧Ext w0 w') w2:=by
      rw [joinK_eq]
      unfold n27c9
      simp (disch:=try exact DI) only [↓PR,QR,simprocAttr,(cells_of_heap o5).1]
      have eb:Ext w2 (w2.alloc (Obj.cells #[.string x.of] 9)):=ee
      have hsb:(w2.alloc (Obj.cells #[.string x.of] 9)).heap.size=w2.heap.size+1:=by simp only [World.size_alloc]
      refine append_strL x.of (OwnE.nil _ W.heap.size _ _ _) (heap_new w2 _ _) (by omega) (by decide) ?_
      intro v' w' hO' hg hv'
      have eg:Ext w1 w':=(ea.trans eb).grown hg (fun b hb=>by cases hb)
      refine rre_c8 (e.trans eg) x tv cv w1.heap.size ?_ hCW sv v' _ _ (hO.ext eg) hle' (.inl ⟨by omega,by rw [hrf];exact hO',fun b hb e=>?_⟩) _ k (by omega) rfl hbn
      · exact (Ext.grown (Ext.refl _) hg (fun b hb=>by cases hb)).obj (eb.obj o5)
      · rcases hv' b e with h1 | h1
        · cases h1
        · have:=lo b hb;omega
     rw [joinK_eq] at tail
     rcases hr with h7 | h8 | h12
     · have k7:(x.kind == 7)=true:=by simpa using h7
       simp (disch:=try exact DI) only [↓PR,QR,simprocAttr,k7,n27c11,n27c10]
       exact tail
     · have k7:(x.kind == 7)=false:=by simp;omega
       have k8:(x.kind == 8)=true:=by simpa using h8
       simp (disch:=try exact DI) only [↓PR,QR,simprocAttr,k7,k8,n27c11,n27c10,(cells_of_heap o5).1]
       exact tail
     · have k7:(x.kind == 7)=false:=by simp;omega
       have k8:(x.kind == 8)=false:=by simp;omega
       have k12:(x.kind == 12)=true:=by simpa using h12
       simp (disch:=try exact DI) only [↓PR,QR,simprocAttr,k7,k8,k12,n27c11,n27c10,(cells_of_heap o5).1]
       exact tail
   · have k7:(x.kind == 7)=false:=by simp;omega
     have k8:(x.kind == 8)=false:=by simp;omega
     have k12:(x.kind == 12)=false:=by simp;omega
     simp (disch:=try exact DI) only [↓PR,QR,simprocAttr,k7,k8,k12,n27c11,n27c10,(cells_of_heap o5).1]
     refine rre_c8 ew x tv cv w1.heap.size o5 hCW sv _ _ _ hO2 hle' ?_ _ k (by omega) rfl hbn
     by_cases h9:x.kind=9
     · exact .inr ⟨h9,rfl⟩
     · have hrf:refsF x=[]:=by unfold refsF;rw [if_neg hr,if_neg h9]
       exact .inl ⟨h9,by rw [hrf];exact OwnE.nil _ _ _ _ _,fun b _ e=>by cases e⟩
 · subst hk
   rw [List.take_length] at hO
   simp (disch:=try exact DI) only [↓PR,QR,simprocAttr,hdec,hBW.c2]
   exact ⟨OwnE.base hO hW,ee⟩
end
def DistM (l:List MsgD):Prop:=l.Pairwise fun a b=>a.name≠b.name
theorem keys_strs:∀ (l:List MsgD) (a:List (ByteArray×Bool)),(l.foldl stepS a).map (·.1)=a.map (·.1)++l.map (·.name)
 | [],a=>by simp
 | m::l,a=>by rw [List.foldl_cons,keys_strs l,stepS,List.map_append];simp
theorem keys_deps:∀ (l:List MsgD) (a:List (ByteArray×Int)),(l.foldl stepD a).map (·.1)=a.map (·.1)++l.map (·.name)
 | [],a=>by simp
 | m::l,a=>by rw [List.foldl_cons,keys_deps l,stepD,List.map_append];simp
theorem first_last {β:Type} {ps:List (ByteArray×β)} {l:List MsgD} (hp:ps.map (·.1)=l.map (·.name)) (hd:DistM l) (s:ByteArray):(idx (fun m:MsgD=>decide (m.name=s)) l = -1∧lastP ps s=none)∨∃ (k:Nat) (b:β),idx (fun m:MsgD=>decide (m.name=s)) l=k∧k < l.length∧ps[k]?=some (s,b)∧lastP ps s=some b:=by
 have hlen:ps.length=l.length:=by simpa using congrArg List.length hp
 have hk:∀ (k:Nat) (m:MsgD),l[k]?=some m→∃ b,ps[k]?=some (m.name,b):=by
  intro k m hm
  obtain ⟨q,hq⟩:=getElem?_lt (l:=ps) (k:=k) (by rw [hlen];exact (List.getElem?_eq_some_iff.1 hm).1)
  have:=congrArg (fun x=>x[k]?) hp
  simp only [List.getElem?_map,hm,hq,Option.map_some] at this
  injection this with this
  exact ⟨q.2,by rw [hq,← this]⟩
 have hin:∀ q∈ps,∃ (k:Nat) (m:MsgD),l[k]?=some m∧ps[k]?=some q∧m.name=q.1:=by
  intro q hq
  obtain ⟨k,hkq⟩:=List.getElem?_of_mem hq
  obtain ⟨m,hm⟩:=getElem?_lt (l:=l) (k:=k) (by rw [← hlen];exact (List.getElem?_eq_some_iff.1 hkq).1)
  obtain ⟨b,hb⟩:=hk k m hm
  rw [hkq] at hb
  injection hb with hb
  exact ⟨k,m,hm,hkq,by rw [hb]⟩
 have hone:∀ (k j:Nat) (a b:MsgD),l[k]?=some a→l[j]?=some b→a.name=b.name→k=j:=by
  intro k j a b ha hb hn
  obtain ⟨h1,ha'⟩:=List.getElem?_eq_some_iff.1 ha
  obtain ⟨h2,hb'⟩:=List.getElem?_eq_some_iff.1 hb
  have hpw:=List.pairwise_iff_getElem.1 hd
  rcases Nat.lt_trichotomy k j with h | h | h
  · have:=hpw k j h1 h2 h;rw [ha',hb'] at this;exact absurd hn this
  · exact h
  · have:=hpw j k h2 h1 h;rw [ha',hb'] at this;exact absurd hn.symm this
 unfold idx
 cases h:l.findIdx? (fun m=>decide (m.name=s)) with
 | none =>
  rw [List.findIdx?_eq_none_iff] at h
  refine .inl ⟨rfl,?_⟩
  cases hl:lastP ps s with
  | none=>rfl
  | some b =>
   obtain ⟨k,m,h1,_,h3⟩:=hin _ (lastP_mem hl)
   simpa [h3] using h m (List.mem_of_getElem? h1)
 | some k =>
  obtain ⟨hkl,hpk,_⟩:=List.findIdx?_eq_some_iff_getElem.1 h
  simp only [decide_eq_true_eq] at hpk
  obtain ⟨b,hb⟩:=hk k _ (List.getElem?_eq_getElem hkl)
  rw [hpk] at hb
  refine .inr ⟨k,b,rfl,hkl,hb,?_⟩
  cases hl:lastP ps s with
  | none =>
   have hmem:=List.mem_of_getElem? hb
   unfold lastP at hl
   rw [Option.map_eq_none_iff,List.find?_eq_none] at hl
   exact absurd (hl (s,b) (List.mem_reverse.2 hmem)) (by simp)
  | some b' =>
   obtain ⟨j,m,h1,h2,h3⟩:=hin _ (lastP_mem hl)
   have:=hone k j _ m (List.getElem?_eq_getElem hkl) h1 (hpk.trans h3.symm)
   subst this
   rw [hb] at h2
   injection h2 with h2
   injection h2 with _ h2
   rw [h2]
abbrev boolEnc (b:Bool):List Value:=[.bool b]
abbrev OwnB (w:World) (base:Nat) (v:Value) (l:List Bool):Prop:=OwnE w base 4 1 boolEnc v l
theorem keysS (l:List MsgD):(strsOf l).map (·.1)=l.map (·.name):=by unfold strsOf;rw [keys_strs];rfl
theorem keysD (l:List MsgD):(depsOf l).map (·.1)=l.map (·.name):=by unfold depsOf;rw [keys_deps];rfl
def RefsIn (l:List MsgD) (n:Nat):Prop:=∀ (k:Nat) (m:MsgD),k < n→l[k]?=some m→∀ s∈refsL m,((l.take k).any fun m=>decide (m.name=s))=true
theorem rStricts_ret (w0:World) (v:Value) (d:DefD) (n:Nat) (hd:DefVal w0 v d) (hn:n≤d.msgs.length) (hN:DistM (d.msgs.take n)) (hR:RefsIn d.msgs n) (hb:∀ m∈d.msgs,(allRefs m.fields).length≤1048576) (hn1:n≤1048576) :
 Ret Pg 154 #[v,.int .i64 (n:Int)] w0 fun r w'=>SliceOf w' 1 EBool r ((strsOf (d.msgs.take n)).map (·.2))∧Ext w0 w':=by
 obtain ⟨mv,rfl,hM⟩:=hd
 refine n28s (R:=retR _) ?_;unfold n28
 rw [op_boxA]
 have hBW:=ElemAt.new (w:=w0) (defCells d mv) (24)
 have eW:Ext w0 (w0.alloc (Obj.cells (List.toArray (defCells d mv)) (24))):=(Ext.refl _).alloc _
 generalize (w0.alloc (Obj.cells (List.toArray (defCells d mv)) (24)))=W at hBW eW ⊢
 refine loop2_intro (fun a b w'=>∃ k:Nat,b = .int .i64 k∧k≤n∧Ext W w'∧OwnB w' W.heap.size a ((strsOf (d.msgs.take k)).map (·.2))) (fun _ b _=>n - (intOf b).toNat) ⟨0,rfl,by omega,Ext.refl _,OwnE.nil _ _ _ _ _⟩ ?_
 rintro out _ w ⟨k,rfl,hk,e,hO⟩
 have E:=eW.trans e
 unfold n28c8
 by_cases hkn:k < n
 · have d1:decide ((k:Int) < (n:Int))=true:=by simp only [decide_eq_true_eq];omega
   obtain ⟨m,hm⟩:=getElem?_lt (l:=d.msgs) (k:=k) (by omega)
   have hM0:=hM
   obtain ⟨bm,om,cm,rfl,hlc,hcm,hlm,hkl,hel⟩:=open1 hM hm
   obtain ⟨csm,_,hAm,hEm⟩:=hel k m hm
   obtain ⟨fv,rfl,hF⟩:=hEm
   have hF0:=hF
   obtain ⟨Af,cf,rfl,hlf,hcf,hlmf,helf⟩:=SliceOf.open hF
   simp (disch:=try exact DI) only [↓PR,QR,simprocAttr,d1]
   refine loop2_intro (fun a b w'=>∃ i:Nat,a = .bool ((m.fields.take i).all fun f=>!f.loose)∧b = .int .i64 i∧i≤m.fields.length∧Ext w w') (fun _ b _=>m.fields.length - (intOf b).toNat) ⟨0,by simp,rfl,by omega,Ext.refl _⟩ ?_
   rintro _ _ w2 ⟨i,rfl,rfl,hi,e2⟩
   have hcW:=hBW.c3 (e.trans e2)
   have hcm2:=hAm.c2 (E.trans e2)
   unfold n28c7
   rcases drop_cases hi with ⟨x,hx,hdr,hlt,hdec⟩ | ⟨hi,hdr,hdec⟩
   · have hall:((m.fields.take (i+1)).all fun f=>!f.loose)=(((m.fields.take i).all fun f=>!f.loose)&&!x.loose):=by rw [take_snoc hx,List.all_append];simp
     obtain ⟨bf,of,csf,rfl,_,hAf,hEf⟩:=helf i x hx
     obtain ⟨tf,cf',rfl,hTf,hCf,_,_⟩:=hEf.op
     have hcf:=hAf.c15 (E.trans e2)
     simp (disch:=try exact DI) only [↓PR,QR,simprocAttr,hcW,hcm2,hdec]
     unfold n28c6
     cases hs:(m.fields.take i).all (fun f=>!f.loose) with
     | false =>
      rw [hs] at hall
      simp (disch:=try exact DI) only [↓PR,QR,simprocAttr]
      exact ⟨⟨i+1,by rw [hall];rfl,rfl,hlt,e2⟩,meas_lt hlt⟩
     | true =>
      rw [hs] at hall
      simp (disch:=try exact DI) only [↓PR,QR,simprocAttr,hcW,hcm2,hcf,n28c1]
      exact ⟨⟨i+1,by rw [hall];rfl,rfl,hlt,e2⟩,meas_lt hlt⟩
   · subst hi
     rw [List.take_length]
     simp (disch:=try exact DI) only [↓PR,QR,simprocAttr,hcW,hcm2,hdec]
     unfold n28c5
     simp (disch:=try exact DI) only [↓PR,QR,simprocAttr,hcW,hcm2]
     refine callK_ret (rRefers_ret _ _ m ⟨_,rfl,hF0.ext (E.trans e2)⟩ (hb m (List.mem_of_getElem? hm))) ?_
     rintro rv w3 ⟨hS,e3⟩
     have e23:=e2.trans e3
     have hSl:=hS.slice (E:=EStr) (fun _=>rfl) (fun _ _=>rfl)
     obtain ⟨Ar,cr,rfl,hlr,hcr,hlmr,helr⟩:=SliceOf.open hSl
     have hsM:strictM (strsOf (d.msgs.take k)) m=((m.fields.all fun f=>!f.loose)&&(refsL m).all fun s=>(lastP (strsOf (d.msgs.take k)) s).getD false):=rfl
     generalize hA:(m.fields.all fun f=>!f.loose)=A0 at hsM ⊢
     have hDk:DistM (d.msgs.take k):=by
      have:=List.Pairwise.sublist (List.take_sublist k (d.msgs.take n)) hN
      rwa [List.take_take,Nat.min_eq_left (by omega)] at this
     refine loop2_intro (fun a b w'=>∃ j:Nat,a = .bool (A0&&((refsL m).take j).all fun s=>(lastP (strsOf (d.msgs.take k)) s).getD false)∧b = .int .i64 j∧j≤(refsL m).length∧Ext w3 w') (fun _ b _=>(refsL m).length - (intOf b).toNat) ⟨0,by simp,rfl,by omega,Ext.refl _⟩ ?_
     rintro _ _ w4 ⟨j,rfl,rfl,hj,e4⟩
     have e24:=e23.trans e4
     unfold n28c4
     rcases drop_cases hj with ⟨s,hx,hdr,hlt,hdec⟩ | ⟨hj,hdr,hdec⟩
     · obtain ⟨bs,os,css,rfl,_,hAs,rfl⟩:=helr j s hx
       have hall:(A0&&((refsL m).take (j+1)).all fun s=>(lastP (strsOf (d.msgs.take k)) s).getD false)=((A0&&((refsL m).take j).all fun s=>(lastP (strsOf (d.msgs.take k)) s).getD false)&&(lastP (strsOf (d.msgs.take k)) s).getD false):=by rw [take_snoc hx,List.all_append];simp [Bool.and_assoc]
       simp (disch:=try exact DI) only [↓PR,QR,simprocAttr,hdec]
       refine drawK_intro ?_
       unfold n28c2
       generalize (A0&&((refsL m).take j).all fun s=>(lastP (strsOf (d.msgs.take k)) s).getD false)=B at hall ⊢
       cases B with
       | false =>
        simp (disch:=try exact DI) only [↓PR,QR,simprocAttr]
        exact ⟨⟨j+1,by rw [hall];rfl,rfl,hlt,e4.drew⟩,meas_lt hlt⟩
       | true =>
        simp (disch:=try exact DI) only [↓PR,QR,simprocAttr,hBW.c3 (e.trans e24),hAs.c1 e4]
        refine zcr (rFind_ret _ _ d s k ⟨_,rfl,hM0.ext (E.trans e24).drew⟩ (by omega)) fun w5 e5=>?_
        refine ⟨e5,?_⟩
        have hex:=hR k m hkn hm s (List.mem_of_getElem? hx)
        rcases first_last (keysS (d.msgs.take k)) hDk s with ⟨h1,_⟩ | ⟨q,b,h1,h2,h3,h4⟩
        · have:=idx_neg (p:=fun m:MsgD=>decide (m.name=s)) (l:=d.msgs.take k)
          rw [hex,h1] at this
          exact absurd this (by decide)
        · rw [h1]
          have hO4:=(hO.ext e24).slice (E:=EBool) (fun _=>rfl) (fun _ _=>rfl)
          have hq:((strsOf (d.msgs.take k)).map (·.2))[q]?=some b:=by rw [List.getElem?_map,h3];rfl
          obtain ⟨bo,oo,co,rfl,_,_,_,hql,helo⟩:=open1 hO4 hq
          obtain ⟨cso,_,hAo,rfl⟩:=helo q b hq
          rw [h4] at hall
          simp (disch:=try exact DI) only [↓PR,QR,simprocAttr,hAo.c1 (Ext.refl _)]
          exact ⟨⟨j+1,by rw [hall];rfl,rfl,hlt,e4.drew.trans e5⟩,meas_lt hlt⟩
     · subst hj
       rw [List.take_length,← hsM]
       simp (disch:=try exact DI) only [↓PR,QR,simprocAttr,hdec]
       unfold n28c3
       simp (disch:=try exact DI) only [↓PR,QR,simprocAttr]
       have sw:=e24.size
       have s0:=e.size
       have hlk:((strsOf (d.msgs.take k)).map (·.2)).length=k:=by
        have:=congrArg List.length (keysS (d.msgs.take k))
        simp only [List.length_map,List.length_take] at this ⊢
        omega
       refine append_one Tryz.underlying182 ty4 by4 rfl (by decide) (fun _=>rfl) (strictM (strsOf (d.msgs.take k)) m) (by simp only [boolEnc,List.forall_mem_cons];exact ⟨rfl,by simp⟩) (hO.ext (e24.alloc (Obj.cells #[.bool (strictM (strsOf (d.msgs.take k)) m)] 4))) (ElemAt.new _ _) (by simp only [World.size_alloc];omega) (by rw [hlk];omega) ?_
       intro v' w' hO' hext
       have eN:Ext W w':=hext W ((e.trans e24).alloc _) (Nat.le_refl _)
       simp (disch:=try exact DI) only [↓PR,QR,simprocAttr]
       refine ⟨⟨k+1,rfl,by omega,eN,?_⟩,meas_lt hkn⟩
       rw [take_snoc hm,strs_snoc,List.map_append]
       exact hO'
 · have hke:k=n:=by omega
   subst hke
   have d1:decide ((k:Int) < (k:Int))=false:=by simp
   simp (disch:=try exact DI) only [↓PR,QR,simprocAttr,d1]
   exact ⟨hO.slice (fun _=>rfl) (fun _ _=>rfl),E⟩
def n33c1 (t8 t52 t56:Value) (K2:World→Prop) (R:RT) (w:World):Prop :=
 pickK t52 (.bool true) t56 fun t57 =>
 joinK (fun (t61:Value) (w:World) =>
 pickK t57 (.bool true) t61 fun t62 =>
 condP t62 (
 R (.returned (.int .i64 7)) w) (
 K2 w)) fun K5 =>
 guardP t57 false (
 F0 38 t8 6 R w fun t59 w =>
 L0 3 t59 R w fun t60 w =>
 B0 .gtr 3 true t60 (.int .i64 1048576) R w fun t61 w =>
 K5 t61 w) (
 K5 undef w)
def n33c2 (t8 t47 t51:Value) (K2:World→Prop) (R:RT) (w:World):Prop :=
 pickK t47 (.bool true) t51 fun t52 =>
 joinK (fun (t56:Value) (w:World) =>
 n33c1 t8 t52 t56 K2 R w) fun K4 =>
 guardP t52 false (
 F0 38 t8 6 R w fun t54 w =>
 L0 3 t54 R w fun t55 w =>
 B0 .lss 3 true t55 (.int .i64 0) R w fun t56 w =>
 K4 t56 w) (
 K4 undef w)
def n33c3 (t2 t7 t79:Value) (R:RT) (w:World):Prop :=
 B0 .lss 3 true t79 (.int .i64 0) R w fun t80 w =>
 condP t80 (
 R (.returned (.int .i64 8)) w) (
 L0 44 t7 R w fun t81 w =>
 C0 151 #[t81,t2] R w fun t83 w =>
 R (.returned t83) w)
def n33c4 (t1 t3 t8 t123:Value) (R:RT) (w:World):Prop :=
 opV Pg (Instr.extract t123 0) (panK R) w fun t124 w =>
 opV Pg (Instr.extract t123 1) (panK R) w fun t125 w =>
 L0 24 t3 R w fun t126 w =>
 L0 38 t8 R w fun t128 w =>
 C0 153 #[t126,t1,t128,t124,t125] R w fun t131 w =>
 R (.returned t131) w
def n33c5 (t1 t3 t7 t8 t98:Value) (R:RT) (w:World):Prop :=
 F0 44 t7 1 R w fun t118 w =>
 L0 42 t118 R w fun t119 w =>
 X0 42 t119 t98 R w fun t121 w =>
 L0 38 t121 R w fun t122 w =>
 C0 115 #[t122] R w fun t123 w =>
 n33c4 t1 t3 t8 t123 R w
def n33c6 (t1 t2 t3 t7 t8 t98 t100 t108:Value) (R:RT) (w:World):Prop :=
 pickK t100 (.bool true) t108 fun t109 =>
 joinK (fun (t115:Value) (w:World) =>
 pickK t109 (.bool true) t115 fun t116 =>
 condP t116 (
 R (.returned (.int .i64 8)) w) (
 n33c5 t1 t3 t7 t8 t98 R w)) fun K8 =>
 guardP t109 false (
 L0 44 t7 R w fun t111 w =>
 F0 38 t8 9 R w fun t112 w =>
 L0 9 t112 R w fun t113 w =>
 C0 152 #[t111,t113,t2] R w fun t115 w =>
 K8 t115 w) (
 K8 undef w)
def n33c7 (t1 t2 t3 t7 t8 t98:Value) (R:RT) (w:World):Prop :=
 B0 .lss 3 true t98 (.int .i64 0) R w fun t100 w =>
 joinK (fun (t108:Value) (w:World) =>
 n33c6 t1 t2 t3 t7 t8 t98 t100 t108 R w) fun K7 =>
 guardP t100 false (
 F0 44 t7 1 R w fun t102 w =>
 L0 42 t102 R w fun t103 w =>
 X0 42 t103 t98 R w fun t105 w =>
 L0 38 t105 R w fun t106 w =>
 C0 114 #[t106] R w fun t107 w =>
 opV Pg (Op.unary .not t107) (panK R) w fun t108 w =>
 K7 t108 w) (
 K7 undef w)
def n33c8 (t141 t151 t155:Value) (K2:World→Prop) (R:RT) (w:World):Prop :=
 joinK (fun (t156:Value) (w:World) =>
 pickK t141 t156 (.bool false) fun t157 =>
 condP t157 (
 R (.returned (.int .i64 6)) w) (
 K2 w)) fun K14 =>
 guardP t141 true (
 pickK t151 (.bool true) t155 fun t156 =>
 K14 t156 w) (
 K14 undef w)
def n33c9 (t8 t141 t151:Value) (K2:World→Prop) (R:RT) (w:World):Prop :=
 joinK (fun (t155:Value) (w:World) =>
 n33c8 t141 t151 t155 K2 R w) fun K13 =>
 guardP t151 false (
 F0 38 t8 2 R w fun t152 w =>
 L0 3 t152 R w fun t153 w =>
 B0 .rem 3 true t153 (.int .i64 8) R w fun t154 w =>
 B0 .neq 3 true t154 (.int .i64 0) R w fun t155 w =>
 K13 t155 w) (
 K13 undef w)
def n33c10 (t8 t141 t146:Value) (K2:World→Prop) (R:RT) (w:World):Prop :=
 joinK (fun (t149:Value) (w:World) =>
 joinK (fun (t151:Value) (w:World) =>
 n33c9 t8 t141 t151 K2 R w) fun K12 =>
 guardP t141 true (
 pickK t146 (.bool true) t149 fun t150 =>
 K12 t150 w) (
 K12 undef w)) fun K11 =>
 guardP t146 false (
 F0 38 t8 2 R w fun t147 w =>
 L0 3 t147 R w fun t148 w =>
 B0 .gtr 3 true t148 (.int .i64 512) R w fun t149 w =>
 K11 t149 w) (
 K11 undef w)
def n33c11 (t8 t136 t140:Value) (K2:World→Prop) (R:RT) (w:World):Prop :=
 pickK t136 t140 (.bool false) fun t141 =>
 joinK (fun (t146:Value) (w:World) =>
 n33c10 t8 t141 t146 K2 R w) fun K10 =>
 guardP t141 true (
 F0 38 t8 2 R w fun t143 w =>
 L0 3 t143 R w fun t144 w =>
 B0 .lss 3 true t144 (.int .i64 8) R w fun t145 w =>
 K10 t145 w) (
 K10 undef w)
def n33c12 (t2 t7 t8:Value) (K2:World→Prop) (R:RT) (w:World):Prop :=
 L0 44 t7 R w fun t168 w =>
 F0 38 t8 10 R w fun t169 w =>
 L0 9 t169 R w fun t170 w =>
 C0 53 #[t168,t170,t2] R w fun t172 w =>
 B0 .lss 3 true t172 (.int .i64 0) R w fun t173 w =>
 condP t173 (
 R (.returned (.int .i64 8)) w) (
 K2 w)
def n33c13 (t2 t7 t190 t198:Value) (R:RT) (w:World):Prop :=
 pickK t190 (.bool true) t198 fun t199 =>
 condP t199 (
 R (.returned (.int .i64 8)) w) (
 L0 44 t7 R w fun t200 w =>
 C0 151 #[t200,t2] R w fun t202 w =>
 R (.returned t202) w)
def n33c14 (t188 t194:Value) (K17:KV) (R:RT) (w:World):Prop :=
 X0 182 t194 t188 R w fun t196 w =>
 L0 4 t196 R w fun t197 w =>
 opV Pg (Op.unary .not t197) (panK R) w fun t198 w =>
 K17 t198 w
def n33c15 (t1 t2 t3 t7 t188:Value) (R:RT) (w:World):Prop :=
 B0 .lss 3 true t188 (.int .i64 0) R w fun t190 w =>
 joinK (fun (t198:Value) (w:World) =>
 n33c13 t2 t7 t190 t198 R w) fun K17 =>
 guardP t190 false (
 L0 24 t3 R w fun t192 w =>
 C0 154 #[t192,t1] R w fun t194 w =>
 n33c14 t188 t194 K17 R w) (
 K17 undef w)
def n33c16 (t1 t2 t3 t7 t8:Value) (R:RT) (w:World):Prop :=
 L0 24 t3 R w fun t184 w =>
 F0 38 t8 8 R w fun t185 w =>
 L0 9 t185 R w fun t186 w =>
 C0 74 #[t184,t186,t1] R w fun t188 w =>
 n33c15 t1 t2 t3 t7 t188 R w
def n33c17 (t1 t2 t3 t7 t8:Value) (R:RT) (w:World):Prop :=
 F0 38 t8 13 R w fun t176 w =>
 L0 3 t176 R w fun t177 w =>
 B0 .lss 3 true t177 (.int .i64 0) R w fun t178 w =>
 joinK (fun (t182:Value) (w:World) =>
 pickK t178 (.bool true) t182 fun t183 =>
 condP t183 (
 R (.returned (.int .i64 7)) w) (
 n33c16 t1 t2 t3 t7 t8 R w)) fun K16 =>
 guardP t178 false (
 F0 38 t8 13 R w fun t180 w =>
 L0 3 t180 R w fun t181 w =>
 B0 .gtr 3 true t181 (.int .i64 4294967295) R w fun t182 w =>
 K16 t182 w) (
 K16 undef w)
def n33c18 (t2 t7 t8:Value) (K2:World→Prop) (R:RT) (w:World):Prop :=
 F0 38 t8 12 R w fun t160 w =>
 L0 3 t160 R w fun t161 w =>
 B0 .lss 3 true t161 (.int .i64 1) R w fun t162 w =>
 joinK (fun (t166:Value) (w:World) =>
 pickK t162 (.bool true) t166 fun t167 =>
 condP t167 (
 R (.returned (.int .i64 7)) w) (
 n33c12 t2 t7 t8 K2 R w)) fun K15 =>
 guardP t162 false (
 F0 38 t8 12 R w fun t164 w =>
 L0 3 t164 R w fun t165 w =>
 B0 .gtr 3 true t165 (.int .i64 3) R w fun t166 w =>
 K15 t166 w) (
 K15 undef w)
def n33c19 (t8:Value) (K2:World→Prop) (R:RT) (w:World):Prop :=
 F0 38 t8 2 R w fun t134 w =>
 L0 3 t134 R w fun t135 w =>
 B0 .neq 3 true t135 (.int .i64 2) R w fun t136 w =>
 joinK (fun (t140:Value) (w:World) =>
 n33c11 t8 t136 t140 K2 R w) fun K9 =>
 guardP t136 true (
 F0 38 t8 2 R w fun t138 w =>
 L0 3 t138 R w fun t139 w =>
 B0 .neq 3 true t139 (.int .i64 4) R w fun t140 w =>
 K9 t140 w) (
 K9 undef w)
def n33c20 (t1 t2 t3 t7 t8 t24:Value) (K2:World→Prop) (R:RT) (w:World):Prop :=
 B0 .eql 3 true t24 (.int .i64 11) R w fun t159 w =>
 condP t159 (
 n33c18 t2 t7 t8 K2 R w) (
 B0 .eql 3 true t24 (.int .i64 12) R w fun t175 w =>
 condP t175 (
 n33c17 t1 t2 t3 t7 t8 R w) (
 K2 w))
def n33c21 (t1 t2 t3 t7 t8:Value) (R:RT) (w:World):Prop :=
 L0 44 t7 R w fun t94 w =>
 F0 38 t8 9 R w fun t95 w =>
 L0 9 t95 R w fun t96 w =>
 C0 53 #[t94,t96,t2] R w fun t98 w =>
 n33c7 t1 t2 t3 t7 t8 t98 R w
def n33c22 (t1 t3 t8:Value) (K2:World→Prop) (R:RT) (w:World):Prop :=
 L0 24 t3 R w fun t86 w =>
 F0 38 t8 8 R w fun t87 w =>
 L0 9 t87 R w fun t88 w =>
 C0 74 #[t86,t88,t1] R w fun t90 w =>
 B0 .lss 3 true t90 (.int .i64 0) R w fun t91 w =>
 condP t91 (
 R (.returned (.int .i64 8)) w) (
 K2 w)
def n33c23 (t1 t2 t3 t7 t8 t24:Value) (K2:World→Prop) (R:RT) (w:World):Prop :=
 B0 .eql 3 true t24 (.int .i64 9) R w fun t93 w =>
 condP t93 (
 n33c21 t1 t2 t3 t7 t8 R w) (
 B0 .eql 3 true t24 (.int .i64 10) R w fun t133 w =>
 condP t133 (
 n33c19 t8 K2 R w) (
 n33c20 t1 t2 t3 t7 t8 t24 K2 R w))
def n33c24 (t1 t2 t3 t7 t8:Value) (R:RT) (w:World):Prop :=
 L0 24 t3 R w fun t75 w =>
 F0 38 t8 8 R w fun t76 w =>
 L0 9 t76 R w fun t77 w =>
 C0 74 #[t75,t77,t1] R w fun t79 w =>
 n33c3 t2 t7 t79 R w
def n33c25 (t8:Value) (K2:World→Prop) (R:RT) (w:World):Prop :=
 F0 38 t8 6 R w fun t65 w =>
 L0 3 t65 R w fun t66 w =>
 B0 .lss 3 true t66 (.int .i64 2) R w fun t67 w =>
 joinK (fun (t71:Value) (w:World) =>
 pickK t67 (.bool true) t71 fun t72 =>
 condP t72 (
 R (.returned (.int .i64 7)) w) (
 K2 w)) fun K6 =>
 guardP t67 false (
 F0 38 t8 6 R w fun t69 w =>
 L0 3 t69 R w fun t70 w =>
 B0 .gtr 3 true t70 (.int .i64 1048576) R w fun t71 w =>
 K6 t71 w) (
 K6 undef w)
def n33c26 (t1 t2 t3 t7 t8 t24:Value) (K2:World→Prop) (R:RT) (w:World):Prop :=
 B0 .eql 3 true t24 (.int .i64 7) R w fun t74 w =>
 condP t74 (
 n33c24 t1 t2 t3 t7 t8 R w) (
 B0 .eql 3 true t24 (.int .i64 8) R w fun t85 w =>
 condP t85 (
 n33c22 t1 t3 t8 K2 R w) (
 n33c23 t1 t2 t3 t7 t8 t24 K2 R w))
def n33c27 (t8:Value) (K2:World→Prop) (R:RT) (w:World):Prop :=
 F0 38 t8 5 R w fun t45 w =>
 L0 3 t45 R w fun t46 w =>
 B0 .lss 3 true t46 (.int .i64 0) R w fun t47 w =>
 joinK (fun (t51:Value) (w:World) =>
 n33c2 t8 t47 t51 K2 R w) fun K3 =>
 guardP t47 false (
 F0 38 t8 5 R w fun t49 w =>
 L0 3 t49 R w fun t50 w =>
 B0 .gtr 3 true t50 (.int .i64 255) R w fun t51 w =>
 K3 t51 w) (
 K3 undef w)
def n33c28 (t1 t2 t3 t7 t8 t24:Value) (K2:World→Prop) (R:RT) (w:World):Prop :=
 B0 .eql 3 true t24 (.int .i64 5) R w fun t44 w =>
 condP t44 (
 n33c27 t8 K2 R w) (
 B0 .eql 3 true t24 (.int .i64 6) R w fun t64 w =>
 condP t64 (
 n33c25 t8 K2 R w) (
 n33c26 t1 t2 t3 t7 t8 t24 K2 R w))
def n33c29 (t8:Value) (K2:World→Prop) (R:RT) (w:World):Prop :=
 F0 38 t8 5 R w fun t32 w =>
 L0 3 t32 R w fun t33 w =>
 F0 38 t8 6 R w fun t34 w =>
 L0 3 t34 R w fun t35 w =>
 C0 150 #[t33,t35] R w fun t36 w =>
 opV Pg (Op.unary .not t36) (panK R) w fun t37 w =>
 condP t37 (
 R (.returned (.int .i64 7)) w) (
 K2 w)
def n33c30 (t1 t2 t3 t7 t8 t24:Value) (K2:World→Prop) (R:RT) (w:World):Prop :=
 B0 .eql 3 true t24 (.int .i64 4) R w fun t39 w =>
 condP t39 (
 L0 44 t7 R w fun t40 w =>
 C0 151 #[t40,t2] R w fun t42 w =>
 R (.returned t42) w) (
 n33c28 t1 t2 t3 t7 t8 t24 K2 R w)
def n33c31 (t1 t2 t3 t7 t8 t24:Value) (R:RT) (w:World):Prop :=
 B0 .eql 3 true t24 (.int .i64 3) R w fun t31 w =>
 joinK (fun (w:World) =>
 R (.returned (.int .i64 0)) w) fun K2 =>
 condP t31 (
 n33c29 t8 K2 R w) (
 n33c30 t1 t2 t3 t7 t8 t24 K2 R w)
def n33c32 (t1 t2 t3 t7 t8 t24 t25:Value) (R:RT) (w:World):Prop :=
 condP t25 (
 L0 38 t8 R w fun t28 w =>
 C0 149 #[t28] R w fun t29 w =>
 R (.returned t29) w) (
 n33c31 t1 t2 t3 t7 t8 t24 R w)
def n33 (t0 t1 t2:Value) (R:RT) (w:World):Prop :=
 opV Pg (Instr.box 24 t0) (panK R) w fun t3 w =>
 F0 24 t3 1 R w fun t13 w =>
 L0 22 t13 R w fun t14 w =>
 X0 22 t14 t1 R w fun t16 w =>
 L0 44 t16 R w fun t17 w =>
 opV Pg (Instr.alloc 44 true (.tuple #[])) (panK R) w fun t7 w =>
 opU Pg (Instr.storeAt 44 t7 t17) (panK R) w fun w =>
 F0 44 t7 1 R w fun t18 w =>
 L0 42 t18 R w fun t19 w =>
 X0 42 t19 t2 R w fun t21 w =>
 L0 38 t21 R w fun t22 w =>
 opV Pg (Instr.alloc 38 true (.tuple #[])) (panK R) w fun t8 w =>
 opU Pg (Instr.storeAt 38 t8 t22) (panK R) w fun w =>
 F0 38 t8 1 R w fun t23 w =>
 L0 32 t23 R w fun t24 w =>
 B0 .eql 3 true t24 (.int .i64 1) R w fun t26 w =>
 joinK (fun (t25:Value) (w:World) =>
 n33c32 t1 t2 t3 t7 t8 t24 t25 R w) fun K1 =>
 condP t26 (
 K1 t26 w) (
 B0 .eql 3 true t24 (.int .i64 2) R w fun t27 w =>
 K1 t27 w)
set_option maxHeartbeats 40000000 in
theorem n33s {t0 t1 t2:Value} {R:RT} {w:World} (h:n33 t0 t1 t2 R w):Calls Pg 129 #[t0,t1,t2] w R:=by
 refine yD Tryz.func129 ?_
 refine zs<|zr<|yv h fun _ w h=>zm<|zn<|zk<|zs<|zr<|yv h fun _ w h=>yv h fun _ w h=>zm<|yv h fun _ w h=>yv h fun _ w h=>yv h fun _ w h=>yu h fun w h=>?_
 refine zn<|zk<|zs<|zr<|yv h fun _ w h=>yv h fun _ w h=>zm<|yv h fun _ w h=>yv h fun _ w h=>yv h fun _ w h=>yu h fun w h=>zn<|zk<|zs<|zs ?_
 refine zr<|yv h fun _ w h=>yv h fun _ w h=>zn<|zk<|sim_block<|zs<|zs<|zr<|yb h fun _ w h=>zm<|zn<|zk<|yJ1 [25,27] 25 h (fun _ _ hkK1 h=>?_) fun σ w h=>?_
 · refine yC h (fun h=>?_) fun h=>?_
   · refine sim_skip<|zk ?_
     exact zt hkK1 h
   refine zr<|yb h fun _ w h=>zm<|zn<|zk ?_
   exact zt hkK1 h
 refine zk<|yC h (fun h=>zs<|zr<|yv h fun _ w h=>yc h c149 fun _ w h=>zm<|zn<|zk<|sim_ret<|sim_block_ret<|sim_then_ret<|body_ret1 rfl rfl h) fun h=>zs<|zr<|yb h fun _ w h=>zm<|zn<|zk<|yJ0 [6,9,10,11,12,32,33,34,35,36,37,38,39,40,41,42,43,44,45,46,47,48,49,50,51,52,53,54,55,56,57,58,59,60,61,62,63,64,65,66,67,68,69,70,71,72,73,74,75,76,77,78,79,80,81,82,83,84,85,86,87,88,89,90,91,92,93,94,95,96,97,98,99,100,101,102,103,104,105,106,107,108,109,110,111,112,113,114,115,116,117,118,119,120,121,122,123,124,125,126,127,128,129,130,131,132,133,134,135,136,137,138,139,140,141,142,143,144,145,146,147,148,149,150,151,152,153,154,155,156,157,158,159,160,161,162,163,164,165,166,167,168,169,170,171,172,173,174,175,176,177,178,179,180,181,182,183,184,185,186,187,188,189,190,191,192,193,194,195,196,197,198,199,200,201,202] h (fun _ _ hkK2 h=>?_) fun σ w h=>?_
 · refine yC h (fun h=>?_) fun h=>?_
   · refine zs<|zr<|yv h fun _ w h=>yv h fun _ w h=>yv h fun _ w h=>yv h fun _ w h=>yc h c150 fun _ w h=>yv h fun _ w h=>zn<|zk<|yC h (fun h=>zs<|zr<|zm<|zn<|zk<|sim_ret<|sim_then_ret<|sim_block_ret<|sim_then_ret<|body_ret1 rfl rfl h) fun h=>sim_skip<|zk ?_
     exact zt hkK2 h
   refine zs<|zr<|yb h fun _ w h=>zm<|zn<|zk<|yC h (fun h=>zs<|zr<|yv h fun _ w h=>zm<|yc h c151 fun _ w h=>zm<|zn<|zk<|sim_ret<|sim_then_ret<|sim_block_ret<|sim_then_ret<|body_ret1 rfl rfl h) fun h=>zs<|zr<|yb h fun _ w h=>zm<|zn<|zk<|yC h (fun h=>?_) fun h=>?_
   · refine zs<|sim_regionG<|yG 4<|yv h fun _ w h=>yv h fun _ w h=>yb h fun _ w h=>zm<|zn<|yg1 3 3 false [49,50,51] 51 h (fun _ T hT h=>?_) fun σ w h=>?_
     · refine yv h fun _ w h=>yv h fun _ w h=>yb h fun _ w h=>zn ?_
       exact zt hT h
     refine yG 2<|yp h fun _ h=>zm<|zn<|yg1 3 8 false [54,55,56] 56 h (fun _ T hT h=>?_) fun σ w h=>?_
     · refine yv h fun _ w h=>yv h fun _ w h=>yb h fun _ w h=>zn ?_
       exact zt hT h
     refine yG 2<|yp h fun _ h=>zm<|zn<|yg1 3 13 false [59,60,61] 61 h (fun _ T hT h=>?_) fun σ w h=>?_
     · refine yv h fun _ w h=>yv h fun _ w h=>yb h fun _ w h=>zn ?_
       exact zt hT h
     refine yG 1<|yp h fun _ h=>zn<|sim_end<|zk<|yC h (fun h=>zs<|zr<|zm<|zn<|zk<|sim_ret<|sim_then_ret<|sim_block_ret<|sim_then_ret<|body_ret1 rfl rfl h) fun h=>sim_skip<|zk ?_
     exact zt hkK2 h
   refine zs<|zr<|yb h fun _ w h=>zm<|zn<|zk<|yC h (fun h=>?_) fun h=>?_
   · refine zs<|sim_regionG<|yG 4<|yv h fun _ w h=>yv h fun _ w h=>yb h fun _ w h=>zm<|zn<|yg1 3 3 false [69,70,71] 71 h (fun _ T hT h=>?_) fun σ w h=>?_
     · refine yv h fun _ w h=>yv h fun _ w h=>yb h fun _ w h=>zn ?_
       exact zt hT h
     refine yG 1<|yp h fun _ h=>zn<|sim_end<|zk<|yC h (fun h=>zs<|zr<|zm<|zn<|zk<|sim_ret<|sim_then_ret<|sim_block_ret<|sim_then_ret<|body_ret1 rfl rfl h) fun h=>sim_skip<|zk ?_
     exact zt hkK2 h
   refine zs<|zr<|yb h fun _ w h=>zm<|zn<|zk<|yC h (fun h=>?_) fun h=>?_
   · refine zs<|zs<|zr<|yv h fun _ w h=>yv h fun _ w h=>yv h fun _ w h=>zm<|yc h c74 fun _ w h=>yb h fun _ w h=>zn<|zk<|yC h (fun h=>zs<|zr<|zm<|zn<|zk<|sim_ret<|sim_then_ret<|sim_then_ret<|sim_block_ret<|sim_then_ret<|body_ret1 rfl rfl h) fun h=>sim_skip<|zk ?_
     exact zs<|zr<|yv h fun _ w h=>zm<|yc h c151 fun _ w h=>zm<|zn<|zk<|sim_ret<|sim_then_ret<|sim_block_ret<|sim_then_ret<|body_ret1 rfl rfl h
   refine zs<|zr<|yb h fun _ w h=>zm<|zn<|zk<|yC h (fun h=>?_) fun h=>?_
   · refine zs<|zr<|yv h fun _ w h=>yv h fun _ w h=>yv h fun _ w h=>zm<|yc h c74 fun _ w h=>yb h fun _ w h=>zn<|zk<|yC h (fun h=>zs<|zr<|zm<|zn<|zk<|sim_ret<|sim_then_ret<|sim_block_ret<|sim_then_ret<|body_ret1 rfl rfl h) fun h=>sim_skip<|zk ?_
     exact zt hkK2 h
   refine zs<|zr<|yb h fun _ w h=>zm<|zn<|zk<|yC h (fun h=>?_) fun h=>?_
   · refine zs<|zr<|yv h fun _ w h=>yv h fun _ w h=>yv h fun _ w h=>zm<|yc h c53 fun _ w h=>zm<|zn<|zk<|zs<|zs<|sim_regionG<|yG 3<|zm ?_
     refine yb h fun _ w h=>zm<|zn<|yg1 7 2 false [102,103,104,105,106,107,108] 108 h (fun _ T hT h=>?_) fun σ w h=>?_
     · refine yv h fun _ w h=>yv h fun _ w h=>zm<|yv h fun _ w h=>yv h fun _ w h=>yc h c114 fun _ w h=>yv h fun _ w h=>zn ?_
       exact zt hT h
     refine yG 2<|yp h fun _ h=>zm<|zn<|yg1 5 11 false [111,112,113,114,115] 115 h (fun _ T hT h=>?_) fun σ w h=>?_
     · refine yv h fun _ w h=>yv h fun _ w h=>yv h fun _ w h=>zm<|yc h c152 fun _ w h=>zn ?_
       exact zt hT h
     refine yG 1<|yp h fun _ h=>zn<|sim_end<|zk<|yC h (fun h=>zs<|zr<|zm<|zn<|zk<|sim_ret<|sim_then_ret<|sim_then_ret<|sim_block_ret<|sim_then_ret<|body_ret1 rfl rfl h) fun h=>sim_skip<|zk<|zs<|zr<|yv h fun _ w h=>yv h fun _ w h=>zm<|yv h fun _ w h=>?_
     refine yv h fun _ w h=>yc h c115 fun _ w h=>zm<|yv h fun _ w h=>yv h fun _ w h=>zm<|zm<|zn<|zk<|zs<|zr<|yv h fun _ w h=>zm<|yv h fun _ w h=>zm ?_
     exact zm<|yc h c153 fun _ w h=>zm<|zn<|zk<|sim_ret<|sim_then_ret<|sim_block_ret<|sim_then_ret<|body_ret1 rfl rfl h
   refine zs<|zr<|yb h fun _ w h=>zm<|zn<|zk<|yC h (fun h=>?_) fun h=>?_
   · refine zs<|sim_regionG<|yG 4<|yv h fun _ w h=>yv h fun _ w h=>yb h fun _ w h=>zm<|zn<|yg1 3 3 true [138,139,140] 140 h (fun _ T hT h=>?_) fun σ w h=>?_
     · refine yv h fun _ w h=>yv h fun _ w h=>yb h fun _ w h=>zn ?_
       exact zt hT h
     refine yG 2<|yp h fun _ h=>zm<|zn<|yg1 4 8 true [143,144,145,146] 146 h (fun _ T hT h=>?_) fun σ w h=>?_
     · refine yv h fun _ w h=>yv h fun _ w h=>yb h fun _ w h=>zm<|zn ?_
       exact zt hT h
     refine yg1 3 12 false [147,148,149] 149 h (fun _ T hT h=>?_) fun σ w h=>?_
     · refine yv h fun _ w h=>yv h fun _ w h=>yb h fun _ w h=>zn ?_
       exact zt hT h
     refine yg1 2 8 true [150,151] 151 h (fun _ T hT h=>?_) fun σ w h=>?_
     · refine yp h fun _ h=>zm<|zn ?_
       exact zt hT h
     refine yg1 4 17 false [152,153,154,155] 155 h (fun _ T hT h=>?_) fun σ w h=>?_
     · refine yv h fun _ w h=>yv h fun _ w h=>yb h fun _ w h=>yb h fun _ w h=>zn ?_
       exact zt hT h
     refine yg1 1 8 true [156] 156 h (fun _ T hT h=>?_) fun σ w h=>?_
     · refine yp h fun _ h=>zn ?_
       exact zt hT h
     refine yG 1<|yp h fun _ h=>zn<|sim_end<|zk<|yC h (fun h=>zs<|zr<|zm<|zn<|zk<|sim_ret<|sim_then_ret<|sim_block_ret<|sim_then_ret<|body_ret1 rfl rfl h) fun h=>sim_skip<|zk ?_
     exact zt hkK2 h
   refine zs<|zr<|yb h fun _ w h=>zm<|zn<|zk<|yC h (fun h=>?_) fun h=>?_
   · refine zs<|zs<|sim_regionG<|yG 4<|yv h fun _ w h=>yv h fun _ w h=>yb h fun _ w h=>zm<|zn<|yg1 3 3 false [164,165,166] 166 h (fun _ T hT h=>?_) fun σ w h=>?_
     · refine yv h fun _ w h=>yv h fun _ w h=>yb h fun _ w h=>zn ?_
       exact zt hT h
     refine yG 1<|yp h fun _ h=>zn<|sim_end<|zk<|yC h (fun h=>zs<|zr<|zm<|zn<|zk<|sim_ret<|sim_then_ret<|sim_then_ret<|sim_block_ret<|sim_then_ret<|body_ret1 rfl rfl h) fun h=>sim_skip<|zk<|zs<|zr<|yv h fun _ w h=>yv h fun _ w h=>yv h fun _ w h=>zm ?_
     refine yc h c53 fun _ w h=>yb h fun _ w h=>zn<|zk<|yC h (fun h=>zs<|zr<|zm<|zn<|zk<|sim_ret<|sim_then_ret<|sim_block_ret<|sim_then_ret<|body_ret1 rfl rfl h) fun h=>sim_skip<|zk ?_
     exact zt hkK2 h
   refine zs<|zr<|yb h fun _ w h=>zm<|zn<|zk<|yC h (fun h=>?_) fun h=>?_
   · refine zs<|zs<|sim_regionG<|yG 4<|yv h fun _ w h=>yv h fun _ w h=>yb h fun _ w h=>zm<|zn<|yg1 3 3 false [180,181,182] 182 h (fun _ T hT h=>?_) fun σ w h=>?_
     · refine yv h fun _ w h=>yv h fun _ w h=>yb h fun _ w h=>zn ?_
       exact zt hT h
     refine yG 1<|yp h fun _ h=>zn<|sim_end<|zk<|yC h (fun h=>zs<|zr<|zm<|zn<|zk<|sim_ret<|sim_then_ret<|sim_then_ret<|sim_block_ret<|sim_then_ret<|body_ret1 rfl rfl h) fun h=>sim_skip<|zk<|zs<|zr<|yv h fun _ w h=>yv h fun _ w h=>yv h fun _ w h=>zm ?_
     refine yc h c74 fun _ w h=>zm<|zn<|zk<|zs<|zs<|sim_regionG<|yG 3<|zm<|yb h fun _ w h=>zm<|zn<|yg1 7 2 false [192,193,194,195,196,197,198] 198 h (fun _ T hT h=>?_) fun σ w h=>?_
     · refine yv h fun _ w h=>zm<|yc h c154 fun _ w h=>zm<|yv h fun _ w h=>yv h fun _ w h=>yv h fun _ w h=>zn ?_
       exact zt hT h
     refine yG 1<|yp h fun _ h=>zn<|sim_end<|zk<|yC h (fun h=>zs<|zr<|zm<|zn<|zk<|sim_ret<|sim_then_ret<|sim_then_ret<|sim_block_ret<|sim_then_ret<|body_ret1 rfl rfl h) fun h=>sim_skip<|zk<|zs<|zr<|yv h fun _ w h=>zm<|yc h c151 fun _ w h=>zm ?_
     exact zn<|zk<|sim_ret<|sim_then_ret<|sim_block_ret<|sim_then_ret<|body_ret1 rfl rfl h
   refine sim_skip<|zk ?_
   exact zt hkK2 h
 exact sim_block_normal<|zk<|zs<|zr<|zm<|zn<|zk<|sim_ret<|body_ret1 rfl rfl h
theorem anyD (l:List MsgD) (hd:DistM l) (s:ByteArray):(lastP (depsOf l) s).isSome=l.any fun m=>decide (m.name=s):=by
 rcases first_last (keysD l) hd s with ⟨h1,h2⟩ | ⟨k,b,h1,_,_,h2⟩
 · rw [h2,← idx_neg,h1];rfl
 · rw [h2,← idx_neg,h1];simp
theorem wide_within {lo hi:Int}:withinC 34359738367 0 [lo,hi]=if wideB lo hi then 0 else 7:=by
 rw [within2]
 unfold wideB
 by_cases h1:0≤lo<;>by_cases h2:lo≤hi<;>by_cases h3:hi < 34359738368<;>simp [*]<;>omega
theorem within1 {hi n a:Int}:withinC hi n [a]=if a < n∨hi < a then 7 else 0:=by
 by_cases h1:a < n<;>by_cases h2:hi < a<;>simp [withinC,needC,orC, *]<;>omega
theorem rkinds_ret (w0:World) (v:Value) (d:DefD) (n i:Nat) (m:MsgD) (f:FieldD) (hd:DefVal w0 v d) (hm:d.msgs[n]?=some m) (hi:m.fields[i]?=some f) (hN:DistM (d.msgs.take n)) (hR:RefsIn d.msgs n) (hD:Dist (m.fields.take i)) (hb:calm d) (hn1:n≤1048576)
 (hg:∀ g∈m.fields.take i,numberB g=true → -4611686018427387904≤g.low∧highOf g≤4611686018427387904) (hk:1≤f.kind∧f.kind≤12) :
 Ret Pg 129 #[v,.int .i64 (n:Int),.int .i64 (i:Int)] w0 fun r w'=>r = .int .i64 (checkC (m.fields.take i) (vI (depsOf (d.msgs.take n))) (vB (strsOf (d.msgs.take n))) f)∧Ext w0 w':=by
 obtain ⟨mv,rfl,hM⟩:=hd
 have hM0:=hM
 have hmem:=List.mem_of_getElem? hm
 have hfm:=List.mem_of_getElem? hi
 have hft:=(hb m hmem).2 f hfm
 refine n33s (R:=retR _) ?_;unfold n33
 rw [op_boxA]
 have hBW:=ElemAt.new (w:=w0) (defCells d mv) (24)
 have eW:Ext w0 (w0.alloc (Obj.cells (List.toArray (defCells d mv)) (24))):=(Ext.refl _).alloc _
 generalize (w0.alloc (Obj.cells (List.toArray (defCells d mv)) (24)))=W at hBW eW ⊢
 obtain ⟨bm,om,cm,rfl,_,_,_,hnl,hel⟩:=open1 hM hm
 obtain ⟨csm,_,hAm,hEm⟩:=hel n m hm
 obtain ⟨fv,rfl,hF⟩:=hEm
 have hF0:=hF
 have hf1:=SliceOf.oneCell hF
 simp (disch:=try exact DI) only [↓PR,QR,simprocAttr,hBW.c3 (Ext.refl W),hAm.c2 eW]
 have hBX:=ElemAt.new (w:=W) (msgCells m fv) (44)
 have eX:Ext W (W.alloc (Obj.cells (List.toArray (msgCells m fv)) (44))):=(Ext.refl _).alloc _
 generalize (W.alloc (Obj.cells (List.toArray (msgCells m fv)) (44)))=X at hBX eX ⊢
 obtain ⟨bf,of,cf,rfl,_,_,_,hil,helf⟩:=open1 hF hi
 obtain ⟨csf,_,hAf,hEf⟩:=helf i f hi
 obtain ⟨tv,cv,rfl,hT,hC,ht1,hc1⟩:=hEf.op
 simp (disch:=try exact DI) only [↓PR,QR,simprocAttr,hBX.c2 (Ext.refl X),hAf.c15 (eW.trans eX)]
 have hBY:=ElemAt.new (w:=X) (fieldCells f tv cv) (38)
 have eY:Ext X (X.alloc (Obj.cells (List.toArray (fieldCells f tv cv)) (38))):=(Ext.refl _).alloc _
 generalize (X.alloc (Obj.cells (List.toArray (fieldCells f tv cv)) (38)))=Y at hBY eY ⊢
 have hcY:=hBY.c15 (Ext.refl Y)
 have EY:Ext w0 Y:=eW.trans (eX.trans eY)
 have this:f.kind=1∨f.kind=2∨f.kind=3∨f.kind=4∨f.kind=5∨f.kind=6∨f.kind=7∨f.kind=8∨f.kind=9∨f.kind=10∨f.kind=11∨f.kind=12:=by omega
 have hdv:∀ w,Ext Y w→DefVal w (.agg (defCells d (.slice (some ⟨bm,om,none⟩) d.msgs.length cm)).toArray) d:=fun w e=>⟨_,rfl,hM0.ext (EY.trans e)⟩
 have hmv:∀ w,Ext Y w→MsgVal w (.agg (msgCells m (.slice (some ⟨bf,of,none⟩) m.fields.length cf)).toArray) m:=fun w e=>⟨_,rfl,hF0.ext (EY.trans e)⟩
 have hfv:∀ w,Ext Y w→FieldVal w (.agg (fieldCells f tv cv).toArray) f:=fun w e=>⟨_,_,rfl,hT.ext (EY.trans e),hC.ext (EY.trans e)⟩
 generalize hDD:vI (depsOf (d.msgs.take n))=D
 generalize hSS:vB (strsOf (d.msgs.take n))=S
 rcases this with hk | hk | hk | hk | hk | hk | hk | hk | hk | hk | hk | hk
 all_goals rw [show fieldCells f tv cv=[.string f.name,.int .i64 f.kind,.int .i64 f.bits,.bool f.little,.bool f.loose,.int .i64 f.low,.int .i64 f.high,.int .i64 f.base,tv,.string f.of,.string f.tag,.string f.fr,cv,.int .i64 f.check,.int .i64 f.key] from rfl,hk] at hfv
 all_goals simp (disch:=try exact DI) only [↓PR,QR,simprocAttr,hcY,hBX.c2 eY,hBW.c3 (eX.trans eY),hk,↓n33c1,↓n33c2,↓n33c3,↓n33c4,↓n33c5,↓n33c6,↓n33c7,↓n33c8,↓n33c9,↓n33c10,↓n33c11,↓n33c12,↓n33c13,↓n33c14,↓n33c15,↓n33c16,↓n33c17,↓n33c18,↓n33c19,↓n33c20,↓n33c21,↓n33c22,↓n33c23,↓n33c24,↓n33c25,↓n33c26,↓n33c27,↓n33c28,↓n33c29,↓n33c30,↓n33c31,↓n33c32]
 · have hcc:checkC (m.fields.take i) D S f=numC f:=by rw [numC_one hk];unfold checkC;rw [hk];rfl
   refine zcr (rnumber_ret _ _ f (hfv _ (Ext.refl Y))) fun w1 e1=>?_
   exact ⟨_,rfl,by rw [hcc],EY.trans e1⟩
 · have hcc:checkC (m.fields.take i) D S f=numC f:=by rw [numC_two hk];unfold checkC;rw [hk];rfl
   refine zcr (rnumber_ret _ _ f (hfv _ (Ext.refl Y))) fun w1 e1=>?_
   exact ⟨_,rfl,by rw [hcc],EY.trans e1⟩
 · have hcc:checkC (m.fields.take i) D S f=if wideB f.low f.high then 0 else 7:=by rw [← wide_within];unfold checkC;rw [hk];rfl
   refine zcr (rwide_ret _ _ _) fun w1 e1=>?_
   cases hw:wideB f.low f.high<;>rw [hw] at hcc<;>simp (disch:=try exact DI) only [↓PR,QR,simprocAttr]<;>exact ⟨by rw [hcc];rfl,EY.trans e1⟩
 · have hcc:checkC (m.fields.take i) D S f=sizedC (numR (m.fields.take i)) f:=by unfold checkC;rw [hk];rfl
   refine zcr (rsized_ret _ _ m i f (hmv _ (Ext.refl Y)) hi hD hft) fun w1 e1=>?_
   exact ⟨_,rfl,by rw [hcc],EY.trans e1⟩
 · have hcc:checkC (m.fields.take i) D S f=if (decide (f.low < 0)||decide (255 < f.low)||decide (f.high < 0)||decide (1048576 < f.high)) then 7 else 0:=by
    rw [show checkC (m.fields.take i) D S f=orC (withinC 255 0 [f.low]) (withinC 1048576 0 [f.high]) by unfold checkC;rw [hk];rfl,within1,within1]
    by_cases h1:f.low < 0<;>by_cases h2:255 < f.low<;>by_cases h3:f.high < 0<;>by_cases h4:1048576 < f.high<;>simp [orC, *]
   refine cond_cases (fun h=>⟨_,rfl,by rw [hcc,if_pos h],EY⟩) (fun h=>⟨_,rfl,by rw [hcc,if_neg (by rw [h];decide)],EY⟩)
 · have hcc:checkC (m.fields.take i) D S f=if (decide (f.high < 2)||decide (1048576 < f.high)) then 7 else 0:=by
    rw [show checkC (m.fields.take i) D S f=withinC 1048576 2 [f.high] by unfold checkC;rw [hk];rfl,within1]
    by_cases h3:f.high < 2<;>by_cases h4:1048576 < f.high<;>simp [orC, *]
   refine cond_cases (fun h=>⟨_,rfl,by rw [hcc,if_pos h],EY⟩) (fun h=>⟨_,rfl,by rw [hcc,if_neg (by rw [h];decide)],EY⟩)
 · have hcc:checkC (m.fields.take i) D S f=orC (needC (lastOf (vI (depsOf (d.msgs.take n))) f.of).isSome 8) (sizedC (numR (m.fields.take i)) f):=by rw [← hDD];unfold checkC;rw [hk];rfl
   refine zcr (rFind_ret _ _ d f.of n (hdv _ (Ext.refl Y)) (Nat.le_of_lt hnl)) fun w1 e1=>?_
   have hdi:=idx_some (p:=fun m:MsgD=>decide (m.name=f.of)) (l:=d.msgs.take n)
   rw [lastOf_vI,Option.isSome_map,anyD _ hN] at hcc
   cases hs:(d.msgs.take n).any (fun m=>decide (m.name=f.of)) with
   | false =>
    rw [hs] at hdi hcc
    simp (disch:=try exact DI) only [↓PR,QR,simprocAttr,hdi,↓n33c1,↓n33c2,↓n33c3,↓n33c4,↓n33c5,↓n33c6,↓n33c7,↓n33c8,↓n33c9,↓n33c10,↓n33c11,↓n33c12,↓n33c13,↓n33c14,↓n33c15,↓n33c16,↓n33c17,↓n33c18,↓n33c19,↓n33c20,↓n33c21,↓n33c22,↓n33c23,↓n33c24,↓n33c25,↓n33c26,↓n33c27,↓n33c28,↓n33c29,↓n33c30,↓n33c31,↓n33c32]
    exact ⟨by rw [hcc];rfl,EY.trans e1⟩
   | true =>
    rw [hs] at hdi hcc
    simp (disch:=try exact DI) only [↓PR,QR,simprocAttr,hdi,hBX.c2 (eY.trans e1),↓n33c1,↓n33c2,↓n33c3,↓n33c4,↓n33c5,↓n33c6,↓n33c7,↓n33c8,↓n33c9,↓n33c10,↓n33c11,↓n33c12,↓n33c13,↓n33c14,↓n33c15,↓n33c16,↓n33c17,↓n33c18,↓n33c19,↓n33c20,↓n33c21,↓n33c22,↓n33c23,↓n33c24,↓n33c25,↓n33c26,↓n33c27,↓n33c28,↓n33c29,↓n33c30,↓n33c31,↓n33c32]
    refine zcr (rsized_ret _ _ m i f (hmv _ e1) hi hD hft) fun w2 e2=>?_
    exact ⟨_,rfl,by rw [hcc];rfl,EY.trans (e1.trans e2)⟩
 · have hcc:checkC (m.fields.take i) D S f=needC (lastOf (vI (depsOf (d.msgs.take n))) f.of).isSome 8:=by rw [← hDD];unfold checkC;rw [hk];rfl
   refine zcr (rFind_ret _ _ d f.of n (hdv _ (Ext.refl Y)) (Nat.le_of_lt hnl)) fun w1 e1=>?_
   have hdi:=idx_some (p:=fun m:MsgD=>decide (m.name=f.of)) (l:=d.msgs.take n)
   rw [lastOf_vI,Option.isSome_map,anyD _ hN] at hcc
   cases hs:(d.msgs.take n).any (fun m=>decide (m.name=f.of)) with
   | false =>
    rw [hs] at hdi hcc
    simp (disch:=try exact DI) only [↓PR,QR,simprocAttr,hdi,↓n33c1,↓n33c2,↓n33c3,↓n33c4,↓n33c5,↓n33c6,↓n33c7,↓n33c8,↓n33c9,↓n33c10,↓n33c11,↓n33c12,↓n33c13,↓n33c14,↓n33c15,↓n33c16,↓n33c17,↓n33c18,↓n33c19,↓n33c20,↓n33c21,↓n33c22,↓n33c23,↓n33c24,↓n33c25,↓n33c26,↓n33c27,↓n33c28,↓n33c29,↓n33c30,↓n33c31,↓n33c32]
    exact ⟨by rw [hcc];rfl,EY.trans e1⟩
   | true =>
    rw [hs] at hdi hcc
    simp (disch:=try exact DI) only [↓PR,QR,simprocAttr,hdi,↓n33c1,↓n33c2,↓n33c3,↓n33c4,↓n33c5,↓n33c6,↓n33c7,↓n33c8,↓n33c9,↓n33c10,↓n33c11,↓n33c12,↓n33c13,↓n33c14,↓n33c15,↓n33c16,↓n33c17,↓n33c18,↓n33c19,↓n33c20,↓n33c21,↓n33c22,↓n33c23,↓n33c24,↓n33c25,↓n33c26,↓n33c27,↓n33c28,↓n33c29,↓n33c30,↓n33c31,↓n33c32]
    exact ⟨by rw [hcc];rfl,EY.trans e1⟩
 · have hcc:checkC (m.fields.take i) D S f=casesC (m.fields.take i) (vI (depsOf (d.msgs.take n))) f:=by rw [← hDD];unfold checkC;rw [hk];rfl
   refine zcr (rField_ret _ _ m f.tag i (hmv _ (Ext.refl Y)) (Nat.le_of_lt hil)) fun w1 e1=>?_
   have E1:=EY.trans e1
   unfold casesC at hcc
   rcases num_first hD f.tag with ⟨h1,h2⟩ | ⟨k,g,h1,h2,h3⟩
   · rw [h1]
     rw [h2] at hcc
     simp (disch:=try exact DI) only [↓PR,QR,simprocAttr,↓n33c1,↓n33c2,↓n33c3,↓n33c4,↓n33c5,↓n33c6,↓n33c7,↓n33c8,↓n33c9,↓n33c10,↓n33c11,↓n33c12,↓n33c13,↓n33c14,↓n33c15,↓n33c16,↓n33c17,↓n33c18,↓n33c19,↓n33c20,↓n33c21,↓n33c22,↓n33c23,↓n33c24,↓n33c25,↓n33c26,↓n33c27,↓n33c28,↓n33c29,↓n33c30,↓n33c31,↓n33c32]
     exact ⟨by rw [hcc];rfl,E1⟩
   · have hgk:=take_get h2
     have hgm:=List.mem_of_getElem? h2
     obtain ⟨csg,_,hAg,hEg⟩:=helf k g hgk
     have hkl:k < m.fields.length:=(List.getElem?_eq_some_iff.1 hgk).1
     obtain ⟨tg,cg,rfl,hTg,hCg,_,_⟩:=hEg.op
     have hd0:decide ((k:Int) < 0)=false:=by simp
     rw [h1]
     simp (disch:=try exact DI) only [↓PR,QR,simprocAttr,hd0,hBX.c2 (eY.trans e1),hAg.c15 E1,↓n33c1,↓n33c2,↓n33c3,↓n33c4,↓n33c5,↓n33c6,↓n33c7,↓n33c8,↓n33c9,↓n33c10,↓n33c11,↓n33c12,↓n33c13,↓n33c14,↓n33c15,↓n33c16,↓n33c17,↓n33c18,↓n33c19,↓n33c20,↓n33c21,↓n33c22,↓n33c23,↓n33c24,↓n33c25,↓n33c26,↓n33c27,↓n33c28,↓n33c29,↓n33c30,↓n33c31,↓n33c32]
     refine zcr (rNumber_ret _ _ g ⟨_,_,rfl,hTg.ext E1,hCg.ext E1⟩) fun w2 e2=>?_
     cases hng:numberB g with
     | false =>
      rw [hng,if_neg (by simp)] at h3
      rw [h3] at hcc
      simp (disch:=try exact DI) only [↓PR,QR,simprocAttr,hd0,↓n33c1,↓n33c2,↓n33c3,↓n33c4,↓n33c5,↓n33c6,↓n33c7,↓n33c8,↓n33c9,↓n33c10,↓n33c11,↓n33c12,↓n33c13,↓n33c14,↓n33c15,↓n33c16,↓n33c17,↓n33c18,↓n33c19,↓n33c20,↓n33c21,↓n33c22,↓n33c23,↓n33c24,↓n33c25,↓n33c26,↓n33c27,↓n33c28,↓n33c29,↓n33c30,↓n33c31,↓n33c32]
      exact ⟨by rw [hcc];rfl,E1.trans e2⟩
     | true =>
     rw [hng,if_pos rfl] at h3
     rw [h3] at hcc
     have f2:Ext Y w2:=e1.trans e2
     simp (disch:=try exact DI) only [↓PR,QR,simprocAttr,hd0,hBX.c2 (eY.trans f2),hBY.c15 f2,↓n33c1,↓n33c2,↓n33c3,↓n33c4,↓n33c5,↓n33c6,↓n33c7,↓n33c8,↓n33c9,↓n33c10,↓n33c11,↓n33c12,↓n33c13,↓n33c14,↓n33c15,↓n33c16,↓n33c17,↓n33c18,↓n33c19,↓n33c20,↓n33c21,↓n33c22,↓n33c23,↓n33c24,↓n33c25,↓n33c26,↓n33c27,↓n33c28,↓n33c29,↓n33c30,↓n33c31,↓n33c32]
     refine zcr (rtagged_ret _ _ m f.tag i (hmv _ f2) (Nat.le_of_lt hil)) fun w3 e3=>?_
     have f3:=f2.trans e3
     cases htg:(m.fields.take i).any (taggedP f.tag) with
     | true =>
      rw [htg] at hcc
      simp (disch:=try exact DI) only [↓PR,QR,simprocAttr,hd0,↓n33c1,↓n33c2,↓n33c3,↓n33c4,↓n33c5,↓n33c6,↓n33c7,↓n33c8,↓n33c9,↓n33c10,↓n33c11,↓n33c12,↓n33c13,↓n33c14,↓n33c15,↓n33c16,↓n33c17,↓n33c18,↓n33c19,↓n33c20,↓n33c21,↓n33c22,↓n33c23,↓n33c24,↓n33c25,↓n33c26,↓n33c27,↓n33c28,↓n33c29,↓n33c30,↓n33c31,↓n33c32]
      exact ⟨by rw [hcc];rfl,EY.trans f3⟩
     | false =>
     rw [htg] at hcc
     simp (disch:=try exact DI) only [↓PR,QR,simprocAttr,hd0,hBX.c2 (eY.trans f3),hAg.c15 (EY.trans f3),↓n33c1,↓n33c2,↓n33c3,↓n33c4,↓n33c5,↓n33c6,↓n33c7,↓n33c8,↓n33c9,↓n33c10,↓n33c11,↓n33c12,↓n33c13,↓n33c14,↓n33c15,↓n33c16,↓n33c17,↓n33c18,↓n33c19,↓n33c20,↓n33c21,↓n33c22,↓n33c23,↓n33c24,↓n33c25,↓n33c26,↓n33c27,↓n33c28,↓n33c29,↓n33c30,↓n33c31,↓n33c32]
     refine zcr (rRange_ret _ _ g ⟨_,_,rfl,hTg.ext (EY.trans f3),hCg.ext (EY.trans f3)⟩) fun w4 e4=>?_
     have f4:=f3.trans e4
     simp (disch:=try exact DI) only [↓PR,QR,simprocAttr,hBW.c3 (eX.trans (eY.trans f4)),hBY.c15 f4,↓n33c1,↓n33c2,↓n33c3,↓n33c4,↓n33c5,↓n33c6,↓n33c7,↓n33c8,↓n33c9,↓n33c10,↓n33c11,↓n33c12,↓n33c13,↓n33c14,↓n33c15,↓n33c16,↓n33c17,↓n33c18,↓n33c19,↓n33c20,↓n33c21,↓n33c22,↓n33c23,↓n33c24,↓n33c25,↓n33c26,↓n33c27,↓n33c28,↓n33c29,↓n33c30,↓n33c31,↓n33c32]
     have hgb:=hg g hgm hng
     refine zcr (rcased_ret _ _ _ d n f g.low (highOf g) (depsOf (d.msgs.take n)) (hdv _ f4) (Nat.le_of_lt hnl) ⟨_,_,rfl,hT.ext (EY.trans f4),hC.ext (EY.trans f4)⟩ (anyD _ hN) hgb.1 hgb.2) fun w5 e5=>?_
     exact ⟨_,rfl,by rw [hcc];rfl,EY.trans (f4.trans e5)⟩
 · have hcc:checkC (m.fields.take i) D S f=needC (padB f) 6:=by unfold checkC;rw [hk];rfl
   have hP:padB f=!((f.bits != 2&&f.bits != 4)&&(decide (f.bits < 8)||decide (512 < f.bits)||f.bits.tmod 8 != 0)):=by
    unfold padB
    rw [show decide (f.bits < 8)=!decide (8≤f.bits) by rw [Bool.eq_iff_iff];simp,show decide (512 < f.bits)=!decide (f.bits≤512) by rw [Bool.eq_iff_iff];simp,bne,bne,bne]
    generalize (f.bits == 2)=a1
    generalize (f.bits == 4)=a2
    generalize decide (8≤f.bits)=a3
    generalize decide (f.bits≤512)=a4
    generalize (f.bits.tmod 8 == 0)=a5
    cases a1<;>cases a2<;>cases a3<;>cases a4<;>cases a5<;>rfl
   rw [hP] at hcc
   clear hP
   repeat' first
    | exact ⟨by rw [hcc];rfl,EY⟩
    | (refine guard_cases (fun hg=>?_) (fun hg=>?_)<;>(try rw [hg] at hcc)<;>simp (disch:=try exact DI) only [↓PR,QR,simprocAttr,hg,hcY,↓n33c1,↓n33c2,↓n33c3,↓n33c4,↓n33c5,↓n33c6,↓n33c7,↓n33c8,↓n33c9,↓n33c10,↓n33c11,↓n33c12,↓n33c13,↓n33c14,↓n33c15,↓n33c16,↓n33c17,↓n33c18,↓n33c19,↓n33c20,↓n33c21,↓n33c22,↓n33c23,↓n33c24,↓n33c25,↓n33c26,↓n33c27,↓n33c28,↓n33c29,↓n33c30,↓n33c31,↓n33c32])
    | (refine cond_cases (fun hg=>?_) (fun hg=>?_)<;>(try rw [hg] at hcc)<;>simp (disch:=try exact DI) only [↓PR,QR,simprocAttr,hg,↓n33c1,↓n33c2,↓n33c3,↓n33c4,↓n33c5,↓n33c6,↓n33c7,↓n33c8,↓n33c9,↓n33c10,↓n33c11,↓n33c12,↓n33c13,↓n33c14,↓n33c15,↓n33c16,↓n33c17,↓n33c18,↓n33c19,↓n33c20,↓n33c21,↓n33c22,↓n33c23,↓n33c24,↓n33c25,↓n33c26,↓n33c27,↓n33c28,↓n33c29,↓n33c30,↓n33c31,↓n33c32])
 · have hcc:checkC (m.fields.take i) D S f=orC (withinC 3 1 [f.check]) (needC ((m.fields.take i).any fun o=>decide (o.name=f.fr)) 8):=by unfold checkC;rw [hk];rfl
   rw [within1] at hcc
   refine cond_cases (fun h=>⟨_,rfl,by rw [hcc,if_pos (by simpa using h)];rfl,EY⟩) (fun h=>?_)
   rw [if_neg (by simpa using h)] at hcc
   simp (disch:=try exact DI) only [↓PR,QR,simprocAttr,hBX.c2 eY,hcY,↓n33c1,↓n33c2,↓n33c3,↓n33c4,↓n33c5,↓n33c6,↓n33c7,↓n33c8,↓n33c9,↓n33c10,↓n33c11,↓n33c12,↓n33c13,↓n33c14,↓n33c15,↓n33c16,↓n33c17,↓n33c18,↓n33c19,↓n33c20,↓n33c21,↓n33c22,↓n33c23,↓n33c24,↓n33c25,↓n33c26,↓n33c27,↓n33c28,↓n33c29,↓n33c30,↓n33c31,↓n33c32]
   refine zcr (rField_ret _ _ m f.fr i (hmv _ (Ext.refl Y)) (Nat.le_of_lt hil)) fun w1 e1=>?_
   have hdi:=idx_some (p:=fun m:FieldD=>decide (m.name=f.fr)) (l:=m.fields.take i)
   cases hs:(m.fields.take i).any (fun m=>decide (m.name=f.fr))<;>rw [hs] at hdi hcc<;>simp (disch:=try exact DI) only [↓PR,QR,simprocAttr,hdi,↓n33c1,↓n33c2,↓n33c3,↓n33c4,↓n33c5,↓n33c6,↓n33c7,↓n33c8,↓n33c9,↓n33c10,↓n33c11,↓n33c12,↓n33c13,↓n33c14,↓n33c15,↓n33c16,↓n33c17,↓n33c18,↓n33c19,↓n33c20,↓n33c21,↓n33c22,↓n33c23,↓n33c24,↓n33c25,↓n33c26,↓n33c27,↓n33c28,↓n33c29,↓n33c30,↓n33c31,↓n33c32]<;>exact ⟨by rw [hcc];rfl,EY.trans e1⟩
 · have hcc:checkC (m.fields.take i) D S f=orC (withinC 4294967295 0 [f.key]) (orC (needC (strB (vB (strsOf (d.msgs.take n))) f.of) 8) (sizedC (numR (m.fields.take i)) f)):=by rw [← hSS];unfold checkC;rw [hk];rfl
   rw [within1,strB_vB] at hcc
   refine cond_cases (fun h=>⟨_,rfl,by rw [hcc,if_pos (by simpa using h)];rfl,EY⟩) (fun h=>?_)
   rw [if_neg (by simpa using h)] at hcc
   simp (disch:=try exact DI) only [↓PR,QR,simprocAttr,hBW.c3 (eX.trans eY),hcY,↓n33c1,↓n33c2,↓n33c3,↓n33c4,↓n33c5,↓n33c6,↓n33c7,↓n33c8,↓n33c9,↓n33c10,↓n33c11,↓n33c12,↓n33c13,↓n33c14,↓n33c15,↓n33c16,↓n33c17,↓n33c18,↓n33c19,↓n33c20,↓n33c21,↓n33c22,↓n33c23,↓n33c24,↓n33c25,↓n33c26,↓n33c27,↓n33c28,↓n33c29,↓n33c30,↓n33c31,↓n33c32]
   refine zcr (rFind_ret _ _ d f.of n (hdv _ (Ext.refl Y)) (Nat.le_of_lt hnl)) fun w1 e1=>?_
   rcases first_last (keysS (d.msgs.take n)) hN f.of with ⟨h1,h2⟩ | ⟨k,b,h1,_,h3,h4⟩
   · rw [h1]
     rw [h2] at hcc
     simp (disch:=try exact DI) only [↓PR,QR,simprocAttr,↓n33c1,↓n33c2,↓n33c3,↓n33c4,↓n33c5,↓n33c6,↓n33c7,↓n33c8,↓n33c9,↓n33c10,↓n33c11,↓n33c12,↓n33c13,↓n33c14,↓n33c15,↓n33c16,↓n33c17,↓n33c18,↓n33c19,↓n33c20,↓n33c21,↓n33c22,↓n33c23,↓n33c24,↓n33c25,↓n33c26,↓n33c27,↓n33c28,↓n33c29,↓n33c30,↓n33c31,↓n33c32]
     exact ⟨by rw [hcc];rfl,EY.trans e1⟩
   · rw [h1]
     rw [h4] at hcc
     have hd0:decide ((k:Int) < 0)=false:=by simp
     simp (disch:=try exact DI) only [↓PR,QR,simprocAttr,hd0,hBW.c3 (eX.trans (eY.trans e1)),↓n33c1,↓n33c2,↓n33c3,↓n33c4,↓n33c5,↓n33c6,↓n33c7,↓n33c8,↓n33c9,↓n33c10,↓n33c11,↓n33c12,↓n33c13,↓n33c14,↓n33c15,↓n33c16,↓n33c17,↓n33c18,↓n33c19,↓n33c20,↓n33c21,↓n33c22,↓n33c23,↓n33c24,↓n33c25,↓n33c26,↓n33c27,↓n33c28,↓n33c29,↓n33c30,↓n33c31,↓n33c32]
     refine callK_ret (rStricts_ret _ _ d n (hdv _ e1) (Nat.le_of_lt hnl) hN hR (fun m hm=>(hb m hm).1) hn1) ?_
     rintro _ w2 ⟨hO,e2⟩
     have hq:((strsOf (d.msgs.take n)).map (·.2))[k]?=some b:=by rw [List.getElem?_map,h3];rfl
     obtain ⟨bo,oo,co,rfl,_,_,_,hql,helo⟩:=open1 hO hq
     obtain ⟨cso,_,hAo,rfl⟩:=helo k b hq
     cases b with
     | false =>
      simp (disch:=try exact DI) only [↓PR,QR,simprocAttr,hd0,hAo.c1 (Ext.refl _),↓n33c1,↓n33c2,↓n33c3,↓n33c4,↓n33c5,↓n33c6,↓n33c7,↓n33c8,↓n33c9,↓n33c10,↓n33c11,↓n33c12,↓n33c13,↓n33c14,↓n33c15,↓n33c16,↓n33c17,↓n33c18,↓n33c19,↓n33c20,↓n33c21,↓n33c22,↓n33c23,↓n33c24,↓n33c25,↓n33c26,↓n33c27,↓n33c28,↓n33c29,↓n33c30,↓n33c31,↓n33c32]
      exact ⟨by rw [hcc];rfl,EY.trans (e1.trans e2)⟩
     | true =>
      simp (disch:=try exact DI) only [↓PR,QR,simprocAttr,hd0,hAo.c1 (Ext.refl _),hBX.c2 (eY.trans (e1.trans e2)),↓n33c1,↓n33c2,↓n33c3,↓n33c4,↓n33c5,↓n33c6,↓n33c7,↓n33c8,↓n33c9,↓n33c10,↓n33c11,↓n33c12,↓n33c13,↓n33c14,↓n33c15,↓n33c16,↓n33c17,↓n33c18,↓n33c19,↓n33c20,↓n33c21,↓n33c22,↓n33c23,↓n33c24,↓n33c25,↓n33c26,↓n33c27,↓n33c28,↓n33c29,↓n33c30,↓n33c31,↓n33c32]
      refine zcr (rsized_ret _ _ m i f (hmv _ (e1.trans e2)) hi hD hft) fun w3 e3=>?_
      exact ⟨_,rfl,by rw [hcc];rfl,EY.trans (e1.trans (e2.trans e3))⟩
theorem rfield_ret (w0:World) (v:Value) (d:DefD) (n i:Nat) (m:MsgD) (f:FieldD) (hd:DefVal w0 v d) (hm:d.msgs[n]?=some m) (hi:m.fields[i]?=some f) (hN:DistM (d.msgs.take n)) (hR:RefsIn d.msgs n) (hD:Dist (m.fields.take i)) (hb:calm d) (hn1:n≤1048576)
 (hg:∀ g∈m.fields.take i,numberB g=true → -4611686018427387904≤g.low∧highOf g≤4611686018427387904) :
 Ret Pg 96 #[v,.int .i64 (n:Int),.int .i64 (i:Int)] w0 fun r w'=>r = .int .i64 (examineC (m.fields.take i) (vI (depsOf (d.msgs.take n))) (vB (strsOf (d.msgs.take n))) f)∧Ext w0 w':=by
 obtain ⟨mv,rfl,hM⟩:=hd
 have hM0:=hM
 refine n31s (R:=retR _) ?_;unfold n31
 rw [op_boxA]
 have hBW:=ElemAt.new (w:=w0) (defCells d mv) (24)
 have eW:Ext w0 (w0.alloc (Obj.cells (List.toArray (defCells d mv)) (24))):=(Ext.refl _).alloc _
 generalize (w0.alloc (Obj.cells (List.toArray (defCells d mv)) (24)))=W at hBW eW ⊢
 obtain ⟨bm,om,cm,rfl,_,_,_,hnl,hel⟩:=open1 hM hm
 obtain ⟨csm,_,hAm,hEm⟩:=hel n m hm
 obtain ⟨fv,rfl,hF⟩:=hEm
 have hF0:=hF
 obtain ⟨bf,of,cf,rfl,_,_,_,hil,helf⟩:=open1 hF hi
 obtain ⟨csf,_,hAf,hEf⟩:=helf i f hi
 obtain ⟨tv,cv,rfl,hT,hC,ht1,hc1⟩:=hEf.op
 simp (disch:=try exact DI) only [↓PR,QR,simprocAttr,hBW.c3 (Ext.refl W),hAm.c2 eW,hAf.c15 eW]
 have hBX:=ElemAt.new (w:=W) (fieldCells f tv cv) (38)
 have eX:Ext W (W.alloc (Obj.cells (List.toArray (fieldCells f tv cv)) (38))):=(Ext.refl _).alloc _
 generalize (W.alloc (Obj.cells (List.toArray (fieldCells f tv cv)) (38)))=X at hBX eX ⊢
 have EX:Ext w0 X:=eW.trans eX
 unfold examineC
 refine zcr (rName_ret _ _) fun w1 e1=>?_
 have E1:=EX.trans e1
 cases hnm:nameB f.name with
 | false=>simp (disch:=try exact DI) only [↓PR,QR,simprocAttr];exact ⟨rfl,E1⟩
 | true =>
 simp (disch:=try exact DI) only [↓PR,QR,simprocAttr]
 refine drawK_intro ?_
 simp (disch:=try exact DI) only [↓PR,QR,simprocAttr,hBW.c3 (eX.trans e1),hBX.c15 e1,hAm.c2 E1,↓n31c1,↓n31c2,↓n31c3,↓n31c4]
 refine zcr (rField_ret _ _ m f.name i ⟨_,rfl,hF0.ext E1.drew⟩ (Nat.le_of_lt hil)) fun w2 e2=>?_
 have e12:=e1.drew.trans e2
 refine ⟨e2,?_⟩
 have hdi:=idx_neg (p:=fun m:FieldD=>decide (m.name=f.name)) (l:=m.fields.take i)
 cases hs:(m.fields.take i).any (fun m=>decide (m.name=f.name)) with
 | true =>
  rw [hs] at hdi
  simp (disch:=try exact DI) only [↓PR,QR,simprocAttr,hdi,↓n31c1,↓n31c2,↓n31c3,↓n31c4]
  exact ⟨rfl,EX.trans e12⟩
 | false =>
 rw [hs] at hdi
 simp (disch:=try exact DI) only [↓PR,QR,simprocAttr,hdi,hBX.c15 e12,↓n31c1,↓n31c2,↓n31c3,↓n31c4]
 have hkk:(decide (f.kind < 1)||decide (12 < f.kind))=!decide (1≤f.kind∧f.kind≤12):=by
  rw [Bool.eq_iff_iff];simp only [Bool.or_eq_true,decide_eq_true_eq,Bool.not_eq_true',decide_eq_false_iff_not];omega
 rw [hkk]
 cases hk:decide (1≤f.kind∧f.kind≤12) with
 | false=>simp (disch:=try exact DI) only [↓PR,QR,simprocAttr];exact ⟨rfl,EX.trans e12⟩
 | true =>
 have hk':1≤f.kind∧f.kind≤12:=by simpa using hk
 simp (disch:=try exact DI) only [↓PR,QR,simprocAttr,hBX.c15 e12]
 refine zcr (rzero_ret _ _ f ⟨_,_,rfl,hT.ext (EX.trans e12),hC.ext (EX.trans e12)⟩ hk') fun w3 e3=>?_
 have e13:=e12.trans e3
 rw [zeroB_clear hk']
 cases hz:decide (clearK f=bareF f) with
 | false=>simp (disch:=try exact DI) only [↓PR,QR,simprocAttr,↓n31c1,↓n31c2,↓n31c3,↓n31c4];exact ⟨rfl,EX.trans e13⟩
 | true =>
 simp (disch:=try exact DI) only [↓PR,QR,simprocAttr,hBW.c3 (eX.trans e13),↓n31c1,↓n31c2,↓n31c3,↓n31c4]
 refine zcr (rkinds_ret _ _ d n i m f ⟨_,rfl,hM0.ext (EX.trans e13)⟩ hm hi hN hR hD hb hn1 hg hk') fun w4 e4=>?_
 exact ⟨_,rfl,rfl,EX.trans (e13.trans e4)⟩
theorem Fine.dist {l:List MsgD} (h:Fine l):DistM l:=by
 refine List.pairwise_iff_getElem.2 fun i j hi hj hij hn=>?_
 have h6:=(next_parts (h.next (List.getElem?_eq_getElem hj))).2.1
 rw [← Option.not_isSome_iff_eq_none,isD] at h6
 exact h6 ⟨l[i],List.mem_of_getElem? (i:=i) (by rw [List.getElem?_take,if_pos hij];exact List.getElem?_eq_getElem hi),hn⟩
theorem next_refs {deps:List (ByteArray×Int)} {strs:List (ByteArray×Bool)} (hds:∀ s,(lastP strs s).isSome=true→(lastP deps s).isSome=true) {m:MsgD} (h:(fieldsP deps strs [] m.fields).2=0):∀ s∈refsL m,(lastP deps s).isSome=true :=
 fun s hs=>(fields_mono (Sub.refl _) (Sub.refl _) hds _ _ h).2 s (mem_refsM hs)
theorem any_isD {l:List MsgD} {s:ByteArray} (h:(lastP (depsOf l) s).isSome=true):(l.any fun m=>decide (m.name=s))=true:=by
 obtain ⟨m,hm,hn⟩:=isD.1 h
 exact List.any_eq_true.2 ⟨m,hm,by simpa using hn⟩
theorem Fine.refsIn {l:List MsgD} {n:Nat} (h:Fine (l.take n)):RefsIn l n:=by
 intro k m hk hm s hs
 have hm':(l.take n)[k]?=some m:=by rw [List.getElem?_take,if_pos hk];exact hm
 obtain ⟨_,_,_,h4,_⟩:=next_parts (h.next hm')
 rw [List.take_take,Nat.min_eq_left (by omega)] at h4
 exact any_isD (next_refs (ds_of _) h4 s hs)
def FineF (deps:List (ByteArray×Int)) (strs:List (ByteArray×Bool)) (l:List FieldD):Prop:=∀ (j:Nat) (f:FieldD),l[j]?=some f→examineC (l.take j) (vI deps) (vB strs) f=0
section
variable {deps:List (ByteArray×Int)} {strs:List (ByteArray×Bool)} {l:List FieldD}
theorem exam_parts {bef:List FieldD} {D S:List (ByteArray×Value)} {f:FieldD} (h:examineC bef D S f=0):(bef.any fun o=>decide (o.name=f.name))=false∧checkC bef D S f=0:=by
 unfold examineC at h
 obtain ⟨_,h⟩:=orC_iff.1 h
 obtain ⟨h2,h⟩:=orC_iff.1 h
 obtain ⟨_,h⟩:=orC_iff.1 h
 obtain ⟨_,h⟩:=orC_iff.1 h
 exact ⟨by simpa using (needC_iff (by decide)).1 h2,h⟩
theorem FineF.dist (h:FineF deps strs l):Dist l:=by
 refine List.pairwise_iff_getElem.2 fun i j hi hj hij hn=>?_
 have h6:=(exam_parts (h j _ (List.getElem?_eq_getElem hj))).1
 rw [List.any_eq_false] at h6
 exact h6 l[i] (List.mem_of_getElem? (i:=i) (by rw [List.getElem?_take,if_pos hij];exact List.getElem?_eq_getElem hi)) (by simpa using hn)
theorem FineF.step {k:Nat} {f:FieldD} (h:FineF deps strs (l.take k)) (hk:l[k]?=some f) (hf:examineC (l.take k) (vI deps) (vB strs) f=0):FineF deps strs (l.take (k+1)):=by
 intro j g hg
 rw [List.getElem?_take] at hg
 split at hg
 · rename_i hj
   rw [List.take_take,Nat.min_eq_left (by omega)]
   by_cases hjk:j=k
   · subst hjk;rw [hk] at hg;injection hg with hg;subst hg;exact hf
   · have:=h j g (by rw [List.getElem?_take,if_pos (by omega)];exact hg)
     rwa [List.take_take,Nat.min_eq_left (by omega)] at this
 · cases hg
theorem pow_bits {n:Int} (h1:1≤n) (h2:n≤32):(2:Int) ^ n.toNat≤4294967296:=by
 have hle:n.toNat≤32:=by omega
 have hq:(2:Nat) ^ n.toNat≤2 ^ 32:=Nat.pow_le_pow_right (by decide) hle
 have hc:(2:Int) ^ n.toNat=((2 ^ n.toNat:Nat):Int):=by simp
 rw [hc]
 have:(2:Nat) ^ 32=4294967296:=rfl
 omega
theorem num_bounds {bef:List FieldD} {D S:List (ByteArray×Value)} {g:FieldD} (h:checkC bef D S g=0) (hn:numberB g=true):0≤g.low∧g.low≤highOf g∧highOf g≤34359738367:=by
 unfold numberB at hn
 simp only [Bool.or_eq_true,beq_iff_eq] at hn
 unfold highOf
 rcases hn with (hk | hk) | hk
 · rw [show checkC bef D S g=orC (needC (bitsB g) 6) (withinC (topF g) 0 [g.low,g.high]) by unfold checkC;rw [hk];rfl] at h
   obtain ⟨h1,h2⟩:=orC_iff.1 h
   have hb:=(needC_iff (by decide)).1 h1
   unfold bitsB at hb
   simp only [Bool.and_eq_true,decide_eq_true_eq] at hb
   have hp:=pow_bits hb.1.1 hb.1.2
   rw [within2] at h2
   unfold topF at h2
   split at h2
   · cases h2
   · rw [hk]
     show 0≤g.low∧g.low≤g.high∧g.high≤34359738367
     omega
 · rw [show checkC bef D S g=orC (needC (bitsB g) 6) (withinC (topF g) 0 [g.low]) by unfold checkC;rw [hk];rfl] at h
   obtain ⟨h1,h2⟩:=orC_iff.1 h
   have hb:=(needC_iff (by decide)).1 h1
   unfold bitsB at hb
   simp only [Bool.and_eq_true,decide_eq_true_eq] at hb
   have hp:=pow_bits hb.1.1 hb.1.2
   rw [within1] at h2
   unfold topF at h2
   split at h2
   · cases h2
   · rw [hk]
     show 0≤g.low∧g.low≤g.low∧g.low≤34359738367
     omega
 · rw [show checkC bef D S g=withinC 34359738367 0 [g.low,g.high] by unfold checkC;rw [hk];rfl,within2] at h
   split at h
   · cases h
   · rw [hk]
     show 0≤g.low∧g.low≤g.high∧g.high≤34359738367
     omega
theorem FineF.bounds (h:FineF deps strs l):∀ g∈l,numberB g=true → -4611686018427387904≤g.low∧highOf g≤4611686018427387904:=by
 intro g hg hn
 obtain ⟨j,hj⟩:=List.getElem?_of_mem hg
 have:=num_bounds (exam_parts (h j g hj)).2 hn
 omega
end
def DRow (w:World) (b:Nat) (L:List Int):Prop:=w.heap[b]?=some (.cells (L.map fun n=>Value.int .i64 n).toArray 3 (0,0))
theorem DRow.ext {w w':World} {b:Nat} {L:List Int} (h:DRow w b L) (e:Ext w w'):DRow w' b L:=e.obj h
theorem DRow.cell {w:World} {b:Nat} {L:List Int} (h:DRow w b L) {k:Nat} {n:Int} (hk:L[k]?=some n):w.cell? ⟨b,k*1,none⟩=some (.int .i64 n):=by
 rw [(cells_of_heap h).1];simp [hk]
theorem DRow.free {w:World} {b:Nat} {L:List Int} (h:DRow w b L) (k:Nat):w.frozen? ⟨b,k,none⟩=false:=(cells_of_heap h).2 k
theorem DRow.set {w:World} {b:Nat} {L:List Int} (h:DRow w b L) (k:Nat) (n:Int):DRow (w.setCell ⟨b,k*1,none⟩ (.int .i64 n)) b (L.set k n):=by
 rw [Nat.mul_one]
 have:=heap_set (o:=k) h (.int .i64 n)
 unfold DRow
 rw [this]
 congr 2
 rw [List.setIfInBounds_toArray,List.map_set]
theorem op_makeInts {QP:List PanicEntry→World→Prop} {w:World} {k:Value→World→Prop} (n:Nat) (hn:n≤1048576):opV Pg (Instr.makeSlice 48 (.int .i64 (n:Int)) (.int .i64 (n:Int))) QP w k =
 k (.slice (some ⟨w.heap.size,0,none⟩) n n) (w.alloc (.cells ((List.replicate n (0:Int)).map fun n=>Value.int .i64 n).toArray 3)):=by
 obtain ⟨⟨i,hi,hs,hby,hz⟩,_⟩:=ty3
 have h1:=by3
 rw [opV_ok (run_make_row (P:=Pg) 48 3 i _ Tryz.underlying48 hi hz hs rfl .i64 .i64 n (by rw [hby];exact Nat.le_trans (Nat.mul_le_mul h1 hn) (by decide)) (by omega) w)]
 congr 3
 rw [List.map_replicate,← toList_madeCells_one]
section
variable {w0 W w:World} {d:DefD} {mv:Value} (hBW:ElemAt W w0.heap.size 0 (defCells d mv)) (eW:Ext w0 W) (hM:MsgsOf w0 mv d.msgs)
 include hBW eW hM
theorem rcheck_refs {k N lo bd:Nat} {m:MsgD} {L:List Int} {rv t2:Value} {R:RT} {next2:Value→World→Prop} (hkl:k < d.msgs.length) (hN:DistM (d.msgs.take k)) (hrefs:∀ s∈refsL m,(lastP (depsOf (d.msgs.take k)) s).isSome=true) (e:Ext W w) (hbd:W.heap.size≤bd) (hL:DRow w bd L) (hlen:L.length=N)
 (hLk:∀ (j:Nat) (n:Int),((depsOf (d.msgs.take k)).map (·.2))[j]?=some n→L[j]?=some n∧j < k) (h0:L[k]?=some 0) (hS:OwnS w lo rv (refsL m)) (hlo:bd < lo)
 (hn:∀ w',Ext W w'→DRow w' bd (L.set k (depthM (depsOf (d.msgs.take k)) m))→n22c6 t2 (.int .i64 (k:Int)) (.slice (some ⟨bd,0,none⟩) N N) next2 R w') :
 loop1 (fun t10 w next5=>n22c7 (.pointer (some ⟨w0.heap.size,0,none⟩)) t2 (.int .i64 (k:Int)) t10 (.slice (some ⟨bd,0,none⟩) N N) rv next2 next5 R w) (.int .i64 0) w:=by
 have hkN:k < N:=by rw [← hlen];exact (List.getElem?_eq_some_iff.1 h0).1
 refine loop1_intro (fun a w'=>∃ j:Nat,a = .int .i64 j∧j≤(refsL m).length∧Ext W w'∧DRow w' bd (L.set k (((refsL m).take j).foldl (fun d' s=>maxI d' ((lastP (depsOf (d.msgs.take k)) s).getD 0)) 0))∧OwnS w' lo rv (refsL m)) (fun b _=>(refsL m).length - (intOf b).toNat) ⟨0,rfl,by omega,e,by
  have:L.set k (((refsL m).take 0).foldl (fun d' s=>maxI d' ((lastP (depsOf (d.msgs.take k)) s).getD 0)) 0)=L:=by
   refine List.ext_getElem? fun j=>?_
   rw [List.getElem?_set]
   split
   · rename_i h;subst h;rw [h0];simp [hlen,hkN]
   · rfl
  rw [this];exact hL,hS⟩ ?_
 rintro _ w1 ⟨j,rfl,hj,e1,hL1,hS1⟩
 have hSl:=hS1.slice (E:=EStr) (fun _=>rfl) (fun _ _=>rfl)
 obtain ⟨Ar,cr,rfl,hlr,hcr,hlmr,helr⟩:=SliceOf.open hSl
 have E1:=eW.trans e1
 unfold n22c7
 rcases drop_cases hj with ⟨s,hx,hdr,hlt,hdec⟩ | ⟨hj,hdr,hdec⟩
 · obtain ⟨bs,os,css,rfl,_,hAs,rfl⟩:=helr j s hx
   have hstep:((refsL m).take (j+1)).foldl (fun d' s=>maxI d' ((lastP (depsOf (d.msgs.take k)) s).getD 0)) 0=maxI (((refsL m).take j).foldl (fun d' s=>maxI d' ((lastP (depsOf (d.msgs.take k)) s).getD 0)) 0) ((lastP (depsOf (d.msgs.take k)) s).getD 0):=by rw [take_snoc hx,List.foldl_append];rfl
   generalize (((refsL m).take j).foldl (fun d' s=>maxI d' ((lastP (depsOf (d.msgs.take k)) s).getD 0)) 0)=c at hL1 hstep
   have hck:(L.set k c)[k]?=some c:=by rw [List.getElem?_set,if_pos rfl,if_pos (by omega)]
   simp (disch:=try exact DI) only [↓PR,QR,simprocAttr,hdec]
   refine drawK_intro ?_
   unfold n22c4
   simp (disch:=try exact DI) only [↓PR,QR,simprocAttr,hL1.cell hck,hBW.c3 e1,hAs.c1 (Ext.refl w1)]
   refine zcr (rFind_ret _ _ d s k ⟨_,rfl,hM.ext E1.drew⟩ (Nat.le_of_lt hkl)) fun w2 e2=>?_
   have e12:Ext w1 w2:=(Ext.refl w1).drew.trans e2
   refine narrowK_same e2 ?_
   unfold n22c3
   rcases first_last (keysD (d.msgs.take k)) hN s with ⟨_,h2⟩ | ⟨q,b,h1,_,h3,h4⟩
   · have:=hrefs s (List.mem_of_getElem? hx)
     rw [h2] at this
     cases this
   · obtain ⟨hLq,hqk⟩:=hLk q b (by rw [List.getElem?_map,h3];rfl)
     have hcq:(L.set k c)[q]?=some b:=by rw [List.getElem?_set,if_neg (by omega)];exact hLq
     rw [h1]
     have hq2:q < N:=by omega
     have hL2:=hL1.ext e12
     simp (disch:=try exact DI) only [↓PR,QR,simprocAttr,hL1.cell hcq,hL2.cell hck,hL2.free]
     refine turnK_intro ?_
     simp (disch:=try exact DI) only [↓PR,QR,simprocAttr]
     refine ⟨⟨j+1,rfl,hlt,(e1.trans e12).setCell hbd _,?_,((hS1.ext e12).range.only (Only.setCell w2 bd _ _) (.inr (.inl hlo))).1⟩,meas_lt hlt⟩
     rw [hstep,h4]
     have:=hL2.set k (if b > c then b else c)
     rw [List.set_set] at this
     exact this
 · subst hj
   rw [List.take_length] at hL1
   simp (disch:=try exact DI) only [↓PR,QR,simprocAttr,hdec]
   exact hn w1 e1 hL1
end
theorem flaw_out {w0 w:World} {bt:Nat} {x0 x1 x2:Value} {QP QP':List PanicEntry→World→Prop} {k:Value→World→Prop} (e:Ext w0 w) (hb:w0.heap.size≤bt) (h:w.heap[bt]?=some (.cells #[x0,x1,x2] 29 (0,0))) (a f c:Int) (hk:∀ w',Ext w0 w'→k (flawVal a f c) w') :
 opV Pg (Instr.build 29 #[(0,.int .i64 a),(1,.int .i64 f),(2,.int .i64 c)]) QP w fun t w=>opU Pg (Instr.storeAt 29 (.pointer (some ⟨bt,0,none⟩)) t) QP' w fun w=>qW Pg 29 (.pointer (some ⟨bt,0,none⟩)) w fun r0=>k r0 w:=by
 simp (disch:=try exact DI) only [↓PR,QR,simprocAttr,(cells_of_heap h).1,(cells_of_heap h).2]
 exact hk _ (((e.setCell hb _).setCell hb _).setCell hb _)
theorem flaw_tup {d:DefD} {a f c:Int} (h:checkP d=(a,f,c)) (h0:c≠0):Value.tuple #[flawVal a f c,.bool true] = .tuple #[flawOf (checkP d),.bool (flawedB d)]:=by
 unfold flawedB flawOf
 rw [h]
 simp [h0]
theorem msgs_split {l:List MsgD} {k:Nat} (h:Fine (l.take k)) (hk:k≤l.length):msgsP [] [] 0 l=msgsP (depsOf (l.take k)) (strsOf (l.take k)) k (l.drop k):=by
 have:=(msgs_append (l.drop k) (l.take k) [] [] 0).1 h
 rw [List.take_append_drop] at this
 rw [this,List.length_take,Nat.min_eq_left hk,Nat.zero_add]
 rfl
theorem Fine.step {l:List MsgD} {k:Nat} {m:MsgD} (h:Fine (l.take k)) (hm:l[k]?=some m) (h0:(nextP (depsOf (l.take k)) (strsOf (l.take k)) m).2=0):Fine (l.take (k+1)):=by
 rw [take_snoc hm]
 unfold Fine
 rw [(msgs_append [m] (l.take k) [] [] 0).1 h]
 show (msgsP (depsOf (l.take k)) (strsOf (l.take k)) _ [m]).2.2=0
 rw [msgs_cons0 h0]
 rfl
theorem check_bad {d:DefD} {k:Nat} {m:MsgD} {a c:Int} (h1:nameB d.name=true) (h2:1≤d.msgs.length∧d.msgs.length≤60) (h:Fine (d.msgs.take k)) (hm:d.msgs[k]?=some m) (hn:nextP (depsOf (d.msgs.take k)) (strsOf (d.msgs.take k)) m=(a,c)) (h0:c≠0):checkP d=((k:Int),a,c):=by
 have hk:=(List.getElem?_eq_some_iff.1 hm).1
 unfold checkP
 rw [if_pos h1,if_pos h2,msgs_split h (Nat.le_of_lt hk),List.drop_eq_getElem_cons hk,msgs_cons1 (by rw [(List.getElem?_eq_some_iff.1 hm).2,hn];exact h0),(List.getElem?_eq_some_iff.1 hm).2,hn]
 unfold endP
 rw [if_neg h0]
def depL (l:List MsgD) (k:Nat):List Int:=(depsOf (l.take k)).map (·.2)++List.replicate (l.length - k) 0
theorem depD_len (l:List MsgD) {k:Nat} (hk:k≤l.length):((depsOf (l.take k)).map (·.2)).length=k:=by
 have:=congrArg List.length (keysD (l.take k))
 simp only [List.length_map,List.length_take] at this ⊢
 omega
theorem depL_len (l:List MsgD) {k:Nat} (hk:k≤l.length):(depL l k).length=l.length:=by
 unfold depL
 rw [List.length_append,depD_len l hk,List.length_replicate];omega
theorem depL_zero (l:List MsgD) {k:Nat} (hk:k < l.length):(depL l k)[k]?=some 0:=by
 unfold depL
 rw [List.getElem?_append_right (by rw [depD_len l (by omega)];omega),depD_len l (by omega),List.getElem?_replicate,if_pos (by omega)]
theorem depL_old (l:List MsgD) {k:Nat} (hk:k < l.length) (j:Nat) (n:Int) (h:((depsOf (l.take k)).map (·.2))[j]?=some n):(depL l k)[j]?=some n∧j < k:=by
 have hj:=(List.getElem?_eq_some_iff.1 h).1
 rw [depD_len l (by omega)] at hj
 unfold depL
 rw [List.getElem?_append_left (by rw [depD_len l (by omega)];exact hj)]
 exact ⟨h,hj⟩
theorem depL_step {l:List MsgD} {k:Nat} {m:MsgD} (hm:l[k]?=some m):(depL l k).set k (depthM (depsOf (l.take k)) m+1)=depL l (k+1):=by
 have hk:=(List.getElem?_eq_some_iff.1 hm).1
 unfold depL
 rw [List.set_append_right _ _ (by rw [depD_len l (by omega)];omega),depD_len l (by omega),Nat.sub_self,take_snoc hm,deps_snoc,List.map_append,List.append_assoc]
 congr 1
 rw [show l.length - k=(l.length - (k+1))+1 by omega,List.replicate_succ]
 rfl
theorem field_split {deps:List (ByteArray×Int)} {strs:List (ByteArray×Bool)}:∀ (l:List FieldD) (bef:List FieldD) (k:Nat),(∀ (j:Nat) (f:FieldD),j < k→l[j]?=some f→examineC (bef++l.take j) (vI deps) (vB strs) f=0)→fieldsP deps strs (bef++l.take k) (l.drop k)=fieldsP deps strs bef l
 | [],bef,k,_=>by simp
 | f::l,bef,0,_=>by simp
 | f::l,bef,k+1,h=>by
  have h0:=h 0 f (by omega) rfl
  rw [List.take_zero,List.append_nil] at h0
  have ih:=field_split l (bef++[f]) k fun j g hj hg=>by
   have:=h (j+1) g (by omega) (by simpa using hg)
   rw [List.take_succ_cons] at this
   rw [List.append_assoc];exact this
  rw [List.take_succ_cons,List.drop_succ_cons,fieldsP,if_pos h0,← ih,List.append_assoc]
  rfl
theorem FineF.fields {deps:List (ByteArray×Int)} {strs:List (ByteArray×Bool)} {l:List FieldD} {k:Nat} (h:FineF deps strs (l.take k)):fieldsP deps strs (l.take k) (l.drop k)=fieldsP deps strs [] l:=by
 have:=field_split (deps:=deps) (strs:=strs) l [] k fun j f hj hf=>by
  have:=h j f (by rw [List.getElem?_take,if_pos hj];exact hf)
  rwa [List.take_take,Nat.min_eq_left (by omega)] at this
 simpa using this
theorem rCheck_ret (w0:World) (v:Value) (d:DefD) (hd:DefVal w0 v d) (hb:calm d):Ret Pg 52 #[v] w0 fun r w'=>r = .tuple #[flawOf (checkP d),.bool (flawedB d)]∧Ext w0 w':=by
 obtain ⟨mv,rfl,hM⟩:=hd
 have hM0:=hM
 refine n22s (R:=retR _) ?_;unfold n22
 rw [op_boxA]
 have hBW:=ElemAt.new (w:=w0) (defCells d mv) (24)
 have eW:Ext w0 (w0.alloc (Obj.cells (List.toArray (defCells d mv)) (24))):=(Ext.refl _).alloc _
 generalize (w0.alloc (Obj.cells (List.toArray (defCells d mv)) (24)))=W at hBW eW ⊢
 obtain ⟨A,cm,rfl,hlc,hcm,hlm,hel⟩:=SliceOf.open hM
 have sB:w0.heap.size < W.heap.size:=World.block_lt_of_cell? W ⟨w0.heap.size,0,none⟩ (hBW.c3 (Ext.refl W)).1
 simp (disch:=try exact DI) only [↓PR,QR,simprocAttr,hBW.c3 (Ext.refl W)]
 have oV:=heap_new W #[.int .i64 0,.int .i64 0,.int .i64 0] 29
 have eV:Ext W (W.alloc (.cells #[.int .i64 0,.int .i64 0,.int .i64 0] 29)):=(Ext.refl W).alloc _
 have sV:(W.alloc (.cells #[.int .i64 0,.int .i64 0,.int .i64 0] 29)).heap.size=W.heap.size+1:=World.size_alloc _ _
 generalize W.alloc (.cells #[.int .i64 0,.int .i64 0,.int .i64 0] 29)=V at oV eV sV ⊢
 have EV:Ext w0 V:=eW.trans eV
 have sW:=eW.size
 refine zcr (rName_ret _ _) fun w1 e1=>?_
 have E1:=EV.trans e1
 cases hnm:nameB d.name with
 | false =>
  have hc:checkP d=(-1,-1,1):=by unfold checkP;rw [hnm];rfl
  simp (disch:=try exact DI) only [↓PR,QR,simprocAttr]
  unfold n22c23
  exact flaw_out E1 sW (e1.obj oV) _ _ _ fun w' e'=>⟨_,rfl,flaw_tup hc (by decide),e'⟩
 | true =>
 simp (disch:=try exact DI) only [↓PR,QR,simprocAttr,hBW.c3 (eV.trans e1),n22c24]
 have hlen:(decide ((d.msgs.length:Int) < 1)||decide (60 < (d.msgs.length:Int)))=!decide (1≤d.msgs.length∧d.msgs.length≤60):=by
  rw [Bool.eq_iff_iff];simp only [Bool.or_eq_true,decide_eq_true_eq,Bool.not_eq_true',decide_eq_false_iff_not];omega
 rw [hlen]
 by_cases hl:1≤d.msgs.length∧d.msgs.length≤60
 case neg =>
  have hc:checkP d=(-1,-1,3):=by unfold checkP;rw [hnm,if_pos rfl,if_neg hl]
  simp (disch:=try exact DI) only [↓PR,QR,simprocAttr,show decide (1≤d.msgs.length∧d.msgs.length≤60)=false by simpa using hl]
  unfold n22c21
  exact flaw_out E1 sW (e1.obj oV) _ _ _ fun w' e'=>⟨_,rfl,flaw_tup hc (by decide),e'⟩
 case pos =>
 simp (disch:=try exact DI) only [↓PR,QR,simprocAttr,show decide (1≤d.msgs.length∧d.msgs.length≤60)=true by simpa using hl]
 unfold n22c22
 simp (disch:=try exact DI) only [↓PR,QR,simprocAttr,hBW.c3 (eV.trans e1)]
 rw [op_makeInts _ (by omega)]
 have oD:DRow (w1.alloc (.cells ((List.replicate d.msgs.length (0:Int)).map fun n=>Value.int .i64 n).toArray 3)) w1.heap.size (depL d.msgs 0):=heap_new w1 _ _
 have eD:Ext w1 (w1.alloc (.cells ((List.replicate d.msgs.length (0:Int)).map fun n=>Value.int .i64 n).toArray 3)):=(Ext.refl w1).alloc _
 generalize w1.alloc (.cells ((List.replicate d.msgs.length (0:Int)).map fun n=>Value.int .i64 n).toArray 3)=w2 at oD eD ⊢
 have sw1:=e1.size
 generalize hbd:w1.heap.size=bd at oD sw1 ⊢
 have e2:Ext V w2:=e1.trans eD
 refine loop1_intro (fun a w'=>∃ k:Nat,a = .int .i64 k∧k≤d.msgs.length∧Ext V w'∧DRow w' bd (depL d.msgs k)∧Fine (d.msgs.take k)) (fun b _=>d.msgs.length - (intOf b).toNat) ⟨0,rfl,by omega,e2,oD,rfl⟩ ?_
 rintro _ w ⟨k,rfl,hk,e,hL,hfine⟩
 have E:=EV.trans e
 have hcW:=hBW.c3 (eV.trans e)
 unfold n22c20
 rcases drop_cases hk with ⟨m,hm,hdr,hlt,hdec⟩ | ⟨hk,hdr,hdec⟩
 · obtain ⟨bm,om,csm,rfl,_,hAm,fv,rfl,hF⟩:=hel k m hm
   have hF0:=hF
   obtain ⟨Af,cf,rfl,hlf,hcf,hlmf,helf⟩:=SliceOf.open hF
   have hdist:=hfine.dist
   have hbad:=fun (a c:Int)=>check_bad (d:=d) (k:=k) (m:=m) (a:=a) (c:=c) hnm hl hfine hm
   simp (disch:=try exact DI) only [↓PR,QR,simprocAttr,hdec,hcW,hAm.c2 E,n22c19]
   have hBY:=ElemAt.new (w:=w) (msgCells m (.slice Af m.fields.length cf)) (44)
   have eY:Ext w (w.alloc (Obj.cells (List.toArray (msgCells m (.slice Af m.fields.length cf))) (44))):=(Ext.refl _).alloc _
   generalize (w.alloc (Obj.cells (List.toArray (msgCells m (.slice Af m.fields.length cf))) (44)))=Y at hBY eY ⊢
   have eY':Ext V Y:=e.trans eY
   refine zcr (rName_ret _ _) fun w3 e3=>?_
   have f3:Ext V w3:=eY'.trans e3
   cases hmn:nameB m.name with
   | false =>
    have hc:=hbad (-1) 1 (by unfold nextP;rw [hmn];rfl) (by decide)
    simp (disch:=try exact DI) only [↓PR,QR,simprocAttr]
    unfold n22c14
    exact flaw_out (EV.trans f3) sW (f3.obj oV) _ _ _ fun w' e'=>⟨_,rfl,flaw_tup hc (by decide),e'⟩
   | true =>
   simp (disch:=try exact DI) only [↓PR,QR,simprocAttr,hBW.c3 (eV.trans f3),hBY.c2 e3,n22c15]
   refine zcr (rFind_ret _ _ d m.name k ⟨_,rfl,hM0.ext (EV.trans f3)⟩ hk) fun w4 e4=>?_
   have f4:=f3.trans e4
   have hdi:=idx_neg (p:=fun x:MsgD=>decide (x.name=m.name)) (l:=d.msgs.take k)
   rw [← anyD _ hdist] at hdi
   cases hls:(lastP (depsOf (d.msgs.take k)) m.name).isSome with
   | true =>
    rw [hls] at hdi
    have hc:=hbad (-1) 2 (by unfold nextP;rw [hmn,hls];rfl) (by decide)
    simp (disch:=try exact DI) only [↓PR,QR,simprocAttr,hdi]
    unfold n22c12
    exact flaw_out (EV.trans f4) sW (f4.obj oV) _ _ _ fun w' e'=>⟨_,rfl,flaw_tup hc (by decide),e'⟩
   | false =>
   rw [hls] at hdi
   have hcY4:=hBY.c2 (e3.trans e4)
   simp (disch:=try exact DI) only [↓PR,QR,simprocAttr,hdi,hcY4,↓n22c1,↓n22c2,↓n22c3,↓n22c4,↓n22c5,↓n22c6,↓n22c7,↓n22c8,↓n22c9,↓n22c10,↓n22c11,↓n22c12,↓n22c13,↓n22c14,↓n22c15,↓n22c16,↓n22c17,↓n22c18,↓n22c19,↓n22c20,↓n22c21,↓n22c22,↓n22c23,↓n22c24]
   have hlen2:(decide ((m.fields.length:Int) < 1)||decide (40 < (m.fields.length:Int)))=!decide (1≤m.fields.length∧m.fields.length≤40):=by
    rw [Bool.eq_iff_iff];simp only [Bool.or_eq_true,decide_eq_true_eq,Bool.not_eq_true',decide_eq_false_iff_not];omega
   rw [hlen2]
   by_cases hl2:1≤m.fields.length∧m.fields.length≤40
   case neg =>
    have hc:=hbad (-1) 3 (by unfold nextP;rw [hmn,hls,if_pos rfl,if_neg (by simp),if_neg hl2]) (by decide)
    rw [show decide (1≤m.fields.length∧m.fields.length≤40)=false by simpa using hl2]
    exact flaw_out (EV.trans f4) sW (f4.obj oV) _ _ _ fun w' e'=>⟨_,rfl,flaw_tup hc (by decide),e'⟩
   case pos =>
   have hnx:nextP (depsOf (d.msgs.take k)) (strsOf (d.msgs.take k)) m=tailP (depsOf (d.msgs.take k)) m (fieldsP (depsOf (d.msgs.take k)) (strsOf (d.msgs.take k)) [] m.fields):=by
    unfold nextP;rw [hmn,hls,if_pos rfl,if_neg (by simp),if_pos hl2]
   rw [show decide (1≤m.fields.length∧m.fields.length≤40)=true by simpa using hl2]
   simp (disch:=try exact DI) only [↓PR,QR,simprocAttr]
   refine loop1_intro (fun a w'=>∃ i:Nat,a = .int .i64 i∧i≤m.fields.length∧Ext w4 w'∧FineF (depsOf (d.msgs.take k)) (strsOf (d.msgs.take k)) (m.fields.take i)) (fun b _=>m.fields.length - (intOf b).toNat) ⟨0,rfl,by omega,Ext.refl _,by intro j f h;simp at h⟩ ?_
   rintro _ w5 ⟨i,rfl,hi,e5,hff⟩
   have f5:=f4.trans e5
   have hsp:=hff.fields
   unfold n22c9
   rcases drop_cases hi with ⟨f,hx,hdf,hltf,hdecf⟩ | ⟨hi,hdf,hdecf⟩
   · rw [hdf,fieldsP] at hsp
     simp (disch:=try exact DI) only [↓PR,QR,simprocAttr,hdecf,hBY.c2 (e3.trans (e4.trans e5)),hBW.c3 (eV.trans f5)]
     refine zcr (rfield_ret _ _ d k i m f ⟨_,rfl,hM0.ext (EV.trans f5)⟩ hm hx hdist hfine.refsIn hff.dist hb (by omega) hff.bounds) fun w6 e6=>?_
     have f6:=f5.trans e6
     by_cases h0:examineC (m.fields.take i) (vI (depsOf (d.msgs.take k))) (vB (strsOf (d.msgs.take k))) f=0
     · simp (disch:=try exact DI) only [↓PR,QR,simprocAttr,h0,n22c2,show ((0:Int) != 0)=false from rfl]
       exact ⟨⟨i+1,rfl,hltf,e5.trans e6,hff.step hx h0⟩,meas_lt hltf⟩
     · rw [if_neg h0,List.length_take,Nat.min_eq_left (by omega)] at hsp
       have hc:=hbad i _ (by rw [hnx,← hsp];unfold tailP;rw [if_neg h0]) h0
       simp (disch:=try exact DI) only [↓PR,QR,simprocAttr,n22c2,show (examineC (m.fields.take i) (vI (depsOf (d.msgs.take k))) (vB (strsOf (d.msgs.take k))) f != 0)=true by simpa using h0]
       unfold n22c1
       exact flaw_out (EV.trans f6) sW (f6.obj oV) _ _ _ fun w' e'=>⟨_,rfl,flaw_tup hc h0,e'⟩
   · subst hi
     rw [hdf,fieldsP] at hsp
     rw [← hsp] at hnx
     have hfd:(fieldsP (depsOf (d.msgs.take k)) (strsOf (d.msgs.take k)) [] m.fields).2=0:=by rw [← hsp]
     simp (disch:=try exact DI) only [↓PR,QR,simprocAttr,hdecf,hBY.c2 (e3.trans (e4.trans e5))]
     have hkl:k < d.msgs.length:=(List.getElem?_eq_some_iff.1 hm).1
     have hlow:=hfine.low k
     rw [List.take_take,Nat.min_self] at hlow
     have hdm:=foldl_maxI (fun s=>(lastP (depsOf (d.msgs.take k)) s).getD 0) (refsM m) 0 (by decide) (fun s _=>hlow.get s) (by decide)
     have hlo5:bd < w5.heap.size:=by
      have:=(Array.getElem?_eq_some_iff.1 hL).1
      have h1:=eY.size
      have h2:=e3.size
      have h3:=e4.size
      have h4:=e5.size
      omega
     unfold n22c8
     simp (disch:=try exact DI) only [↓PR,QR,simprocAttr,hBY.c2 (e3.trans (e4.trans e5))]
     refine callK_ret (rRefers_ret _ _ m ⟨_,rfl,hF0.ext (EV.trans (e.trans (eY.trans (e3.trans (e4.trans e5)))))⟩ (hb m (List.mem_of_getElem? hm)).1) ?_
     rintro rv w6 ⟨hS,e6⟩
     have f6:=f5.trans e6
     have hL6:DRow w6 bd (depL d.msgs k):=((((hL.ext eY).ext e3).ext e4).ext e5).ext e6
     refine rcheck_refs (hBW.ext eV) EV hM0 hkl hdist (next_refs (ds_of _) hfd) f6 (by omega) hL6 (depL_len _ (by omega)) (depL_old _ hkl) (depL_zero _ hkl) hS hlo5 ?_
     intro w7 f7 hL7
     have hdp:0≤depthM (depsOf (d.msgs.take k)) m∧depthM (depsOf (d.msgs.take k)) m≤16:=hdm
     have hst:=depL_step hm
     generalize hDM:depthM (depsOf (d.msgs.take k)) m=dm at hL7 hdp hst
     have hlL:=depL_len d.msgs (k:=k) (by omega)
     have hc7:=hL7.cell (k:=k) (n:=dm) (by rw [List.getElem?_set,if_pos rfl,if_pos (by omega)])
     have hL8:=hL7.set k (dm+1)
     rw [List.set_set,hst] at hL8
     unfold n22c6
     simp (disch:=try exact DI) only [↓PR,QR,simprocAttr,hc7,hL7.free,show IntKind.i64.wrap (dm+1)=dm+1 from wrap_ok (by omega) (by omega)]
     have f8:Ext V (w7.setCell ⟨bd,k*1,none⟩ (.int .i64 (dm+1))):=f7.setCell (by omega) _
     have htl:nextP (depsOf (d.msgs.take k)) (strsOf (d.msgs.take k)) m=if dm < 16 then (-1,0) else (-1,10):=by rw [hnx];unfold tailP;rw [if_pos rfl,hDM]
     by_cases h16:dm < 16
     · rw [if_pos h16] at htl
       simp (disch:=try exact DI) only [↓PR,QR,simprocAttr,show decide (16 < dm+1)=false by simp only [decide_eq_false_iff_not];omega]
       rw [wrap_ok (by omega) (by omega)]
       exact ⟨⟨k+1,rfl,hlt,f8,hL8,hfine.step hm (by rw [htl])⟩,meas_lt hlt⟩
     · rw [if_neg h16] at htl
       have hc:=hbad _ _ htl (by decide)
       simp (disch:=try exact DI) only [↓PR,QR,simprocAttr,show decide (16 < dm+1)=true by simp only [decide_eq_true_eq];omega]
       rw [wrap_ok (by omega) (by omega)]
       unfold n22c5
       exact flaw_out (EV.trans f8) sW (f8.obj oV) _ _ _ fun w' e'=>⟨_,rfl,flaw_tup hc (by decide),e'⟩
 · subst hk
   rw [List.take_length] at hfine
   have hmp:msgsP [] [] 0 d.msgs=(0,0,0):=by
    have:=msgs_split (l:=d.msgs) (k:=d.msgs.length) (by rw [List.take_length];exact hfine) (Nat.le_refl _)
    rw [this,List.drop_length];rfl
   have hcp:checkP d=if (lastP (depsOf d.msgs) d.start).isSome then (0,0,0) else (-1,-1,11):=by
    unfold checkP;rw [if_pos hnm,if_pos hl,hmp];rfl
   simp (disch:=try exact DI) only [↓PR,QR,simprocAttr,hdec,hcW,n22c18]
   refine zcr (rFind_ret _ _ d d.start d.msgs.length ⟨_,rfl,hM0.ext E⟩ (Nat.le_refl _)) fun w3 e3=>?_
   have f3:=e.trans e3
   have hdi:=idx_some (p:=fun x:MsgD=>decide (x.name=d.start)) (l:=d.msgs.take d.msgs.length)
   rw [← anyD _ (by rw [List.take_length];exact hfine.dist)] at hdi
   rw [List.take_length] at hdi
   cases hls:(lastP (depsOf d.msgs) d.start).isSome with
   | false =>
    rw [hls] at hdi hcp
    simp (disch:=try exact DI) only [↓PR,QR,simprocAttr,hdi,List.take_length]
    unfold n22c16
    exact flaw_out (EV.trans f3) sW (f3.obj oV) _ _ _ fun w' e'=>⟨_,rfl,flaw_tup hcp (by decide),e'⟩
   | true =>
    rw [hls] at hdi hcp
    simp (disch:=try exact DI) only [↓PR,QR,simprocAttr,hdi,List.take_length,n22c17,(cells_of_heap (f3.obj oV)).1,(cells_of_heap (f3.obj oV)).2]
    rw [if_pos rfl] at hcp
    exact ⟨by unfold flawedB flawOf;rw [hcp];rfl,(((EV.trans f3).setCell sW _).setCell sW _).setCell sW _⟩
def upI (v n:Int):Int:=(v+n - 1).tdiv n*n
def okA (f:FieldD):Prop:=(f.kind=1∨f.kind=2→1≤f.bits∧f.bits≤32)∧(f.kind=10→padB f=true)
theorem padB_bits {f:FieldD} (h:padB f=true):2≤f.bits∧f.bits≤512∧(f.bits=2∨f.bits=4∨∃ q,1≤q∧f.bits=8*q):=by
 unfold padB at h
 simp only [Bool.or_eq_true,Bool.and_eq_true,beq_iff_eq,decide_eq_true_eq] at h
 rcases h with (h | h) | ⟨⟨h1,h2⟩,h3⟩
 · omega
 · omega
 · rw [Int.tmod_eq_emod_of_nonneg (by omega)] at h3
   exact ⟨by omega,h2,.inr (.inr ⟨f.bits / 8,by omega,by omega⟩)⟩
theorem upI_mul {v n:Int} (hv:0≤v) (hn:1≤n):∃ q,0≤q∧upI v n=n*q∧v≤n*q∧n*q < v+n:=by
 unfold upI
 rw [Int.tdiv_eq_ediv_of_nonneg (by omega)]
 have h1:=Int.emod_add_mul_ediv (v+n - 1) n
 have h2:=Int.emod_nonneg (v+n - 1) (b:=n) (by omega)
 have h3:=Int.emod_lt_of_pos (v+n - 1) (b:=n) (by omega)
 refine ⟨(v+n - 1) / n,Int.ediv_nonneg (by omega) (by omega),Int.mul_comm _ _,?_,?_⟩<;>omega
theorem fields_all {deps:List (ByteArray×Int)} {strs:List (ByteArray×Bool)}:∀ (l bef:List FieldD),(fieldsP deps strs bef l).2=0→∀ (j:Nat) (f:FieldD),l[j]?=some f→examineC (bef++l.take j) (vI deps) (vB strs) f=0
 | [],bef,_,j,f,hj=>by simp at hj
 | g::l,bef,h,j,f,hj=>by
  rw [fieldsP] at h
  split at h
  · rename_i h0
    cases j with
    | zero =>
     injection hj with hj
     subst hj
     simpa using h0
    | succ j =>
     have:=fields_all l (bef++[g]) h j f (by simpa using hj)
     rw [List.append_assoc] at this
     simpa using this
  · rename_i h0;exact absurd h h0
theorem okA_of {bef:List FieldD} {D S:List (ByteArray×Value)} {f:FieldD} (h:examineC bef D S f=0):okA f:=by
 unfold examineC at h
 obtain ⟨_,h⟩:=orC_iff.1 h
 obtain ⟨_,h⟩:=orC_iff.1 h
 obtain ⟨_,h⟩:=orC_iff.1 h
 obtain ⟨_,h⟩:=orC_iff.1 h
 have hbits:bitsB f=true→1≤f.bits∧f.bits≤32:=by
  unfold bitsB
  simp only [Bool.and_eq_true,decide_eq_true_eq]
  exact fun h=>h.1
 refine ⟨fun hk=>?_,fun hk=>?_⟩
 · rcases hk with hk | hk
   · rw [show checkC bef D S f=orC (needC (bitsB f) 6) (withinC (topF f) 0 [f.low,f.high]) by unfold checkC;rw [hk];rfl] at h
     exact hbits ((needC_iff (by decide)).1 (orC_iff.1 h).1)
   · rw [show checkC bef D S f=orC (needC (bitsB f) 6) (withinC (topF f) 0 [f.low]) by unfold checkC;rw [hk];rfl] at h
     exact hbits ((needC_iff (by decide)).1 (orC_iff.1 h).1)
 · rw [show checkC bef D S f=needC (padB f) 6 by unfold checkC;rw [hk];rfl] at h
   exact (needC_iff (by decide)).1 h
end Go.Proofs.YtdfhjlggcdemhaaGreat
namespace Go.Sw
open Go.RowKit (Below)
structure LW3 (B:Nat) (w w':World):Prop where
 os:w'.os=w.os
 tape:w'.tape=w.tape
 output:w'.output=w.output
 size:w.heap.size≤w'.heap.size
 block:∀ b,b < B→b < w.heap.size→w'.heap[b]?=w.heap[b]?
theorem LW3.mono {B B':Nat} {w w':World} (h:LW3 B w w') (hb:B'≤B):LW3 B' w w':=⟨h.os,h.tape,h.output,h.size,fun b hl=>h.block b (by omega)⟩
theorem LW3.of {B:Nat} {w w':World} (e:Ext w w'):LW3 B w w':=⟨e.os,e.tape,e.output,e.size,fun b _ hb=>e.block b hb⟩
theorem LW3.put {B l:Nat} {w:World} (hb:B≤l) (o:Obj):LW3 B w (w.putObj l o):=⟨rfl,rfl,rfl,by simp,fun b hB _=>World.putObj_heap_other (by omega)⟩
theorem LW3.setCell {B:Nat} {w:World} {p:Nat} (hb:B≤p) (o:Nat) (v:Value):LW3 B w (w.setCell ⟨p,o,none⟩ v):=⟨rfl,rfl,rfl,by simp,fun b hB _=>Below.heap_setCell w ⟨p,o,none⟩ v b (by show b≠p;omega)⟩
def Lasts3 (B:Nat) (I:World→Prop):Prop:=∀ w w',LW3 B w w'→I w→I w'
theorem Lasts3.ext {B:Nat} {I:World→Prop} (h:Lasts3 B I) {w w':World} (hI:I w) (e:Ext w w'):I w':=h _ _ (.of e) hI
theorem Lasts3.cell {B:Nat} {I:World→Prop} (h:Lasts3 B I) {w:World} (hI:I w) {p:Nat} (hb:B≤p) (o:Nat) (v:Value):I (w.setCell ⟨p,o,none⟩ v):=h _ _ (.setCell hb o v) hI
theorem Lasts3.loop {B l:Nat} {I:World→Prop} (h:Lasts3 B I) {w:World} {r:Loop} (hb:B≤l) (hI:I w) (_:w.heap[l]?=some (.loop r)) (o:Obj):I (w.putObj l o):=h _ _ (.put hb o) hI
theorem Lasts3.mark {B l:Nat} {I:World→Prop} (h:Lasts3 B I) {w:World} (hb:B≤l) (hI:I w) (_:MarkAt l w) (o:Obj):I (w.putObj l o):=h _ _ (.put hb o) hI
theorem Lasts3.busied {B l:Nat} {I:World→Prop} {w w':World} (h:Lasts3 B I) (hb:Busied l w w') (hl:B≤l) (hI:I w):I w':=by
 obtain ⟨r,hr,rfl⟩:=hb
 exact h.loop hl hI hr _
theorem Lasts3.mono {B B':Nat} {I:World→Prop} (h:Lasts3 B I) (hb:B≤B'):Lasts3 B' I:=fun _ _ hl=>h _ _ (hl.mono hb)
theorem Lasts3.and {B:Nat} {I J:World→Prop} (h:Lasts3 B I) (k:Lasts3 B J):Lasts3 B (fun w=>I w∧J w):=fun w w' hl hh=>⟨h _ _ hl hh.1,k _ _ hl hh.2⟩
theorem Lasts3.ex {B:Nat} {α:Sort _} {I:α→World→Prop} (h:∀ x,Lasts3 B (I x)):Lasts3 B (fun w=>∃ x,I x w):=fun w w' hl ⟨x,hx⟩=>⟨x,h x _ _ hl hx⟩
theorem Lasts3.const (B:Nat) (p:Prop):Lasts3 B (fun _=>p):=fun _ _ _ h=>h
theorem Lasts3.from {B:Nat} {w0:World} (hb:w0.heap.size≤B):Lasts3 B (Ext w0):=fun w w' hl e=>⟨hl.os.trans e.os,hl.tape.trans e.tape,hl.output.trans e.output,Nat.le_trans e.size hl.size,fun k hk=>by
 have:=e.size
 rw [hl.block k (by omega) (by omega)];exact e.block k hk⟩
theorem Lasts3.low {B b:Nat} (hb:b < B) (o:Obj):Lasts3 B (fun w=>w.heap[b]?=some o):=fun w w' hl h=>by
 show w'.heap[b]?=some o
 rw [hl.block b hb (Array.getElem?_eq_some_iff.1 h).1];exact h
def SeqIt3 (P:Program) (f:FuncId) (caps:Array Value) (n:Nat) (xs ys:Nat→Value) (FP:World→Prop):Prop :=
 ∀ (yv:Value) (J:Nat→World→Prop) (Jx:World→Prop) (Jp:List PanicEntry→World→Prop) (w:World),yv.oneCell'=true→(∀ k w,J k w→FP w)→(∀ k,Lasts3 w.heap.size (J k))→Lasts3 w.heap.size Jx→(∀ ch,Lasts3 w.heap.size (Jp ch)) →
  (∀ k,k < n→∀ Rk,Firm w.heap.size Rk→∀ w,J k w→Rk w→callV P yv #[xs k,ys k] (fun ch w'=>Rk w'∧Jp ch w') w (fun v w'=>Rk w'∧((v = .bool true∧J (k+1) w')∨(v = .bool false∧Jx w'))))→J 0 w →
  Calls P f (#[yv]++caps) w (fun e w'=>match e with
   | .returned _=>J n w'∨Jx w'
   | .panicked ch=>Jp ch w'
   | .outgrown=>False)
def rangeN3 (P:Program) (fv:Value) (ds:List Deferred) (body:Nat→Value→Value→World→(World→Prop)→(Nat→World→Prop)→(List PanicEntry→World→Prop)→Prop) (QP:List PanicEntry→List Deferred→World→Prop) (w:World)
 (k:List Deferred→World→Prop) (kx:List (List Deferred→World→Prop)):Prop :=
 ∃ (f:FuncId) (caps:Array Value) (n:Nat) (xs ys:Nat→Value) (FP:World→Prop) (I:Nat→World→Prop) (Ix:Nat→World→Prop) (Ip:List PanicEntry→World→Prop),
  fv = .func (.func f) #[] caps∧Callable P f∧SeqIt3 P f caps n xs ys FP∧I 0 w∧(∀ k w,I k w→FP w)∧(∀ k,Lasts3 w.heap.size (I k))∧(∀ c,Lasts3 w.heap.size (Ix c))∧(∀ ch,Lasts3 w.heap.size (Ip ch)) ∧
  (∀ (Rk:World→Prop),Firm (w.heap.size+1+1) Rk→∀ (j:Nat) (w':World),j < n→I j w'→Rk w'→w.heap.size+1 < w'.heap.size→ReadyAt (w.heap.size+1) w' →
   body (w.heap.size+1) (xs j) (ys j) w' (fun w''=>Rk w''∧I (j+1) w'') (fun c w''=>Rk w''∧Ix c w'') (fun ch w''=>Rk w''∧Ip ch w'')) ∧
  (∀ w',I n w'→MarkAt w.heap.size w'→k (mark w.heap.size::ds) w') ∧
  (∀ c w',Ix c w'→MarkAt w.heap.size w'→nthK kx c (mark w.heap.size::ds) w') ∧
  (∀ ch w',Ip ch w'→MarkAt w.heap.size w'→QP ch (mark w.heap.size::ds) w')
section
variable {P:Program} {N:Nat}
theorem sim_range3 {g:Operand} {p p2:Nat} {asg body:Code} {Q:K} {QP:KP} {ρ:Env} {ds:List Deferred} {w:World} {fv:Value} {nbody:Nat→Value→Value→World→(World→Prop)→(Nat→World→Prop)→(List PanicEntry→World→Prop)→Prop} {QPn:List PanicEntry→List Deferred→World→Prop}
 {k:List Deferred→World→Prop} {kx:List (List Deferred→World→Prop)} (js:List Code) (h:rangeN3 P fv ds nbody QPn w k kx) (hg:ev ρ g=fv)
 (hbody:∀ l x y w K X QPr,nbody l x y w K X QPr→den P N (some l) asg (thenK (fun ρ' ds' w'=>ds'=[]∧busyK l w' (fun w''=>den P N (some l) body (roundK js K X) (roundQP QPr) ρ' [] w'')) (fun _ _ _ _=>False)) (fun _ _ _ _=>False) (put N (put N ρ (some p) x) (some p2) y) [] w)
 (hk:∀ ds w,k ds w→Q .normal ρ ds w) (hx:∀ c ds w,nthK kx c ds w→∃ code,js[c]?=some code∧((code = .ret∧Q .ret ρ ds w)∨(∃ id,code = .exit id∧Q (.exit id) ρ ds w))) (hp:∀ ch ds w,QPn ch ds w→QP ch ρ ds w) :
 den P N none (.rangeFunc g #[p,p2] asg body) Q QP ρ ds w:=by
 intro a ha hds
 subst hds
 obtain ⟨f,caps,n,xs,ys,FP,I,Ix,Ip,hfv,hcal,hseq,h0,hFP,hL,hLx,hLp,hround,hend,hjump,hpan⟩:=h
 refine wpV_rangeFunc fun fn hfn=>?_
 obtain ⟨rec,hrec⟩:∃ rec:Loop,rec={ state := .ready,pending:=none,fn,tmps:=a.tmps,params := #[p,p2],assign:=asg,body,defers:=w.heap.size }:=⟨_,rfl⟩
 obtain ⟨W1,hW1⟩:∃ W1,(w.alloc (.deferred (some []))).alloc (.loop rec)=W1:=⟨_,rfl⟩
 have hE1:Ext w W1:=by rw [← hW1];exact ((Ext.refl w).alloc _).alloc _
 have hW1s:W1.heap.size=w.heap.size+1+1:=by rw [← hW1];simp
 have hL1:W1.heap[w.heap.size+1]?=some (.loop rec):=by
  rw [← hW1];have:=World.alloc_heap_new (w.alloc (.deferred (some []))) (.loop rec);rwa [World.size_alloc] at this
 have hK1:MarkAt w.heap.size W1:=by
  rw [← hW1];exact MarkAt.alloc (World.alloc_heap_new w _) _
 have hev:a.eval g=fv:=by rw [ha.eval];exact hg
 refine ⟨w.heap.size+1,[mark w.heap.size],W1,{ target := .fn (.func f) caps,args := #[.func (.yield (w.heap.size+1)) #[] #[]] },W1,f,#[.func (.yield (w.heap.size+1)) #[] #[]]++caps,W1,?_,?_,?_,?_⟩
 · rw [← hW1,hrec];exact run_enterLoop_outer _ _ _ _ _
 · simp only [resolve,hev,hfv]
   simp [go_sem]
 · simp only [invoke]
   exact callFunc_run hcal _ _
 · refine Calls.mono (hseq (.func (.yield (w.heap.size+1)) #[] #[]) (fun j w'=>I j w'∧MarkAt w.heap.size w'∧∃ p,w'.heap[w.heap.size+1]?=some (.loop { rec with state := .ready,pending:=p })∧p=none)
    (fun w'=>MarkAt w.heap.size w'∧∃ c code,Ix c w'∧js[c]?=some code∧w'.heap[w.heap.size+1]?=some (.loop { rec with state := .done,pending:=some code }))
    (fun ch w'=>MarkAt w.heap.size w'∧Ip ch w') W1 rfl (fun j w' hj=>hFP j w' hj.1) (fun j=>((hL j).mono (by omega)).and ((Lasts3.low (by omega) _).and (.ex fun q=>(Lasts3.low (by omega) _).and (.const _ _))))
    ((Lasts3.low (by omega) _).and (.ex fun c => .ex fun code=>((hLx c).mono (by omega)).and ((Lasts3.const _ _).and (Lasts3.low (by omega) _)))) (fun ch=>(Lasts3.low (by omega) _).and ((hLp ch).mono (by omega))) ?_ ⟨(hL 0).ext h0 hE1,hK1,none,by rw [hL1,hrec],rfl⟩) ?_
   · rintro j hj Rk hF w' ⟨hi,hm,q,hl,rfl⟩ hR
     have hlt:w.heap.size+1 < w'.heap.size:=(Array.getElem?_eq_some_iff.1 hl).1
     have hy:=run_yield (P:=P) (args := #[xs j,ys j]) hl (by rw [hrec];rfl)
     show onNext P _ _ _ _
     have hcs:callS (.func (.yield (w.heap.size+1)) #[] #[]) #[xs j,ys j]=Instr.yield (w.heap.size+1) #[xs j,ys j]:=by
      simp [callS,Deferred.ofValue,invoke,go_sem,bind,pure,Sem.bind]
     rw [hcs,hy]
     have key:∀ R,wpV (some (w.heap.size+1)) P asg (Exit.then (fun a₁ w₁=>∃ w₂,(Instr.beginRound (w.heap.size+1)).run P w₁ = .ok () w₂∧wpV (some (w.heap.size+1)) P body (endV P (w.heap.size+1) R) a₁ w₂) (fun _ _ _=>False)) { tmps:=((#[p,p2].zip #[xs j,ys j]).foldl (fun tmps (t,a)=>tmps.setIfInBounds t a) a.tmps),defers:=[] } w' →
      RoundV P (w.heap.size+1) rec.fn ((rec.params.zip #[xs j,ys j]).foldl (fun tmps (t,a)=>tmps.setIfInBounds t a) rec.tmps) rec.assign rec.body w' R:=by
      intro R h;rw [hrec];exact roundV_of_wpV hfn h
     refine key _ ?_
     have hb:=hbody _ _ _ _ _ _ _ (hround _ ((RecAt.firm rec _ w.heap.size).and (hW1s ▸ hF)) j w' hj hi ⟨⟨hm,_,_,hl⟩,hR⟩ hlt ⟨_,hl,rfl⟩)
     have hagr:Agrees N ({ tmps:=((#[p,p2].zip #[xs j,ys j]).foldl (fun tmps (t,a)=>tmps.setIfInBounds t a) a.tmps),defers:=[] }:Act) (put N (put N ρ (some p) (xs j)) (some p2) (ys j)):=by
      have:=((Agrees.defers ha []).put (some p) (xs j)).put (some p2) (ys j)
      simpa [Act.put] using this
     refine wpV_mono (den_sound asg _ _ _ _ _ hagr hb) ?_
     intro e a1 w1 hl1
     cases e with
     | panic ch=>obtain ⟨_,_,hf⟩:=hl1;exact hf.elim
     | outgrown=>exact hl1
     | exit id=>obtain ⟨_,_,_,hf⟩:=hl1;exact hf.elim
     | goto l=>obtain ⟨_,_,_,hf⟩:=hl1;exact hf.elim
     | ret=>obtain ⟨_,_,_,hf⟩:=hl1;exact hf.elim
     | normal =>
      obtain ⟨ρ1,ha1,_,hd1,hbz⟩:=hl1
      obtain ⟨⟨r,hr1,hr2⟩,hbz⟩:=hbz
      refine ⟨_,run_beginRound hr1 hr2,?_⟩
      rw [show a1={ a1 with defers:=[] } by rw [← hd1]]
      refine wpV_mono (den_sound body _ _ _ _ _ (Agrees.defers ha1 []) (hbz _ ⟨_,hr1,rfl⟩)) ?_
      have fin:∀ (jump:Option Code) (w2:World),RecAt rec w.heap.size w2→(Instr.endRound (w.heap.size+1) jump).run P w2 = .ok (.bool jump.isNone) (w2.putObj (w.heap.size+1) (.loop { rec with state:=if jump.isNone then .ready else .done,pending:=jump })) ∧
       (w2.putObj (w.heap.size+1) (.loop { rec with state:=if jump.isNone then .ready else .done,pending:=jump })).heap[w.heap.size+1]?=some (.loop { rec with state:=if jump.isNone then .ready else .done,pending:=jump }) ∧
       MarkAt w.heap.size (w2.putObj (w.heap.size+1) (.loop { rec with state:=if jump.isNone then .ready else .done,pending:=jump })):=by
       rintro jump w2 ⟨hm2,st,q,hq⟩
       refine ⟨by have:=run_endRound (P:=P) jump hq;exact this,World.putObj_heap_same (Array.getElem?_eq_some_iff.1 hq).1,?_⟩
       unfold MarkAt
       rw [World.putObj_heap_other (by omega)];exact hm2
      intro e a2 w2 hl2
      cases e with
      | normal =>
       obtain ⟨_,_,_,_,⟨hrec2,hR2⟩,hi2⟩:=hl2
       obtain ⟨f1,f2,f3⟩:=fin none w2 hrec2
       obtain ⟨_,st,q,hq⟩:=hrec2
       exact ⟨_,_,f1,hF _ _ (KR.turn hq _ _) hR2,.inl ⟨rfl,(hL _).loop (Nat.le_succ _) hi2 hq _,f3,none,f2,rfl⟩⟩
      | ret =>
       obtain ⟨_,_,_,_,c,hc,⟨hrec2,hR2⟩,hi2⟩:=hl2
       obtain ⟨f1,f2,f3⟩:=fin (some .ret) w2 hrec2
       obtain ⟨_,st,q,hq⟩:=hrec2
       exact ⟨_,_,f1,hF _ _ (KR.turn hq _ _) hR2,.inr ⟨rfl,f3,c,_,(hLx _).loop (Nat.le_succ _) hi2 hq _,hc,f2⟩⟩
      | exit id =>
       obtain ⟨_,_,_,_,c,hc,⟨hrec2,hR2⟩,hi2⟩:=hl2
       obtain ⟨f1,f2,f3⟩:=fin (some (.exit id)) w2 hrec2
       obtain ⟨_,st,q,hq⟩:=hrec2
       exact ⟨_,_,f1,hF _ _ (KR.turn hq _ _) hR2,.inr ⟨rfl,f3,c,_,(hLx _).loop (Nat.le_succ _) hi2 hq _,hc,f2⟩⟩
      | panic ch =>
       obtain ⟨_,_,hd2,⟨hrec2,hR2⟩,hi2⟩:=hl2
       exact ⟨hd2,hR2,hrec2.1,hi2⟩
      | goto l=>obtain ⟨_,_,_,hf⟩:=hl2;exact hf.elim
      | outgrown=>exact hl2
   · have hagr:Agrees N ({ a with defers:=[mark w.heap.size]++a.defers }:Act) ρ:=ha
     have exh:∀ (st:LoopState) (q:Option Code) (w':World),w'.heap[w.heap.size+1]?=some (.loop { rec with state:=st,pending:=q })→st ≠ .busy→MarkAt w.heap.size w' →
      (Instr.endLoop (w.heap.size+1)).run P w' = .ok q (w'.putObj (w.heap.size+1) (.loop { rec with state := .exhausted,pending:=q }))∧MarkAt w.heap.size (w'.putObj (w.heap.size+1) (.loop { rec with state := .exhausted,pending:=q })):=by
      intro st q w' hq hne hm
      refine ⟨by have:=run_endLoop (P:=P) hq hne;exact this,?_⟩
      unfold MarkAt
      rw [World.putObj_heap_other (by omega)];exact hm
     rintro e w' he
     cases e with
     | returned v =>
      rcases he with ⟨hi,hm,q,hl,rfl⟩ | ⟨hm,c,code,hi,hc,hl⟩
      · obtain ⟨e1,e2⟩:=exh _ _ w' hl (by simp) hm
        exact ⟨none,_,e1,hagr,hk _ _ (hend _ ((hL _).loop (Nat.le_succ _) hi hl _) e2)⟩
      · obtain ⟨e1,e2⟩:=exh _ _ w' hl (by simp) hm
        refine ⟨some code,_,e1,?_⟩
        obtain ⟨code',hc',hden⟩:=hx c _ _ (hjump c _ ((hLx _).loop (Nat.le_succ _) hi hl _) e2)
        rw [hc] at hc';cases hc'
        rcases hden with ⟨rfl,hq⟩ | ⟨id,rfl,hq⟩
        · exact wpV_ret ⟨hagr,hq⟩
        · exact wpV_exit ⟨hagr,hq⟩
     | panicked ch=>exact ⟨hagr,hp _ _ _ (hpan ch _ he.2 he.1)⟩
     | outgrown=>exact he.elim
end
end Go.Sw
