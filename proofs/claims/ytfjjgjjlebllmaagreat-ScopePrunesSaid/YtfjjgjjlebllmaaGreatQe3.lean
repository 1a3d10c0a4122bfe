/-
  Lemmas for the claim.
-/
import Derived.Test.YtfjjgjjlebllmaaGreatQe2
set_option linter.all false
set_option maxHeartbeats 4000000
set_option maxRecDepth 100000
namespace Go.Proofs.YtfjjgjjlebllmaaGreat
open Sw
def IO (t1:Value) (C1:World→Prop) (R:RT) (w:World):Prop :=
 qV Pg C1 (Instr.fieldAt 48 t1 5) λ t7 =>
 qV Pg C1 (Instr.loadAt 3 t7) λ t8 =>
 qV Pg C1 (Instr.fieldAt 48 t1 5) λ t9 =>
 qV Pg C1 (Instr.loadAt 3 t9) λ t10 =>
 R (.returned (.tuple #[t8,t10])) w
def Io (t1:Value) (C2:World→Prop) (R:RT) (w:World):Prop :=
 qV Pg C2 (Instr.fieldAt 48 t1 5) λ t11 =>
 qV Pg C2 (Instr.loadAt 3 t11) λ t12 =>
 qV Pg C2 (Instr.fieldAt 48 t1 6) λ t13 =>
 qV Pg C2 (Instr.loadAt 3 t13) λ t14 =>
 R (.returned (.tuple #[t12,t14])) w
def n27 (t0:Value) (R:RT) (w:World):Prop :=
 opV Pg (Instr.box 48 t0) (Zd R) w λ t1 w =>
 F0 48 t1 1 R w λ t4 w =>
 L0 42 t4 R w λ t5 w =>
 B0 .eql 42 true t5 (.int .i64 2) R w λ t6 w =>
 Zr t6 (
 Yp w λ C1 w =>
 IO t1 C1 R w) (
 Yp w λ C2 w =>
 Io t1 C2 R w)
theorem Zfa {t0:Value} {R:RT} {w:World} (h:n27 t0 R w):Calls Pg 152 #[t0] w R:=by
 refine yD Tryz.func152 ?_
 refine zs<|zr<|yv h λ _ w h=>zm<|zm<|zn<|zk<|zs<|zs<|zr<|yv h λ _ w h=>yv h λ _ w h=>yb h λ _ w h=>zn<|zk ?_
 refine yC h (λ h=>?_) λ h=>?_
 · refine zs<|yh [2,3,7,8,9,10] h λ C hC h=>ye 0 hC h λ _ h=>?_
   refine ye 1 hC h λ _ h=>?_
   refine ye 2 hC h λ _ h=>?_
   refine ye 3 hC h λ _ h=>?_
   refine yw 4 hC ?_
   refine yw 5 hC ?_
   exact yz<|zk<|Zk<|Zb<|Yx rfl rfl rfl h
 refine Zh<|zk<|zs<|yh [2,3,11,12,13,14] h λ C hC h=>ye 0 hC h λ _ h=>?_
 refine ye 1 hC h λ _ h=>?_
 refine ye 2 hC h λ _ h=>?_
 refine ye 3 hC h λ _ h=>?_
 refine yw 4 hC ?_
 refine yw 5 hC ?_
 exact yz<|zk<|Zk<|Yx rfl rfl rfl h
def yZ (t11 t72:Value) (next2:KV) (R:RT) (w:World):Prop :=
 B0 .lss 3 true t72 (.int .i64 0) R w λ t73 w =>
 Zr t73 (
 R (.returned (.int .i64 8)) w) (
 B0 .add 3 true t11 (.int .i64 1) R w λ t29 w =>
 next2 t29 w)
def yY (t1 t5 t11 t12:Value) (next2:KV) (R:RT) (w:World):Prop :=
 L0 28 t5 R w λ t68 w =>
 F0 60 t12 2 R w λ t69 w =>
 L0 9 t69 R w λ t70 w =>
 C0 53 #[t68,t70,t1] R w λ t72 w =>
 yZ t11 t72 next2 R w
def yg (t1 t5 t11 t12 t51 t55 t65:Value) (next2:KV) (R:RT) (w:World):Prop :=
 Zq (λ (t66:Value) (w:World) =>
 Zu t51 (.bool true) t66 λ t67 =>
 Zr t67 (
 R (.returned (.int .i64 7)) w) (
 yY t1 t5 t11 t12 next2 R w)) λ K8 =>
 Zl t51 false (
 Zu t55 t65 (.bool false) λ t66 =>
 K8 t66 w) (
 K8 undef w)
def xf (t7 t11 t12:Value) (C3:World→Prop) (K7:KV) (R:RT) (w:World):Prop :=
 qV Pg C3 (Instr.fieldAt 60 t12 0) λ t56 =>
 qV Pg C3 (Instr.loadAt 3 t56) λ t57 =>
 qV Pg C3 (Instr.fieldAt 48 t7 11) λ t58 =>
 qV Pg C3 (Instr.loadAt 46 t58) λ t59 =>
 qV Pg C3 (ZM .sub 3 true t11 (.int .i64 1)) λ t61 =>
 qV Pg C3 (Instr.indexAt 46 t59 t61) λ t62 =>
 qV Pg C3 (Instr.fieldAt 60 t62 1) λ t63 =>
 qV Pg C3 (Instr.loadAt 3 t63) λ t64 =>
 qV Pg C3 (ZM .leq 3 false t57 t64) λ t65 =>
 K7 t65 w
def xj (t1 t5 t7 t11 t12 t45 t50:Value) (C3:World→Prop) (next2:KV) (R:RT) (w:World):Prop :=
 Zu t45 (.bool true) t50 λ t51 =>
 Zq (λ (t55:Value) (w:World) =>
 Zq (λ (t65:Value) (w:World) =>
 yg t1 t5 t11 t12 t51 t55 t65 next2 R w) λ K7 =>
 Zl t55 true (
 xf t7 t11 t12 C3 K7 R w) (
 K7 undef w)) λ K6 =>
 Zl t51 false (
 qV Pg C3 (ZM .gtr 3 true t11 (.int .i64 0)) λ t54 =>
 K6 t54 w) (
 K6 undef w)
def xw (t1 t4 t5 t7 t11 t12 t38 t44:Value) (C3:World→Prop) (next2:KV) (R:RT) (w:World):Prop :=
 Zu t38 (.bool true) t44 λ t45 =>
 Zq (λ (t50:Value) (w:World) =>
 xj t1 t5 t7 t11 t12 t45 t50 C3 next2 R w) λ K5 =>
 Zl t45 false (
 qV Pg C3 (Instr.fieldAt 60 t12 1) λ t47 =>
 qV Pg C3 (Instr.loadAt 3 t47) λ t48 =>
 qV Pg C3 (ZM .gtr 3 false t48 t4) λ t50 =>
 K5 t50 w) (
 K5 undef w)
def G5 (t1 t3 t4 t5 t7 t11 t12:Value) (C3:World→Prop) (next2:KV) (R:RT) (w:World):Prop :=
 qV Pg C3 (Instr.fieldAt 60 t12 0) λ t35 =>
 qV Pg C3 (Instr.loadAt 3 t35) λ t36 =>
 qV Pg C3 (ZM .lss 3 false t36 t3) λ t38 =>
 Zq (λ (t44:Value) (w:World) =>
 xw t1 t4 t5 t7 t11 t12 t38 t44 C3 next2 R w) λ K4 =>
 Zl t38 false (
 qV Pg C3 (Instr.fieldAt 60 t12 0) λ t40 =>
 qV Pg C3 (Instr.loadAt 3 t40) λ t41 =>
 qV Pg C3 (Instr.fieldAt 60 t12 1) λ t42 =>
 qV Pg C3 (Instr.loadAt 3 t42) λ t43 =>
 qV Pg C3 (ZM .gtr 3 false t41 t43) λ t44 =>
 K4 t44 w) (
 K4 undef w)
def GW (t1 t3 t4 t5 t7 t11:Value) (next2:KV) (R:RT) (w:World):Prop :=
 F0 48 t7 11 R w λ t30 w =>
 L0 46 t30 R w λ t31 w =>
 X0 46 t31 t11 R w λ t33 w =>
 L0 60 t33 R w λ t34 w =>
 opV Pg (Instr.alloc 60 true (.tuple #[])) (Zd R) w λ t12 w =>
 opU Pg (Instr.storeAt 60 t12 t34) (Zd R) w λ w =>
 Yp w λ C3 w =>
 G5 t1 t3 t4 t5 t7 t11 t12 C3 next2 R w
def G6 (t1 t3 t4 t5 t7 t11:Value) (next2:KV) (R:RT) (w:World):Prop :=
 F0 48 t7 11 R w λ t24 w =>
 L0 46 t24 R w λ t25 w =>
 opV Pg (Builtin.len_ #[46] 3 #[t25]) (Zd R) w λ t26 w =>
 B0 .lss 3 false t11 t26 R w λ t27 w =>
 Zr t27 (
 GW t1 t3 t4 t5 t7 t11 next2 R w) (
 R (.returned (.int .i64 0)) w)
def n32 (t0 t1 t2 t3 t4:Value) (R:RT) (w:World):Prop :=
 opV Pg (Instr.box 28 t0) (Zd R) w λ t5 w =>
 opV Pg (Instr.box 48 t2) (Zd R) w λ t7 w =>
 F0 48 t7 11 R w λ t13 w =>
 L0 46 t13 R w λ t14 w =>
 opV Pg (Builtin.len_ #[46] 3 #[t14]) (Zd R) w λ t15 w =>
 B0 .lss 3 true t15 (.int .i64 1) R w λ t16 w =>
 Zq (λ (t21:Value) (w:World) =>
 Zu t16 (.bool true) t21 λ t22 =>
 Zr t22 (
 R (.returned (.int .i64 3)) w) (
 Yi (λ t11 w next2 =>
 G6 t1 t3 t4 t5 t7 t11 next2 R w) (.int .i64 0) w)) λ K1 =>
 Zl t16 false (
 F0 48 t7 11 R w λ t18 w =>
 L0 46 t18 R w λ t19 w =>
 opV Pg (Builtin.len_ #[46] 3 #[t19]) (Zd R) w λ t20 w =>
 B0 .gtr 3 true t20 (.int .i64 40) R w λ t21 w =>
 K1 t21 w) (
 K1 undef w)
set_option maxHeartbeats 40000000 in
theorem Ze8 {t0 t1 t2 t3 t4:Value} {R:RT} {w:World} (h:n32 t0 t1 t2 t3 t4 R w):Calls Pg 153 #[t0,t1,t2,t3,t4] w R:=by
 refine yD Tryz.func153 ?_
 refine zs<|zr<|yv h λ _ w h=>yv h λ _ w h=>zm<|zn<|zk<|zs<|zs<|Zs<|yG 5<|yv h λ _ w h=>yv h λ _ w h=>yx h λ _ w h=>yb h λ _ w h=>?_
 refine zm<|zn<|yg1 4 4 false [18,19,20,21] 21 h (λ _ T hT h=>?_) λ σ w h=>?_
 · refine yv h λ _ w h=>yv h λ _ w h=>yx h λ _ w h=>yb h λ _ w h=>zn ?_
   exact zt hT h
 refine yG 1<|yp h λ _ h=>zn<|ZG<|zk<|yC h (λ h=>zs<|zr<|zm<|zn<|zk<|Zk<|Zb<|Zi rfl rfl h) λ h=>Zh<|zk<|zs<|zs<|zr<|zm<|zn<|zk ?_
 refine Zj<|yl1 [10,11,12,23,24,25,26,27,28,29,30,31,32,33,34,35,36,37,38,39,40,41,42,43,44,45,46,47,48,49,50,51,52,53,54,55,56,57,58,59,60,61,62,63,64,65,66,67,68,69,70,71,72,73] 11 h λ σ w next h=>zs<|zs<|zr<|zm<|yv h λ _ w h=>yv h λ _ w h=>yx h λ _ w h=>yb h λ _ w h=>zn<|zk<|yC h (λ h=>?_) λ h=>?_
 · refine Zh<|zk<|zs<|Zj<|zs<|zr<|yv h λ _ w h=>yv h λ _ w h=>zm<|yv h λ _ w h=>yv h λ _ w h=>yv h λ _ w h=>yu h λ w h=>zn<|zk ?_
   refine zs<|zs<|yh [35,36,37,38,39,40,41,42,43,44,45,46,47,48,49,50,51,52,53,54,55,56,57,58,59,60,61,62,63,64,65,66,67] h λ C hC h=>ye 0 hC h λ _ h=>?_
   refine ye 1 hC h λ _ h=>?_
   refine yw 2 hC ?_
   refine ye 3 hC h λ _ h=>?_
   refine yw 4 hC ?_
   refine yj1 23 [9,8,7,6,5,4,3,2,1,0] [40,41,42,43,44] 44 h (λ _ hT hb h=>?_) (λ _ hT hb h=>?_) λ σ w hC h=>?_
   · refine ye 5 hC h λ _ h=>?_
     refine ye 6 hC h λ _ h=>?_
     refine ye 7 hC h λ _ h=>?_
     refine ye 8 hC h λ _ h=>?_
     refine ye 9 hC h λ _ h=>?_
     exact yt hT hC h
   · refine yi 5 hC ?_
     refine yi 6 hC ?_
     refine yi 7 hC ?_
     refine yi 8 hC ?_
     refine yi 9 hC ?_
     exact yt hT hC h
   refine yP 10 hC h λ _ h=>?_
   refine yw 11 hC ?_
   refine yj1 17 [15,14,13,12,11,10,9,8,7,6,5,4,3,2,1,0] [47,48,49,50] 50 h (λ _ hT hb h=>?_) (λ _ hT hb h=>?_) λ σ w hC h=>?_
   · refine ye 12 hC h λ _ h=>?_
     refine ye 13 hC h λ _ h=>?_
     refine yw 14 hC ?_
     refine ye 15 hC h λ _ h=>?_
     exact yt hT hC h
   · refine yi 12 hC ?_
     refine yi 13 hC ?_
     refine yi 14 hC ?_
     refine yi 15 hC ?_
     exact yt hT hC h
   refine yP 16 hC h λ _ h=>?_
   refine yw 17 hC ?_
   refine yj1 12 [20,19,18,17,16,15,14,13,12,11,10,9,8,7,6,5,4,3,2,1,0] [53,54,55] 55 h (λ _ hT hb h=>?_) (λ _ hT hb h=>?_) λ σ w hC h=>?_
   · refine yw 18 hC ?_
     refine ye 19 hC h λ _ h=>?_
     refine yw 20 hC ?_
     exact yt hT hC h
   · refine yi 18 hC ?_
     refine yi 19 hC ?_
     refine yi 20 hC ?_
     exact yt hT hC h
   refine yj1 2 [30,29,28,27,26,25,24,23,22,21,20,19,18,17,16,15,14,13,12,11,10,9,8,7,6,5,4,3,2,1,0] [56,57,58,59,60,61,62,63,64,65] 65 h (λ _ hT hb h=>?_) (λ _ hT hb h=>?_) λ σ w hC h=>?_
   · refine ye 21 hC h λ _ h=>?_
     refine ye 22 hC h λ _ h=>?_
     refine ye 23 hC h λ _ h=>?_
     refine ye 24 hC h λ _ h=>?_
     refine yw 25 hC ?_
     refine ye 26 hC h λ _ h=>?_
     refine ye 27 hC h λ _ h=>?_
     refine ye 28 hC h λ _ h=>?_
     refine ye 29 hC h λ _ h=>?_
     refine ye 30 hC h λ _ h=>?_
     exact yt hT hC h
   · refine yi 21 hC ?_
     refine yi 22 hC ?_
     refine yi 23 hC ?_
     refine yi 24 hC ?_
     refine yi 25 hC ?_
     refine yi 26 hC ?_
     refine yi 27 hC ?_
     refine yi 28 hC ?_
     refine yi 29 hC ?_
     refine yi 30 hC ?_
     exact yt hT hC h
   refine yj1 1 [31,30,29,28,27,26,25,24,23,22,21,20,19,18,17,16,15,14,13,12,11,10,9,8,7,6,5,4,3,2,1,0] [66] 66 h (λ _ hT hb h=>?_) (λ _ hT hb h=>?_) λ σ w hC h=>?_
   · refine yP 31 hC h λ _ h=>?_
     exact yt hT hC h
   · refine yi 31 hC ?_
     exact yt hT hC h
   refine yP 32 hC h λ _ h=>?_
   refine yz<|zk<|yC h (λ h=>zs<|zr<|zm<|zn<|zk<|Zk<|Zb<|Zf<|Zb<|Zb<|Zf<|Zb<|Zi rfl rfl h) λ h=>Zh<|zk<|zs<|zr<|yv h λ _ w h=>yv h λ _ w h=>yv h λ _ w h=>zm<|yc h c53 λ _ w h=>yb h λ _ w h=>zn ?_
   exact zk<|yC h (λ h=>zs<|zr<|zm<|zn<|zk<|Zk<|Zf<|Zb<|Zb<|Zf<|Zb<|Zi rfl rfl h) λ h=>Zh<|Zg<|zk<|zr<|zm<|yb h λ _ w h=>zm<|zn<|zk<|⟨rfl,h⟩
 exact Zy<|Zc<|Zc<|Zn<|zk<|zs<|zr<|zm<|zn<|zk<|Zk<|Zi rfl rfl h
def Sc (t2 t6 t8:Value) (K3:KV) (R:RT) (w:World):Prop :=
 F0 28 t2 1 R w λ t29 w =>
 L0 26 t29 R w λ t30 w =>
 X0 26 t30 t6 R w λ t32 w =>
 F0 24 t32 1 R w λ t33 w =>
 L0 22 t33 R w λ t34 w =>
 X0 22 t34 t8 R w λ t36 w =>
 F0 48 t36 4 R w λ t37 w =>
 L0 4 t37 R w λ t38 w =>
 opV Pg (Op.unary .not t38) (Zd R) w λ t39 w =>
 K3 t39 w
def TK (t2 t5 t6 t7 t10 t46:Value) (C5:World→Prop) (next4:KW) (R:RT) (w:World):Prop :=
 Zq (λ (t64:Value) (w:World) =>
 Zu t7 t64 (.bool false) λ t65 =>
 B0 .add 3 true t10 (.int .i64 1) R w λ t52 w =>
 next4 t65 t52 w) λ K6 =>
 Zl t7 true (
 qV Pg C5 (Instr.loadAt 28 t2) λ t56 =>
 qV Pg C5 (Instr.indexAt 82 t46 t10) λ t59 =>
 qV Pg C5 (Instr.loadAt 9 t59) λ t60 =>
 C0 53 #[t56,t60,t6] R w λ t62 w =>
 C5 w∧(
 qV Pg C5 (Instr.indexAt 93 t5 t62) λ t63 =>
 qV Pg C5 (Instr.loadAt 4 t63) λ t64 =>
 K6 t64 w)) (
 K6 undef w)
def Sb (t5 t6 t7:Value) (next1:KW) (R:RT) (w:World):Prop :=
 opV Pg (Instr.buildSlice 93 1 #[(0,t7)]) (Zd R) w λ t68 w =>
 opV Pg (Builtin.append_ #[93,93] 93 #[t5,t68]) (Zd R) w λ t69 w =>
 B0 .add 3 true t6 (.int .i64 1) R w λ t15 w =>
 next1 t69 t15 w
def Sp (t2 t5 t6 t7 t10 t46:Value) (next1:KW) (next4:KW) (R:RT) (w:World):Prop :=
 opV Pg (Builtin.len_ #[82] 3 #[t46]) (Zd R) w λ t49 w =>
 B0 .lss 3 false t10 t49 R w λ t50 w =>
 Zr t50 (
 Yp w λ C5 w =>
 TK t2 t5 t6 t7 t10 t46 C5 next4 R w) (
 Sb t5 t6 t7 next1 R w)
def Tn (t2 t5 t6 t7:Value) (next1:KW) (R:RT) (w:World):Prop :=
 F0 28 t2 1 R w λ t41 w =>
 L0 26 t41 R w λ t42 w =>
 X0 26 t42 t6 R w λ t44 w =>
 L0 24 t44 R w λ t45 w =>
 C0 54 #[t45] R w λ t46 w =>
 XP (λ t7 t10 w next4 =>
 Sp t2 t5 t6 t7 t10 t46 next1 next4 R w) t7 (.int .i64 0) w
def Tg (t2 t6 t7 t8:Value) (next2:KW) (R:RT) (w:World):Prop :=
 Zq (λ (t39:Value) (w:World) =>
 Zu t7 t39 (.bool false) λ t40 =>
 B0 .add 3 true t8 (.int .i64 1) R w λ t26 w =>
 next2 t40 t26 w) λ K3 =>
 Zl t7 true (
 Sc t2 t6 t8 K3 R w) (
 K3 undef w)
def SW (t2 t5 t6 t7 t8:Value) (next1:KW) (next2:KW) (R:RT) (w:World):Prop :=
 F0 28 t2 1 R w λ t17 w =>
 L0 26 t17 R w λ t18 w =>
 X0 26 t18 t6 R w λ t20 w =>
 F0 24 t20 1 R w λ t21 w =>
 L0 22 t21 R w λ t22 w =>
 opV Pg (Builtin.len_ #[22] 3 #[t22]) (Zd R) w λ t23 w =>
 B0 .lss 3 false t8 t23 R w λ t24 w =>
 Zr t24 (
 Tg t2 t6 t7 t8 next2 R w) (
 Tn t2 t5 t6 t7 next1 R w)
def TL (t1 t2 t5 t6:Value) (next1:KW) (R:RT) (w:World):Prop :=
 B0 .lss 3 false t6 t1 R w λ t13 w =>
 Zr t13 (
 XP (λ t7 t8 w next2 =>
 SW t2 t5 t6 t7 t8 next1 next2 R w) (.bool true) (.int .i64 0) w) (
 R (.returned t5) w)
def n30 (t0 t1:Value) (R:RT) (w:World):Prop :=
 opV Pg (Instr.box 28 t0) (Zd R) w λ t2 w =>
 XP (λ t5 t6 w next1 =>
 TL t1 t2 t5 t6 next1 R w) (Value.slice none 0 0) (.int .i64 0) w
set_option maxHeartbeats 40000000 in
theorem Zfb {t0 t1:Value} {R:RT} {w:World} (h:n30 t0 t1 R w):Calls Pg 154 #[t0,t1] w R:=by
 refine yD Tryz.func154 ?_
 refine zs<|zr<|yv h λ _ w h=>zm<|zn<|zk<|zs<|zr<|zm<|zn<|zk<|zs<|zs<|zr<|zm ?_
 refine zn<|zk<|Zj<|yl2 [5,6,7,8,9,10,11,12,13,14,15,16,17,18,19,20,21,22,23,24,25,26,27,28,29,30,31,32,33,34,35,36,37,38,39,40,41,42,43,44,45,46,47,48,49,50,51,52,53,54,55,56,57,58,59,60,61,62,63,64,65,66,67,68,69] 5 6 h λ σ w next h=>zs<|zs<|zr<|zm<|zm<|yb h λ _ w h=>zn<|zk<|yC h (λ h=>?_) λ h=>?_
 · refine Zh<|zk<|zs<|Zj<|zs<|zr<|zm<|zn<|zk<|zs<|zs<|zr<|zm<|zn<|zk ?_
   refine Zj<|yl2 [7,8,16,17,18,19,20,21,22,23,24,25,26,27,28,29,30,31,32,33,34,35,36,37,38,39,40] 7 8 h λ σ w next h=>zs<|zs<|zr<|zm<|yv h λ _ w h=>yv h λ _ w h=>zm<|yv h λ _ w h=>yv h λ _ w h=>yv h λ _ w h=>yx h λ _ w h=>yb h λ _ w h=>zn ?_
   refine zk<|yC h (λ h=>?_) λ h=>?_
   · refine Zh<|zk<|zs<|Zj<|Zs<|yG 2<|zm<|zm<|zn<|yg1 11 1 true [29,30,31,32,33,34,35,36,37,38,39] 39 h (λ _ T hT h=>?_) λ σ w h=>?_
     · refine yv h λ _ w h=>yv h λ _ w h=>zm<|yv h λ _ w h=>yv h λ _ w h=>yv h λ _ w h=>zm<|yv h λ _ w h=>yv h λ _ w h=>yv h λ _ w h=>yv h λ _ w h=>zn ?_
       exact zt hT h
     exact yG 2<|yp h λ _ h=>zm<|zn<|ZG<|Zg<|zk<|zr<|zm<|yb h λ _ w h=>zm<|zn<|zk<|⟨rfl,h⟩
   refine Zy<|Zc<|Zc<|Zn<|zk<|zs<|zr<|yv h λ _ w h=>yv h λ _ w h=>zm<|yv h λ _ w h=>yv h λ _ w h=>yc h c54 λ _ w h=>zm<|zn ?_
   refine zk<|zs<|zs<|zr<|zm<|zn<|zk<|Zj<|yl2 [7,10,47,48,49,50,51,52,53,54,55,56,57,58,59,60,61,62,63,64,65] 7 10 h λ σ w next h=>zs<|zs<|zr<|zm<|zm<|yx h λ _ w h=>?_
   refine yb h λ _ w h=>zn<|zk<|yC h (λ h=>?_) λ h=>?_
   · refine Zh<|zk<|zs<|Zj<|yh [7,53,54,55,56,57,58,59,60,61,62,63,64,65] h λ C hC h=>yw 0 hC ?_
     refine yw 1 hC ?_
     refine yj1 2 [11,10,9,8,7,6,5,4,3,2,1,0] [55,56,57,58,59,60,61,62,63,64] 64 h (λ _ hT hb h=>?_) (λ _ hT hb h=>?_) λ σ w hC h=>?_
     · refine yw 2 hC ?_
       refine ye 3 hC h λ _ h=>?_
       refine yw 4 hC ?_
       refine yw 5 hC ?_
       refine ye 6 hC h λ _ h=>?_
       refine ye 7 hC h λ _ h=>?_
       refine yw 8 hC ?_
       refine yo 9 ?_
       refine yc h c53 λ _ w h=>zn ?_
       obtain ⟨hC,h⟩:=h
       refine ⟨hC,?_⟩
       refine ye 10 hC h λ _ h=>?_
       refine ye 11 hC h λ _ h=>?_
       exact yt hT hC h
     · refine yi 2 hC ?_
       refine yi 3 hC ?_
       refine yi 4 hC ?_
       refine yi 5 hC ?_
       refine yi 6 hC ?_
       refine yi 7 hC ?_
       refine yi 8 hC ?_
       refine yi 9 hC ?_
       refine yi 10 hC ?_
       refine yi 11 hC ?_
       exact yt hT hC h
     refine yP 12 hC h λ _ h=>?_
     refine yw 13 hC ?_
     exact yz<|Zg<|zk<|zr<|zm<|yb h λ _ w h=>zm<|zn<|zk<|⟨rfl,h⟩
   refine Zy<|Zc<|Zc<|Zn<|zk<|zr<|zm<|zm<|yS h λ _ w h=>yx h λ _ w h=>zm<|zn<|Zg<|zk<|zr ?_
   exact zm<|yb h λ _ w h=>zm<|zn<|zk<|⟨rfl,h⟩
 exact Zy<|Zc<|Zc<|Zn<|zk<|zs<|zr<|zm<|zm<|zn<|zk<|Zk<|Zi rfl rfl h
def zq (t0 t5 t9:Value) (R:RT) (w:World):Prop :=
 Zu t5 t9 (.bool false) λ t10 =>
 Zq (λ (t13:Value) (w:World) =>
 Zu t10 t13 (.bool false) λ t14 =>
 R (.returned t14) w) λ K2 =>
 Zl t10 true (
 opV Pg (ZM .neq 5 true t0 (.int .u8 95)) (Zd R) w λ t13 w =>
 K2 t13 w) (
 K2 undef w)
def ya (t0 t4:Value) (R:RT) (w:World):Prop :=
 opV Pg (Op.unary .not t4) (Zd R) w λ t5 w =>
 Zq (λ (t9:Value) (w:World) =>
 zq t0 t5 t9 R w) λ K1 =>
 Zl t5 true (
 C0 157 #[t0] R w λ t8 w =>
 opV Pg (Op.unary .not t8) (Zd R) w λ t9 w =>
 K1 t9 w) (
 K1 undef w)
def Zbk (t0:Value) (R:RT) (w:World):Prop :=
 C0 156 #[t0] R w λ t4 w =>
 ya t0 t4 R w
theorem ZcM {t0:Value} {R:RT} {w:World} (h:Zbk t0 R w):Calls Pg 155 #[t0] w R:=by
 refine yD Tryz.func155 ?_
 refine zs<|zr<|zm<|zn<|zk<|zs<|Zs<|yG 4<|zm<|yc h Zck λ _ w h=>yv h λ _ w h=>zm<|zn<|yg1 3 3 true [7,8,9] 9 h (λ _ T hT h=>?_) λ σ w h=>?_
 · refine zm<|yc h Zfv λ _ w h=>yv h λ _ w h=>zn ?_
   exact zt hT h
 refine yG 2<|yp h λ _ h=>zm<|zn<|yg1 2 8 true [12,13] 13 h (λ _ T hT h=>?_) λ σ w h=>?_
 · refine zm<|yb h λ _ w h=>zn ?_
   exact zt hT h
 exact yG 2<|yp h λ _ h=>zm<|zn<|ZG<|zk<|Zk<|Zi rfl rfl h
def Hj (t0 t8 t12:Value) (R:RT) (w:World):Prop :=
 Zq (λ (t14:Value) (w:World) =>
 Zq (λ (t15:Value) (w:World) =>
 Zu t8 (.bool true) t15 λ t16 =>
 R (.returned t16) w) λ K4 =>
 Zl t8 false (
 Zu t12 t14 (.bool false) λ t15 =>
 K4 t15 w) (
 K4 undef w)) λ K3 =>
 Zl t12 true (
 opV Pg (ZM .leq 5 true t0 (.int .u8 122)) (Zd R) w λ t14 w =>
 K3 t14 w) (
 K3 undef w)
def FE (t0 t4 t7:Value) (R:RT) (w:World):Prop :=
 Zu t4 t7 (.bool false) λ t8 =>
 Zq (λ (t12:Value) (w:World) =>
 Hj t0 t8 t12 R w) λ K2 =>
 Zl t8 false (
 opV Pg (ZM .geq 5 true t0 (.int .u8 97)) (Zd R) w λ t11 w =>
 K2 t11 w) (
 K2 undef w)
def Zdj (t0:Value) (R:RT) (w:World):Prop :=
 opV Pg (ZM .geq 5 true t0 (.int .u8 65)) (Zd R) w λ t4 w =>
 Zq (λ (t7:Value) (w:World) =>
 FE t0 t4 t7 R w) λ K1 =>
 Zl t4 true (
 opV Pg (ZM .leq 5 true t0 (.int .u8 90)) (Zd R) w λ t7 w =>
 K1 t7 w) (
 K1 undef w)
theorem ZcT {t0:Value} {R:RT} {w:World} (h:Zdj t0 R w):Calls Pg 156 #[t0] w R:=by
 refine yD Tryz.func156 ?_
 refine zs<|zr<|zm<|zn<|zk<|zs<|Zs<|yG 3<|zm<|yb h λ _ w h=>zm<|zn<|yg1 2 2 true [6,7] 7 h (λ _ T hT h=>?_) λ σ w h=>?_
 · refine zm<|yb h λ _ w h=>zn ?_
   exact zt hT h
 refine yG 2<|yp h λ _ h=>zm<|zn<|yg1 3 6 false [10,11,12] 12 h (λ _ T hT h=>?_) λ σ w h=>?_
 · refine zm<|yb h λ _ w h=>zm<|zn ?_
   exact zt hT h
 refine yg1 2 9 true [13,14] 14 h (λ _ T hT h=>?_) λ σ w h=>?_
 · refine zm<|yb h λ _ w h=>zn ?_
   exact zt hT h
 refine yg1 1 6 false [15] 15 h (λ _ T hT h=>?_) λ σ w h=>?_
 · refine yp h λ _ h=>zn ?_
   exact zt hT h
 exact yG 2<|yp h λ _ h=>zm<|zn<|ZG<|zk<|Zk<|Zi rfl rfl h
def Zda (t0:Value) (R:RT) (w:World):Prop :=
 opV Pg (ZM .geq 5 true t0 (.int .u8 48)) (Zd R) w λ t4 w =>
 Zq (λ (t7:Value) (w:World) =>
 Zu t4 t7 (.bool false) λ t8 =>
 R (.returned t8) w) λ K1 =>
 Zl t4 true (
 opV Pg (ZM .leq 5 true t0 (.int .u8 57)) (Zd R) w λ t7 w =>
 K1 t7 w) (
 K1 undef w)
theorem ZaO {t0:Value} {R:RT} {w:World} (h:Zda t0 R w):Calls Pg 157 #[t0] w R:=by
 refine yD Tryz.func157 ?_
 refine zs<|zr<|zm<|zn<|zk<|zs<|Zs<|yG 3<|zm<|yb h λ _ w h=>zm<|zn<|yg1 2 2 true [6,7] 7 h (λ _ T hT h=>?_) λ σ w h=>?_
 · refine zm<|yb h λ _ w h=>zn ?_
   exact zt hT h
 exact yG 2<|yp h λ _ h=>zm<|zn<|ZG<|zk<|Zk<|Zi rfl rfl h
def ZbO (t0:Value) (R:RT) (w:World):Prop :=
 C0 182 #[t0,(.bool false)] R w λ t4 w =>
 opV Pg (Op.unary .not t4) (Zd R) w λ t5 w =>
 R (.returned t5) w
theorem Za9 {t0:Value} {R:RT} {w:World} (h:ZbO t0 R w):Calls Pg 158 #[t0] w R:=by
 refine yD Tryz.func158 ?_
 exact zs<|zr<|zm<|zn<|zk<|zs<|zr<|zm<|yc h Zfq λ _ w h=>yv h λ _ w h=>zm<|zn<|zk<|Zk<|Zi rfl rfl h
def Zb5 (t0 t1:Value) (R:RT) (w:World):Prop :=
 C0 183 #[t0,t1] R w λ t7 w =>
 B0 .geq 3 true t7 (.int .i64 0) R w λ t8 w =>
 R (.returned t8) w
theorem ZcJ {t0 t1:Value} {R:RT} {w:World} (h:Zb5 t0 t1 R w):Calls Pg 159 #[t0,t1] w R:=by
 refine yD Tryz.func159 ?_
 refine zs<|zr<|zm<|zn<|zk<|zs<|zr<|zm<|zm<|yc h Zem λ _ w h=>yb h λ _ w h=>zm<|zn<|zk<|Zk ?_
 exact Zi rfl rfl h
def n21 (t0:Value) (R:RT) (w:World):Prop :=
 opV Pg (ZM .geq 3 true t0 (.int .i64 (-1048576))) (Zd R) w λ t4 w =>
 Zq (λ (t7:Value) (w:World) =>
 Zu t4 t7 (.bool false) λ t8 =>
 R (.returned t8) w) λ K1 =>
 Zl t4 true (
 B0 .leq 3 true t0 (.int .i64 1048576) R w λ t7 w =>
 K1 t7 w) (
 K1 undef w)
theorem Zdn {t0:Value} {R:RT} {w:World} (h:n21 t0 R w):Calls Pg 190 #[t0] w R:=by
 refine yD Tryz.func190 ?_
 refine zs<|zr<|zm<|zn<|zk<|zs<|Zs<|yG 3<|zm<|yb h λ _ w h=>zm<|zn<|yg1 2 2 true [6,7] 7 h (λ _ T hT h=>?_) λ σ w h=>?_
 · refine zm<|yb h λ _ w h=>zn ?_
   exact zt hT h
 exact yG 2<|yp h λ _ h=>zm<|zn<|ZG<|zk<|Zk<|Zi rfl rfl h
def Fc (t0 t1 t8:Value) (next1:KV) (R:RT) (w:World):Prop :=
 X0 93 t0 t8 R w λ t14 w =>
 L0 4 t14 R w λ t15 w =>
 B0 .eql 4 false t1 t15 R w λ t16 w =>
 Zr t16 (
 R (.returned t8) w) (
 B0 .add 3 true t8 (.int .i64 1) R w λ t18 w =>
 next1 t18 w)
def Zcl (t0 t1:Value) (R:RT) (w:World):Prop :=
 opV Pg (Builtin.len_ #[93] 3 #[t0]) (Zd R) w λ t7 w =>
 Yi (λ t8 w next1 =>
 B0 .lss 3 false t8 t7 R w λ t9 w =>
 Zr t9 (
 Fc t0 t1 t8 next1 R w) (
 R (.returned (.int .i64 (-1))) w)) (.int .i64 0) w
theorem Zc1 {t0 t1:Value} {R:RT} {w:World} (h:Zcl t0 t1 R w):Calls Pg 192 #[t0,t1] w R:=by
 refine yD Tryz.func192 ?_
 refine zs<|zr<|zm<|zn<|zk<|zs<|zs<|zr<|zm<|yx h λ _ w h=>zm<|zn<|zk<|Zj<|yl1 [4,5,8,9,10,11,12,13,14,15,16,17,18] 8 h λ σ w next h=>?_
 refine zs<|zr<|yb h λ _ w h=>zn<|zk<|zs<|yC h (λ h=>?_) λ h=>?_
 · refine Zh<|zk<|zs<|Zj<|zs<|zr<|zm<|zm<|zn<|zk<|zs<|zr<|zm<|zm<|zm ?_
   refine yv h λ _ w h=>yv h λ _ w h=>yb h λ _ w h=>zn<|zk<|yC h (λ h=>zs<|zr<|zm<|zm<|zn<|zk<|Zk<|Zf<|Zb<|Zb<|Zf<|Zb<|Zi rfl rfl h) λ h=>Zh<|Zg<|zk<|zr<|yb h λ _ w h=>zm<|zn<|zk ?_
   exact ⟨rfl,h⟩
 exact Zy<|Zc<|Zc<|Zn<|zk<|zs<|zr<|zm<|zn<|zk<|Zk<|Zi rfl rfl h
def n70 (t0:Value) (R:RT) (w:World):Prop :=
 opN Pg (YM t0) (Zd R) w λ t6 w =>
 F0 48 t6 2 R w λ t7 w =>
 opU Pg (Instr.storeAt 3 t7 (.int .i64 0)) (Zd R) w λ w =>
 opN Pg (YM t0) (Zd R) w λ t8 w =>
 F0 48 t8 3 R w λ t9 w =>
 opU Pg (Instr.storeAt 4 t9 (.bool false)) (Zd R) w λ w =>
 opN Pg (YM t0) (Zd R) w λ t10 w =>
 F0 48 t10 5 R w λ t11 w =>
 opU Pg (Instr.storeAt 3 t11 (.int .i64 0)) (Zd R) w λ w =>
 opN Pg (YM t0) (Zd R) w λ t12 w =>
 F0 48 t12 6 R w λ t13 w =>
 opU Pg (Instr.storeAt 3 t13 (.int .i64 0)) (Zd R) w λ w =>
 R (.returned (.tuple #[])) w
theorem Zff {t0:Value} {R:RT} {w:World} (h:n70 t0 R w):Calls Pg 193 #[t0] w R:=by
 refine yD Tryz.func193 ?_
 refine zr<|zm<|zm<|zm<|zm<|yN h λ _ w h=>yv h λ _ w h=>yu h λ w h=>yN h λ _ w h=>yv h λ _ w h=>yu h λ w h=>yN h λ _ w h=>yv h λ _ w h=>yu h λ w h=>yN h λ _ w h=>?_
 exact yv h λ _ w h=>yu h λ w h=>zn<|ZP<|ZZ rfl h
def SK (t0 t3:Value) (C1:World→Prop) (R:RT) (w:World):Prop :=
 qV Pg C1 (Instr.fieldAt 48 t3 2) λ t8 =>
 qV Pg C1 (Instr.loadAt 3 t8) λ t9 =>
 qV Pg C1 (ZM .shl 3 true (.int .i64 1) t9) λ t10 =>
 qV Pg C1 (ZM .sub 3 true t10 (.int .i64 1)) λ t11 =>
 qV Pg C1 (Instr.fieldAt 48 t3 5) λ t12 =>
 qV Pg C1 (Instr.loadAt 3 t12) λ t13 =>
 qV Pg C1 (Instr.fieldAt 48 t3 6) λ t14 =>
 qV Pg C1 (Instr.loadAt 3 t14) λ t15 =>
 opV Pg (Instr.buildSlice 30 2 #[(0,t13),(1,t15)]) (Zd R) w λ t16 w =>
 C1 w∧(
 C0 196 #[t0,(.int .i64 0),t11,t16] R w λ t17 w =>
 C1 w∧(
 R (.returned (.tuple #[])) w))
def n81 (t0 t1:Value) (R:RT) (w:World):Prop :=
 opV Pg (Instr.box 48 t1) (Zd R) w λ t3 w =>
 L0 48 t3 R w λ t5 w =>
 C0 195 #[t0,t5] R w λ t6 w =>
 Yp w λ C1 w =>
 SK t0 t3 C1 R w
theorem ZeM {t0 t1:Value} {R:RT} {w:World} (h:n81 t0 t1 R w):Calls Pg 194 #[t0,t1] w R:=by
 refine yD Tryz.func194 ?_
 refine zs<|zr<|yv h λ _ w h=>zn<|zk<|zs<|zr<|zm<|yv h λ _ w h=>yc h Zbd λ _ w h=>zn<|zk<|yh [7,8,9,10,11,12,13,14,15,16,17] h λ C hC h=>yw 0 hC ?_
 refine ye 1 hC h λ _ h=>?_
 refine ye 2 hC h λ _ h=>?_
 refine ye 3 hC h λ _ h=>?_
 refine ye 4 hC h λ _ h=>?_
 refine ye 5 hC h λ _ h=>?_
 refine ye 6 hC h λ _ h=>?_
 refine ye 7 hC h λ _ h=>?_
 refine ye 8 hC h λ _ h=>?_
 refine yo 9 ?_
 refine yS h λ _ w h=>zn ?_
 obtain ⟨hC,h⟩:=h
 refine ⟨hC,?_⟩
 refine yo 10 ?_
 refine yc h CH λ _ w h=>zn ?_
 obtain ⟨hC,h⟩:=h
 refine ⟨hC,?_⟩
 exact yz<|ZP<|ZZ rfl h
def M1 (t0 t12 t17 t26:Value) (R:RT) (w:World):Prop :=
 Zq (λ (t27:Value) (w:World) =>
 Zu t12 t27 (.bool false) λ t28 =>
 C0 122 #[t0,t28,(.int .i64 6)] R w λ t29 w =>
 R (.returned (.tuple #[])) w) λ K6 =>
 Zl t12 true (
 Zu t17 (.bool true) t26 λ t27 =>
 K6 t27 w) (
 K6 undef w)
def OV (t0 t3 t12 t17 t21:Value) (R:RT) (w:World):Prop :=
 Zq (λ (t25:Value) (w:World) =>
 Zq (λ (t26:Value) (w:World) =>
 M1 t0 t12 t17 t26 R w) λ K5 =>
 Zl t17 false (
 Zu t21 t25 (.bool false) λ t26 =>
 K5 t26 w) (
 K5 undef w)) λ K4 =>
 Zl t21 true (
 F0 48 t3 2 R w λ t22 w =>
 L0 3 t22 R w λ t23 w =>
 B0 .rem 3 true t23 (.int .i64 8) R w λ t24 w =>
 B0 .eql 3 true t24 (.int .i64 0) R w λ t25 w =>
 K4 t25 w) (
 K4 undef w)
def MX (t0 t3 t12 t17:Value) (R:RT) (w:World):Prop :=
 Zq (λ (t21:Value) (w:World) =>
 OV t0 t3 t12 t17 t21 R w) λ K3 =>
 Zl t17 false (
 F0 48 t3 2 R w λ t18 w =>
 L0 3 t18 R w λ t19 w =>
 B0 .gtr 3 true t19 (.int .i64 8) R w λ t20 w =>
 K3 t20 w) (
 K3 undef w)
def NF (t0 t3 t7 t11:Value) (R:RT) (w:World):Prop :=
 Zu t7 t11 (.bool false) λ t12 =>
 Zq (λ (t17:Value) (w:World) =>
 MX t0 t3 t12 t17 R w) λ K2 =>
 Zl t12 true (
 F0 48 t3 3 R w λ t14 w =>
 L0 4 t14 R w λ t15 w =>
 opV Pg (Op.unary .not t15) (Zd R) w λ t16 w =>
 K2 t16 w) (
 K2 undef w)
def n56 (t0 t1:Value) (R:RT) (w:World):Prop :=
 opV Pg (Instr.box 48 t1) (Zd R) w λ t3 w =>
 F0 48 t3 2 R w λ t5 w =>
 L0 3 t5 R w λ t6 w =>
 B0 .geq 3 true t6 (.int .i64 1) R w λ t7 w =>
 Zq (λ (t11:Value) (w:World) =>
 NF t0 t3 t7 t11 R w) λ K1 =>
 Zl t7 true (
 F0 48 t3 2 R w λ t9 w =>
 L0 3 t9 R w λ t10 w =>
 B0 .leq 3 true t10 (.int .i64 32) R w λ t11 w =>
 K1 t11 w) (
 K1 undef w)
theorem Zf9 {t0 t1:Value} {R:RT} {w:World} (h:n56 t0 t1 R w):Calls Pg 195 #[t0,t1] w R:=by
 refine yD Tryz.func195 ?_
 refine zs<|zr<|yv h λ _ w h=>zn<|zk<|Zs<|yG 5<|zm<|yv h λ _ w h=>yv h λ _ w h=>yb h λ _ w h=>zm<|zn<|yg1 3 4 true [9,10,11] 11 h (λ _ T hT h=>?_) λ σ w h=>?_
 · refine yv h λ _ w h=>yv h λ _ w h=>yb h λ _ w h=>zn ?_
   exact zt hT h
 refine yG 2<|yp h λ _ h=>zm<|zn<|yg1 4 9 true [14,15,16,17] 17 h (λ _ T hT h=>?_) λ σ w h=>?_
 · refine yv h λ _ w h=>yv h λ _ w h=>yv h λ _ w h=>zm<|zn ?_
   exact zt hT h
 refine yg1 4 13 false [18,19,20,21] 21 h (λ _ T hT h=>?_) λ σ w h=>?_
 · refine yv h λ _ w h=>yv h λ _ w h=>yb h λ _ w h=>zm<|zn ?_
   exact zt hT h
 refine yg1 4 17 true [22,23,24,25] 25 h (λ _ T hT h=>?_) λ σ w h=>?_
 · refine yv h λ _ w h=>yv h λ _ w h=>yb h λ _ w h=>yb h λ _ w h=>zn ?_
   exact zt hT h
 refine yg1 1 13 false [26] 26 h (λ _ T hT h=>?_) λ σ w h=>?_
 · refine yp h λ _ h=>zn ?_
   exact zt hT h
 refine yg1 1 9 true [27] 27 h (λ _ T hT h=>?_) λ σ w h=>?_
 · refine yp h λ _ h=>zn ?_
   exact zt hT h
 exact yG 2<|yp h λ _ h=>yc h VQ λ _ w h=>zn<|ZG<|ZP<|ZZ rfl h
def Iv (t0 t12 t15 t19 t23:Value) (next1:KW) (R:RT) (w:World):Prop :=
 Zu t19 t23 (.bool false) λ t24 =>
 C0 122 #[t0,t24,(.int .i64 7)] R w λ t25 w =>
 B0 .add 3 true t12 (.int .i64 1) R w λ t27 w =>
 next1 t15 t27 w
def H0 (t0 t1 t2 t3 t12:Value) (next1:KW) (R:RT) (w:World):Prop :=
 X0 30 t3 t12 R w λ t14 w =>
 L0 3 t14 R w λ t15 w =>
 B0 .geq 3 false t15 t1 R w λ t19 w =>
 Zq (λ (t23:Value) (w:World) =>
 Iv t0 t12 t15 t19 t23 next1 R w) λ K2 =>
 Zl t19 true (
 B0 .leq 3 false t15 t2 R w λ t23 w =>
 K2 t23 w) (
 K2 undef w)
def n64 (t0 t1 t2 t3:Value) (R:RT) (w:World):Prop :=
 opV Pg (Builtin.len_ #[30] 3 #[t3]) (Zd R) w λ t11 w =>
 XP (λ t1 t12 w next1 =>
 B0 .lss 3 false t12 t11 R w λ t13 w =>
 Zr t13 (
 H0 t0 t1 t2 t3 t12 next1 R w) (
 R (.returned (.tuple #[])) w)) t1 (.int .i64 0) w
theorem ZeZ {t0 t1 t2 t3:Value} {R:RT} {w:World} (h:n64 t0 t1 t2 t3 R w):Calls Pg 196 #[t0,t1,t2,t3] w R:=by
 refine yD Tryz.func196 ?_
 refine zs<|zr<|zm<|yx h λ _ w h=>zm<|zn<|zk<|Zj<|yl2 [1,9,12,13,14,15,16,17,18,19,20,21,22,23,24,25,26,27] 1 12 h λ σ w next h=>zs<|zr<|yb h λ _ w h=>zn<|zk<|zs ?_
 refine yC h (λ h=>?_) λ h=>?_
 · refine Zh<|zk<|zs<|Zj<|zs<|zr<|yv h λ _ w h=>yv h λ _ w h=>zm<|zn<|zk<|zs<|Zs<|yG 5<|zm ?_
   refine zm<|zm<|yb h λ _ w h=>zm<|zn<|yg1 3 4 true [21,22,23] 23 h (λ _ T hT h=>?_) λ σ w h=>?_
   · refine zm<|zm<|yb h λ _ w h=>zn ?_
     exact zt hT h
   refine yG 2<|yp h λ _ h=>yc h VQ λ _ w h=>zn<|ZG<|zk<|zr<|zm<|zm<|zn<|Zg<|zk<|zr<|yb h λ _ w h=>zm ?_
   exact zn<|zk<|⟨rfl,h⟩
 exact Zy<|Zc<|Zc<|Zn<|ZP<|ZZ rfl h
def n85 (t0:Value) (R:RT) (w:World):Prop :=
 opN Pg (YM t0) (Zd R) w λ t5 w =>
 F0 48 t5 2 R w λ t6 w =>
 opU Pg (Instr.storeAt 3 t6 (.int .i64 0)) (Zd R) w λ w =>
 opN Pg (YM t0) (Zd R) w λ t7 w =>
 F0 48 t7 3 R w λ t8 w =>
 opU Pg (Instr.storeAt 4 t8 (.bool false)) (Zd R) w λ w =>
 opN Pg (YM t0) (Zd R) w λ t9 w =>
 F0 48 t9 5 R w λ t10 w =>
 opU Pg (Instr.storeAt 3 t10 (.int .i64 0)) (Zd R) w λ w =>
 R (.returned (.tuple #[])) w
theorem ZdR {t0:Value} {R:RT} {w:World} (h:n85 t0 R w):Calls Pg 197 #[t0] w R:=by
 refine yD Tryz.func197 ?_
 refine zr<|zm<|zm<|zm<|yN h λ _ w h=>yv h λ _ w h=>yu h λ w h=>yN h λ _ w h=>yv h λ _ w h=>yu h λ w h=>yN h λ _ w h=>yv h λ _ w h=>yu h λ w h=>zn<|ZP ?_
 exact ZZ rfl h
def SH (t0 t3:Value) (C1:World→Prop) (R:RT) (w:World):Prop :=
 qV Pg C1 (Instr.fieldAt 48 t3 2) λ t8 =>
 qV Pg C1 (Instr.loadAt 3 t8) λ t9 =>
 qV Pg C1 (ZM .shl 3 true (.int .i64 1) t9) λ t10 =>
 qV Pg C1 (ZM .sub 3 true t10 (.int .i64 1)) λ t11 =>
 qV Pg C1 (Instr.fieldAt 48 t3 5) λ t12 =>
 qV Pg C1 (Instr.loadAt 3 t12) λ t13 =>
 opV Pg (Instr.buildSlice 30 1 #[(0,t13)]) (Zd R) w λ t14 w =>
 C1 w∧(
 C0 196 #[t0,(.int .i64 0),t11,t14] R w λ t15 w =>
 C1 w∧(
 R (.returned (.tuple #[])) w))
def n86 (t0 t1:Value) (R:RT) (w:World):Prop :=
 opV Pg (Instr.box 48 t1) (Zd R) w λ t3 w =>
 L0 48 t3 R w λ t5 w =>
 C0 195 #[t0,t5] R w λ t6 w =>
 Yp w λ C1 w =>
 SH t0 t3 C1 R w
theorem Zfp {t0 t1:Value} {R:RT} {w:World} (h:n86 t0 t1 R w):Calls Pg 198 #[t0,t1] w R:=by
 refine yD Tryz.func198 ?_
 refine zs<|zr<|yv h λ _ w h=>zn<|zk<|zs<|zr<|zm<|yv h λ _ w h=>yc h Zbd λ _ w h=>zn<|zk<|yh [7,8,9,10,11,12,13,14,15] h λ C hC h=>yw 0 hC ?_
 refine ye 1 hC h λ _ h=>?_
 refine ye 2 hC h λ _ h=>?_
 refine ye 3 hC h λ _ h=>?_
 refine ye 4 hC h λ _ h=>?_
 refine ye 5 hC h λ _ h=>?_
 refine ye 6 hC h λ _ h=>?_
 refine yo 7 ?_
 refine yS h λ _ w h=>zn ?_
 obtain ⟨hC,h⟩:=h
 refine ⟨hC,?_⟩
 refine yo 8 ?_
 refine yc h CH λ _ w h=>zn ?_
 obtain ⟨hC,h⟩:=h
 refine ⟨hC,?_⟩
 exact yz<|ZP<|ZZ rfl h
def n87 (t0:Value) (R:RT) (w:World):Prop :=
 opN Pg (YM t0) (Zd R) w λ t5 w =>
 F0 48 t5 4 R w λ t6 w =>
 opU Pg (Instr.storeAt 4 t6 (.bool false)) (Zd R) w λ w =>
 opN Pg (YM t0) (Zd R) w λ t7 w =>
 F0 48 t7 5 R w λ t8 w =>
 opU Pg (Instr.storeAt 3 t8 (.int .i64 0)) (Zd R) w λ w =>
 opN Pg (YM t0) (Zd R) w λ t9 w =>
 F0 48 t9 6 R w λ t10 w =>
 opU Pg (Instr.storeAt 3 t10 (.int .i64 0)) (Zd R) w λ w =>
 R (.returned (.tuple #[])) w
theorem Zes {t0:Value} {R:RT} {w:World} (h:n87 t0 R w):Calls Pg 199 #[t0] w R:=by
 refine yD Tryz.func199 ?_
 refine zr<|zm<|zm<|zm<|yN h λ _ w h=>yv h λ _ w h=>yu h λ w h=>yN h λ _ w h=>yv h λ _ w h=>yu h λ w h=>yN h λ _ w h=>yv h λ _ w h=>yu h λ w h=>zn<|ZP ?_
 exact ZZ rfl h
def n88 (t0 t1:Value) (R:RT) (w:World):Prop :=
 opV Pg (Instr.box 48 t1) (Zd R) w λ t3 w =>
 F0 48 t3 5 R w λ t5 w =>
 L0 3 t5 R w λ t6 w =>
 F0 48 t3 6 R w λ t7 w =>
 L0 3 t7 R w λ t8 w =>
 opV Pg (Instr.buildSlice 30 2 #[(0,t6),(1,t8)]) (Zd R) w λ t9 w =>
 C0 196 #[t0,(.int .i64 0),(.int .i64 34359738367),t9] R w λ t10 w =>
 R (.returned (.tuple #[])) w
theorem Zeq {t0 t1:Value} {R:RT} {w:World} (h:n88 t0 t1 R w):Calls Pg 200 #[t0,t1] w R:=by
 refine yD Tryz.func200 ?_
 refine zs<|zr<|yv h λ _ w h=>zn<|zk<|zr<|zm<|yv h λ _ w h=>yv h λ _ w h=>yv h λ _ w h=>yv h λ _ w h=>yS h λ _ w h=>yc h CH λ _ w h=>zn<|ZP ?_
 exact ZZ rfl h
def n89 (t0:Value) (R:RT) (w:World):Prop :=
 opV Pg (Instr.build 45 #[]) (Zd R) w λ t3 w =>
 opN Pg (YM t0) (Zd R) w λ t4 w =>
 F0 48 t4 7 R w λ t5 w =>
 opU Pg (Instr.storeAt 45 t5 t3) (Zd R) w λ w =>
 R (.returned (.tuple #[])) w
theorem Zev {t0:Value} {R:RT} {w:World} (h:n89 t0 R w):Calls Pg 201 #[t0] w R:=by
 refine yD Tryz.func201 ?_
 exact zr<|zm<|yB h λ _ w h=>yN h λ _ w h=>yv h λ _ w h=>yu h λ w h=>zn<|ZP<|ZZ rfl h
def IE (t0 t17:Value) (C1:World→Prop) (R:RT) (w:World):Prop :=
 qV Pg C1 (Instr.extract t17 0) λ t18 =>
 qV Pg C1 (Instr.extract t17 1) λ t19 =>
 C0 122 #[t0,t19,(.int .i64 8)] R w λ t22 w =>
 R (.returned (.tuple #[])) w
def HW (t0 t3:Value) (C1:World→Prop) (R:RT) (w:World):Prop :=
 qV Pg C1 (Instr.fieldAt 48 t3 10) λ t15 =>
 qV Pg C1 (Instr.loadAt 9 t15) λ t16 =>
 C0 184 #[t0] R w λ t13 w =>
 C1 w∧(
 qV Pg C1 (Instr.build 24 #[(1,t13)]) λ t14 =>
 C0 82 #[t14,t16] R w λ t17 w =>
 C1 w∧(
 IE t0 t17 C1 R w))
def n82 (t0 t1:Value) (R:RT) (w:World):Prop :=
 opV Pg (Instr.box 48 t1) (Zd R) w λ t3 w =>
 F0 48 t3 12 R w λ t7 w =>
 L0 3 t7 R w λ t8 w =>
 opV Pg (Instr.buildSlice 30 1 #[(0,t8)]) (Zd R) w λ t9 w =>
 C0 196 #[t0,(.int .i64 1),(.int .i64 3),t9] R w λ t10 w =>
 Yp w λ C1 w =>
 HW t0 t3 C1 R w
theorem Zeg {t0 t1:Value} {R:RT} {w:World} (h:n82 t0 t1 R w):Calls Pg 217 #[t0,t1] w R:=by
 refine yD Tryz.func217 ?_
 refine zs<|zr<|yv h λ _ w h=>zn<|zk<|zs<|zr<|zm<|yv h λ _ w h=>yv h λ _ w h=>yS h λ _ w h=>yc h CH λ _ w h=>zn<|zk<|zs ?_
 refine yh [4,5,11,12,13,14,15,16,17,18,19] h λ C hC h=>yw 0 hC ?_
 refine ye 3 hC h λ _ h=>?_
 refine ye 4 hC h λ _ h=>?_
 refine yo 1 ?_
 refine yc h Mg λ _ w h=>zn ?_
 obtain ⟨hC,h⟩:=h
 refine ⟨hC,?_⟩
 refine ye 2 hC h λ _ h=>?_
 refine yo 5 ?_
 refine yc h c82 λ _ w h=>zn ?_
 obtain ⟨hC,h⟩:=h
 refine ⟨hC,?_⟩
 refine yw 6 hC ?_
 refine ye 7 hC h λ _ h=>?_
 refine ye 8 hC h λ _ h=>?_
 refine yw 9 hC ?_
 refine yw 10 hC ?_
 exact yz<|zk<|zr<|zm<|zm<|yc h VQ λ _ w h=>zn<|ZP<|ZZ rfl h
def n83 (t0:Value) (R:RT) (w:World):Prop :=
 opV Pg (Instr.build 45 #[]) (Zd R) w λ t5 w =>
 opN Pg (YM t0) (Zd R) w λ t6 w =>
 F0 48 t6 8 R w λ t7 w =>
 opU Pg (Instr.storeAt 9 t7 (.string { data := #[] })) (Zd R) w λ w =>
 opN Pg (YM t0) (Zd R) w λ t8 w =>
 F0 48 t8 7 R w λ t9 w =>
 opU Pg (Instr.storeAt 45 t9 t5) (Zd R) w λ w =>
 opN Pg (YM t0) (Zd R) w λ t10 w =>
 F0 48 t10 13 R w λ t11 w =>
 opU Pg (Instr.storeAt 3 t11 (.int .i64 0)) (Zd R) w λ w =>
 R (.returned (.tuple #[])) w
theorem ZdH {t0:Value} {R:RT} {w:World} (h:n83 t0 R w):Calls Pg 218 #[t0] w R:=by
 refine yD Tryz.func218 ?_
 refine zr<|zm<|zm<|zm<|yB h λ _ w h=>yN h λ _ w h=>yv h λ _ w h=>yu h λ w h=>yN h λ _ w h=>yv h λ _ w h=>yu h λ w h=>yN h λ _ w h=>yv h λ _ w h=>yu h λ w h=>zn ?_
 exact ZP<|ZZ rfl h
def RL (t0 t3:Value) (C1:World→Prop) (R:RT) (w:World):Prop :=
 qN Pg C1 (YM t0) λ t11 =>
 qV Pg C1 (Instr.fieldAt 164 t11 2) λ t12 =>
 qV Pg C1 (Instr.loadAt 162 t12) λ t13 =>
 qV Pg C1 (Instr.fieldAt 48 t3 8) λ t14 =>
 qV Pg C1 (Instr.loadAt 9 t14) λ t15 =>
 qV Pg C1 (Instr.lookup 162 t13 t15 false) λ t16 =>
 C0 122 #[t0,t16,(.int .i64 8)] R w λ t17 w =>
 C1 w∧(
 L0 48 t3 R w λ t19 w =>
 C0 202 #[t0,t19] R w λ t20 w =>
 R (.returned (.tuple #[])) w)
def n84 (t0 t1:Value) (R:RT) (w:World):Prop :=
 opV Pg (Instr.box 48 t1) (Zd R) w λ t3 w =>
 F0 48 t3 13 R w λ t5 w =>
 L0 3 t5 R w λ t6 w =>
 opV Pg (Instr.buildSlice 30 1 #[(0,t6)]) (Zd R) w λ t7 w =>
 C0 196 #[t0,(.int .i64 0),(.int .i64 4294967295),t7] R w λ t8 w =>
 Yp w λ C1 w =>
 RL t0 t3 C1 R w
theorem ZfQ {t0 t1:Value} {R:RT} {w:World} (h:n84 t0 t1 R w):Calls Pg 219 #[t0,t1] w R:=by
 refine yD Tryz.func219 ?_
 refine zs<|zr<|yv h λ _ w h=>zn<|zk<|zs<|zr<|zm<|yv h λ _ w h=>yv h λ _ w h=>yS h λ _ w h=>yc h CH λ _ w h=>zn<|zk<|zs ?_
 refine yh [9,10,11,12,13,14,15,16,17] h λ C hC h=>yw 0 hC ?_
 refine yw 1 hC ?_
 refine yn 2 hC h λ _ h=>?_
 refine ye 3 hC h λ _ h=>?_
 refine ye 4 hC h λ _ h=>?_
 refine ye 5 hC h λ _ h=>?_
 refine ye 6 hC h λ _ h=>?_
 refine ye 7 hC h λ _ h=>?_
 refine yo 8 ?_
 refine yc h VQ λ _ w h=>zn ?_
 obtain ⟨hC,h⟩:=h
 refine ⟨hC,?_⟩
 exact yz<|zk<|zr<|zm<|yv h λ _ w h=>yc h Zal λ _ w h=>zn<|ZP<|ZZ rfl h
def xY (t4 t19 t21:Value) (R:RT) (w:World):Prop :=
 opV Pg (Instr.build 74 #[(0,t19),(1,t21)]) (Zd R) w λ t22 w =>
 opU Pg (Instr.storeAt 74 t4 t22) (Zd R) w λ w =>
 qW Pg 74 t4 w λ r0 =>
 R (.returned (.tuple #[r0,(.int .i64 0)])) w
def qn (t2 t3 t4:Value) (R:RT) (w:World):Prop :=
 opV Pg (Instr.makeFunc (.func 230) #[] #[t2,t3]) (Zd R) w λ t17 w =>
 Qi Pg t17 #[(.bool true)] (Zd R) w λ t19 w =>
 Qi Pg t17 #[(.bool false)] (Zd R) w λ t21 w =>
 xY t4 t19 t21 R w
def zj (t2 t3 t4 t12:Value) (R:RT) (w:World):Prop :=
 B0 .neq 31 true t12 (.int .i64 0) R w λ t14 w =>
 Zr t14 (
 opV Pg (Instr.build 74 #[]) (Zd R) w λ t15 w =>
 opU Pg (Instr.storeAt 74 t4 t15) (Zd R) w λ w =>
 qW Pg 74 t4 w λ r0 =>
 R (.returned (.tuple #[r0,t12])) w) (
 qn t2 t3 t4 R w)
def Zdi (t0 t1:Value) (R:RT) (w:World):Prop :=
 opV Pg (Instr.box 45 t0) (Zd R) w λ t2 w =>
 opV Pg (Instr.box 122 t1) (Zd R) w λ t3 w =>
 opV Pg (Instr.alloc 74 true (.tuple #[])) (Zd R) w λ t4 w =>
 L0 45 t2 R w λ t9 w =>
 L0 122 t3 R w λ t10 w =>
 Yq Pg 229 #[t9,(.string { data := #[] }),t10,(.func (.func 228) #[] #[])] (Zd R) w λ t12 w =>
 zj t2 t3 t4 t12 R w
theorem ZbQ {t0 t1:Value} {R:RT} {w:World} (h:Zdi t0 t1 R w):Calls Pg 220 #[t0,t1] w R:=by
 refine yD Tryz.func220 ?_
 refine zs<|zr<|yv h λ _ w h=>yv h λ _ w h=>yv h λ _ w h=>zm<|zn<|zk<|zs<|zr<|zm<|zn<|zk<|zs<|zs ?_
 refine zr<|yv h λ _ w h=>yv h λ _ w h=>zm<|yc h ZgH λ _ w h=>zm<|zn<|zk<|zs<|zr<|zm<|yb h λ _ w h=>zn<|zk<|yC h (λ h=>zs<|zr<|yB h λ _ w h=>zm<|yu h λ w h=>zm<|zn<|zk<|Zk<|Zb<|Yr rfl rfl rfl h) λ h=>?_
 refine Zh<|zk<|zs<|zr<|yF h λ _ w h=>zm<|zn<|zk<|zs<|zr<|zm<|yV h λ _ w h=>zm<|yV h λ _ w h=>yB h λ _ w h=>?_
 exact yu h λ w h=>zm<|zn<|zk<|Zk<|Yr rfl rfl rfl h
def zN (t1 t6 t15:Value) (C1:World→Prop) (R:RT) (w:World):Prop :=
 Zq (λ (t21:Value) (w:World) =>
 Zu t15 t21 (.bool false) λ t22 =>
 R (.returned t22) w) λ K2 =>
 Zl t15 true (
 qV Pg C1 (Instr.fieldAt 45 t1 1) λ t17 =>
 qV Pg C1 (Instr.loadAt 43 t17) λ t18 =>
 C0 235 #[t18,t6] R w λ t20 w =>
 C1 w∧(
 qV Pg C1 (Op.unary .not t20) λ t21 =>
 K2 t21 w)) (
 K2 undef w)
def zw (t1 t6 t9 t13:Value) (C1:World→Prop) (R:RT) (w:World):Prop :=
 C1 w∧(
 opV Pg (Instr.buildSlice 93 2 #[(0,t9),(1,t13)]) (Zd R) w λ t14 w =>
 C1 w∧(
 C0 158 #[t14] R w λ t15 w =>
 C1 w∧(
 zN t1 t6 t15 C1 R w)))
def zE (t1 t6:Value) (C1:World→Prop) (R:RT) (w:World):Prop :=
 qV Pg C1 (Instr.fieldAt 45 t1 0) λ t7 =>
 qV Pg C1 (Instr.loadAt 3 t7) λ t8 =>
 qV Pg C1 (Instr.fieldAt 45 t1 1) λ t10 =>
 qV Pg C1 (Instr.loadAt 43 t10) λ t11 =>
 qV Pg C1 (Builtin.len_ #[43] 3 #[t11]) λ t12 =>
 qV Pg C1 (ZM .leq 3 true t12 (.int .i64 4)) λ t13 =>
 C0 234 #[t8] R w λ t9 w =>
 zw t1 t6 t9 t13 C1 R w
def Za6 (t0:Value) (R:RT) (w:World):Prop :=
 opV Pg (Instr.box 45 t0) (Zd R) w λ t1 w =>
 opV Pg (Instr.makeMap 162 none) (Zd R) w λ t5 w =>
 opV Pg (Instr.alloc 162 true (.tuple #[])) (Zd R) w λ t3 w =>
 opU Pg (Instr.storeAt 162 t3 t5) (Zd R) w λ w =>
 opV Pg (Instr.makeFunc (.func 233) #[] #[t3]) (Zd R) w λ t6 w =>
 Yp w λ C1 w =>
 zE t1 t6 C1 R w
theorem Zcj {t0:Value} {R:RT} {w:World} (h:Za6 t0 R w):Calls Pg 223 #[t0] w R:=by
 refine yD Tryz.func223 ?_
 refine zs<|zr<|yv h λ _ w h=>zm<|zn<|zk<|zs<|zr<|yv h λ _ w h=>yv h λ _ w h=>yu h λ w h=>zn<|zk<|zs<|zr ?_
 refine yF h λ _ w h=>zm<|zn<|zk<|zs<|yh [2,7,8,9,10,11,12,13,14,15,16,17,18,19,20,21,22] h λ C hC h=>ye 0 hC h λ _ h=>?_
 refine ye 1 hC h λ _ h=>?_
 refine ye 3 hC h λ _ h=>?_
 refine ye 4 hC h λ _ h=>?_
 refine ye 5 hC h λ _ h=>?_
 refine ye 6 hC h λ _ h=>?_
 refine yo 2 ?_
 refine yc h ZbC λ _ w h=>zn ?_
 obtain ⟨hC,h⟩:=h
 refine ⟨hC,?_⟩
 refine yo 7 ?_
 refine yS h λ _ w h=>zn ?_
 obtain ⟨hC,h⟩:=h
 refine ⟨hC,?_⟩
 refine yo 8 ?_
 refine yc h Rh λ _ w h=>zn ?_
 obtain ⟨hC,h⟩:=h
 refine ⟨hC,?_⟩
 refine yw 9 hC ?_
 refine yj1 2 [14,13,12,11,10,9,8,7,2,6,5,4,3,1,0] [17,18,19,20,21] 21 h (λ _ hT hb h=>?_) (λ _ hT hb h=>?_) λ σ w hC h=>?_
 · refine ye 10 hC h λ _ h=>?_
   refine ye 11 hC h λ _ h=>?_
   refine yw 12 hC ?_
   refine yo 13 ?_
   refine yc h Zfd λ _ w h=>zn ?_
   obtain ⟨hC,h⟩:=h
   refine ⟨hC,?_⟩
   refine ye 14 hC h λ _ h=>?_
   exact yt hT hC h
 · refine yi 10 hC ?_
   refine yi 11 hC ?_
   refine yi 12 hC ?_
   refine yi 13 hC ?_
   refine yi 14 hC ?_
   exact yt hT hC h
 refine yP 15 hC h λ _ h=>?_
 refine yw 16 hC ?_
 exact yz<|zk<|Zk<|Zi rfl rfl h
def AO (t5 t6 t8:Value) (K2:World→Prop) (R:RT) (w:World):Prop :=
 F0 48 t5 0 R w λ t23 w =>
 L0 9 t23 R w λ t24 w =>
 L0 74 t6 R w λ t25 w =>
 opU Pg (Instr.mapUpdate 122 t8 t24 t25) (Zd R) w λ w =>
 K2 w
def A9 (t5 t8 t11 t17:Value) (next1:KV) (R:RT) (w:World):Prop :=
 opV Pg (Instr.extract t17 0) (Zd R) w λ t18 w =>
 opV Pg (Instr.extract t17 1) (Zd R) w λ t19 w =>
 opV Pg (Instr.alloc 74 true (.tuple #[])) (Zd R) w λ t6 w =>
 opU Pg (Instr.storeAt 74 t6 t18) (Zd R) w λ w =>
 B0 .eql 31 true t19 (.int .i64 0) R w λ t21 w =>
 Zq (λ (w:World) =>
 B0 .add 3 true t11 (.int .i64 1) R w λ t26 w =>
 next1 t26 w) λ K2 =>
 Zr t21 (
 AO t5 t6 t8 K2 R w) (
 K2 w)
def BE (t0 t8 t11:Value) (next1:KV) (R:RT) (w:World):Prop :=
 X0 22 t0 t11 R w λ t13 w =>
 L0 48 t13 R w λ t14 w =>
 opV Pg (Instr.alloc 48 true (.tuple #[])) (Zd R) w λ t5 w =>
 opU Pg (Instr.storeAt 48 t5 t14) (Zd R) w λ w =>
 L0 48 t5 R w λ t16 w =>
 C0 236 #[t16] R w λ t17 w =>
 A9 t5 t8 t11 t17 next1 R w
def n93 (t0:Value) (R:RT) (w:World):Prop :=
 opV Pg (Instr.makeMap 122 none) (Zd R) w λ t8 w =>
 opV Pg (Builtin.len_ #[22] 3 #[t0]) (Zd R) w λ t10 w =>
 Yi (λ t11 w next1 =>
 B0 .lss 3 false t11 t10 R w λ t12 w =>
 Zr t12 (
 BE t0 t8 t11 next1 R w) (
 R (.returned t8) w)) (.int .i64 0) w
theorem ZfE {t0:Value} {R:RT} {w:World} (h:n93 t0 R w):Calls Pg 224 #[t0] w R:=by
 refine yD Tryz.func224 ?_
 refine zs<|zr<|zm<|zn<|zk<|zs<|zr<|yv h λ _ w h=>zm<|zn<|zk<|zs<|zs<|zr<|zm ?_
 refine yx h λ _ w h=>zm<|zn<|zk<|Zj<|yl1 [5,6,7,11,12,13,14,15,16,17,18,19,20,21,22,23,24,25,26] 11 h λ σ w next h=>zs<|zr<|yb h λ _ w h=>zn<|zk<|zs<|yC h (λ h=>?_) λ h=>?_
 · refine Zh<|zk<|zs<|Zj<|zs<|zr<|yv h λ _ w h=>yv h λ _ w h=>yv h λ _ w h=>yu h λ w h=>zn<|zk<|zs<|zr<|yv h λ _ w h=>?_
   refine yc h ZeC λ _ w h=>zm<|yv h λ _ w h=>yv h λ _ w h=>yv h λ _ w h=>yu h λ w h=>zm<|zn<|zk<|zs<|zr<|zm<|yb h λ _ w h=>zn<|zk ?_
   refine yJ0 [22,23,24,25] h (λ _ _ hkK2 h=>?_) λ σ w h=>?_
   · refine yC h (λ h=>?_) λ h=>?_
     · refine zr<|zm<|yv h λ _ w h=>yv h λ _ w h=>yv h λ _ w h=>yu h λ w h=>zn<|zk ?_
       exact zt hkK2 h
     refine Zh<|zk ?_
     exact zt hkK2 h
   exact Zg<|zk<|zr<|yb h λ _ w h=>zm<|zn<|zk<|⟨rfl,h⟩
 exact Zy<|Zc<|Zc<|Zn<|zk<|zs<|zr<|zm<|zm<|zn<|zk<|Zk<|Zi rfl rfl h
def jM (t1 t3:Value) (K1:World→Prop) (R:RT) (w:World):Prop :=
 F0 45 t1 1 R w λ t6 w =>
 L0 43 t6 R w λ t7 w =>
 C0 60 #[t7] R w λ t8 w =>
 opU Pg (Instr.storeAt 43 t3 t8) (Zd R) w λ w =>
 K1 w
def ZbN (t0:Value) (R:RT) (w:World):Prop :=
 opV Pg (Instr.box 45 t0) (Zd R) w λ t1 w =>
 opV Pg (Instr.alloc 43 true (.tuple #[])) (Zd R) w λ t3 w =>
 L0 45 t1 R w λ t4 w =>
 C0 223 #[t4] R w λ t5 w =>
 Zq (λ (w:World) =>
 opV Pg (Instr.makeFunc (.func 237) #[] #[t3]) (Zd R) w λ t9 w =>
 R (.returned t9) w) λ K1 =>
 Zr t5 (
 jM t1 t3 K1 R w) (
 K1 w)
theorem ZcV {t0:Value} {R:RT} {w:World} (h:ZbN t0 R w):Calls Pg 225 #[t0] w R:=by
 refine yD Tryz.func225 ?_
 refine zs<|zr<|yv h λ _ w h=>zm<|zn<|zk<|zs<|zr<|yv h λ _ w h=>zn<|zk<|zs<|zs<|zr<|yv h λ _ w h=>?_
 refine yc h ZaA λ _ w h=>zn<|zk<|yJ0 [6,7,8] h (λ _ _ hkK1 h=>?_) λ σ w h=>?_
 · refine yC h (λ h=>?_) λ h=>?_
   · refine zr<|yv h λ _ w h=>yv h λ _ w h=>yc h c60 λ _ w h=>yu h λ w h=>zn<|zk ?_
     exact zt hkK1 h
   refine Zh<|zk ?_
   exact zt hkK1 h
 exact zk<|zs<|zr<|yF h λ _ w h=>zm<|zn<|zk<|Zk<|Zi rfl rfl h
def ZbF (t0 t1:Value) (R:RT) (w:World):Prop :=
 C0 134 #[t0,t1] R w λ t7 w =>
 B0 .geq 3 true t7 (.int .i64 0) R w λ t8 w =>
 R (.returned t8) w
theorem Za4 {t0 t1:Value} {R:RT} {w:World} (h:ZbF t0 t1 R w):Calls Pg 226 #[t0,t1] w R:=by
 refine yD Tryz.func226 ?_
 refine zs<|zr<|zm<|zn<|zk<|zs<|zr<|zm<|zm<|yc h Za0 λ _ w h=>yb h λ _ w h=>zm<|zn<|zk<|Zk ?_
 exact Zi rfl rfl h
def n58 (t0 t1:Value) (R:RT) (w:World):Prop :=
 opV Pg (Instr.box 48 t0) (Zd R) w λ t2 w =>
 F0 48 t2 1 R w λ t4 w =>
 L0 42 t4 R w λ t5 w =>
 B0 .eql 42 true t5 (.int .i64 9) R w λ t6 w =>
 Zq (λ (t12:Value) (w:World) =>
 Zu t6 t12 (.bool false) λ t13 =>
 R (.returned t13) w) λ K1 =>
 Zl t6 true (
 F0 48 t2 9 R w λ t8 w =>
 L0 9 t8 R w λ t9 w =>
 F0 48 t1 9 R w λ t10 w =>
 L0 9 t10 R w λ t11 w =>
 B0 .eql 9 false t9 t11 R w λ t12 w =>
 K1 t12 w) (
 K1 undef w)
theorem Zgn {t0 t1:Value} {R:RT} {w:World} (h:n58 t0 t1 R w):Calls Pg 227 #[t0,t1] w R:=by
 refine yD Tryz.func227 ?_
 refine zs<|zr<|yv h λ _ w h=>zm<|zn<|zk<|zs<|Zs<|yG 4<|yv h λ _ w h=>yv h λ _ w h=>yb h λ _ w h=>zm<|zn<|yg1 5 3 true [8,9,10,11,12] 12 h (λ _ T hT h=>?_) λ σ w h=>?_
 · refine yv h λ _ w h=>yv h λ _ w h=>yv h λ _ w h=>yv h λ _ w h=>yb h λ _ w h=>zn ?_
   exact zt hT h
 exact yG 2<|yp h λ _ h=>zm<|zn<|ZG<|zk<|Zk<|Zi rfl rfl h
def Zch (t0:Value) (R:RT) (w:World):Prop :=
 opV Pg (Instr.box 74 t0) (Zd R) w λ t1 w =>
 F0 74 t1 0 R w λ t3 w =>
 L0 3 t3 R w λ t4 w =>
 B0 .geq 3 true t4 (.int .i64 0) R w λ t5 w =>
 F0 74 t1 0 R w λ t6 w =>
 L0 3 t6 R w λ t7 w =>
 F0 74 t1 1 R w λ t8 w =>
 L0 3 t8 R w λ t9 w =>
 B0 .leq 3 false t7 t9 R w λ t10 w =>
 F0 74 t1 1 R w λ t11 w =>
 L0 3 t11 R w λ t12 w =>
 B0 .lss 3 true t12 (.int .i64 34359738368) R w λ t13 w =>
 opV Pg (Instr.buildSlice 93 3 #[(0,t5),(1,t10),(2,t13)]) (Zd R) w λ t14 w =>
 C0 158 #[t14] R w λ t15 w =>
 R (.returned t15) w
theorem Zbl {t0:Value} {R:RT} {w:World} (h:Zch t0 R w):Calls Pg 228 #[t0] w R:=by
 refine yD Tryz.func228 ?_
 refine zs<|zr<|yv h λ _ w h=>zm<|zn<|zk<|zs<|zr<|yv h λ _ w h=>yv h λ _ w h=>yb h λ _ w h=>yv h λ _ w h=>yv h λ _ w h=>yv h λ _ w h=>yv h λ _ w h=>?_
 exact yb h λ _ w h=>yv h λ _ w h=>yv h λ _ w h=>yb h λ _ w h=>yS h λ _ w h=>yc h Rh λ _ w h=>zm<|zn<|zk<|Zk<|Zi rfl rfl h
def WP (t7 t8 t11:Value) (K2:World→Prop) (Qr1:List PanicEntry→World→Prop) (Xr1:Nat→World→Prop) (R:RT) (w:World):Prop :=
 opV Pg (Instr.loadAt 236 t7) Qr1 w λ t33 w =>
 opV Pg (Instr.loadAt 74 t11) Qr1 w λ t34 w =>
 Qi Pg t33 #[t34] Qr1 w λ t35 w =>
 opV Pg (Op.unary .not t35) Qr1 w λ t36 w =>
 Zr t36 (
 opU Pg (Instr.storeAt 31 t8 (.int .i64 2)) Qr1 w λ w =>
 Xr1 0 w) (
 K2 w)
def WO (t5 t6 t7 t8 t9 t18:Value) (Kr1:World→Prop) (Qr1:List PanicEntry→World→Prop) (Xr1:Nat→World→Prop) (R:RT) (w:World):Prop :=
 opV Pg (Instr.loadAt 122 t6) Qr1 w λ t20 w =>
 opV Pg (Instr.lookup 122 t20 t18 true) Qr1 w λ t22 w =>
 opV Pg (Instr.extract t22 0) Qr1 w λ t23 w =>
 opV Pg (Instr.extract t22 1) Qr1 w λ t24 w =>
 opV Pg (Instr.alloc 74 true (.tuple #[])) Qr1 w λ t11 w =>
 opU Pg (Instr.storeAt 74 t11 t23) Qr1 w λ w =>
 opV Pg (Instr.loadAt 9 t5) Qr1 w λ t27 w =>
 opV Pg (ZM .eql 9 false t18 t27) Qr1 w λ t28 w =>
 Zq (λ (w:World) =>
 Kr1 w) λ K2 =>
 Zr t28 (
 K2 w) (
 opV Pg (Op.unary .not t24) Qr1 w λ t31 w =>
 Zr t31 (
 opU Pg (Instr.storeAt 4 t9 (.bool true)) Qr1 w λ w =>
 K2 w) (
 WP t7 t8 t11 K2 Qr1 Xr1 R w))
def WM (t8 t9:Value) (ds:List Deferred) (R:RT) (w:World):Prop :=
 opV Pg (Instr.loadAt 4 t9) (Zw Pg ds [(some 31,t8)] R) w λ t37 w =>
 Zr t37 (
 opU Pg (Instr.storeAt 31 t8 (.int .i64 9)) (Zw Pg ds [(some 31,t8)] R) w λ w =>
 VP Pg ds [(some 31,t8)] R w) (
 opU Pg (Instr.storeAt 31 t8 (.int .i64 0)) (Zw Pg ds [(some 31,t8)] R) w λ w =>
 VP Pg ds [(some 31,t8)] R w)
def Wo (t5 t6 t7 t8 t9 t17:Value) (ds:List Deferred) (R:RT) (w:World):Prop :=
 zy Pg t17 ds (λ l1 t18 w Kr1 Xr1 Qr1 =>
 AU l1 w λ w =>
 WO t5 t6 t7 t8 t9 t18 Kr1 Qr1 Xr1 R w) (λ ch ds w=>Zw Pg ds [(some 31,t8)] R ch w) w (λ ds w =>
 WM t8 t9 ds R w) [λ ds w =>
 VP Pg ds [(some 31,t8)] R w]
def WE (t4 t5 t6 t7 t8:Value) (ds:List Deferred) (R:RT) (w:World):Prop :=
 opV Pg (Instr.alloc 4 true (.tuple #[])) (Zw Pg ds [(some 31,t8)] R) w λ t9 w =>
 opU Pg (Instr.storeAt 4 t9 (.bool false)) (Zw Pg ds [(some 31,t8)] R) w λ w =>
 opV Pg (Instr.loadAt 45 t4) (Zw Pg ds [(some 31,t8)] R) w λ t16 w =>
 Yq Pg 225 #[t16] (Zw Pg ds [(some 31,t8)] R) w λ t17 w =>
 Wo t5 t6 t7 t8 t9 t17 ds R w
def WH (t4 t5 t6 t7 t8 t14:Value) (ds:List Deferred) (R:RT) (w:World):Prop :=
 opV Pg (Op.unary .not t14) (Zw Pg ds [(some 31,t8)] R) w λ t15 w =>
 Zr t15 (
 opU Pg (Instr.storeAt 31 t8 (.int .i64 2)) (Zw Pg ds [(some 31,t8)] R) w λ w =>
 VP Pg ds [(some 31,t8)] R w) (
 WE t4 t5 t6 t7 t8 ds R w)
def T7 (t0 t1 t2 t3:Value) (R:RT) (w:World):Prop :=
 (λ (ds:List Deferred) =>
 opV Pg (Instr.box 45 t0) (Zw Pg ds [(some 31,undef)] R) w λ t4 w =>
 opV Pg (Instr.box 9 t1) (Zw Pg ds [(some 31,undef)] R) w λ t5 w =>
 opV Pg (Instr.box 122 t2) (Zw Pg ds [(some 31,undef)] R) w λ t6 w =>
 opV Pg (Instr.box 236 t3) (Zw Pg ds [(some 31,undef)] R) w λ t7 w =>
 opV Pg (Instr.alloc 31 true (.tuple #[])) (Zw Pg ds [(some 31,undef)] R) w λ t8 w =>
 opV Pg (Instr.loadAt 45 t4) (Zw Pg ds [(some 31,t8)] R) w λ t13 w =>
 Yq Pg 223 #[t13] (Zw Pg ds [(some 31,t8)] R) w λ t14 w =>
 WH t4 t5 t6 t7 t8 t14 ds R w) []
theorem Zbc {t0 t1 t2 t3:Value} {R:RT} {w:World} (h:T7 t0 t1 t2 t3 R w):Calls Pg 229 #[t0,t1,t2,t3] w R:=by
 refine yE Tryz.func229 ?_
 unfold T7 at h
 dsimp only at h
 refine zs<|zr<|yv h λ _ w h=>yv h λ _ w h=>yv h λ _ w h=>yv h λ _ w h=>yv h λ _ w h=>zn<|zk<|zs<|zs<|zr<|yv h λ _ w h=>yc h ZaA λ _ w h=>yv h λ _ w h=>?_
 refine zn<|zk<|yC h (λ h=>zs<|zr<|yu h λ w h=>zn<|zk<|Zk<|Zb<|Xb rfl h) λ h=>Zh<|zk<|zs<|zr<|yv h λ _ w h=>yu h λ w h=>zn<|zk<|zs<|zs<|zr ?_
 refine yv h λ _ w h=>yc h ZaT λ _ w h=>zn<|zk<|Zj<|Ue [.ret] h rfl (λ l1 t18 w Kr1 Xr1 Qr1 h=>?_) (λ ds w h=>?_) (λ c ds w h=>?_) (λ ch ds w h=>XR rfl h)
 · refine zr<|zm<|zn<|zk ?_
   obtain ⟨hr,h⟩:=h
   refine ⟨rfl,hr,λ w hb=>?_⟩
   have h:=h w hb
   refine Zj<|zs<|zr<|yv h λ _ w h=>zm<|yv h λ _ w h=>zm<|yv h λ _ w h=>yv h λ _ w h=>yv h λ _ w h=>yu h λ w h=>zm<|zn<|zk<|Zj ?_
   refine zs<|zr<|zm<|yv h λ _ w h=>yb h λ _ w h=>zm<|zn<|zk<|yJ0 [29,30,31,32,33,34,35,36] h (λ _ _ hkK2 h=>?_) λ σ w h=>?_
   · refine yC h (λ h=>?_) λ h=>?_
     · refine Zh<|zk ?_
       exact zt hkK2 h
     refine zs<|zr<|zm<|yv h λ _ w h=>zm<|zn<|zk<|yC h (λ h=>?_) λ h=>?_
     · refine zr<|yu h λ w h=>zn<|zk ?_
       exact zt hkK2 h
     refine zs<|zr<|yv h λ _ w h=>yv h λ _ w h=>yV h λ _ w h=>yv h λ _ w h=>zm<|zn<|zk<|yC h (λ h=>zs<|zr<|yu h λ w h=>zn<|zk<|Zk<|Zb<|Zf<|Zf<|⟨rfl,0,rfl,h⟩) λ h=>Zh<|zk ?_
     exact zt hkK2 h
   exact Zg<|Zg<|⟨rfl,h⟩
 · refine Zg<|zk<|zs<|zs<|zr<|yv h λ _ w h=>zn<|zk<|yC h (λ h=>zs<|zr<|yu h λ w h=>zn<|zk<|Zk<|Zb<|Xb rfl h) λ h=>Zh<|zk<|zs<|zr<|yu h λ w h=>?_
   exact zn<|zk<|Zk<|Xb rfl h
 rcases c with _ | c
 · refine ⟨_,rfl,.inl ⟨rfl,?_⟩⟩
   exact Zf<|Zb<|Xb rfl h
 exact h.elim
def Zc8 (t0 t1 t2:Value) (R:RT) (w:World):Prop :=
 opV Pg (Instr.box 4 t0) (Zd R) w λ t3 w =>
 L0 45 t1 R w λ t5 w =>
 opV Pg (Instr.makeFunc (.func 232) #[] #[t2,t3]) (Zd R) w λ t6 w =>
 C0 231 #[t5,t6] R w λ t7 w =>
 R (.returned t7) w
theorem Zce {t0 t1 t2:Value} {R:RT} {w:World} (h:Zc8 t0 t1 t2 R w):Calls Pg 230 #[t0,t1,t2] w R:=by
 refine yD Tryz.func230 ?_
 refine zs<|zr<|yv h λ _ w h=>zm<|zn<|zk<|zs<|zr<|yv h λ _ w h=>yF h λ _ w h=>yc h ZdO λ _ w h=>zm<|zn<|zk<|Zk ?_
 exact Zi rfl rfl h
open Go.RowKit (intOf)
def QC (c:UInt8):Bool:=(decide (65≤(c.toNat:Int))&&decide ((c.toNat:Int)≤90))||(decide (97≤(c.toNat:Int))&&decide ((c.toNat:Int)≤122))
def Gg (c:UInt8):Bool:=decide (48≤(c.toNat:Int))&&decide ((c.toNat:Int)≤57)
def W9 (c:UInt8):Bool:=QC c||Gg c||((c.toNat:Int) == 95)
def Wc (v:Int):Bool:=decide (-1048576≤v)&&decide (v≤1048576)
def XT (s:ByteArray):Bool:=decide (1≤(s.size:Int))&&decide ((s.size:Int)≤32)&&(match s.data.toList with | []=>false | c::_=>QC c)&&s.data.toList.all W9
theorem jq (w0:World) (c:UInt8):Ret Pg 156 #[.int .u8 c.toNat] w0 λ r w'=>r = .bool (QC c)∧Ext w0 w':=by
 refine ZcT (R:=ZQ _) ?_;unfold Zdj
 simp (disch:=try exact DI) only [↓PR,QR,simprocAttr,↓Hj,↓FE]
 unfold QC
 have e:=Ext.refl w0
 generalize decide (65≤(c.toNat:Int))=b1
 generalize decide ((c.toNat:Int)≤90)=b2
 generalize decide (97≤(c.toNat:Int))=b3
 generalize decide ((c.toNat:Int)≤122)=b4
 cases b1<;>cases b2<;>cases b3<;>cases b4<;>simp (disch:=try exact DI) only [↓PR,QR,simprocAttr,↓Hj,↓FE]<;>exact ⟨by trivial,e⟩
theorem xy (w0:World) (c:UInt8):Ret Pg 117 #[.int .u8 c.toNat] w0 λ r w'=>r = .bool (QC c)∧Ext w0 w':=by
 refine ZdA (R:=ZQ _) ?_;unfold n19
 simp (disch:=try exact DI) only [↓PR,QR,simprocAttr,↓O0,↓MJ]
 unfold QC
 have e:=Ext.refl w0
 generalize decide (65≤(c.toNat:Int))=b1
 generalize decide ((c.toNat:Int)≤90)=b2
 generalize decide (97≤(c.toNat:Int))=b3
 generalize decide ((c.toNat:Int)≤122)=b4
 cases b1<;>cases b2<;>cases b3<;>cases b4<;>simp (disch:=try exact DI) only [↓PR,QR,simprocAttr,↓O0,↓MJ]<;>exact ⟨by trivial,e⟩
theorem Mh (w0:World) (c:UInt8):Ret Pg 157 #[.int .u8 c.toNat] w0 λ r w'=>r = .bool (Gg c)∧Ext w0 w':=by
 refine ZaO (R:=ZQ _) ?_;unfold Zda
 simp (disch:=try exact DI) only [↓PR,QR,simprocAttr,Sw.joinK_eq]
 unfold Gg
 have e:=Ext.refl w0
 generalize decide (48≤(c.toNat:Int))=b1
 generalize decide ((c.toNat:Int)≤57)=b2
 cases b1<;>cases b2<;>simp (disch:=try exact DI) only [↓PR,QR,simprocAttr,Sw.joinK_eq]<;>exact ⟨by trivial,e⟩
theorem Fq (w0:World) (c:UInt8):Ret Pg 118 #[.int .u8 c.toNat] w0 λ r w'=>r = .bool (Gg c)∧Ext w0 w':=by
 refine ZdG (R:=ZQ _) ?_;unfold n18
 simp (disch:=try exact DI) only [↓PR,QR,simprocAttr,Sw.joinK_eq]
 unfold Gg
 have e:=Ext.refl w0
 generalize decide (48≤(c.toNat:Int))=b1
 generalize decide ((c.toNat:Int)≤57)=b2
 cases b1<;>cases b2<;>simp (disch:=try exact DI) only [↓PR,QR,simprocAttr,Sw.joinK_eq]<;>exact ⟨by trivial,e⟩
theorem Bf (w0:World) (v:Int):Ret Pg 234 #[.int .i64 v] w0 λ r w'=>r = .bool (Wc v)∧Ext w0 w':=by
 refine Zcq (R:=ZQ _) ?_;unfold ZcC
 simp (disch:=try exact DI) only [↓PR,QR,simprocAttr,Sw.joinK_eq]
 unfold Wc
 have e:=Ext.refl w0
 generalize decide (-1048576≤v)=b1
 generalize decide (v≤1048576)=b2
 cases b1<;>cases b2<;>simp (disch:=try exact DI) only [↓PR,QR,simprocAttr,Sw.joinK_eq]<;>exact ⟨by trivial,e⟩
def xQ (w:World) (v:Value) (l:List Bool):Prop:=Ze w 1 EM v l
theorem qk (w0:World) (v:Value) (l:List Bool) (x:Bool) (hs:xQ w0 v l) :
 Ret Pg 192 #[v,.bool x] w0 λ r w'=>r = .int .i64 (idx (x == ·) l)∧Ext w0 w':=by
 obtain ⟨A,c,rfl,hlc,hcm,hlm,hel⟩:=Ze.open hs
 refine Zc1 (R:=ZQ _) ?_;unfold Zcl
 simp (disch:=try exact DI) only [↓PR,QR,simprocAttr]
 refine ZA (λ i w=>∃ k:Nat,i = .int .i64 k∧k≤l.length∧Ext w0 w∧∀ (j:Nat) y,j < k→l[j]?=some y→(x == y)=false) (λ i _=>l.length - (intOf i).toNat) ⟨0,rfl,by omega,Ext.refl _,λ j y h=>by omega⟩ ?_
 rintro i w ⟨k,rfl,hk,e,hb⟩
 by_cases hlt:k < l.length
 · obtain ⟨y,hy⟩:=getElem?_lt hlt
   obtain ⟨b,o,cs,rfl,hl,hA,rfl⟩:=hel k y hy
   have hd:decide ((k:Int) < (l.length:Int))=true:=by simp;omega
   have hc:w.cell? ⟨b,o+k*1,none⟩=some (.bool y):=(hA.ext e).cell 0 rfl
   simp (disch:=try exact DI) only [↓PR,QR,simprocAttr,hd,hc,↓Fc]
   cases hp:(x == y) with
   | true =>
    simp (disch:=try exact DI) only [↓PR,QR,simprocAttr]
    exact ⟨by rw [Qs hy hp hb],e⟩
   | false =>
    simp (disch:=try exact DI) only [↓PR,QR,simprocAttr]
    exact ⟨⟨k+1,rfl,by omega,e,Wi hb hy hp⟩,by simp [intOf];omega⟩
 · have hd:decide ((k:Int) < (l.length:Int))=false:=by simp;omega
   simp (disch:=try exact DI) only [↓PR,QR,simprocAttr,hd,↓Fc]
   exact ⟨by rw [Wq λ j y hy=>hb j y (by have:=(List.getElem?_eq_some_iff.1 hy).1;omega) hy],e⟩
theorem GK (w0:World) (v:Value) (l:List Bool) (x:Bool) (hs:xQ w0 v l) :
 Ret Pg 182 #[v,.bool x] w0 λ r w'=>r = .bool (l.any (x == ·))∧Ext w0 w':=by
 refine ZcF (R:=ZQ _) ?_;unfold Zcr
 refine Zt (qk _ _ l x hs) ?_
 rintro r w' ⟨rfl,e⟩
 simp (disch:=try exact DI) only [↓PR,QR,simprocAttr,Sw.joinK_eq]
 exact ⟨by rw [Y7],e⟩
theorem Cn (w0:World) (v:Value) (l:List Bool) (hs:xQ w0 v l) :
 Ret Pg 158 #[v] w0 λ r w'=>r = .bool (l.all id)∧Ext w0 w':=by
 refine Za9 (R:=ZQ _) ?_;unfold ZbO
 refine Zt (GK _ _ l false hs) ?_
 rintro r w' ⟨rfl,e⟩
 simp (disch:=try exact DI) only [↓PR,QR,simprocAttr,Sw.joinK_eq]
 refine ⟨?_,e⟩
 congr 1
 clear hs
 induction l with
 | nil=>rfl
 | cons a l ih=>cases a<;>simp_all
theorem HJ (w0:World) (c:UInt8):Ret Pg 155 #[.int .u8 c.toNat] w0 λ r w'=>r = .bool (!W9 c)∧Ext w0 w':=by
 refine ZcM (R:=ZQ _) ?_;unfold Zbk
 refine Zt (jq _ c) ?_
 rintro r w' ⟨rfl,e⟩
 simp (disch:=try exact DI) only [↓PR,QR,simprocAttr,↓zq,↓ya]
 unfold W9
 cases QC c with
 | true=>simp (disch:=try exact DI) only [↓PR,QR,simprocAttr,↓zq,↓ya];exact ⟨by trivial,e⟩
 | false =>
  simp (disch:=try exact DI) only [↓PR,QR,simprocAttr,↓zq,↓ya]
  refine Zt (Mh _ c) ?_
  rintro r w2 ⟨rfl,e2⟩
  have e3:=e.trans e2
  cases Gg c with
  | true=>simp (disch:=try exact DI) only [↓PR,QR,simprocAttr,↓zq,↓ya];exact ⟨by trivial,e3⟩
  | false=>simp (disch:=try exact DI) only [↓PR,QR,simprocAttr,↓zq,↓ya];exact ⟨by trivial,e3⟩
def Ia (w:World) (v:Value) (l:List UInt8):Prop:=Ze w 1 SF v l
theorem U3 (w0:World) (v:Value) (l:List UInt8) (g:FuncId) (caps:Array Value) (p:UInt8→Bool) (hs:Ia w0 v l) (hg:Callable Pg g) (hc:qo w0 (λ _ v x=>v = .int .u8 (x.toNat:Int)) g caps p l) :
 Ret Pg 159 #[v,.func (.func g) #[] caps] w0 λ r w'=>r = .bool (l.any p)∧Ext w0 w':=by
 refine ZcJ (R:=ZQ _) ?_;unfold Zb5
 refine Zt (Gr _ _ l g caps p hs hg hc) ?_
 rintro r w' ⟨rfl,e⟩
 simp (disch:=try exact DI) only [↓PR,QR,simprocAttr,Sw.joinK_eq]
 exact ⟨by rw [Y7],e⟩
theorem qc (w:World) (l:List Bool) (T:TypeId) (hl:l.length≤9223372036854775807):xQ (w.alloc (.cells (l.map Value.bool).toArray T)) (.slice (some ⟨w.heap.size,0,none⟩) l.length l.length) l:=Ze.new1 _ (λ _ _=>rfl) w l T hl
theorem N9 {w:World} {p:Nat} (hp:p=w.heap.size) (a b:Bool) (T:TypeId):Ret Pg 158 #[.slice (some ⟨p,0,none⟩) 2 2] (w.alloc (.cells #[.bool a,.bool b] T)) λ r w'=>r = .bool (a&&b)∧Ext (w.alloc (.cells #[.bool a,.bool b] T)) w':=by
 subst hp
 have h:=Cn _ _ [a,b] (qc w [a,b] T (by simp))
 simpa using h
theorem D3 {w:World} {p:Nat} (hp:p=w.heap.size) (a b c:Bool) (T:TypeId):Ret Pg 158 #[.slice (some ⟨p,0,none⟩) 3 3] (w.alloc (.cells #[.bool a,.bool b,.bool c] T)) λ r w'=>r = .bool (a&&b&&c)∧Ext (w.alloc (.cells #[.bool a,.bool b,.bool c] T)) w':=by
 subst hp
 have h:=Cn _ _ [a,b,c] (qc w [a,b,c] T (by simp))
 simpa [Bool.and_assoc] using h
theorem GC (w0:World) (s:ByteArray):Ret Pg 123 #[.string s] w0 λ r w'=>r = .bool (XT s)∧Ext w0 w':=by
 refine Zc6 (R:=ZQ _) ?_;unfold ZbZ
 simp (disch:=try exact DI) only [↓PR,QR,simprocAttr,↓Gj,↓J3]
 have e1:Ext w0 (w0.alloc (.cells #[.bool (decide (1≤(s.size:Int))),.bool (decide ((s.size:Int)≤32))] 4)):=(Ext.refl w0).alloc _
 refine Zt (Cn _ _ [decide (1≤(s.size:Int)),decide ((s.size:Int)≤32)] (qc w0 [decide (1≤(s.size:Int)),decide ((s.size:Int)≤32)] 4 (by simp))) ?_
 rintro r w1 ⟨rfl,e2⟩
 have e:=e1.trans e2
 have hall:[decide (1≤(s.size:Int)),decide ((s.size:Int)≤32)].all id=(decide (1≤(s.size:Int))&&decide ((s.size:Int)≤32)):=by simp
 rw [hall]
 unfold XT
 cases h1:(decide (1≤(s.size:Int))&&decide ((s.size:Int)≤32)) with
 | false=>simp (disch:=try exact DI) only [↓PR,QR,simprocAttr,↓Gj,↓J3];exact ⟨by trivial,e⟩
 | true =>
  simp (disch:=try exact DI) only [↓PR,QR,simprocAttr,↓Gj,↓J3]
  have hlen:s.size≤9223372036854775807:=by simp only [Bool.and_eq_true,decide_eq_true_eq] at h1;omega
  obtain ⟨c,cs,hcs⟩:∃ c cs,s.data.toList=c::cs:=by
   simp only [Bool.and_eq_true,decide_eq_true_eq] at h1
   cases hd:s.data.toList with
   | nil =>
    have:s.data.size=0:=by rw [← Array.length_toList,hd];rfl
    have h0:s.size=s.data.size:=rfl
    omega
   | cons c cs=>exact ⟨c,cs,rfl⟩
  rw [qt Tryz.underlying9 s .i64 (b:=c) (by rw [hcs];rfl)]
  refine Zt (jq _ c) ?_
  rintro r w2 ⟨rfl,e3⟩
  have e:=e.trans e3
  rw [hcs]
  cases hl:QC c with
  | false=>simp (disch:=try exact DI) only [↓PR,QR,simprocAttr,↓Gj,↓J3];exact ⟨by rw [hl];rfl,e⟩
  | true =>
   simp (disch:=try exact DI) only [↓PR,QR,simprocAttr,↓Gj,↓J3]
   refine O1 Tryz.underlying9 Tryz.underlying200 Tryz.underlying5 s hlen ?_
   rintro v w3 e4 ⟨A,cp,rfl,hc1,hc2,b,rfl,hcell⟩
   have hsz:s.data.toList.length=s.size:=by rw [Array.length_toList];rfl
   have hB:Ia w3 (.slice (some ⟨b,0,none⟩) s.size cp) s.data.toList:=by
    rw [← hsz]
    refine ⟨_,_,rfl,by omega,hc2,λ _=>⟨_,_,rfl,λ k x hx=>⟨[.int .u8 x.toNat],rfl,λ j v hv=>?_,rfl⟩⟩⟩
    cases j with
    | zero=>injection hv with hv;subst hv;simpa using hcell k x hx
    | succ j=>cases hv
   have e:=e.trans e4
   refine Zt (U3 _ _ s.data.toList _ _ (λ x=>!W9 x) hB Zex ?_) ?_
   · rintro w v x _ _ rfl
     exact HJ w x
   · rintro r w4 ⟨rfl,e5⟩
     simp (disch:=try exact DI) only [↓PR,QR,simprocAttr,↓Gj,↓J3]
     refine ⟨?_,e.trans e5⟩
     rw [hcs,hl]
     congr 1
     generalize c::cs=l
     clear hall
     induction l with
     | nil=>rfl
     | cons a l ih=>simp only [List.any_cons,List.all_cons,Bool.not_or,Bool.not_not,Bool.true_and] at *;rw [ih]
def Wv (t:ZX):Bool:=XT t.field&&(t.factor != 0)&&Wc t.factor
theorem Dg (w:World) (t:ZX) (pb r:Nat) (names:List ByteArray) (hcell:w.cell? ⟨pb,0,none⟩=some (.map (some r))) (hm:UV w r names) :
 Ret Pg 233 #[VZ t,.pointer (some ⟨pb,0,none⟩)] w λ v w'=>v = .bool (Un names t.field||!Wv t)∧UV w' r (names++[t.field])∧w'.cell? ⟨pb,0,none⟩=some (.map (some r)) ∧
  ∀ w0,Ext w0 w→w0.heap.size≤r→Ext w0 w':=by
 have hpb:pb < w.heap.size:=World.block_lt_of_cell? w _ hcell
 obtain ⟨L,c,hM,hl⟩:=hm
 refine Zbb (R:=ZQ _) ?_;unfold Zdk
 unfold VZ
 simp (disch:=try exact DI) only [↓PR,QR,simprocAttr,hcell]
 have e1:Ext w (w.alloc (.cells #[.string t.field,.int .i64 t.factor] 62)):=(Ext.refl w).alloc _
 rw [yy Tryz.underlying162 Tryz.underlying9 ty4 (hM.ext e1)]
 simp (disch:=try exact DI) only [↓PR,QR,simprocAttr,hcell]
 rw [JB Tryz.underlying162 Tryz.underlying9 (hM.ext e1)]
 obtain ⟨W,hW⟩:∃ W,((w.alloc (.cells #[.string t.field,.int .i64 t.factor] 62)).putObj r (Jf (Ub L c t.field (.bool true)) (Ul L c t.field)))=W:=⟨_,rfl⟩
 have hS:UV W r (names++[t.field]):=by rw [← hW];exact UV.put (hM.ext e1) hl _
 have hC:W.cell? ⟨pb,0,none⟩=some (.map (some r)):=by rw [← hW,U8 (hM.ext e1)];exact e1.cell hcell
 have hE:∀ w0,Ext w0 w→w0.heap.size≤r→Ext w0 W:=λ w0 h0 hr=>by rw [← hW];exact (h0.trans e1).putObj hr _
 have hA0:W.cell? ⟨w.heap.size,0,none⟩=some (.string t.field):=by rw [← hW,U8 (hM.ext e1),Uo];rfl
 have hA1:W.cell? ⟨w.heap.size,1,none⟩=some (.int .i64 t.factor):=by rw [← hW,U8 (hM.ext e1),Uo];rfl
 rw [hW]
 refine ZI ?_
 have ht8:(Sw.look L t.field).getD (.bool false) = .bool (Un names t.field):=by rw [hl];cases Un names t.field<;>rfl
 rw [ht8]
 have fin:∀ b w',Ext W w'→b=(Un names t.field||!Wv t)→(Value.bool b = .bool (Un names t.field||!Wv t)∧UV w' r (names++[t.field])∧w'.cell? ⟨pb,0,none⟩=some (.map (some r))∧∀ w0,Ext w0 w→w0.heap.size≤r→Ext w0 w') :=
  λ b w' e hb=>⟨by rw [hb],hS.ext e,e.cell hC,λ w0 h0 hr=>(hE w0 h0 hr).trans e⟩
 cases hmem:Un names t.field with
 | true =>
  simp (disch:=try exact DI) only [↓PR,QR,simprocAttr,↓Ai,↓jL]
  exact ⟨trivial,(fin (true||!Wv t) _ (Ext.refl _).wdrew (by rw [hmem])).2⟩
 | false =>
  simp (disch:=try exact DI) only [↓PR,QR,simprocAttr,↓Ai,↓jL,hA0,hA1]
  refine zcr (GC _ t.field) λ w1 e2=>?_
  refine ⟨e2,?_⟩
  refine zcr (Bf _ t.factor) λ w2 e3=>?_
  refine ⟨e2.trans e3,?_⟩
  simp (disch:=try exact DI) only [↓PR,QR,simprocAttr,↓Ai,↓jL]
  have e:=e2.trans e3
  refine ⟨e.alloc _,?_⟩
  refine zcr (D3 rfl _ _ _ _) λ w3 e4=>?_
  refine ⟨(e.alloc _).trans e4,?_⟩
  simp (disch:=try exact DI) only [↓PR,QR,simprocAttr,↓Ai,↓jL]
  exact ⟨rfl,(fin (!Wv t) w3 (((Ext.refl _).wdrew).trans ((e.alloc _).trans e4)) (by rw [hmem];rfl)).2⟩
def KT:List ByteArray→List ZX→Bool
 | _,[]=>true
 | seen,t::ts=>!(Un seen t.field)&&Wv t&&KT (seen++[t.field]) ts
theorem VJ:∀ (ts:List ZX) (seen:List ByteArray),KT seen ts=true↔∀ k x,ts[k]?=some x→(Un (seen++(ts.take k).map (·.field)) x.field||!Wv x)=false
 | [],seen=>by simp [KT]
 | t::ts,seen=>by
  simp only [KT,Bool.and_eq_true,VJ ts]
  constructor
  · rintro ⟨⟨h1,h2⟩,h3⟩ k x hx
    cases k with
    | zero=>simp at hx;subst hx;simpa using ⟨by simpa using h1,h2⟩
    | succ k=>have:=h3 k x (by simpa using hx);simpa using this
  · intro h
    refine ⟨?_,λ k x hx=>by simpa using h (k+1) x (by simpa using hx)⟩
    have:=h 0 t rfl
    simp at this
    exact ⟨by rw [this.1];rfl,this.2⟩
theorem Jc (w0 w1:World) (v:Value) (l:List ZX) (g:FuncId) (caps:Array Value) (p:Nat→Bool) (J:Nat→World→Prop) (hs:ZW w0 v l) (hg:Callable Pg g) (hJ:∀ k w,J k w→Ext w0 w) (h0:J 0 w1)
 (hc:∀ k x w u,l[k]?=some x→J k w→(λ _ v x=>v=VZ x) w u x→Ret Pg g (#[u]++caps) w λ r w'=>r = .bool (p k)∧J (k+1) w') :
 Ret Pg 235 #[v,.func (.func g) #[] caps] w1 λ r w'=>r = .bool ((List.range l.length).any p)∧∃ k,J k w':=by
 refine Zca (R:=ZQ _) ?_;unfold ZaX
 refine Zt (Gw w0 _ _ l g caps p J hs hg hJ h0 hc) ?_
 rintro r w' ⟨rfl,e⟩
 simp (disch:=try exact DI) only [↓PR,QR,simprocAttr,Sw.joinK_eq]
 exact ⟨by rw [Y7],e⟩
def Q3 (base:Int) (ts:List ZX):Bool:=Wc base&&decide (ts.length≤4)&&KT [] ts
theorem zo (w0:World) (v:Value) (base:Int) (ts:List ZX) (hs:Q6 w0 v base ts) :
 Ret Pg 223 #[v] w0 λ r w'=>r = .bool (Q3 base ts)∧Ext w0 w':=by
 obtain ⟨tv,rfl,hT⟩:=hs
 refine Zcj (R:=ZQ _) ?_;unfold Za6
 simp (disch:=try exact DI) only [↓PR,QR,simprocAttr]
 obtain ⟨A,c,rfl,hlc,hcm,hlm,hel⟩:=Ze.open hT
 obtain ⟨W1,hW1⟩:∃ W1,w0.alloc (.cells #[.int .i64 base,.slice A ts.length c] 45)=W1:=⟨_,rfl⟩
 have e0:Ext w0 W1:=by rw [← hW1];exact (Ext.refl w0).alloc _
 have hc0:W1.cell? ⟨w0.heap.size,0,none⟩=some (.int .i64 base):=by rw [← hW1];simp (disch:=try exact DI) only [↓PR,QR,simprocAttr]
 have hc1:W1.cell? ⟨w0.heap.size,1,none⟩=some (.slice A ts.length c):=by rw [← hW1];simp (disch:=try exact DI) only [↓PR,QR,simprocAttr]
 have hsz:w0.heap.size+1=W1.heap.size:=by rw [← hW1];simp (disch:=try exact DI) only [↓PR,QR,simprocAttr]
 simp only [hW1,hsz]
 refine CJ (w1:=W1) (((Ext.refl W1).alloc _).alloc _) ?_
 simp (disch:=try exact DI) only [↓PR,QR,simprocAttr,↓zN,↓zw,↓zE,hc0,hc1]
 generalize hW:(World.drew _)=W
 have e1:Ext W1 W:=by rw [← hW];exact (((Ext.refl W1).alloc _).alloc _).wdrew
 have hpb:W.cell? ⟨W1.heap.size+1,0,none⟩=some (.map (some W1.heap.size)):=by rw [← hW];simp (disch:=try exact DI) only [↓PR,QR,simprocAttr]
 have hset:UV W W1.heap.size []:=by
  rw [← hW]
  have h:=(jb.new W1).ext (((Ext.refl _).alloc (Obj.cells (#[Value.map none].setIfInBounds 0 (Value.map (some W1.heap.size))) 162)).wdrew)
  exact ⟨[],0,by simpa using h,λ s=>rfl⟩
 clear hW
 refine zcr (Bf _ base) λ w1 e2=>?_
 refine ⟨e1.trans e2,?_⟩
 simp (disch:=try exact DI) only [↓PR,QR,simprocAttr]
 refine ⟨e1.trans (e2.alloc _),?_⟩
 refine zcr (N9 rfl _ _ _) λ w2 e3=>?_
 replace e2:=(e2.alloc _).trans e3
 refine ⟨e1.trans e2,?_⟩
 simp (disch:=try exact DI) only [↓PR,QR,simprocAttr,↓zN,↓zw,↓zE]
 unfold Q3
 cases hb:(Wc base&&decide (ts.length≤4)) with
 | false =>
  have hb':(Wc base&&decide ((ts.length:Int)≤4))=false:=by rw [← hb];congr 1;simp;omega
  rw [hb']
  simp (disch:=try exact DI) only [↓PR,QR,simprocAttr,↓zN,↓zw,↓zE,hc0,hc1]
  exact ⟨by trivial,e0.trans (e1.trans e2)⟩
 | true =>
  have hb':(Wc base&&decide ((ts.length:Int)≤4))=true:=by rw [← hb];congr 1;simp;omega
  rw [hb']
  simp (disch:=try exact DI) only [↓PR,QR,simprocAttr,↓zN,↓zw,↓zE,hc0,hc1]
  refine Zt (Jc W1 w2 _ ts 233 _ (λ k=>match ts[k]? with | some t=>Un ((ts.take k).map (·.field)) t.field||!Wv t | none=>true) (λ k w=>UV w W1.heap.size ((ts.take k).map (·.field))∧w.cell? ⟨W1.heap.size+1,0,none⟩=some (.map (some W1.heap.size))∧Ext W1 w) (hT.ext e0) Zf6 (λ k w h=>h.2.2) ⟨hset.ext e2,e2.cell hpb,e1.trans e2⟩ ?_) ?_
  · rintro k x w u hx ⟨h1,h2,h3⟩ rfl
    simp only [hsz]
    refine Ret.mono (Dg w x _ _ _ h2 h1) ?_
    rintro v w' ⟨rfl,h4,h5,h6⟩
    refine ⟨by rw [hx],?_,h5,h6 _ h3 (Nat.le_refl _)⟩
    rw [List.take_add_one,hx]
    simpa using h4
  · rintro _ w3 ⟨rfl,k,h1,h2,h3⟩
    refine ⟨h3,?_⟩
    simp (disch:=try exact DI) only [↓PR,QR,simprocAttr,↓zN,↓zw,↓zE]
    refine ⟨?_,e0.trans h3⟩
    congr 1
    rw [Bool.eq_iff_iff,VJ,Bool.not_eq_true',List.any_eq_false]
    simp only [List.mem_range,List.nil_append]
    constructor
    · intro h k x hx
      have:=h k (List.getElem?_eq_some_iff.1 hx).1
      rw [hx] at this
      simpa using this
    · intro h k hk
      rw [List.getElem?_eq_getElem hk]
      have:=h k _ (List.getElem?_eq_getElem hk)
      simpa using this
def Te (t7 t28 t40:Value) (C2:World→Prop) (next1:KV) (R:RT) (w:World):Prop :=
 qV Pg C2 (Instr.fieldAt 28 t7 1) λ t41 =>
 opU Pg (Instr.storeAt 26 t41 t40) (Zd R) w λ w =>
 VS w λ C3 w =>
 B0 .add 3 true t28 (.int .i64 1) R w λ t42 w =>
 next1 t42 w
def RM (t6 t7 t28 t31:Value) (C2:World→Prop) (next1:KV) (R:RT) (w:World):Prop :=
 qV Pg C2 (Instr.fieldAt 28 t7 1) λ t32 =>
 qV Pg C2 (Instr.loadAt 26 t32) λ t33 =>
 qV Pg C2 (Instr.fieldAt 28 t6 1) λ t34 =>
 qV Pg C2 (Instr.loadAt 26 t34) λ t35 =>
 qV Pg C2 (Instr.indexAt 26 t35 t31) λ t37 =>
 qV Pg C2 (Instr.loadAt 24 t37) λ t38 =>
 opV Pg (Instr.buildSlice 26 1 #[(0,t38)]) (Zd R) w λ t39 w =>
 C2 w∧(
 opV Pg (Builtin.append_ #[26,26] 26 #[t33,t39]) (Zd R) w λ t40 w =>
 C2 w∧(
 Te t7 t28 t40 C2 next1 R w))
def S9 (t2 t7:Value) (R:RT) (w:World):Prop :=
 L0 28 t7 R w λ t43 w =>
 opU Pg (Instr.storeAt 28 t2 t43) (Zd R) w λ w =>
 qW Pg 28 t2 w λ r0 =>
 R (.returned (.tuple #[r0,(.int .i64 0)])) w
def RX (t6 t7 t13 t28:Value) (next1:KV) (R:RT) (w:World):Prop :=
 X0 30 t13 t28 R w λ t30 w =>
 L0 3 t30 R w λ t31 w =>
 Yp w λ C2 w =>
 RM t6 t7 t28 t31 C2 next1 R w
def RH (t1 t2 t13 t20:Value) (R:RT) (w:World):Prop :=
 opV Pg (Instr.alloc 28 true (.tuple #[])) (Zd R) w λ t6 w =>
 opU Pg (Instr.storeAt 28 t6 t20) (Zd R) w λ w =>
 F0 28 t1 0 R w λ t21 w =>
 L0 9 t21 R w λ t22 w =>
 F0 28 t1 2 R w λ t23 w =>
 L0 9 t23 R w λ t24 w =>
 opV Pg (Instr.build 28 #[(0,t22),(2,t24)]) (Zd R) w λ t25 w =>
 opV Pg (Instr.alloc 28 true (.tuple #[])) (Zd R) w λ t7 w =>
 opU Pg (Instr.storeAt 28 t7 t25) (Zd R) w λ w =>
 opV Pg (Builtin.len_ #[30] 3 #[t13]) (Zd R) w λ t27 w =>
 Yi (λ t28 w next1 =>
 B0 .lss 3 false t28 t27 R w λ t29 w =>
 Zr t29 (
 RX t6 t7 t13 t28 next1 R w) (
 S9 t2 t7 R w)) (.int .i64 0) w
def R7 (t1 t2 t12:Value) (R:RT) (w:World):Prop :=
 opV Pg (Instr.extract t12 0) (Zd R) w λ t13 w =>
 opV Pg (Instr.extract t12 1) (Zd R) w λ t14 w =>
 B0 .neq 31 true t14 (.int .i64 0) R w λ t16 w =>
 Zr t16 (
 opV Pg (Instr.build 28 #[]) (Zd R) w λ t17 w =>
 opU Pg (Instr.storeAt 28 t2 t17) (Zd R) w λ w =>
 qW Pg 28 t2 w λ r0 =>
 R (.returned (.tuple #[r0,t14])) w) (
 L0 28 t1 R w λ t19 w =>
 C0 28 #[t19] R w λ t20 w =>
 RH t1 t2 t13 t20 R w)
def n98 (t0:Value) (R:RT) (w:World):Prop :=
 opV Pg (Instr.box 28 t0) (Zd R) w λ t1 w =>
 opV Pg (Instr.alloc 28 true (.tuple #[])) (Zd R) w λ t2 w =>
 L0 28 t1 R w λ t11 w =>
 C0 20 #[t11] R w λ t12 w =>
 R7 t1 t2 t12 R w
theorem Zdu {t0:Value} {R:RT} {w:World} (h:n98 t0 R w):Calls Pg 26 #[t0] w R:=by
 refine yD Tryz.func26 ?_
 refine zs<|zr<|yv h λ _ w h=>yv h λ _ w h=>zm<|zn<|zk<|zs<|zr<|yv h λ _ w h=>yc h c20 λ _ w h=>zm<|yv h λ _ w h=>yv h λ _ w h=>zm ?_
 refine zm<|zn<|zk<|zs<|zs<|zr<|zm<|yb h λ _ w h=>zn<|zk<|yC h (λ h=>zs<|zr<|yB h λ _ w h=>zm<|yu h λ w h=>zm<|zn<|zk<|Zk<|Zb<|Yr rfl rfl rfl h) λ h=>Zh<|zk<|zs ?_
 refine zr<|yv h λ _ w h=>yc h c28 λ _ w h=>yv h λ _ w h=>yu h λ w h=>zn<|zk<|zs<|zr<|yv h λ _ w h=>yv h λ _ w h=>yv h λ _ w h=>yv h λ _ w h=>yB h λ _ w h=>yv h λ _ w h=>?_
 refine yu h λ w h=>zn<|zk<|zs<|zs<|zr<|zm<|yx h λ _ w h=>zm<|zn<|zk<|Zj<|yl1 [9,28,29,30,31,32,33,34,35,36,37,38,39,40,41,42] 28 h λ σ w next h=>zs<|zr ?_
 refine yb h λ _ w h=>zn<|zk<|zs<|yC h (λ h=>?_) λ h=>?_
 · refine Zh<|zk<|zs<|Zj<|zs<|zr<|yv h λ _ w h=>yv h λ _ w h=>zm<|zn<|zk<|yh [32,33,34,35,36,37,38,39,40,41] h λ C hC h=>ye 0 hC h λ _ h=>?_
   refine ye 1 hC h λ _ h=>?_
   refine ye 2 hC h λ _ h=>?_
   refine ye 3 hC h λ _ h=>?_
   refine yw 4 hC ?_
   refine ye 5 hC h λ _ h=>?_
   refine ye 6 hC h λ _ h=>?_
   refine yo 7 ?_
   refine yS h λ _ w h=>zn ?_
   obtain ⟨hC,h⟩:=h
   refine ⟨hC,?_⟩
   refine yo 8 ?_
   refine yx h λ _ w h=>zn ?_
   obtain ⟨hC,h⟩:=h
   refine ⟨hC,?_⟩
   refine ye 9 hC h λ _ h=>?_
   refine yq 10 1 ?_
   refine yu h λ w h=>zn ?_
   obtain ⟨C3,hC,h⟩:=h
   refine ⟨C3,hC,?_⟩
   exact yz<|Zg<|zk<|zr<|yb h λ _ w h=>zm<|zn<|zk<|⟨rfl,h⟩
 exact Zy<|Zc<|Zc<|Zn<|zk<|zs<|zr<|yv h λ _ w h=>yu h λ w h=>zm<|zn<|zk<|Zk<|Yr rfl rfl rfl h
def HU (t8 t78:Value) (C8:World→Prop) (next7:KV) (R:RT) (w:World):Prop :=
 C8 w∧(
 qV Pg C8 (Op.unary .not t78) λ t79 =>
 Zr t79 (
 R (.returned (.bool false)) w) (
 B0 .add 3 true t8 (.int .i64 1) R w λ t67 w =>
 next7 t67 w))
def Ig (t6 t7 t8:Value) (C8:World→Prop) (next7:KV) (R:RT) (w:World):Prop :=
 qV Pg C8 (Instr.fieldAt 24 t6 1) λ t68 =>
 qV Pg C8 (Instr.loadAt 22 t68) λ t69 =>
 qV Pg C8 (Instr.indexAt 22 t69 t8) λ t71 =>
 qV Pg C8 (Instr.loadAt 48 t71) λ t72 =>
 qV Pg C8 (Instr.fieldAt 24 t7 1) λ t73 =>
 qV Pg C8 (Instr.loadAt 22 t73) λ t74 =>
 qV Pg C8 (Instr.indexAt 22 t74 t8) λ t76 =>
 qV Pg C8 (Instr.loadAt 48 t76) λ t77 =>
 C0 57 #[t72,t77] R w λ t78 w =>
 HU t8 t78 C8 next7 R w
def HY (t5 t6 t7 t8:Value) (next3:KV) (next7:KV) (R:RT) (w:World):Prop :=
 F0 24 t6 1 R w λ t62 w =>
 L0 22 t62 R w λ t63 w =>
 opV Pg (Builtin.len_ #[22] 3 #[t63]) (Zd R) w λ t64 w =>
 B0 .lss 3 false t8 t64 R w λ t65 w =>
 Zr t65 (
 Yp w λ C8 w =>
 Ig t6 t7 t8 C8 next7 R w) (
 B0 .add 3 true t5 (.int .i64 1) R w λ t36 w =>
 next3 t36 w)
def DO (t5 t6 t7:Value) (next3:KV) (R:RT) (w:World):Prop :=
 F0 24 t6 0 R w λ t47 w =>
 L0 9 t47 R w λ t48 w =>
 F0 24 t7 0 R w λ t49 w =>
 L0 9 t49 R w λ t50 w =>
 B0 .neq 9 false t48 t50 R w λ t51 w =>
 Zq (λ (t59:Value) (w:World) =>
 Zu t51 (.bool true) t59 λ t60 =>
 Zr t60 (
 R (.returned (.bool false)) w) (
 Yi (λ t8 w next7 =>
 HY t5 t6 t7 t8 next3 next7 R w) (.int .i64 0) w)) λ K6 =>
 Zl t51 false (
 F0 24 t6 1 R w λ t53 w =>
 L0 22 t53 R w λ t54 w =>
 opV Pg (Builtin.len_ #[22] 3 #[t54]) (Zd R) w λ t55 w =>
 F0 24 t7 1 R w λ t56 w =>
 L0 22 t56 R w λ t57 w =>
 opV Pg (Builtin.len_ #[22] 3 #[t57]) (Zd R) w λ t58 w =>
 B0 .neq 3 false t55 t58 R w λ t59 w =>
 K6 t59 w) (
 K6 undef w)
def Il (t6 t41 t46:Value) (C4:World→Prop) (K5:KW) (R:RT) (w:World):Prop :=
 opV Pg (Instr.alloc 24 true (.tuple #[])) (Zd R) w λ t7 w =>
 C4 w∧(
 opU Pg (Instr.storeAt 24 t6 t41) (Zd R) w λ w =>
 C4 w∧(
 opU Pg (Instr.storeAt 24 t7 t46) (Zd R) w λ w =>
 VS w λ C9 w =>
 K5 t6 t7 w))
def Ij (t7 t41 t46:Value) (C4:World→Prop) (K5:KW) (R:RT) (w:World):Prop :=
 opV Pg (Instr.alloc 24 true (.tuple #[])) (Zd R) w λ t6 w =>
 C4 w∧(
 opU Pg (Instr.storeAt 24 t6 t41) (Zd R) w λ w =>
 C4 w∧(
 opU Pg (Instr.storeAt 24 t7 t46) (Zd R) w λ w =>
 VS w λ C10 w =>
 K5 t6 t7 w))
def IT (t2 t3 t5:Value) (C4:World→Prop) (next3:KV) (R:RT) (w:World):Prop :=
 qV Pg C4 (Instr.fieldAt 28 t2 1) λ t37 =>
 qV Pg C4 (Instr.loadAt 26 t37) λ t38 =>
 qV Pg C4 (Instr.indexAt 26 t38 t5) λ t40 =>
 qV Pg C4 (Instr.loadAt 24 t40) λ t41 =>
 qV Pg C4 (Instr.fieldAt 28 t3 1) λ t42 =>
 qV Pg C4 (Instr.loadAt 26 t42) λ t43 =>
 qV Pg C4 (Instr.indexAt 26 t43 t5) λ t45 =>
 qV Pg C4 (Instr.loadAt 24 t45) λ t46 =>
 Zq (λ (t6:Value) (t7:Value) (w:World) =>
 DO t5 t6 t7 next3 R w) λ K5 =>
 (
 opV Pg (Instr.alloc 24 true (.tuple #[])) (Zd R) w λ t6 w =>
 C4 w∧(
 Il t6 t41 t46 C4 K5 R w))∧(
 opV Pg (Instr.alloc 24 true (.tuple #[])) (Zd R) w λ t7 w =>
 C4 w∧(
 Ij t7 t41 t46 C4 K5 R w))
def IR (t2 t3 t5:Value) (next3:KV) (R:RT) (w:World):Prop :=
 F0 28 t2 1 R w λ t31 w =>
 L0 26 t31 R w λ t32 w =>
 opV Pg (Builtin.len_ #[26] 3 #[t32]) (Zd R) w λ t33 w =>
 B0 .lss 3 false t5 t33 R w λ t34 w =>
 Zr t34 (
 Yp w λ C4 w =>
 IT t2 t3 t5 C4 next3 R w) (
 R (.returned (.bool true)) w)
def Dm (t2 t3 t13 t19:Value) (R:RT) (w:World):Prop :=
 Zu t13 (.bool true) t19 λ t20 =>
 Zq (λ (t28:Value) (w:World) =>
 Zu t20 (.bool true) t28 λ t29 =>
 Zr t29 (
 R (.returned (.bool false)) w) (
 Yi (λ t5 w next3 =>
 IR t2 t3 t5 next3 R w) (.int .i64 0) w)) λ K2 =>
 Zl t20 false (
 F0 28 t2 1 R w λ t22 w =>
 L0 26 t22 R w λ t23 w =>
 opV Pg (Builtin.len_ #[26] 3 #[t23]) (Zd R) w λ t24 w =>
 F0 28 t3 1 R w λ t25 w =>
 L0 26 t25 R w λ t26 w =>
 opV Pg (Builtin.len_ #[26] 3 #[t26]) (Zd R) w λ t27 w =>
 B0 .neq 3 false t24 t27 R w λ t28 w =>
 K2 t28 w) (
 K2 undef w)
def n23 (t0 t1:Value) (R:RT) (w:World):Prop :=
 opV Pg (Instr.box 28 t0) (Zd R) w λ t2 w =>
 opV Pg (Instr.box 28 t1) (Zd R) w λ t3 w =>
 F0 28 t2 0 R w λ t9 w =>
 L0 9 t9 R w λ t10 w =>
 F0 28 t3 0 R w λ t11 w =>
 L0 9 t11 R w λ t12 w =>
 B0 .neq 9 false t10 t12 R w λ t13 w =>
 Zq (λ (t19:Value) (w:World) =>
 Dm t2 t3 t13 t19 R w) λ K1 =>
 Zl t13 false (
 F0 28 t2 2 R w λ t15 w =>
 L0 9 t15 R w λ t16 w =>
 F0 28 t3 2 R w λ t17 w =>
 L0 9 t17 R w λ t18 w =>
 B0 .neq 9 false t16 t18 R w λ t19 w =>
 K1 t19 w) (
 K1 undef w)
set_option maxHeartbeats 40000000 in
theorem Zfh {t0 t1:Value} {R:RT} {w:World} (h:n23 t0 t1 R w):Calls Pg 27 #[t0,t1] w R:=by
 refine yD Tryz.func27 ?_
 refine zs<|zr<|yv h λ _ w h=>yv h λ _ w h=>zm<|zn<|zk<|zs<|zs<|Zs<|yG 6<|yv h λ _ w h=>yv h λ _ w h=>yv h λ _ w h=>yv h λ _ w h=>?_
 refine yb h λ _ w h=>zm<|zn<|yg1 5 5 false [15,16,17,18,19] 19 h (λ _ T hT h=>?_) λ σ w h=>?_
 · refine yv h λ _ w h=>yv h λ _ w h=>yv h λ _ w h=>yv h λ _ w h=>yb h λ _ w h=>zn ?_
   exact zt hT h
 refine yG 2<|yp h λ _ h=>zm<|zn<|yg1 7 12 false [22,23,24,25,26,27,28] 28 h (λ _ T hT h=>?_) λ σ w h=>?_
 · refine yv h λ _ w h=>yv h λ _ w h=>yx h λ _ w h=>yv h λ _ w h=>yv h λ _ w h=>yx h λ _ w h=>yb h λ _ w h=>zn ?_
   exact zt hT h
 refine yG 1<|yp h λ _ h=>zn<|ZG<|zk<|yC h (λ h=>zs<|zr<|zm<|zn<|zk<|Zk<|Zb<|Zi rfl rfl h) λ h=>Zh<|zk<|zs<|zs<|zr<|zm<|zn<|zk ?_
 refine Zj<|yl1 [4,5,6,7,8,30,31,32,33,34,35,36,37,38,39,40,41,42,43,44,45,46,47,48,49,50,51,52,53,54,55,56,57,58,59,60,61,62,63,64,65,66,67,68,69,70,71,72,73,74,75,76,77,78,79] 5 h λ σ w next h=>zs<|zs<|zr<|zm<|yv h λ _ w h=>yv h λ _ w h=>yx h λ _ w h=>yb h λ _ w h=>zn<|zk<|yC h (λ h=>?_) λ h=>?_
 · refine Zh<|zk<|zs<|Zj<|zs<|yh [6,7,37,38,39,40,41,42,43,44,45,46] h λ C hC h=>ye 0 hC h λ _ h=>?_
   refine ye 1 hC h λ _ h=>?_
   refine yw 2 hC ?_
   refine ye 3 hC h λ _ h=>?_
   refine ye 4 hC h λ _ h=>?_
   refine ye 5 hC h λ _ h=>?_
   refine ye 6 hC h λ _ h=>?_
   refine yw 7 hC ?_
   refine ye 8 hC h λ _ h=>?_
   refine ye 9 hC h λ _ h=>?_
   refine J0 h (λ K5 hK h=>?_)
   refine zS [6,7] (λ ρ w=>K5 (ρ 6) (ρ 7) w) (λ T hT=>?_) (λ σ w h=>?_)
   · obtain ⟨h0,h1⟩:=h
     refine Uw 10 11 rfl rfl (by kernel_rfl) (λ _ _=>rfl) (λ _ _=>rfl) ?_ ?_
     · have h:=h0
       refine yv h λ _ w h=>zn ?_
       obtain ⟨hC,h⟩:=h
       refine ⟨_,λ _ h=>h,hC,?_⟩
       refine yo 11 ?_
       refine yv h λ _ w h=>zn ?_
       obtain ⟨hC,h⟩:=h
       refine ⟨hC,?_⟩
       refine yo 12 ?_
       refine yu h λ w h=>zn ?_
       obtain ⟨hC,h⟩:=h
       refine ⟨hC,?_⟩
       refine yq 13 1 ?_
       refine yu h λ w h=>zn ?_
       obtain ⟨C9,hC,h⟩:=h
       refine ⟨C9,hC,?_⟩
       refine yz ?_
       exact zt hT h
     have h:=h1
     refine yv h λ _ w h=>zn ?_
     obtain ⟨hC,h⟩:=h
     refine ⟨_,λ _ h=>h,hC,?_⟩
     refine yo 10 ?_
     refine yv h λ _ w h=>zn ?_
     obtain ⟨hC,h⟩:=h
     refine ⟨hC,?_⟩
     refine yo 12 ?_
     refine yu h λ w h=>zn ?_
     obtain ⟨hC,h⟩:=h
     refine ⟨hC,?_⟩
     refine yq 13 1 ?_
     refine yu h λ w h=>zn ?_
     obtain ⟨C10,hC,h⟩:=h
     refine ⟨C10,hC,?_⟩
     refine yz ?_
     exact zt hT h
   subst hK
   refine zk<|zs<|zs<|Zs<|yG 6<|yv h λ _ w h=>yv h λ _ w h=>yv h λ _ w h=>yv h λ _ w h=>yb h λ _ w h=>zm<|zn<|yg1 7 5 false [53,54,55,56,57,58,59] 59 h (λ _ T hT h=>?_) λ σ w h=>?_
   · refine yv h λ _ w h=>yv h λ _ w h=>yx h λ _ w h=>yv h λ _ w h=>yv h λ _ w h=>yx h λ _ w h=>yb h λ _ w h=>zn ?_
     exact zt hT h
   refine yG 1<|yp h λ _ h=>zn<|ZG<|zk<|yC h (λ h=>zs<|zr<|zm<|zn<|zk<|Zk<|Zb<|Zf<|Zb<|Zb<|Zf<|Zb<|Zi rfl rfl h) λ h=>Zh<|zk<|zs<|zr<|zm<|zn<|zk<|Zj ?_
   refine yl1 [4,8,61,62,63,64,65,66,67,68,69,70,71,72,73,74,75,76,77,78,79] 8 h λ σ w next h=>zs<|zs<|zr<|zm<|yv h λ _ w h=>yv h λ _ w h=>yx h λ _ w h=>yb h λ _ w h=>zn<|zk<|yC h (λ h=>?_) λ h=>?_
   · refine Zh<|zk<|zs<|Zj<|zs<|yh [68,69,70,71,72,73,74,75,76,77,78,79] h λ C hC h=>ye 0 hC h λ _ h=>?_
     refine ye 1 hC h λ _ h=>?_
     refine yw 2 hC ?_
     refine ye 3 hC h λ _ h=>?_
     refine ye 4 hC h λ _ h=>?_
     refine ye 5 hC h λ _ h=>?_
     refine ye 6 hC h λ _ h=>?_
     refine yw 7 hC ?_
     refine ye 8 hC h λ _ h=>?_
     refine ye 9 hC h λ _ h=>?_
     refine yo 10 ?_
     refine yc h c57 λ _ w h=>zn ?_
     obtain ⟨hC,h⟩:=h
     refine ⟨hC,?_⟩
     refine ye 11 hC h λ _ h=>?_
     refine yz<|zk<|yC h (λ h=>?_) λ h=>?_
     · refine zs<|zr<|zm<|zn<|zk<|Zk<|Zf<|Zb<|Zb<|Zf<|Zf<|Zb<|Zb<|Zf<|Zb ?_
       exact Zi rfl rfl h
     exact Zh<|Zg<|zk<|zr<|zm<|yb h λ _ w h=>zm<|zn<|zk<|⟨rfl,h⟩
   exact Zy<|Zc<|Zc<|Zn<|Zg<|zk<|zr<|zm<|yb h λ _ w h=>zm<|zn<|zk<|⟨rfl,h⟩
 exact Zy<|Zc<|Zc<|Zn<|zk<|zs<|zr<|zm<|zn<|zk<|Zk<|Zi rfl rfl h
def Jz (t34 t42 t55:Value) (C4:World→Prop) (next2:KV) (R:RT) (w:World):Prop :=
 qN Pg C4 (YM t42) λ t59 =>
 qV Pg C4 (Instr.fieldAt 48 t59 11) λ t60 =>
 opU Pg (Instr.storeAt 46 t60 t55) (Zd R) w λ w =>
 VS w λ C5 w =>
 B0 .add 3 true t34 (.int .i64 1) R w λ t61 w =>
 next2 t61 w
def JP (t34 t42 t50 t55:Value) (C3:World→Prop) (next2:KV) (R:RT) (w:World):Prop :=
 qN Pg C3 (YM t42) λ t56 =>
 qV Pg C3 (Instr.fieldAt 48 t56 7) λ t57 =>
 qV Pg C3 (Instr.fieldAt 45 t57 1) λ t58 =>
 opU Pg (Instr.storeAt 43 t58 t50) (Zd R) w λ w =>
 VS w λ C4 w =>
 Jz t34 t42 t55 C4 next2 R w
def JL (t34 t42:Value) (C3:World→Prop) (next2:KV) (R:RT) (w:World):Prop :=
 qN Pg C3 (YM t42) λ t46 =>
 qV Pg C3 (Instr.fieldAt 48 t46 7) λ t47 =>
 qV Pg C3 (Instr.fieldAt 45 t47 1) λ t48 =>
 qV Pg C3 (Instr.loadAt 43 t48) λ t49 =>
 qN Pg C3 (YM t42) λ t52 =>
 qV Pg C3 (Instr.fieldAt 48 t52 11) λ t53 =>
 qV Pg C3 (Instr.loadAt 46 t53) λ t54 =>
 C0 60 #[t49] R w λ t50 w =>
 C3 w∧(
 C0 61 #[t54] R w λ t55 w =>
 C3 w∧(
 JP t34 t42 t50 t55 C3 next2 R w))
def JG (t20 t34:Value) (next2:KV) (R:RT) (w:World):Prop :=
 opN Pg (YM t20) (Zd R) w λ t38 w =>
 F0 24 t38 1 R w λ t39 w =>
 L0 22 t39 R w λ t40 w =>
 X0 22 t40 t34 R w λ t42 w =>
 Yp w λ C3 w =>
 JL t34 t42 C3 next2 R w
def JD (t14 t20 t33 t34:Value) (next1:KV) (next2:KV) (R:RT) (w:World):Prop :=
 B0 .lss 3 false t34 t33 R w λ t35 w =>
 Zr t35 (
 JG t20 t34 next2 R w) (
 B0 .add 3 true t14 (.int .i64 1) R w λ t62 w =>
 next1 t62 w)
def JI (t14 t20 t26:Value) (next1:KV) (R:RT) (w:World):Prop :=
 opN Pg (YM t20) (Zd R) w λ t27 w =>
 F0 24 t27 1 R w λ t28 w =>
 opU Pg (Instr.storeAt 22 t28 t26) (Zd R) w λ w =>
 opN Pg (YM t20) (Zd R) w λ t30 w =>
 F0 24 t30 1 R w λ t31 w =>
 L0 22 t31 R w λ t32 w =>
 opV Pg (Builtin.len_ #[22] 3 #[t32]) (Zd R) w λ t33 w =>
 Yi (λ t34 w next2 =>
 JD t14 t20 t33 t34 next1 next2 R w) (.int .i64 0) w
def JA (t1 t14:Value) (next1:KV) (R:RT) (w:World):Prop :=
 F0 28 t1 1 R w λ t17 w =>
 L0 26 t17 R w λ t18 w =>
 X0 26 t18 t14 R w λ t20 w =>
 opN Pg (YM t20) (Zd R) w λ t23 w =>
 F0 24 t23 1 R w λ t24 w =>
 L0 22 t24 R w λ t25 w =>
 C0 59 #[t25] R w λ t26 w =>
 JI t14 t20 t26 next1 R w
def JJ (t1 t2 t13 t14:Value) (next1:KV) (R:RT) (w:World):Prop :=
 B0 .lss 3 false t14 t13 R w λ t15 w =>
 Zr t15 (
 JA t1 t14 next1 R w) (
 L0 28 t1 R w λ t63 w =>
 opU Pg (Instr.storeAt 28 t2 t63) (Zd R) w λ w =>
 qW Pg 28 t2 w λ r0 =>
 R (.returned r0) w)
def JH (t1 t2 t9:Value) (R:RT) (w:World):Prop :=
 F0 28 t1 1 R w λ t10 w =>
 opU Pg (Instr.storeAt 26 t10 t9) (Zd R) w λ w =>
 F0 28 t1 1 R w λ t11 w =>
 L0 26 t11 R w λ t12 w =>
 opV Pg (Builtin.len_ #[26] 3 #[t12]) (Zd R) w λ t13 w =>
 Yi (λ t14 w next1 =>
 JJ t1 t2 t13 t14 next1 R w) (.int .i64 0) w
def n45 (t0:Value) (R:RT) (w:World):Prop :=
 opV Pg (Instr.box 28 t0) (Zd R) w λ t1 w =>
 opV Pg (Instr.alloc 28 true (.tuple #[])) (Zd R) w λ t2 w =>
 F0 28 t1 1 R w λ t7 w =>
 L0 26 t7 R w λ t8 w =>
 C0 58 #[t8] R w λ t9 w =>
 JH t1 t2 t9 R w
theorem Ze1 {t0:Value} {R:RT} {w:World} (h:n45 t0 R w):Calls Pg 28 #[t0] w R:=by
 refine yD Tryz.func28 ?_
 refine zs<|zr<|yv h λ _ w h=>yv h λ _ w h=>zn<|zk<|zs<|zr<|yv h λ _ w h=>yv h λ _ w h=>yc h c58 λ _ w h=>yv h λ _ w h=>yu h λ w h=>zn<|zk ?_
 refine zs<|zs<|zr<|yv h λ _ w h=>yv h λ _ w h=>yx h λ _ w h=>zm<|zn<|zk<|Zj<|yl1 [3,4,5,6,14,15,16,17,18,19,20,21,22,23,24,25,26,27,28,29,30,31,32,33,34,35,36,37,38,39,40,41,42,43,44,45,46,47,48,49,50,51,52,53,54,55,56,57,58,59,60,61,62] 14 h λ σ w next h=>zs<|zr<|yb h λ _ w h=>zn ?_
 refine zk<|zs<|yC h (λ h=>?_) λ h=>?_
 · refine Zh<|zk<|zs<|Zj<|zs<|zr<|zm<|zm<|zn<|zk<|zs<|zr<|yv h λ _ w h=>yv h λ _ w h=>zm ?_
   refine yv h λ _ w h=>zm<|zn<|zk<|zs<|zr<|zm<|zm<|yN h λ _ w h=>yv h λ _ w h=>yv h λ _ w h=>yc h c59 λ _ w h=>yN h λ _ w h=>yv h λ _ w h=>yu h λ w h=>?_
   refine zn<|zk<|zs<|zr<|zm<|yN h λ _ w h=>yv h λ _ w h=>yv h λ _ w h=>yx h λ _ w h=>zm<|zn<|zk<|Zj<|yl1 [5,6,34,35,36,37,38,39,40,41,42,43,44,45,46,47,48,49,50,51,52,53,54,55,56,57,58,59,60,61] 34 h λ σ w next h=>zs ?_
   refine zr<|yb h λ _ w h=>zn<|zk<|zs<|yC h (λ h=>?_) λ h=>?_
   · refine Zh<|zk<|zs<|Zj<|zs<|zr<|zm<|zm<|zn<|zk<|zs<|zr<|zm<|yN h λ _ w h=>yv h λ _ w h=>?_
     refine yv h λ _ w h=>zm<|yv h λ _ w h=>zm<|zn<|zk<|yh [43,44,45,46,47,48,49,50,51,52,53,54,55,56,57,58,59,60] h λ C hC h=>yw 0 hC ?_
     refine yw 1 hC ?_
     refine yw 2 hC ?_
     refine yn 3 hC h λ _ h=>?_
     refine ye 4 hC h λ _ h=>?_
     refine ye 5 hC h λ _ h=>?_
     refine ye 6 hC h λ _ h=>?_
     refine yw 8 hC ?_
     refine yn 9 hC h λ _ h=>?_
     refine ye 10 hC h λ _ h=>?_
     refine ye 11 hC h λ _ h=>?_
     refine yo 7 ?_
     refine yc h c60 λ _ w h=>zn ?_
     obtain ⟨hC,h⟩:=h
     refine ⟨hC,?_⟩
     refine yo 12 ?_
     refine yc h c61 λ _ w h=>zn ?_
     obtain ⟨hC,h⟩:=h
     refine ⟨hC,?_⟩
     refine yn 13 hC h λ _ h=>?_
     refine ye 14 hC h λ _ h=>?_
     refine ye 15 hC h λ _ h=>?_
     refine yq 16 3 ?_
     refine yu h λ w h=>zn ?_
     obtain ⟨C4,hC,h⟩:=h
     refine ⟨C4,hC,?_⟩
     refine yn 17 hC h λ _ h=>?_
     refine ye 18 hC h λ _ h=>?_
     refine yq 19 2 ?_
     refine yu h λ w h=>zn ?_
     obtain ⟨C5,hC,h⟩:=h
     refine ⟨C5,hC,?_⟩
     exact yz<|Zg<|zk<|zr<|yb h λ _ w h=>zm<|zn<|zk<|⟨rfl,h⟩
   exact Zy<|Zc<|Zc<|Zn<|Zg<|zk<|zr<|yb h λ _ w h=>zm<|zn<|zk<|⟨rfl,h⟩
 exact Zy<|Zc<|Zc<|Zn<|zk<|zs<|zr<|yv h λ _ w h=>yu h λ w h=>zn<|zk<|Zk<|zv rfl rfl h
def Tb (t7:Value) (R:RT) (w:World):Prop :=
 opV Pg (Instr.extract t7 0) (Zd R) w λ t8 w =>
 opV Pg (Instr.extract t7 1) (Zd R) w λ t9 w =>
 opV Pg (Instr.alloc 90 true (.tuple #[])) (Zd R) w λ t3 w =>
 opU Pg (Instr.storeAt 90 t3 t8) (Zd R) w λ w =>
 opV Pg (Op.unary .not t9) (Zd R) w λ t11 w =>
 R (.returned t11) w
def n54 (t0:Value) (R:RT) (w:World):Prop :=
 opV Pg (Instr.box 28 t0) (Zd R) w λ t1 w =>
 L0 28 t1 R w λ t6 w =>
 C0 62 #[t6] R w λ t7 w =>
 Tb t7 R w
theorem Zdt {t0:Value} {R:RT} {w:World} (h:n54 t0 R w):Calls Pg 29 #[t0] w R:=by
 refine yD Tryz.func29 ?_
 refine zs<|zr<|yv h λ _ w h=>zm<|zn<|zk<|zs<|zr<|yv h λ _ w h=>yc h c62 λ _ w h=>zm<|yv h λ _ w h=>yv h λ _ w h=>yv h λ _ w h=>yu h λ w h=>?_
 exact zm<|zn<|zk<|zs<|zr<|zm<|yv h λ _ w h=>zm<|zn<|zk<|Zk<|Zi rfl rfl h
def n48 (t0 t1:Value) (R:RT) (w:World):Prop :=
 opV Pg (Instr.box 28 t0) (Zd R) w λ t2 w =>
 opV Pg (Instr.box 9 t1) (Zd R) w λ t3 w =>
 F0 28 t2 1 R w λ t6 w =>
 L0 26 t6 R w λ t7 w =>
 opV Pg (Instr.makeFunc (.func 68) #[] #[t3]) (Zd R) w λ t8 w =>
 C0 67 #[t7,t8] R w λ t9 w =>
 opV Pg (Instr.extract t9 0) (Zd R) w λ t10 w =>
 opV Pg (Instr.extract t9 1) (Zd R) w λ t11 w =>
 R (.returned (.tuple #[t10,t11])) w
theorem ZfI {t0 t1:Value} {R:RT} {w:World} (h:n48 t0 t1 R w):Calls Pg 31 #[t0,t1] w R:=by
 refine yD Tryz.func31 ?_
 refine zs<|zr<|yv h λ _ w h=>yv h λ _ w h=>zm<|zm<|zn<|zk<|zs<|zr<|yv h λ _ w h=>yv h λ _ w h=>yF h λ _ w h=>yc h c67 λ _ w h=>yv h λ _ w h=>?_
 exact yv h λ _ w h=>zm<|zm<|zn<|zk<|Zk<|Yx rfl rfl rfl h
def n10 (R:RT) (w:World):Prop :=
 opV Pg (Instr.alloc 28 true (.tuple #[])) (Zd R) w λ t0 w =>
 opV Pg (Instr.build 48 #[(0,(.string { data := #[110] })),(1,(.int .i64 1)),(2,(.int .i64 8)),(6,(.int .i64 9))]) (Zd R) w λ t2 w =>
 opV Pg (Instr.alloc 48 true (.tuple #[])) (Zd R) w λ t1 w =>
 opU Pg (Instr.storeAt 48 t1 t2) (Zd R) w λ w =>
 L0 48 t1 R w λ t3 w =>
 opV Pg (Instr.buildSlice 22 1 #[(0,t3)]) (Zd R) w λ t4 w =>
 opV Pg (Instr.build 24 #[(0,(.string { data := #[97] })),(1,t4)]) (Zd R) w λ t5 w =>
 opV Pg (Instr.build 48 #[(0,(.string { data := #[120] })),(1,(.int .i64 8)),(8,(.string { data := #[97] }))]) (Zd R) w λ t6 w =>
 opV Pg (Instr.buildSlice 22 1 #[(0,t6)]) (Zd R) w λ t7 w =>
 opV Pg (Instr.build 24 #[(0,(.string { data := #[98] })),(1,t7)]) (Zd R) w λ t8 w =>
 L0 48 t1 R w λ t9 w =>
 opV Pg (Instr.build 48 #[(0,(.string { data := #[116] })),(1,(.int .i64 3)),(6,(.int .i64 9))]) (Zd R) w λ t10 w =>
 opV Pg (Instr.build 62 #[(0,(.string { data := #[110] })),(1,(.int .i64 2))]) (Zd R) w λ t11 w =>
 opV Pg (Instr.buildSlice 43 1 #[(0,t11)]) (Zd R) w λ t12 w =>
 opV Pg (Instr.build 45 #[(1,t12)]) (Zd R) w λ t13 w =>
 opV Pg (Instr.build 48 #[(0,(.string { data := #[108] })),(1,(.int .i64 7)),(8,(.string { data := #[98] })),(7,t13)]) (Zd R) w λ t14 w =>
 opV Pg (Instr.build 60 #[(2,(.string { data := #[97] }))]) (Zd R) w λ t15 w =>
 opV Pg (Instr.build 60 #[(0,(.int .i64 1)),(1,(.int .i64 1)),(2,(.string { data := #[98] }))]) (Zd R) w λ t16 w =>
 opV Pg (Instr.buildSlice 46 2 #[(0,t15),(1,t16)]) (Zd R) w λ t17 w =>
 opV Pg (Instr.build 48 #[(0,(.string { data := #[115] })),(1,(.int .i64 9)),(9,(.string { data := #[116] })),(11,t17)]) (Zd R) w λ t18 w =>
 opV Pg (Instr.build 48 #[(0,(.string { data := #[107] })),(1,(.int .i64 11)),(12,(.int .i64 1)),(10,(.string { data := #[108] }))]) (Zd R) w λ t19 w =>
 opV Pg (Instr.buildSlice 22 5 #[(0,t9),(1,t10),(2,t14),(3,t18),(4,t19)]) (Zd R) w λ t20 w =>
 opV Pg (Instr.build 24 #[(0,(.string { data := #[99] })),(1,t20)]) (Zd R) w λ t21 w =>
 L0 48 t1 R w λ t22 w =>
 opV Pg (Instr.buildSlice 22 1 #[(0,t22)]) (Zd R) w λ t23 w =>
 opV Pg (Instr.build 24 #[(0,(.string { data := #[122] })),(1,t23)]) (Zd R) w λ t24 w =>
 opV Pg (Instr.buildSlice 26 4 #[(0,t5),(1,t8),(2,t21),(3,t24)]) (Zd R) w λ t25 w =>
 opV Pg (Instr.build 28 #[(0,(.string { data := #[100] })),(2,(.string { data := #[99] })),(1,t25)]) (Zd R) w λ t26 w =>
 opU Pg (Instr.storeAt 28 t0 t26) (Zd R) w λ w =>
 qW Pg 28 t0 w λ r0 =>
 R (.returned r0) w
theorem Zfc {R:RT} {w:World} (h:n10 R w):Calls Pg 38 #[] w R:=by
 refine yD Tryz.func38 ?_
 refine zs<|zr<|yv h λ _ w h=>zn<|zk<|zs<|zr<|yB h λ _ w h=>yv h λ _ w h=>yu h λ w h=>zn<|zk<|zs<|zr<|yv h λ _ w h=>?_
 refine yS h λ _ w h=>yB h λ _ w h=>yB h λ _ w h=>yS h λ _ w h=>yB h λ _ w h=>yv h λ _ w h=>yB h λ _ w h=>yB h λ _ w h=>yS h λ _ w h=>yB h λ _ w h=>yB h λ _ w h=>yB h λ _ w h=>yB h λ _ w h=>yS h λ _ w h=>yB h λ _ w h=>?_
 exact yB h λ _ w h=>yS h λ _ w h=>yB h λ _ w h=>yv h λ _ w h=>yS h λ _ w h=>yB h λ _ w h=>yS h λ _ w h=>yB h λ _ w h=>yu h λ w h=>zn<|zk<|Zk<|zv rfl rfl h
def ZcZ (t0 t1:Value) (R:RT) (w:World):Prop :=
 opV Pg (Instr.box 24 t0) (Zd R) w λ t2 w =>
 B0 .geq 3 true t1 (.int .i64 0) R w λ t6 w =>
 Zq (λ (t12:Value) (w:World) =>
 Zu t6 t12 (.bool false) λ t13 =>
 R (.returned t13) w) λ K1 =>
 Zl t6 true (
 F0 24 t2 1 R w λ t9 w =>
 L0 22 t9 R w λ t10 w =>
 opV Pg (Builtin.len_ #[22] 3 #[t10]) (Zd R) w λ t11 w =>
 B0 .lss 3 false t1 t11 R w λ t12 w =>
 K1 t12 w) (
 K1 undef w)
theorem ZbT {t0 t1:Value} {R:RT} {w:World} (h:ZcZ t0 t1 R w):Calls Pg 39 #[t0,t1] w R:=by
 refine yD Tryz.func39 ?_
 refine zs<|zr<|yv h λ _ w h=>zm<|zn<|zk<|zs<|Zs<|yG 3<|zm<|yb h λ _ w h=>zm<|zn<|yg1 5 2 true [8,9,10,11,12] 12 h (λ _ T hT h=>?_) λ σ w h=>?_
 · refine zm<|yv h λ _ w h=>yv h λ _ w h=>yx h λ _ w h=>yb h λ _ w h=>zn ?_
   exact zt hT h
 exact yG 2<|yp h λ _ h=>zm<|zn<|ZG<|zk<|Zk<|Zi rfl rfl h
def Hy (t8 t37 t44:Value) (next3:KW) (R:RT) (w:World):Prop :=
 opV Pg (Instr.extract t44 0) (Zd R) w λ t45 w =>
 opV Pg (Instr.extract t44 1) (Zd R) w λ t46 w =>
 Zq (λ (t8:Value) (w:World) =>
 B0 .add 3 true t37 (.int .i64 1) R w λ t52 w =>
 next3 t8 t52 w) λ K4 =>
 Zr t46 (
 opV Pg (Instr.buildSlice 30 1 #[(0,t45)]) (Zd R) w λ t50 w =>
 opV Pg (Builtin.append_ #[30,30] 30 #[t8,t50]) (Zd R) w λ t51 w =>
 K4 t51 w) (
 K4 t8 w)
def PG (t8 t9 t35 t37:Value) (next3:KW) (R:RT) (w:World):Prop :=
 X0 82 t35 t37 R w λ t39 w =>
 L0 9 t39 R w λ t40 w =>
 L0 24 t9 R w λ t42 w =>
 C0 82 #[t42,t40] R w λ t44 w =>
 Hy t8 t37 t44 next3 R w
def HD (t8 t9 t35 t36 t37:Value) (next3:KW) (R:RT) (w:World):Prop :=
 B0 .lss 3 false t37 t36 R w λ t38 w =>
 Zr t38 (
 PG t8 t9 t35 t37 next3 R w) (
 C0 83 #[t8] R w λ t54 w =>
 C0 84 #[t8] R w λ t56 w =>
 R (.returned t56) w)
def F7 (t1 t2 t5 t24:Value) (R:RT) (w:World):Prop :=
 F0 24 t2 1 R w λ t28 w =>
 L0 22 t28 R w λ t29 w =>
 opV Pg (Instr.sliceAt 22 t29 none (some t1) none) (Zd R) w λ t31 w =>
 opV Pg (Instr.build 24 #[(1,t31)]) (Zd R) w λ t32 w =>
 opV Pg (Instr.alloc 24 true (.tuple #[])) (Zd R) w λ t9 w =>
 opU Pg (Instr.storeAt 24 t9 t32) (Zd R) w λ w =>
 L0 48 t5 R w λ t34 w =>
 Qi Pg t24 #[t34] (Zd R) w λ t35 w =>
 opV Pg (Builtin.len_ #[82] 3 #[t35]) (Zd R) w λ t36 w =>
 XP (λ t8 t37 w next3 =>
 HD t8 t9 t35 t36 t37 next3 R w) (Value.slice none 0 0) (.int .i64 0) w
def Nw (t1 t2 t5 t20 t22:Value) (C2:World→Prop) (R:RT) (w:World):Prop :=
 qV Pg C2 (Instr.lookup 128 t20 t22 true) λ t23 =>
 qV Pg C2 (Instr.extract t23 0) λ t24 =>
 qV Pg C2 (Instr.extract t23 1) λ t25 =>
 opV Pg (Op.unary .not t25) (Zd R) w λ t27 w =>
 Zr t27 (
 R (.returned (Value.slice none 0 0)) w) (
 F7 t1 t2 t5 t24 R w)
def Pr (t1 t2 t5:Value) (C1:World→Prop) (R:RT) (w:World):Prop :=
 qV Pg C1 (Instr.fieldAt 48 t5 1) λ t21 =>
 qV Pg C1 (Instr.loadAt 42 t21) λ t22 =>
 C0 81 #[] R w λ t20 w =>
 Q8 C1 w λ C2 w =>
 Nw t1 t2 t5 t20 t22 C2 R w
def Za2 (t0 t1:Value) (R:RT) (w:World):Prop :=
 opV Pg (Instr.box 24 t0) (Zd R) w λ t2 w =>
 F0 24 t2 1 R w λ t14 w =>
 L0 22 t14 R w λ t15 w =>
 X0 22 t15 t1 R w λ t17 w =>
 L0 48 t17 R w λ t18 w =>
 opV Pg (Instr.alloc 48 true (.tuple #[])) (Zd R) w λ t5 w =>
 opU Pg (Instr.storeAt 48 t5 t18) (Zd R) w λ w =>
 Yp w λ C1 w =>
 Pr t1 t2 t5 C1 R w
theorem Zcg {t0 t1:Value} {R:RT} {w:World} (h:Za2 t0 t1 R w):Calls Pg 40 #[t0,t1] w R:=by
 refine yD Tryz.func40 ?_
 refine zs<|zr<|yv h λ _ w h=>zm<|zn<|zk<|zs<|zr<|yv h λ _ w h=>yv h λ _ w h=>zm<|yv h λ _ w h=>yv h λ _ w h=>yv h λ _ w h=>yu h λ w h=>?_
 refine zn<|zk<|zs<|yh [6,7,19,20,21,22,23,24,25] h λ C hC h=>ye 1 hC h λ _ h=>?_
 refine ye 2 hC h λ _ h=>?_
 refine yr 0 ?_
 refine yc h c81 λ _ w h=>zn ?_
 obtain ⟨C2,hs,hC,h⟩:=h
 refine ⟨C2,hs,hC,?_⟩
 refine ye 3 hC h λ _ h=>?_
 refine yw 4 hC ?_
 refine ye 5 hC h λ _ h=>?_
 refine ye 6 hC h λ _ h=>?_
 refine yw 7 hC ?_
 refine yw 8 hC ?_
 refine yz<|zk<|zs<|zs<|zr<|zm<|yv h λ _ w h=>zn<|zk<|yC h (λ h=>zs<|zr<|zm<|zn<|zk<|Zk<|Zb<|Zi rfl rfl h) λ h=>Zh<|zk<|zs<|zr ?_
 refine zm<|zn<|zk<|zs<|zr<|yv h λ _ w h=>yv h λ _ w h=>zm<|yv h λ _ w h=>yB h λ _ w h=>yv h λ _ w h=>yu h λ w h=>zn<|zk<|zs ?_
 refine zs<|zr<|zm<|yv h λ _ w h=>yV h λ _ w h=>yx h λ _ w h=>zm<|zn<|zk<|Zj<|yl2 [8,11,12,13,37,38,39,40,41,42,43,44,45,46,47,48,49,50,51,52] 8 37 h λ σ w next h=>zs<|zr<|yb h λ _ w h=>zn ?_
 refine zk<|zs<|yC h (λ h=>?_) λ h=>?_
 · refine Zh<|zk<|zs<|Zj<|zs<|zr<|yv h λ _ w h=>yv h λ _ w h=>zm<|zn<|zk<|zs<|zr<|yv h λ _ w h=>zm ?_
   refine yc h c82 λ _ w h=>zm<|yv h λ _ w h=>yv h λ _ w h=>zm<|zm<|zn<|zk<|zs<|zr<|zm<|zn<|zk<|yJ1 [8,48,49,50,51] 8 h (λ _ _ hkK4 h=>?_) λ σ w h=>?_
   · refine yC h (λ h=>?_) λ h=>?_
     · refine zr<|zm<|zm<|yS h λ _ w h=>yx h λ _ w h=>zm<|zn<|zk ?_
       exact zt hkK4 h
     refine Zh<|zk ?_
     exact zt hkK4 h
   exact Zg<|zk<|zr<|yb h λ _ w h=>zm<|zn<|zk<|⟨rfl,h⟩
 refine Zy<|Zc<|Zc<|Zn<|zk<|zs<|zr<|zm<|yc h c83 λ _ w h=>zn<|zk<|zs<|zr<|zm<|yc h c84 λ _ w h=>?_
 exact zm<|zn<|zk<|Zk<|Zi rfl rfl h
def Hv (t4 t9 t17:Value) (next1:KW) (R:RT) (w:World):Prop :=
 Zq (λ (t4:Value) (w:World) =>
 B0 .add 3 true t9 (.int .i64 1) R w λ t22 w =>
 next1 t4 t22 w) λ K2 =>
 Zr t17 (
 opV Pg (Instr.buildSlice 30 1 #[(0,t9)]) (Zd R) w λ t20 w =>
 opV Pg (Builtin.append_ #[30,30] 30 #[t4,t20]) (Zd R) w λ t21 w =>
 K2 t21 w) (
 K2 t4 w)
def Ng (t0 t1 t4 t9:Value) (next1:KW) (R:RT) (w:World):Prop :=
 X0 22 t0 t9 R w λ t12 w =>
 L0 48 t12 R w λ t13 w =>
 opV Pg (Instr.alloc 48 true (.tuple #[])) (Zd R) w λ t6 w =>
 opU Pg (Instr.storeAt 48 t6 t13) (Zd R) w λ w =>
 L0 48 t6 R w λ t16 w =>
 Qi Pg t1 #[t9,t16] (Zd R) w λ t17 w =>
 Hv t4 t9 t17 next1 R w
def Zc0 (t0 t1:Value) (R:RT) (w:World):Prop :=
 opV Pg (Builtin.len_ #[22] 3 #[t0]) (Zd R) w λ t8 w =>
 XP (λ t4 t9 w next1 =>
 B0 .lss 3 false t9 t8 R w λ t10 w =>
 Zr t10 (
 Ng t0 t1 t4 t9 next1 R w) (
 R (.returned t4) w)) (Value.slice none 0 0) (.int .i64 0) w
theorem ZcA {t0 t1:Value} {R:RT} {w:World} (h:Zc0 t0 t1 R w):Calls Pg 41 #[t0,t1] w R:=by
 refine yD Tryz.func41 ?_
 refine zs<|zr<|zm<|zn<|zk<|zs<|zs<|zr<|zm<|yx h λ _ w h=>zm<|zn<|zk<|Zj<|yl2 [4,5,6,9,10,11,12,13,14,15,16,17,18,19,20,21,22] 4 9 h λ σ w next h=>?_
 refine zs<|zr<|yb h λ _ w h=>zn<|zk<|zs<|yC h (λ h=>?_) λ h=>?_
 · refine Zh<|zk<|zs<|Zj<|zs<|zr<|zm<|yv h λ _ w h=>yv h λ _ w h=>yv h λ _ w h=>zm<|yu h λ w h=>zn<|zk<|zs ?_
   refine zr<|zm<|zm<|yv h λ _ w h=>yV h λ _ w h=>zn<|zk<|yJ1 [4,18,19,20,21] 4 h (λ _ _ hkK2 h=>?_) λ σ w h=>?_
   · refine yC h (λ h=>?_) λ h=>?_
     · refine zr<|zm<|zm<|yS h λ _ w h=>yx h λ _ w h=>zm<|zn<|zk ?_
       exact zt hkK2 h
     refine Zh<|zk ?_
     exact zt hkK2 h
   exact Zg<|zk<|zr<|yb h λ _ w h=>zm<|zn<|zk<|⟨rfl,h⟩
 exact Zy<|Zc<|Zc<|Zn<|zk<|zs<|zr<|zm<|zm<|zn<|zk<|Zk<|Zi rfl rfl h
def Oc (t0 t2 t3:Value) (C1:World→Prop) (R:RT) (w:World):Prop :=
 qV Pg C1 (Instr.loadAt 24 t2) λ t7 =>
 qV Pg C1 (Instr.loadAt 3 t3) λ t10 =>
 C0 40 #[t7,t0] R w λ t9 w =>
 C1 w∧(
 C0 43 #[t9,t10] R w λ t11 w =>
 C1 w∧(
 R (.returned t11) w))
def ZbH (t0 t1 t2 t3:Value) (R:RT) (w:World):Prop :=
 opV Pg (Instr.box 48 t1) (Zd R) w λ t5 w =>
 Yp w λ C1 w =>
 Oc t0 t2 t3 C1 R w
theorem Zbe {t0 t1 t2 t3:Value} {R:RT} {w:World} (h:ZbH t0 t1 t2 t3 R w):Calls Pg 42 #[t0,t1,t2,t3] w R:=by
 refine yD Tryz.func42 ?_
 refine zs<|zr<|yv h λ _ w h=>zm<|zn<|zk<|zs<|yh [6,7,8,9,10,11] h λ C hC h=>ye 0 hC h λ _ h=>?_
 refine yw 1 hC ?_
 refine ye 3 hC h λ _ h=>?_
 refine yo 2 ?_
 refine yc h c40 λ _ w h=>zn ?_
 obtain ⟨hC,h⟩:=h
 refine ⟨hC,?_⟩
 refine yo 4 ?_
 refine yc h c43 λ _ w h=>zn ?_
 obtain ⟨hC,h⟩:=h
 refine ⟨hC,?_⟩
 refine yw 5 hC ?_
 exact yz<|zk<|Zk<|Zi rfl rfl h
def ZaW (t0 t1:Value) (R:RT) (w:World):Prop :=
 C0 85 #[t0,t1] R w λ t7 w =>
 B0 .geq 3 true t7 (.int .i64 0) R w λ t8 w =>
 R (.returned t8) w
theorem Zbg {t0 t1:Value} {R:RT} {w:World} (h:ZaW t0 t1 R w):Calls Pg 43 #[t0,t1] w R:=by
 refine yD Tryz.func43 ?_
 refine zs<|zr<|zm<|zn<|zk<|zs<|zr<|zm<|zm<|yc h c85 λ _ w h=>yb h λ _ w h=>zm<|zn<|zk<|Zk ?_
 exact Zi rfl rfl h
def On (t1 t3 t7:Value) (next1:KV) (R:RT) (w:World):Prop :=
 F0 24 t3 1 R w λ t13 w =>
 L0 22 t13 R w λ t14 w =>
 X0 22 t14 t7 R w λ t16 w =>
 F0 48 t16 0 R w λ t17 w =>
 L0 9 t17 R w λ t18 w =>
 B0 .eql 9 false t18 t1 R w λ t20 w =>
 Zr t20 (
 R (.returned t7) w) (
 B0 .add 3 true t7 (.int .i64 1) R w λ t12 w =>
 next1 t12 w)
def n24 (t0 t1 t2:Value) (R:RT) (w:World):Prop :=
 opV Pg (Instr.box 24 t0) (Zd R) w λ t3 w =>
 Yi (λ t7 w next1 =>
 B0 .lss 3 false t7 t2 R w λ t10 w =>
 Zr t10 (
 On t1 t3 t7 next1 R w) (
 R (.returned (.int .i64 (-1))) w)) (.int .i64 0) w
theorem ZgB {t0 t1 t2:Value} {R:RT} {w:World} (h:n24 t0 t1 t2 R w):Calls Pg 45 #[t0,t1,t2] w R:=by
 refine yD Tryz.func45 ?_
 refine zs<|zr<|yv h λ _ w h=>zm<|zn<|zk<|zs<|zs<|zr<|zm<|zn<|zk<|Zj<|yl1 [6,7,8,9,10,11,12,13,14,15,16,17,18,19,20,21] 7 h λ σ w next h=>zs ?_
 refine zs<|zr<|zm<|zm<|yb h λ _ w h=>zn<|zk<|yC h (λ h=>?_) λ h=>?_
 · refine Zh<|zk<|zs<|Zj<|zs<|zr<|yv h λ _ w h=>yv h λ _ w h=>zm<|yv h λ _ w h=>yv h λ _ w h=>yv h λ _ w h=>zm<|yb h λ _ w h=>zn ?_
   exact zk<|yC h (λ h=>zs<|zr<|zm<|zm<|zn<|zk<|Zk<|Zf<|Zb<|Zb<|Zf<|Zb<|Zi rfl rfl h) λ h=>Zh<|Zg<|zk<|zr<|zm<|yb h λ _ w h=>zm<|zn<|zk<|⟨rfl,h⟩
 exact Zy<|Zc<|Zc<|Zn<|zk<|zs<|zr<|zm<|zn<|zk<|Zk<|Zi rfl rfl h
def n26 (t0:Value) (R:RT) (w:World):Prop :=
 opV Pg (Instr.box 48 t0) (Zd R) w λ t1 w =>
 F0 48 t1 1 R w λ t3 w =>
 L0 42 t3 R w λ t4 w =>
 B0 .geq 42 true t4 (.int .i64 1) R w λ t5 w =>
 Zq (λ (t9:Value) (w:World) =>
 Zu t5 t9 (.bool false) λ t10 =>
 R (.returned t10) w) λ K1 =>
 Zl t5 true (
 F0 48 t1 1 R w λ t7 w =>
 L0 42 t7 R w λ t8 w =>
 B0 .leq 42 true t8 (.int .i64 3) R w λ t9 w =>
 K1 t9 w) (
 K1 undef w)
theorem Ze3 {t0:Value} {R:RT} {w:World} (h:n26 t0 R w):Calls Pg 47 #[t0] w R:=by
 refine yD Tryz.func47 ?_
 refine zs<|zr<|yv h λ _ w h=>zm<|zn<|zk<|zs<|Zs<|yG 4<|yv h λ _ w h=>yv h λ _ w h=>yb h λ _ w h=>zm<|zn<|yg1 3 3 true [7,8,9] 9 h (λ _ T hT h=>?_) λ σ w h=>?_
 · refine yv h λ _ w h=>yv h λ _ w h=>yb h λ _ w h=>zn ?_
   exact zt hT h
 exact yG 2<|yp h λ _ h=>zm<|zn<|ZG<|zk<|Zk<|Zi rfl rfl h
def RV (t12 t15:Value) (R:RT) (w:World):Prop :=
 Zq (λ (t19:Value) (w:World) =>
 Zu t15 t19 (.bool false) λ t20 =>
 R (.returned t20) w) λ K1 =>
 Zl t15 true (
 opV Pg (Builtin.len_ #[30] 3 #[t12]) (Zd R) w λ t18 w =>
 B0 .eql 3 true t18 (.int .i64 0) R w λ t19 w =>
 K1 t19 w) (
 K1 undef w)
def RN (t4 t11:Value) (R:RT) (w:World):Prop :=
 opV Pg (Instr.extract t11 0) (Zd R) w λ t12 w =>
 opV Pg (Instr.extract t11 1) (Zd R) w λ t13 w =>
 L0 48 t4 R w λ t14 w =>
 C0 49 #[t14] R w λ t15 w =>
 RV t12 t15 R w
def n96 (t0 t1 t2:Value) (R:RT) (w:World):Prop :=
 opV Pg (Instr.box 48 t1) (Zd R) w λ t4 w =>
 L0 24 t2 R w λ t9 w =>
 C0 13 #[t9,t0] R w λ t11 w =>
 RN t4 t11 R w
theorem ZgO {t0 t1 t2:Value} {R:RT} {w:World} (h:n96 t0 t1 t2 R w):Calls Pg 48 #[t0,t1,t2] w R:=by
 refine yD Tryz.func48 ?_
 refine zs<|zr<|yv h λ _ w h=>zm<|zn<|zk<|zs<|zr<|yv h λ _ w h=>zm<|yc h c13 λ _ w h=>zm<|yv h λ _ w h=>yv h λ _ w h=>zm ?_
 refine zm<|zn<|zk<|zs<|Zs<|yG 3<|yv h λ _ w h=>yc h c49 λ _ w h=>zm<|zn<|yg1 3 2 true [17,18,19] 19 h (λ _ T hT h=>?_) λ σ w h=>?_
 · refine zm<|yx h λ _ w h=>yb h λ _ w h=>zn ?_
   exact zt hT h
 exact yG 2<|yp h λ _ h=>zm<|zn<|ZG<|zk<|Zk<|Zi rfl rfl h
def SS (t1 t5 t9:Value) (R:RT) (w:World):Prop :=
 Zu t5 (.bool true) t9 λ t10 =>
 Zq (λ (t14:Value) (w:World) =>
 Zu t10 (.bool true) t14 λ t15 =>
 R (.returned t15) w) λ K2 =>
 Zl t10 false (
 F0 48 t1 1 R w λ t12 w =>
 L0 42 t12 R w λ t13 w =>
 B0 .eql 42 true t13 (.int .i64 3) R w λ t14 w =>
 K2 t14 w) (
 K2 undef w)
def n50 (t0:Value) (R:RT) (w:World):Prop :=
 opV Pg (Instr.box 48 t0) (Zd R) w λ t1 w =>
 F0 48 t1 1 R w λ t3 w =>
 L0 42 t3 R w λ t4 w =>
 B0 .eql 42 true t4 (.int .i64 1) R w λ t5 w =>
 Zq (λ (t9:Value) (w:World) =>
 SS t1 t5 t9 R w) λ K1 =>
 Zl t5 false (
 F0 48 t1 1 R w λ t7 w =>
 L0 42 t7 R w λ t8 w =>
 B0 .eql 42 true t8 (.int .i64 2) R w λ t9 w =>
 K1 t9 w) (
 K1 undef w)
theorem Zer {t0:Value} {R:RT} {w:World} (h:n50 t0 R w):Calls Pg 49 #[t0] w R:=by
 refine yD Tryz.func49 ?_
 refine zs<|zr<|yv h λ _ w h=>zm<|zn<|zk<|zs<|Zs<|yG 4<|yv h λ _ w h=>yv h λ _ w h=>yb h λ _ w h=>zm<|zn<|yg1 3 3 false [7,8,9] 9 h (λ _ T hT h=>?_) λ σ w h=>?_
 · refine yv h λ _ w h=>yv h λ _ w h=>yb h λ _ w h=>zn ?_
   exact zt hT h
 refine yG 2<|yp h λ _ h=>zm<|zn<|yg1 3 8 false [12,13,14] 14 h (λ _ T hT h=>?_) λ σ w h=>?_
 · refine yv h λ _ w h=>yv h λ _ w h=>yb h λ _ w h=>zn ?_
   exact zt hT h
 exact yG 2<|yp h λ _ h=>zm<|zn<|ZG<|zk<|Zk<|Zi rfl rfl h
def xF (t2 t3 t9 t17:Value) (C1:World→Prop) (R:RT) (w:World):Prop :=
 Zu t9 t17 (.bool false) λ t18 =>
 Zq (λ (t24:Value) (w:World) =>
 Zu t18 t24 (.bool false) λ t25 =>
 R (.returned t25) w) λ K3 =>
 Zl t18 true (
 qV Pg C1 (Instr.fieldAt 48 t2 11) λ t20 =>
 qV Pg C1 (Instr.loadAt 46 t20) λ t21 =>
 qV Pg C1 (Instr.fieldAt 48 t3 11) λ t22 =>
 qV Pg C1 (Instr.loadAt 46 t22) λ t23 =>
 C0 96 #[t21,t23] R w λ t24 w =>
 C1 w∧(
 K3 t24 w)) (
 K3 undef w)
def yl (t2 t3 t6 t8:Value) (C1:World→Prop) (R:RT) (w:World):Prop :=
 qV Pg C1 (ZM .eql 144 false t6 t8) λ t9 =>
 Zq (λ (t17:Value) (w:World) =>
 xF t2 t3 t9 t17 C1 R w) λ K2 =>
 Zl t9 true (
 qV Pg C1 (Instr.fieldAt 48 t2 7) λ t11 =>
 qV Pg C1 (Instr.fieldAt 45 t11 1) λ t12 =>
 qV Pg C1 (Instr.loadAt 43 t12) λ t13 =>
 qV Pg C1 (Instr.fieldAt 48 t3 7) λ t14 =>
 qV Pg C1 (Instr.fieldAt 45 t14 1) λ t15 =>
 qV Pg C1 (Instr.loadAt 43 t15) λ t16 =>
 C0 95 #[t13,t16] R w λ t17 w =>
 C1 w∧(
 K2 t17 w)) (
 K2 undef w)
def ym (t2 t3:Value) (C1:World→Prop) (R:RT) (w:World):Prop :=
 qV Pg C1 (Instr.loadAt 48 t2) λ t5 =>
 qV Pg C1 (Instr.loadAt 48 t3) λ t7 =>
 C0 94 #[t5] R w λ t6 w =>
 C1 w∧(
 C0 94 #[t7] R w λ t8 w =>
 C1 w∧(
 yl t2 t3 t6 t8 C1 R w))
def n94 (t0 t1:Value) (R:RT) (w:World):Prop :=
 opV Pg (Instr.box 48 t0) (Zd R) w λ t2 w =>
 opV Pg (Instr.box 48 t1) (Zd R) w λ t3 w =>
 Yp w λ C1 w =>
 ym t2 t3 C1 R w
theorem Zf1 {t0 t1:Value} {R:RT} {w:World} (h:n94 t0 t1 R w):Calls Pg 66 #[t0,t1] w R:=by
 refine yD Tryz.func66 ?_
 refine zs<|zr<|yv h λ _ w h=>yv h λ _ w h=>zm<|zn<|zk<|zs<|yh [4,5,6,7,8,9,10,11,12,13,14,15,16,17,18,19,20,21,22,23,24,25] h λ C hC h=>ye 0 hC h λ _ h=>?_
 refine ye 2 hC h λ _ h=>?_
 refine yo 1 ?_
 refine yc h c94 λ _ w h=>zn ?_
 obtain ⟨hC,h⟩:=h
 refine ⟨hC,?_⟩
 refine yo 3 ?_
 refine yc h c94 λ _ w h=>zn ?_
 obtain ⟨hC,h⟩:=h
 refine ⟨hC,?_⟩
 refine ye 4 hC h λ _ h=>?_
 refine yw 5 hC ?_
 refine yj1 9 [12,11,10,9,8,7,6,5,4,3,1,2,0] [11,12,13,14,15,16,17] 17 h (λ _ hT hb h=>?_) (λ _ hT hb h=>?_) λ σ w hC h=>?_
 · refine ye 6 hC h λ _ h=>?_
   refine ye 7 hC h λ _ h=>?_
   refine ye 8 hC h λ _ h=>?_
   refine ye 9 hC h λ _ h=>?_
   refine ye 10 hC h λ _ h=>?_
   refine ye 11 hC h λ _ h=>?_
   refine yo 12 ?_
   refine yc h c95 λ _ w h=>zn ?_
   obtain ⟨hC,h⟩:=h
   refine ⟨hC,?_⟩
   exact yt hT hC h
 · refine yi 6 hC ?_
   refine yi 7 hC ?_
   refine yi 8 hC ?_
   refine yi 9 hC ?_
   refine yi 10 hC ?_
   refine yi 11 hC ?_
   refine yi 12 hC ?_
   exact yt hT hC h
 refine yP 13 hC h λ _ h=>?_
 refine yw 14 hC ?_
 refine yj1 2 [19,18,17,16,15,14,13,12,11,10,9,8,7,6,5,4,3,1,2,0] [20,21,22,23,24] 24 h (λ _ hT hb h=>?_) (λ _ hT hb h=>?_) λ σ w hC h=>?_
 · refine ye 15 hC h λ _ h=>?_
   refine ye 16 hC h λ _ h=>?_
   refine ye 17 hC h λ _ h=>?_
   refine ye 18 hC h λ _ h=>?_
   refine yo 19 ?_
   refine yc h c96 λ _ w h=>zn ?_
   obtain ⟨hC,h⟩:=h
   refine ⟨hC,?_⟩
   exact yt hT hC h
 · refine yi 15 hC ?_
   refine yi 16 hC ?_
   refine yi 17 hC ?_
   refine yi 18 hC ?_
   refine yi 19 hC ?_
   exact yt hT hC h
 refine yP 20 hC h λ _ h=>?_
 refine yw 21 hC ?_
 exact yz<|zk<|Zk<|Zi rfl rfl h
def RF (t9:Value) (R:RT) (w:World):Prop :=
 opV Pg (Builtin.max_ #[3,3] 3 #[t9,(.int .i64 0)]) (Zd R) w λ t11 w =>
 B0 .geq 3 true t9 (.int .i64 0) R w λ t13 w =>
 R (.returned (.tuple #[t11,t13])) w
def n68 (t0 t1:Value) (R:RT) (w:World):Prop :=
 C0 97 #[t0,t1] R w λ t9 w =>
 RF t9 R w
theorem ZdI {t0 t1:Value} {R:RT} {w:World} (h:n68 t0 t1 R w):Calls Pg 67 #[t0,t1] w R:=by
 refine yD Tryz.func67 ?_
 refine zs<|zr<|zm<|zm<|zn<|zk<|zs<|zr<|zm<|zm<|yc h c97 λ _ w h=>zm<|zn<|zk<|zs ?_
 exact zr<|zm<|yx h λ _ w h=>zm<|yb h λ _ w h=>zm<|zm<|zn<|zk<|Zk<|Yx rfl rfl rfl h
def n49 (t0 t1:Value) (R:RT) (w:World):Prop :=
 opV Pg (Instr.box 24 t0) (Zd R) w λ t2 w =>
 F0 24 t2 0 R w λ t4 w =>
 L0 9 t4 R w λ t5 w =>
 L0 9 t1 R w λ t6 w =>
 B0 .eql 9 false t5 t6 R w λ t7 w =>
 R (.returned t7) w
theorem ZeJ {t0 t1:Value} {R:RT} {w:World} (h:n49 t0 t1 R w):Calls Pg 68 #[t0,t1] w R:=by
 refine yD Tryz.func68 ?_
 refine zs<|zr<|yv h λ _ w h=>zm<|zn<|zk<|zs<|zr<|yv h λ _ w h=>yv h λ _ w h=>yv h λ _ w h=>yb h λ _ w h=>zm<|zn<|zk ?_
 exact Zk<|Zi rfl rfl h
def Ab (t0 t7 t11 t16:Value) (next1:KV) (R:RT) (w:World):Prop :=
 opV Pg (Op.unary .not t16) (Zd R) w λ t17 w =>
 Zq (λ (t22:Value) (w:World) =>
 Zu t17 t22 (.bool false) λ t23 =>
 Zr t23 (
 R (.returned (.tuple #[])) w) (
 B0 .add 3 true t7 (.int .i64 1) R w λ t24 w =>
 next1 t24 w)) λ K2 =>
 Zl t17 true (
 Qi Pg t0 #[t11] (Zd R) w λ t21 w =>
 opV Pg (Op.unary .not t21) (Zd R) w λ t22 w =>
 K2 t22 w) (
 K2 undef w)
def j0 (t0 t1 t5 t7:Value) (next1:KV) (R:RT) (w:World):Prop :=
 X0 82 t5 t7 R w λ t10 w =>
 L0 9 t10 R w λ t11 w =>
 L0 82 t1 R w λ t12 w =>
 opV Pg (Instr.sliceAt 82 t12 none (some t7) none) (Zd R) w λ t14 w =>
 C0 70 #[t14,t11] R w λ t16 w =>
 Ab t0 t7 t11 t16 next1 R w
def n53 (t0 t1:Value) (R:RT) (w:World):Prop :=
 L0 82 t1 R w λ t5 w =>
 opV Pg (Builtin.len_ #[82] 3 #[t5]) (Zd R) w λ t6 w =>
 Yi (λ t7 w next1 =>
 B0 .lss 3 false t7 t6 R w λ t8 w =>
 Zr t8 (
 j0 t0 t1 t5 t7 next1 R w) (
 R (.returned (.tuple #[])) w)) (.int .i64 0) w
theorem ZdE {t0 t1:Value} {R:RT} {w:World} (h:n53 t0 t1 R w):Calls Pg 69 #[t0,t1] w R:=by
 refine yD Tryz.func69 ?_
 refine zs<|zr<|yv h λ _ w h=>yx h λ _ w h=>zm<|zn<|zk<|Zj<|yl1 [3,4,7,8,9,10,11,12,13,14,15,16,17,18,19,20,21,22,23,24] 7 h λ σ w next h=>zs<|zr<|yb h λ _ w h=>zn<|zk<|zs ?_
 refine yC h (λ h=>?_) λ h=>?_
 · refine Zh<|zk<|zs<|Zj<|zs<|zr<|zm<|yv h λ _ w h=>yv h λ _ w h=>zm<|zm<|zn<|zk<|zs<|Zs ?_
   refine yG 7<|yv h λ _ w h=>zm<|yv h λ _ w h=>zm<|yc h c70 λ _ w h=>yv h λ _ w h=>zm<|zn<|yg1 4 6 true [19,20,21,22] 22 h (λ _ T hT h=>?_) λ σ w h=>?_
   · refine zm<|zm<|yV h λ _ w h=>yv h λ _ w h=>zn ?_
     exact zt hT h
   refine yG 1<|yp h λ _ h=>zn<|ZG<|zk<|yC h (λ h=>Zk<|Zf<|Zb<|Zb<|Zf<|ZZ rfl h) λ h=>Zh<|Zg<|zk<|zr<|yb h λ _ w h=>zm<|zn<|zk ?_
   exact ⟨rfl,h⟩
 exact Zy<|Zc<|Zc<|Zn<|ZP<|ZZ rfl h
def Zbu (t0 t1:Value) (R:RT) (w:World):Prop :=
 C0 98 #[t0,t1] R w λ t7 w =>
 B0 .geq 3 true t7 (.int .i64 0) R w λ t8 w =>
 R (.returned t8) w
theorem ZcE {t0 t1:Value} {R:RT} {w:World} (h:Zbu t0 t1 R w):Calls Pg 70 #[t0,t1] w R:=by
 refine yD Tryz.func70 ?_
 refine zs<|zr<|zm<|zn<|zk<|zs<|zr<|zm<|zm<|yc h c98 λ _ w h=>yb h λ _ w h=>zm<|zn<|zk<|Zk ?_
 exact Zi rfl rfl h
def ZbW (R:RT) (w:World):Prop :=
 opV Pg (Instr.makeMap 128 none) (Zd R) w λ t2 w =>
 opU Pg (Instr.mapUpdate 128 t2 (.int .i64 4) (.func (.func 110) #[] #[])) (Zd R) w λ w =>
 opU Pg (Instr.mapUpdate 128 t2 (.int .i64 7) (.func (.func 110) #[] #[])) (Zd R) w λ w =>
 opU Pg (Instr.mapUpdate 128 t2 (.int .i64 12) (.func (.func 110) #[] #[])) (Zd R) w λ w =>
 opU Pg (Instr.mapUpdate 128 t2 (.int .i64 9) (.func (.func 111) #[] #[])) (Zd R) w λ w =>
 opU Pg (Instr.mapUpdate 128 t2 (.int .i64 11) (.func (.func 112) #[] #[])) (Zd R) w λ w =>
 R (.returned t2) w
theorem Zbf {R:RT} {w:World} (h:ZbW R w):Calls Pg 81 #[] w R:=by
 refine yD Tryz.func81 ?_
 refine zs<|zr<|zm<|zn<|zk<|zs<|zr<|zm<|zn<|zk<|zs<|zr<|yv h λ _ w h=>zm<|yu h λ w h=>?_
 exact zm<|yu h λ w h=>zm<|yu h λ w h=>yu h λ w h=>yu h λ w h=>zm<|zm<|zn<|zk<|Zk<|Zi rfl rfl h
def n46 (t0 t1:Value) (R:RT) (w:World):Prop :=
 opV Pg (Instr.box 24 t0) (Zd R) w λ t2 w =>
 opV Pg (Instr.box 9 t1) (Zd R) w λ t3 w =>
 F0 24 t2 1 R w λ t6 w =>
 L0 22 t6 R w λ t7 w =>
 opV Pg (Instr.makeFunc (.func 114) #[] #[t3]) (Zd R) w λ t8 w =>
 C0 113 #[t7,t8] R w λ t9 w =>
 opV Pg (Instr.extract t9 0) (Zd R) w λ t10 w =>
 opV Pg (Instr.extract t9 1) (Zd R) w λ t11 w =>
 R (.returned (.tuple #[t10,t11])) w
theorem ZeK {t0 t1:Value} {R:RT} {w:World} (h:n46 t0 t1 R w):Calls Pg 82 #[t0,t1] w R:=by
 refine yD Tryz.func82 ?_
 refine zs<|zr<|yv h λ _ w h=>yv h λ _ w h=>zm<|zm<|zn<|zk<|zs<|zr<|yv h λ _ w h=>yv h λ _ w h=>yF h λ _ w h=>yc h ZfS λ _ w h=>yv h λ _ w h=>?_
 exact yv h λ _ w h=>zm<|zm<|zn<|zk<|Zk<|Yx rfl rfl rfl h
def FT (t0 t1 t8:Value) (next1:KV) (R:RT) (w:World):Prop :=
 X0 30 t0 t8 R w λ t14 w =>
 L0 3 t14 R w λ t15 w =>
 B0 .eql 3 false t1 t15 R w λ t16 w =>
 Zr t16 (
 R (.returned t8) w) (
 B0 .add 3 true t8 (.int .i64 1) R w λ t18 w =>
 next1 t18 w)
def Zcm (t0 t1:Value) (R:RT) (w:World):Prop :=
 opV Pg (Builtin.len_ #[30] 3 #[t0]) (Zd R) w λ t7 w =>
 Yi (λ t8 w next1 =>
 B0 .lss 3 false t8 t7 R w λ t9 w =>
 Zr t9 (
 FT t0 t1 t8 next1 R w) (
 R (.returned (.int .i64 (-1))) w)) (.int .i64 0) w
theorem ZcR {t0 t1:Value} {R:RT} {w:World} (h:Zcm t0 t1 R w):Calls Pg 85 #[t0,t1] w R:=by
 refine yD Tryz.func85 ?_
 refine zs<|zr<|zm<|zn<|zk<|zs<|zs<|zr<|zm<|yx h λ _ w h=>zm<|zn<|zk<|Zj<|yl1 [4,5,8,9,10,11,12,13,14,15,16,17,18] 8 h λ σ w next h=>?_
 refine zs<|zr<|yb h λ _ w h=>zn<|zk<|zs<|yC h (λ h=>?_) λ h=>?_
 · refine Zh<|zk<|zs<|Zj<|zs<|zr<|zm<|zm<|zn<|zk<|zs<|zr<|zm<|zm<|zm ?_
   refine yv h λ _ w h=>yv h λ _ w h=>yb h λ _ w h=>zn<|zk<|yC h (λ h=>zs<|zr<|zm<|zm<|zn<|zk<|Zk<|Zf<|Zb<|Zb<|Zf<|Zb<|Zi rfl rfl h) λ h=>Zh<|Zg<|zk<|zr<|yb h λ _ w h=>zm<|zn<|zk ?_
   exact ⟨rfl,h⟩
 exact Zy<|Zc<|Zc<|Zn<|zk<|zs<|zr<|zm<|zn<|zk<|Zk<|Zi rfl rfl h
def xV (t7 t13:Value) (next1:KV) (R:RT) (w:World):Prop :=
 opV Pg (Op.unary .not t13) (Zd R) w λ t14 w =>
 Zr t14 (
 R (.returned (.tuple #[])) w) (
 B0 .add 3 true t7 (.int .i64 1) R w λ t15 w =>
 next1 t15 w)
def qg (t0 t5 t7:Value) (next1:KV) (R:RT) (w:World):Prop :=
 X0 30 t5 t7 R w λ t9 w =>
 L0 3 t9 R w λ t10 w =>
 Qi Pg t0 #[t10] (Zd R) w λ t13 w =>
 xV t7 t13 next1 R w
def Zct (t0 t1:Value) (R:RT) (w:World):Prop :=
 L0 30 t1 R w λ t5 w =>
 opV Pg (Builtin.len_ #[30] 3 #[t5]) (Zd R) w λ t6 w =>
 Yi (λ t7 w next1 =>
 B0 .lss 3 false t7 t6 R w λ t8 w =>
 Zr t8 (
 qg t0 t5 t7 next1 R w) (
 R (.returned (.tuple #[])) w)) (.int .i64 0) w
theorem ZbR {t0 t1:Value} {R:RT} {w:World} (h:Zct t0 t1 R w):Calls Pg 86 #[t0,t1] w R:=by
 refine yD Tryz.func86 ?_
 refine zs<|zr<|yv h λ _ w h=>yx h λ _ w h=>zm<|zn<|zk<|Zj<|yl1 [4,7,8,9,10,11,12,13,14,15] 7 h λ σ w next h=>zs<|zr<|yb h λ _ w h=>zn<|zk<|zs ?_
 refine yC h (λ h=>?_) λ h=>?_
 · refine Zh<|zk<|zs<|Zj<|zs<|zr<|yv h λ _ w h=>yv h λ _ w h=>zm<|zn<|zk<|zs<|zr<|zm<|zm ?_
   exact yV h λ _ w h=>yv h λ _ w h=>zn<|zk<|yC h (λ h=>Zk<|Zf<|Zb<|Zb<|Zf<|ZZ rfl h) λ h=>Zh<|Zg<|zk<|zr<|yb h λ _ w h=>zm<|zn<|zk<|⟨rfl,h⟩
 exact Zy<|Zc<|Zc<|Zn<|ZP<|ZZ rfl h
def Fp (t4 t9 t17:Value) (next1:KW) (R:RT) (w:World):Prop :=
 Zq (λ (t4:Value) (w:World) =>
 B0 .add 3 true t9 (.int .i64 1) R w λ t22 w =>
 next1 t4 t22 w) λ K2 =>
 Zr t17 (
 opV Pg (Instr.buildSlice 30 1 #[(0,t9)]) (Zd R) w λ t20 w =>
 opV Pg (Builtin.append_ #[30,30] 30 #[t4,t20]) (Zd R) w λ t21 w =>
 K2 t21 w) (
 K2 t4 w)
def Ot (t0 t1 t4 t9:Value) (next1:KW) (R:RT) (w:World):Prop :=
 X0 93 t0 t9 R w λ t12 w =>
 L0 4 t12 R w λ t13 w =>
 Qi Pg t1 #[t9,t13] (Zd R) w λ t17 w =>
 Fp t4 t9 t17 next1 R w
def Za8 (t0 t1:Value) (R:RT) (w:World):Prop :=
 opV Pg (Builtin.len_ #[93] 3 #[t0]) (Zd R) w λ t8 w =>
 XP (λ t4 t9 w next1 =>
 B0 .lss 3 false t9 t8 R w λ t10 w =>
 Zr t10 (
 Ot t0 t1 t4 t9 next1 R w) (
 R (.returned t4) w)) (Value.slice none 0 0) (.int .i64 0) w
theorem Zba {t0 t1:Value} {R:RT} {w:World} (h:Za8 t0 t1 R w):Calls Pg 87 #[t0,t1] w R:=by
 refine yD Tryz.func87 ?_
 refine zs<|zr<|zm<|zn<|zk<|zs<|zs<|zr<|zm<|yx h λ _ w h=>zm<|zn<|zk<|Zj<|yl2 [4,5,6,9,10,11,12,13,14,15,16,17,18,19,20,21,22] 4 9 h λ σ w next h=>?_
 refine zs<|zr<|yb h λ _ w h=>zn<|zk<|zs<|yC h (λ h=>?_) λ h=>?_
 · refine Zh<|zk<|zs<|Zj<|zs<|zr<|zm<|yv h λ _ w h=>yv h λ _ w h=>zm<|zm<|zn<|zk<|zs<|zr ?_
   refine zm<|zm<|zm<|yV h λ _ w h=>zn<|zk<|yJ1 [4,18,19,20,21] 4 h (λ _ _ hkK2 h=>?_) λ σ w h=>?_
   · refine yC h (λ h=>?_) λ h=>?_
     · refine zr<|zm<|zm<|yS h λ _ w h=>yx h λ _ w h=>zm<|zn<|zk ?_
       exact zt hkK2 h
     refine Zh<|zk ?_
     exact zt hkK2 h
   exact Zg<|zk<|zr<|yb h λ _ w h=>zm<|zn<|zk<|⟨rfl,h⟩
 exact Zy<|Zc<|Zc<|Zn<|zk<|zs<|zr<|zm<|zm<|zn<|zk<|Zk<|Zi rfl rfl h
def Zcp (t0 t1 t2:Value) (R:RT) (w:World):Prop :=
 L0 4 t2 R w λ t7 w =>
 B0 .eql 4 false t1 t7 R w λ t8 w =>
 R (.returned t8) w
theorem ZcO {t0 t1 t2:Value} {R:RT} {w:World} (h:Zcp t0 t1 t2 R w):Calls Pg 88 #[t0,t1,t2] w R:=by
 refine yD Tryz.func88 ?_
 exact zs<|zr<|zm<|zn<|zk<|zs<|zr<|zm<|yv h λ _ w h=>yb h λ _ w h=>zm<|zn<|zk<|Zk<|Zi rfl rfl h
def NJ (t0 t3 t28 t34:Value) (next3:KV) (R:RT) (w:World):Prop :=
 Zu t28 t34 (.bool false) λ t35 =>
 Zq (λ (t40:Value) (w:World) =>
 Zu t35 t40 (.bool false) λ t41 =>
 Zr t41 (
 R (.returned (.bool false)) w) (
 B0 .add 3 true t3 (.int .i64 1) R w λ t23 w =>
 next3 t23 w)) λ K5 =>
 Zl t35 true (
 opV Pg (Instr.index 9 t0 t3) (Zd R) w λ t39 w =>
 opV Pg (ZM .neq 5 true t39 (.int .u8 95)) (Zd R) w λ t40 w =>
 K5 t40 w) (
 K5 undef w)
def S6 (t0 t3 t27:Value) (next3:KV) (R:RT) (w:World):Prop :=
 opV Pg (Op.unary .not t27) (Zd R) w λ t28 w =>
 Zq (λ (t34:Value) (w:World) =>
 NJ t0 t3 t28 t34 next3 R w) λ K4 =>
 Zl t28 true (
 opV Pg (Instr.index 9 t0 t3) (Zd R) w λ t32 w =>
 C0 118 #[t32] R w λ t33 w =>
 opV Pg (Op.unary .not t33) (Zd R) w λ t34 w =>
 K4 t34 w) (
 K4 undef w)
def Pc (t0 t3:Value) (next3:KV) (R:RT) (w:World):Prop :=
 opV Pg (Builtin.len_ #[9] 3 #[t0]) (Zd R) w λ t20 w =>
 B0 .lss 3 false t3 t20 R w λ t21 w =>
 Zr t21 (
 opV Pg (Instr.index 9 t0 t3) (Zd R) w λ t26 w =>
 C0 117 #[t26] R w λ t27 w =>
 S6 t0 t3 t27 next3 R w) (
 R (.returned (.bool true)) w)
def Id (t0 t6 t10:Value) (R:RT) (w:World):Prop :=
 Zu t6 (.bool true) t10 λ t11 =>
 Zq (λ (t16:Value) (w:World) =>
 Zu t11 (.bool true) t16 λ t17 =>
 Zr t17 (
 R (.returned (.bool false)) w) (
 Yi (λ t3 w next3 =>
 Pc t0 t3 next3 R w) (.int .i64 0) w)) λ K2 =>
 Zl t11 false (
 opV Pg (Instr.index 9 t0 (.int .i64 0)) (Zd R) w λ t14 w =>
 C0 117 #[t14] R w λ t15 w =>
 opV Pg (Op.unary .not t15) (Zd R) w λ t16 w =>
 K2 t16 w) (
 K2 undef w)
def n15 (t0:Value) (R:RT) (w:World):Prop :=
 opV Pg (Builtin.len_ #[9] 3 #[t0]) (Zd R) w λ t5 w =>
 B0 .lss 3 true t5 (.int .i64 1) R w λ t6 w =>
 Zq (λ (t10:Value) (w:World) =>
 Id t0 t6 t10 R w) λ K1 =>
 Zl t6 false (
 opV Pg (Builtin.len_ #[9] 3 #[t0]) (Zd R) w λ t9 w =>
 B0 .gtr 3 true t9 (.int .i64 32) R w λ t10 w =>
 K1 t10 w) (
 K1 undef w)
theorem Zgh {t0:Value} {R:RT} {w:World} (h:n15 t0 R w):Calls Pg 89 #[t0] w R:=by
 refine yD Tryz.func89 ?_
 refine zs<|zr<|zm<|zn<|zk<|zs<|zs<|Zs<|yG 4<|zm<|yx h λ _ w h=>yb h λ _ w h=>zm<|zn<|yg1 3 3 false [8,9,10] 10 h (λ _ T hT h=>?_) λ σ w h=>?_
 · refine zm<|yx h λ _ w h=>yb h λ _ w h=>zn ?_
   exact zt hT h
 refine yG 2<|yp h λ _ h=>zm<|zn<|yg1 4 8 false [13,14,15,16] 16 h (λ _ T hT h=>?_) λ σ w h=>?_
 · refine zm<|yv h λ _ w h=>yc h ZaR λ _ w h=>yv h λ _ w h=>zn ?_
   exact zt hT h
 refine yG 1<|yp h λ _ h=>zn<|ZG<|zk<|yC h (λ h=>zs<|zr<|zm<|zn<|zk<|Zk<|Zb<|Zi rfl rfl h) λ h=>Zh<|zk<|zs<|zs<|zr<|zm<|zn<|zk ?_
 refine Zj<|yl1 [2,3,18,19,20,21,22,23,24,25,26,27,28,29,30,31,32,33,34,35,36,37,38,39,40,41] 3 h λ σ w next h=>zs<|zs<|zr<|zm<|zm<|yx h λ _ w h=>yb h λ _ w h=>zn<|zk<|yC h (λ h=>?_) λ h=>?_
 · refine Zh<|zk<|zs<|Zj<|zs<|Zs<|yG 6<|zm<|zm<|yv h λ _ w h=>yc h ZaR λ _ w h=>yv h λ _ w h=>zm<|zn<|yg1 5 5 true [30,31,32,33,34] 34 h (λ _ T hT h=>?_) λ σ w h=>?_
   · refine zm<|zm<|yv h λ _ w h=>yc h Zew λ _ w h=>yv h λ _ w h=>zn ?_
     exact zt hT h
   refine yG 2<|yp h λ _ h=>zm<|zn<|yg1 4 12 true [37,38,39,40] 40 h (λ _ T hT h=>?_) λ σ w h=>?_
   · refine zm<|zm<|yv h λ _ w h=>yb h λ _ w h=>zn ?_
     exact zt hT h
   refine yG 1<|yp h λ _ h=>zn<|ZG<|zk<|yC h (λ h=>zs<|zr<|zm<|zn<|zk<|Zk<|Zf<|Zb<|Zb<|Zf<|Zb<|Zi rfl rfl h) λ h=>Zh<|Zg<|zk<|zr<|zm<|yb h λ _ w h=>zm<|zn ?_
   exact zk<|⟨rfl,h⟩
 exact Zy<|Zc<|Zc<|Zn<|zk<|zs<|zr<|zm<|zn<|zk<|Zk<|Zi rfl rfl h
def BK (t1 t2 t3 t40:Value) (R:RT) (w:World):Prop :=
 opV Pg (Op.unary .not t40) (Zd R) w λ t41 w =>
 Zr t41 (
 R (.returned (.int .i64 5)) w) (
 L0 28 t3 R w λ t42 w =>
 C0 120 #[t42,t1,t2] R w λ t45 w =>
 R (.returned t45) w)
def BB (t1 t2 t3 t7 t33 t37:Value) (R:RT) (w:World):Prop :=
 Zu t33 (.bool true) t37 λ t38 =>
 Zr t38 (
 R (.returned (.int .i64 4)) w) (
 L0 48 t7 R w λ t39 w =>
 C0 119 #[t39] R w λ t40 w =>
 BK t1 t2 t3 t40 R w)
def AZ (t1 t2 t3 t7:Value) (R:RT) (w:World):Prop :=
 F0 48 t7 1 R w λ t31 w =>
 L0 42 t31 R w λ t32 w =>
 B0 .lss 42 true t32 (.int .i64 1) R w λ t33 w =>
 Zq (λ (t37:Value) (w:World) =>
 BB t1 t2 t3 t7 t33 t37 R w) λ K2 =>
 Zl t33 false (
 F0 48 t7 1 R w λ t35 w =>
 L0 42 t35 R w λ t36 w =>
 B0 .gtr 42 true t36 (.int .i64 12) R w λ t37 w =>
 K2 t37 w) (
 K2 undef w)
def Bs (t1 t2 t3 t7:Value) (C1:World→Prop) (R:RT) (w:World):Prop :=
 qV Pg C1 (Instr.fieldAt 28 t3 1) λ t21 =>
 qV Pg C1 (Instr.loadAt 26 t21) λ t22 =>
 qV Pg C1 (Instr.indexAt 26 t22 t1) λ t24 =>
 qV Pg C1 (Instr.loadAt 24 t24) λ t25 =>
 qV Pg C1 (Instr.fieldAt 48 t7 0) λ t26 =>
 qV Pg C1 (Instr.loadAt 9 t26) λ t27 =>
 C0 45 #[t25,t27,t2] R w λ t29 w =>
 C1 w∧(
 qV Pg C1 (ZM .geq 3 true t29 (.int .i64 0)) λ t30 =>
 Zr t30 (
 R (.returned (.int .i64 2)) w) (
 AZ t1 t2 t3 t7 R w))
def n33 (t0 t1 t2:Value) (R:RT) (w:World):Prop :=
 opV Pg (Instr.box 28 t0) (Zd R) w λ t3 w =>
 F0 28 t3 1 R w λ t8 w =>
 L0 26 t8 R w λ t9 w =>
 X0 26 t9 t1 R w λ t11 w =>
 F0 24 t11 1 R w λ t12 w =>
 L0 22 t12 R w λ t13 w =>
 X0 22 t13 t2 R w λ t15 w =>
 L0 48 t15 R w λ t16 w =>
 opV Pg (Instr.alloc 48 true (.tuple #[])) (Zd R) w λ t7 w =>
 opU Pg (Instr.storeAt 48 t7 t16) (Zd R) w λ w =>
 F0 48 t7 0 R w λ t17 w =>
 L0 9 t17 R w λ t18 w =>
 C0 89 #[t18] R w λ t19 w =>
 opV Pg (Op.unary .not t19) (Zd R) w λ t20 w =>
 Zr t20 (
 R (.returned (.int .i64 1)) w) (
 Yp w λ C1 w =>
 Bs t1 t2 t3 t7 C1 R w)
theorem Zd8 {t0 t1 t2:Value} {R:RT} {w:World} (h:n33 t0 t1 t2 R w):Calls Pg 90 #[t0,t1,t2] w R:=by
 refine yD Tryz.func90 ?_
 refine zs<|zr<|yv h λ _ w h=>zm<|zn<|zk<|zs<|zr<|yv h λ _ w h=>yv h λ _ w h=>zm<|yv h λ _ w h=>yv h λ _ w h=>yv h λ _ w h=>zm ?_
 refine yv h λ _ w h=>yv h λ _ w h=>yv h λ _ w h=>yu h λ w h=>zn<|zk<|zs<|zs<|zr<|yv h λ _ w h=>yv h λ _ w h=>yc h c89 λ _ w h=>yv h λ _ w h=>zn<|zk ?_
 refine yC h (λ h=>zs<|zr<|zm<|zn<|zk<|Zk<|Zb<|Zi rfl rfl h) λ h=>Zh<|zk<|zs<|zs<|yh [21,22,23,24,25,26,27,28,29,30] h λ C hC h=>ye 0 hC h λ _ h=>?_
 refine ye 1 hC h λ _ h=>?_
 refine yw 2 hC ?_
 refine ye 3 hC h λ _ h=>?_
 refine ye 4 hC h λ _ h=>?_
 refine ye 5 hC h λ _ h=>?_
 refine ye 6 hC h λ _ h=>?_
 refine yw 7 hC ?_
 refine yo 8 ?_
 refine yc h c45 λ _ w h=>zn ?_
 obtain ⟨hC,h⟩:=h
 refine ⟨hC,?_⟩
 refine ye 9 hC h λ _ h=>?_
 refine yz<|zk<|yC h (λ h=>zs<|zr<|zm<|zn<|zk<|Zk<|Zb<|Zi rfl rfl h) λ h=>Zh<|zk<|zs<|zs<|Zs<|yG 4<|yv h λ _ w h=>yv h λ _ w h=>yb h λ _ w h=>zm<|zn ?_
 refine yg1 3 3 false [35,36,37] 37 h (λ _ T hT h=>?_) λ σ w h=>?_
 · refine yv h λ _ w h=>yv h λ _ w h=>yb h λ _ w h=>zn ?_
   exact zt hT h
 refine yG 1<|yp h λ _ h=>zn<|ZG<|zk<|yC h (λ h=>zs<|zr<|zm<|zn<|zk<|Zk<|Zb<|Zi rfl rfl h) λ h=>Zh<|zk<|zs<|zs<|zr<|yv h λ _ w h=>yc h ZgP λ _ w h=>yv h λ _ w h=>?_
 refine zn<|zk<|yC h (λ h=>zs<|zr<|zm<|zn<|zk<|Zk<|Zb<|Zi rfl rfl h) λ h=>Zh<|zk<|zs<|zr<|yv h λ _ w h=>zm<|zm<|yc h Zei λ _ w h=>zm<|zn<|zk ?_
 exact Zk<|Zi rfl rfl h
def YB (f:Zm):Bool:=f.kind == 1||f.kind == 2||f.kind == 3
def Y5 (f:Zm):Int:=if f.kind == 2 then f.low else f.high
abbrev Ym (lo hi:Int):Value := .agg #[.int .i64 lo,.int .i64 hi]
theorem qB (w0:World) (v:Value) (f:Zm) (hf:ZV w0 v f):Ret Pg 49 #[v] w0 λ r w'=>r = .bool (YB f)∧Ext w0 w':=by
 obtain ⟨tv,cv,rfl,hT,hC⟩:=hf
 refine Zer (R:=ZQ _) ?_;unfold n50
 simp (disch:=try exact DI) only [↓PR,QR,simprocAttr,↓SS]
 exact ⟨by first | trivial | rfl,ee⟩
theorem yK (w0:World) (v:Value) (f:Zm) (hf:ZV w0 v f):Ret Pg 47 #[v] w0 λ r w'=>r = .bool (YB f)∧Ext w0 w':=by
 obtain ⟨tv,cv,rfl,hT,hC⟩:=hf
 refine Ze3 (R:=ZQ _) ?_;unfold n26
 simp (disch:=try exact DI) only [↓PR,QR,simprocAttr,Sw.joinK_eq]
 refine ⟨?_,(Ext.refl _).alloc _⟩
 congr 1
 unfold YB
 rw [Bool.eq_iff_iff]
 simp
 omega
theorem Ae (w0:World) (v:Value) (f:Zm) (hf:ZV w0 v f):Ret Pg 152 #[v] w0 λ r w'=>r = .tuple #[.int .i64 f.low,.int .i64 (Y5 f)]∧Ext w0 w':=by
 obtain ⟨tv,cv,rfl,hT,hC⟩:=hf
 refine Zfa (R:=ZQ _) ?_;unfold n27
 simp (disch:=try exact DI) only [↓PR,QR,simprocAttr,↓IO,↓Io]
 unfold Y5
 cases f.kind == 2
 · simp (disch:=try exact DI) only [↓PR,QR,simprocAttr]
   refine ZI ?_
   simp (disch:=try exact DI) only [↓PR,QR,simprocAttr,↓IO,↓Io]
   exact ⟨by first | trivial | rfl,ee⟩
 · simp (disch:=try exact DI) only [↓PR,QR,simprocAttr]
   refine ZI ?_
   simp (disch:=try exact DI) only [↓PR,QR,simprocAttr,↓IO,↓Io]
   exact ⟨by first | trivial | rfl,ee⟩
theorem I5 (w0:World) (v:Value) (f:Zm) (hf:ZV w0 v f):Ret Pg 236 #[v] w0 λ r w'=>r = .tuple #[if YB f then Ym f.low (Y5 f) else Ym 0 0,.int .i64 (if YB f then 0 else 2)]∧Ext w0 w':=by
 obtain ⟨tv,cv,rfl,hT,hC⟩:=hf
 refine Zey (R:=ZQ _) ?_;unfold n51
 simp (disch:=try exact DI) only [↓PR,QR,simprocAttr,↓BH,↓Bp,↓AR,↓AX]
 refine zcr (qB _ _ f ⟨tv,cv,rfl,ZW.ext hT ee,Yc.ext hC ee⟩) λ w1 e1=>?_
 have s1:=e1.size
 try simp only [World.size_alloc,World.size_setCell,World.size_drew,World.putObj_size,Sw.putW_size] at s1
 cases hn:YB f with
 | false =>
  simp (disch:=try exact DI) only [↓PR,QR,simprocAttr,↓BH,↓Bp,↓AR,↓AX,e1.cellQ,e1.frozenQ]
  exact ⟨by first | trivial | rfl,ee⟩
 | true =>
  simp (disch:=try exact DI) only [↓PR,QR,simprocAttr,↓BH,↓Bp,↓AR,↓AX,e1.cellQ,e1.frozenQ]
  unfold Y5
  cases f.kind == 2
  · simp (disch:=try exact DI) only [↓PR,QR,simprocAttr,↓BH,↓Bp,↓AR,↓AX,e1.cellQ,e1.frozenQ]
    exact ⟨by first | trivial | rfl,ee⟩
  · simp (disch:=try exact DI) only [↓PR,QR,simprocAttr,↓BH,↓Bp,↓AR,↓AX,e1.cellQ,e1.frozenQ]
    exact ⟨by first | trivial | rfl,ee⟩
theorem Gs (w0:World) (v:Value) (l:List ZD) (g:FuncId) (caps:Array Value) (p:ZD→Bool) (hs:Q0 w0 v l) (hg:Callable Pg g) (hc:qo w0 Xe g caps p l) :
 Ret Pg 67 #[v,.func (.func g) #[] caps] w0 λ r w'=>r = .tuple #[.int .i64 (if idx p l < 0 then 0 else idx p l),.bool (l.any p)]∧Ext w0 w':=by
 refine ZdI (R:=ZQ _) ?_;unfold n68
 refine zcr (U0 _ _ l g caps p hs hg hc) λ w1 e1=>?_
 have s1:=e1.size
 try simp only [World.size_alloc,World.size_setCell,World.size_drew,World.putObj_size,Sw.putW_size] at s1
 simp (disch:=try exact DI) only [↓PR,QR,simprocAttr,↓RF]
 exact ⟨by rw [Y7],e1⟩
theorem xL (w0:World) (v:Value) (l:List Zm) (g:FuncId) (caps:Array Value) (p:Zm→Bool) (hs:Z4 w0 v l) (hg:Callable Pg g) (hc:qo w0 ZV g caps p l) :
 Ret Pg 113 #[v,.func (.func g) #[] caps] w0 λ r w'=>r = .tuple #[.int .i64 (if idx p l < 0 then 0 else idx p l),.bool (l.any p)]∧Ext w0 w':=by
 refine Ze9 (R:=ZQ _) ?_;unfold n67
 refine zcr (Va _ _ l g caps p hs hg hc) λ w1 e1=>?_
 have s1:=e1.size
 try simp only [World.size_alloc,World.size_setCell,World.size_drew,World.putObj_size,Sw.putW_size] at s1
 simp (disch:=try exact DI) only [↓PR,QR,simprocAttr,↓SR]
 exact ⟨by rw [Y7],e1⟩
def LI {α:Type} (p:α→Bool) (l:List α):Int:=if idx p l < 0 then 0 else idx p l
theorem DT (w0:World) (v:Value) (f:Zm) (pb:Nat) (s:ByteArray) (hf:ZV w0 v f) (hp:w0.cell? ⟨pb,0,none⟩=some (.string s)):Ret Pg 114 #[v,.pointer (some ⟨pb,0,none⟩)] w0 λ r w'=>r = .bool (decide (f.name=s))∧Ext w0 w':=by
 obtain ⟨tv,cv,rfl,hT,hC⟩:=hf
 have hb:=World.block_lt_of_cell? w0 _ hp
 simp only at hb
 refine Zgi (R:=ZQ _) ?_;unfold n47
 simp (disch:=try exact DI) only [↓PR,QR,simprocAttr,Sw.joinK_eq,hp]
 exact ⟨by first | trivial | rfl,ee⟩
theorem Hn (w0:World) (v:Value) (m:ZD) (pb:Nat) (s:ByteArray) (hf:Xe w0 v m) (hp:w0.cell? ⟨pb,0,none⟩=some (.string s)):Ret Pg 68 #[v,.pointer (some ⟨pb,0,none⟩)] w0 λ r w'=>r = .bool (decide (m.name=s))∧Ext w0 w':=by
 obtain ⟨fv,rfl,hF⟩:=hf
 have hb:=World.block_lt_of_cell? w0 _ hp
 simp only at hb
 refine ZeJ (R:=ZQ _) ?_;unfold n49
 simp (disch:=try exact DI) only [↓PR,QR,simprocAttr,Sw.joinK_eq,hp]
 exact ⟨by first | trivial | rfl,ee⟩
theorem zp (w0:World) (v:Value) (m:ZD) (s:ByteArray) (hm:Xe w0 v m):Ret Pg 82 #[v,.string s] w0 λ r w'=>r = .tuple #[.int .i64 (LI (λ f=>decide (f.name=s)) m.fields),.bool (m.fields.any λ f=>decide (f.name=s))]∧Ext w0 w':=by
 obtain ⟨fv,rfl,hF⟩:=hm
 refine ZeK (R:=ZQ _) ?_;unfold n46
 simp (disch:=try exact DI) only [↓PR,QR,simprocAttr,Sw.joinK_eq]
 refine Zt (xL _ _ m.fields _ _ (λ f=>decide (f.name=s)) (hF.ext ee) Zfe ?_) ?_
 · intro w v f hf e hv
   exact DT w v f _ s hv (e.cell (by simp (disch:=try exact DI) only [↓PR,QR,simprocAttr]))
 rintro _ w1 ⟨rfl,e1⟩
 simp (disch:=try exact DI) only [↓PR,QR,simprocAttr,Sw.joinK_eq]
 exact ⟨by first | trivial | rfl,ee⟩
theorem j9 (w0:World) (v:Value) (d:YF) (s:ByteArray) (hd:Yv w0 v d):Ret Pg 31 #[v,.string s] w0 λ r w'=>r = .tuple #[.int .i64 (LI (λ m=>decide (m.name=s)) d.msgs),.bool (d.msgs.any λ m=>decide (m.name=s))]∧Ext w0 w':=by
 obtain ⟨fv,rfl,hF⟩:=hd
 refine ZfI (R:=ZQ _) ?_;unfold n48
 simp (disch:=try exact DI) only [↓PR,QR,simprocAttr,Sw.joinK_eq]
 refine Zt (Gs _ _ d.msgs _ _ (λ m=>decide (m.name=s)) (hF.ext ee) c68 ?_) ?_
 · intro w v f hf e hv
   exact Hn w v f _ s hv (e.cell (by simp (disch:=try exact DI) only [↓PR,QR,simprocAttr]))
 rintro _ w1 ⟨rfl,e1⟩
 simp (disch:=try exact DI) only [↓PR,QR,simprocAttr,Sw.joinK_eq]
 exact ⟨by first | trivial | rfl,ee⟩
def Vt (t2 t3 t86 t92:Value) (R:RT) (w:World):Prop :=
 Zu t86 t92 (.bool false) λ t93 =>
 Zq (λ (t99:Value) (w:World) =>
 Zu t93 t99 (.bool false) λ t100 =>
 R (.returned t100) w) λ K13 =>
 Zl t93 true (
 F0 48 t2 13 R w λ t95 w =>
 L0 3 t95 R w λ t96 w =>
 F0 48 t3 13 R w λ t97 w =>
 L0 3 t97 R w λ t98 w =>
 B0 .eql 3 false t96 t98 R w λ t99 w =>
 K13 t99 w) (
 K13 undef w)
def VB (t2 t3 t79 t85:Value) (R:RT) (w:World):Prop :=
 Zu t79 t85 (.bool false) λ t86 =>
 Zq (λ (t92:Value) (w:World) =>
 Vt t2 t3 t86 t92 R w) λ K12 =>
 Zl t86 true (
 F0 48 t2 12 R w λ t88 w =>
 L0 3 t88 R w λ t89 w =>
 F0 48 t3 12 R w λ t90 w =>
 L0 3 t90 R w λ t91 w =>
 B0 .eql 3 false t89 t91 R w λ t92 w =>
 K12 t92 w) (
 K12 undef w)
def VL (t2 t3 t72 t78:Value) (R:RT) (w:World):Prop :=
 Zu t72 t78 (.bool false) λ t79 =>
 Zq (λ (t85:Value) (w:World) =>
 VB t2 t3 t79 t85 R w) λ K11 =>
 Zl t79 true (
 F0 48 t2 11 R w λ t81 w =>
 L0 46 t81 R w λ t82 w =>
 F0 48 t3 11 R w λ t83 w =>
 L0 46 t83 R w λ t84 w =>
 C0 92 #[t82,t84] R w λ t85 w =>
 K11 t85 w) (
 K11 undef w)
def VN (t2 t3 t65 t71:Value) (R:RT) (w:World):Prop :=
 Zu t65 t71 (.bool false) λ t72 =>
 Zq (λ (t78:Value) (w:World) =>
 VL t2 t3 t72 t78 R w) λ K10 =>
 Zl t72 true (
 F0 48 t2 10 R w λ t74 w =>
 L0 9 t74 R w λ t75 w =>
 F0 48 t3 10 R w λ t76 w =>
 L0 9 t76 R w λ t77 w =>
 B0 .eql 9 false t75 t77 R w λ t78 w =>
 K10 t78 w) (
 K10 undef w)
def VC (t2 t3 t58 t64:Value) (R:RT) (w:World):Prop :=
 Zu t58 t64 (.bool false) λ t65 =>
 Zq (λ (t71:Value) (w:World) =>
 VN t2 t3 t65 t71 R w) λ K9 =>
 Zl t65 true (
 F0 48 t2 9 R w λ t67 w =>
 L0 9 t67 R w λ t68 w =>
 F0 48 t3 9 R w λ t69 w =>
 L0 9 t69 R w λ t70 w =>
 B0 .eql 9 false t68 t70 R w λ t71 w =>
 K9 t71 w) (
 K9 undef w)
def Vo (t2 t3 t51 t57:Value) (R:RT) (w:World):Prop :=
 Zu t51 t57 (.bool false) λ t58 =>
 Zq (λ (t64:Value) (w:World) =>
 VC t2 t3 t58 t64 R w) λ K8 =>
 Zl t58 true (
 F0 48 t2 8 R w λ t60 w =>
 L0 9 t60 R w λ t61 w =>
 F0 48 t3 8 R w λ t62 w =>
 L0 9 t62 R w λ t63 w =>
 B0 .eql 9 false t61 t63 R w λ t64 w =>
 K8 t64 w) (
 K8 undef w)
def VG (t2 t3 t44 t50:Value) (R:RT) (w:World):Prop :=
 Zu t44 t50 (.bool false) λ t51 =>
 Zq (λ (t57:Value) (w:World) =>
 Vo t2 t3 t51 t57 R w) λ K7 =>
 Zl t51 true (
 F0 48 t2 7 R w λ t53 w =>
 L0 45 t53 R w λ t54 w =>
 F0 48 t3 7 R w λ t55 w =>
 L0 45 t55 R w λ t56 w =>
 C0 91 #[t54,t56] R w λ t57 w =>
 K7 t57 w) (
 K7 undef w)
def VM (t2 t3 t37 t43:Value) (R:RT) (w:World):Prop :=
 Zu t37 t43 (.bool false) λ t44 =>
 Zq (λ (t50:Value) (w:World) =>
 VG t2 t3 t44 t50 R w) λ K6 =>
 Zl t44 true (
 F0 48 t2 6 R w λ t46 w =>
 L0 3 t46 R w λ t47 w =>
 F0 48 t3 6 R w λ t48 w =>
 L0 3 t48 R w λ t49 w =>
 B0 .eql 3 false t47 t49 R w λ t50 w =>
 K6 t50 w) (
 K6 undef w)
def Vs (t2 t3 t30 t36:Value) (R:RT) (w:World):Prop :=
 Zu t30 t36 (.bool false) λ t37 =>
 Zq (λ (t43:Value) (w:World) =>
 VM t2 t3 t37 t43 R w) λ K5 =>
 Zl t37 true (
 F0 48 t2 5 R w λ t39 w =>
 L0 3 t39 R w λ t40 w =>
 F0 48 t3 5 R w λ t41 w =>
 L0 3 t41 R w λ t42 w =>
 B0 .eql 3 false t40 t42 R w λ t43 w =>
 K5 t43 w) (
 K5 undef w)
def Wd (t2 t3 t23 t29:Value) (R:RT) (w:World):Prop :=
 Zu t23 t29 (.bool false) λ t30 =>
 Zq (λ (t36:Value) (w:World) =>
 Vs t2 t3 t30 t36 R w) λ K4 =>
 Zl t30 true (
 F0 48 t2 4 R w λ t32 w =>
 L0 4 t32 R w λ t33 w =>
 F0 48 t3 4 R w λ t34 w =>
 L0 4 t34 R w λ t35 w =>
 B0 .eql 4 false t33 t35 R w λ t36 w =>
 K4 t36 w) (
 K4 undef w)
def Wb (t2 t3 t16 t22:Value) (R:RT) (w:World):Prop :=
 Zu t16 t22 (.bool false) λ t23 =>
 Zq (λ (t29:Value) (w:World) =>
 Wd t2 t3 t23 t29 R w) λ K3 =>
 Zl t23 true (
 F0 48 t2 3 R w λ t25 w =>
 L0 4 t25 R w λ t26 w =>
 F0 48 t3 3 R w λ t27 w =>
 L0 4 t27 R w λ t28 w =>
 B0 .eql 4 false t26 t28 R w λ t29 w =>
 K3 t29 w) (
 K3 undef w)
def Wf (t2 t3 t9 t15:Value) (R:RT) (w:World):Prop :=
 Zu t9 t15 (.bool false) λ t16 =>
 Zq (λ (t22:Value) (w:World) =>
 Wb t2 t3 t16 t22 R w) λ K2 =>
 Zl t16 true (
 F0 48 t2 2 R w λ t18 w =>
 L0 3 t18 R w λ t19 w =>
 F0 48 t3 2 R w λ t20 w =>
 L0 3 t20 R w λ t21 w =>
 B0 .eql 3 false t19 t21 R w λ t22 w =>
 K2 t22 w) (
 K2 undef w)
def n29 (t0 t1:Value) (R:RT) (w:World):Prop :=
 opV Pg (Instr.box 48 t0) (Zd R) w λ t2 w =>
 opV Pg (Instr.box 48 t1) (Zd R) w λ t3 w =>
 F0 48 t2 0 R w λ t5 w =>
 L0 9 t5 R w λ t6 w =>
 F0 48 t3 0 R w λ t7 w =>
 L0 9 t7 R w λ t8 w =>
 B0 .eql 9 false t6 t8 R w λ t9 w =>
 Zq (λ (t15:Value) (w:World) =>
 Wf t2 t3 t9 t15 R w) λ K1 =>
 Zl t9 true (
 F0 48 t2 1 R w λ t11 w =>
 L0 42 t11 R w λ t12 w =>
 F0 48 t3 1 R w λ t13 w =>
 L0 42 t13 R w λ t14 w =>
 B0 .eql 42 false t12 t14 R w λ t15 w =>
 K1 t15 w) (
 K1 undef w)
set_option maxHeartbeats 40000000 in
theorem Zdy {t0 t1:Value} {R:RT} {w:World} (h:n29 t0 t1 R w):Calls Pg 57 #[t0,t1] w R:=by
 refine yD Tryz.func57 ?_
 refine zs<|zr<|yv h λ _ w h=>yv h λ _ w h=>zm<|zn<|zk<|zs<|Zs<|yG 6<|yv h λ _ w h=>yv h λ _ w h=>yv h λ _ w h=>yv h λ _ w h=>yb h λ _ w h=>?_
 refine zm<|zn<|yg1 5 5 true [11,12,13,14,15] 15 h (λ _ T hT h=>?_) λ σ w h=>?_
 · refine yv h λ _ w h=>yv h λ _ w h=>yv h λ _ w h=>yv h λ _ w h=>yb h λ _ w h=>zn ?_
   exact zt hT h
 refine yG 2<|yp h λ _ h=>zm<|zn<|yg1 5 12 true [18,19,20,21,22] 22 h (λ _ T hT h=>?_) λ σ w h=>?_
 · refine yv h λ _ w h=>yv h λ _ w h=>yv h λ _ w h=>yv h λ _ w h=>yb h λ _ w h=>zn ?_
   exact zt hT h
 refine yG 2<|yp h λ _ h=>zm<|zn<|yg1 5 19 true [25,26,27,28,29] 29 h (λ _ T hT h=>?_) λ σ w h=>?_
 · refine yv h λ _ w h=>yv h λ _ w h=>yv h λ _ w h=>yv h λ _ w h=>yb h λ _ w h=>zn ?_
   exact zt hT h
 refine yG 2<|yp h λ _ h=>zm<|zn<|yg1 5 26 true [32,33,34,35,36] 36 h (λ _ T hT h=>?_) λ σ w h=>?_
 · refine yv h λ _ w h=>yv h λ _ w h=>yv h λ _ w h=>yv h λ _ w h=>yb h λ _ w h=>zn ?_
   exact zt hT h
 refine yG 2<|yp h λ _ h=>zm<|zn<|yg1 5 33 true [39,40,41,42,43] 43 h (λ _ T hT h=>?_) λ σ w h=>?_
 · refine yv h λ _ w h=>yv h λ _ w h=>yv h λ _ w h=>yv h λ _ w h=>yb h λ _ w h=>zn ?_
   exact zt hT h
 refine yG 2<|yp h λ _ h=>zm<|zn<|yg1 5 40 true [46,47,48,49,50] 50 h (λ _ T hT h=>?_) λ σ w h=>?_
 · refine yv h λ _ w h=>yv h λ _ w h=>yv h λ _ w h=>yv h λ _ w h=>yb h λ _ w h=>zn ?_
   exact zt hT h
 refine yG 2<|yp h λ _ h=>zm<|zn<|yg1 5 47 true [53,54,55,56,57] 57 h (λ _ T hT h=>?_) λ σ w h=>?_
 · refine yv h λ _ w h=>yv h λ _ w h=>yv h λ _ w h=>yv h λ _ w h=>yc h c91 λ _ w h=>zn ?_
   exact zt hT h
 refine yG 2<|yp h λ _ h=>zm<|zn<|yg1 5 54 true [60,61,62,63,64] 64 h (λ _ T hT h=>?_) λ σ w h=>?_
 · refine yv h λ _ w h=>yv h λ _ w h=>yv h λ _ w h=>yv h λ _ w h=>yb h λ _ w h=>zn ?_
   exact zt hT h
 refine yG 2<|yp h λ _ h=>zm<|zn<|yg1 5 61 true [67,68,69,70,71] 71 h (λ _ T hT h=>?_) λ σ w h=>?_
 · refine yv h λ _ w h=>yv h λ _ w h=>yv h λ _ w h=>yv h λ _ w h=>yb h λ _ w h=>zn ?_
   exact zt hT h
 refine yG 2<|yp h λ _ h=>zm<|zn<|yg1 5 68 true [74,75,76,77,78] 78 h (λ _ T hT h=>?_) λ σ w h=>?_
 · refine yv h λ _ w h=>yv h λ _ w h=>yv h λ _ w h=>yv h λ _ w h=>yb h λ _ w h=>zn ?_
   exact zt hT h
 refine yG 2<|yp h λ _ h=>zm<|zn<|yg1 5 75 true [81,82,83,84,85] 85 h (λ _ T hT h=>?_) λ σ w h=>?_
 · refine yv h λ _ w h=>yv h λ _ w h=>yv h λ _ w h=>yv h λ _ w h=>yc h c92 λ _ w h=>zn ?_
   exact zt hT h
 refine yG 2<|yp h λ _ h=>zm<|zn<|yg1 5 82 true [88,89,90,91,92] 92 h (λ _ T hT h=>?_) λ σ w h=>?_
 · refine yv h λ _ w h=>yv h λ _ w h=>yv h λ _ w h=>yv h λ _ w h=>yb h λ _ w h=>zn ?_
   exact zt hT h
 refine yG 2<|yp h λ _ h=>zm<|zn<|yg1 5 89 true [95,96,97,98,99] 99 h (λ _ T hT h=>?_) λ σ w h=>?_
 · refine yv h λ _ w h=>yv h λ _ w h=>yv h λ _ w h=>yv h λ _ w h=>yb h λ _ w h=>zn ?_
   exact zt hT h
 exact yG 2<|yp h λ _ h=>zm<|zn<|ZG<|zk<|Zk<|Zi rfl rfl h
def Zbq (t0:Value) (R:RT) (w:World):Prop :=
 opV Pg (ZM .eql 26 true t0 (Value.slice none 0 0)) (Zd R) w λ t4 w =>
 Zr t4 (
 R (.returned (Value.slice none 0 0)) w) (
 opV Pg (Instr.buildSlice 26 0 #[]) (Zd R) w λ t5 w =>
 opV Pg (Builtin.append_ #[26,26] 26 #[t5,t0]) (Zd R) w λ t7 w =>
 R (.returned t7) w)
theorem Zbv {t0:Value} {R:RT} {w:World} (h:Zbq t0 R w):Calls Pg 58 #[t0] w R:=by
 refine yD Tryz.func58 ?_
 refine zs<|zr<|zm<|zn<|zk<|zs<|zs<|zr<|zm<|yb h λ _ w h=>zn<|zk<|yC h (λ h=>zs<|zr<|zm<|zn<|zk<|Zk<|Zb<|Zi rfl rfl h) λ h=>Zh ?_
 exact zk<|zs<|zr<|yS h λ _ w h=>zm<|yx h λ _ w h=>zm<|zn<|zk<|Zk<|Zi rfl rfl h
def Zdl (t0:Value) (R:RT) (w:World):Prop :=
 opV Pg (ZM .eql 22 true t0 (Value.slice none 0 0)) (Zd R) w λ t4 w =>
 Zr t4 (
 R (.returned (Value.slice none 0 0)) w) (
 opV Pg (Instr.buildSlice 22 0 #[]) (Zd R) w λ t5 w =>
 opV Pg (Builtin.append_ #[22,22] 22 #[t5,t0]) (Zd R) w λ t7 w =>
 R (.returned t7) w)
theorem ZcP {t0:Value} {R:RT} {w:World} (h:Zdl t0 R w):Calls Pg 59 #[t0] w R:=by
 refine yD Tryz.func59 ?_
 refine zs<|zr<|zm<|zn<|zk<|zs<|zs<|zr<|zm<|yb h λ _ w h=>zn<|zk<|yC h (λ h=>zs<|zr<|zm<|zn<|zk<|Zk<|Zb<|Zi rfl rfl h) λ h=>Zh ?_
 exact zk<|zs<|zr<|yS h λ _ w h=>zm<|yx h λ _ w h=>zm<|zn<|zk<|Zk<|Zi rfl rfl h
def Zb2 (t0:Value) (R:RT) (w:World):Prop :=
 opV Pg (ZM .eql 43 true t0 (Value.slice none 0 0)) (Zd R) w λ t4 w =>
 Zr t4 (
 R (.returned (Value.slice none 0 0)) w) (
 opV Pg (Instr.buildSlice 43 0 #[]) (Zd R) w λ t5 w =>
 opV Pg (Builtin.append_ #[43,43] 43 #[t5,t0]) (Zd R) w λ t7 w =>
 R (.returned t7) w)
theorem ZaU {t0:Value} {R:RT} {w:World} (h:Zb2 t0 R w):Calls Pg 60 #[t0] w R:=by
 refine yD Tryz.func60 ?_
 refine zs<|zr<|zm<|zn<|zk<|zs<|zs<|zr<|zm<|yb h λ _ w h=>zn<|zk<|yC h (λ h=>zs<|zr<|zm<|zn<|zk<|Zk<|Zb<|Zi rfl rfl h) λ h=>Zh ?_
 exact zk<|zs<|zr<|yS h λ _ w h=>zm<|yx h λ _ w h=>zm<|zn<|zk<|Zk<|Zi rfl rfl h
def ZaZ (t0:Value) (R:RT) (w:World):Prop :=
 opV Pg (ZM .eql 46 true t0 (Value.slice none 0 0)) (Zd R) w λ t4 w =>
 Zr t4 (
 R (.returned (Value.slice none 0 0)) w) (
 opV Pg (Instr.buildSlice 46 0 #[]) (Zd R) w λ t5 w =>
 opV Pg (Builtin.append_ #[46,46] 46 #[t5,t0]) (Zd R) w λ t7 w =>
 R (.returned t7) w)
theorem Zde {t0:Value} {R:RT} {w:World} (h:ZaZ t0 R w):Calls Pg 61 #[t0] w R:=by
 refine yD Tryz.func61 ?_
 refine zs<|zr<|zm<|zn<|zk<|zs<|zs<|zr<|zm<|yb h λ _ w h=>zn<|zk<|yC h (λ h=>zs<|zr<|zm<|zn<|zk<|Zk<|Zb<|Zi rfl rfl h) λ h=>Zh ?_
 exact zk<|zs<|zr<|yS h λ _ w h=>zm<|yx h λ _ w h=>zm<|zn<|zk<|Zk<|Zi rfl rfl h
def RO (t2 t9:Value) (R:RT) (w:World):Prop :=
 opV Pg (Instr.extract t9 0) (Zd R) w λ t10 w =>
 opV Pg (Instr.extract t9 1) (Zd R) w λ t11 w =>
 opV Pg (Instr.extract t9 2) (Zd R) w λ t12 w =>
 opV Pg (Instr.alloc 90 true (.tuple #[])) (Zd R) w λ t5 w =>
 opU Pg (Instr.storeAt 90 t5 t11) (Zd R) w λ w =>
 L0 90 t5 R w λ t13 w =>
 opU Pg (Instr.storeAt 90 t2 t13) (Zd R) w λ w =>
 qW Pg 90 t2 w λ r0 =>
 R (.returned (.tuple #[r0,t12])) w
def n44 (t0:Value) (R:RT) (w:World):Prop :=
 opV Pg (Instr.box 28 t0) (Zd R) w λ t1 w =>
 opV Pg (Instr.alloc 90 true (.tuple #[])) (Zd R) w λ t2 w =>
 L0 28 t1 R w λ t8 w =>
 C0 93 #[t8] R w λ t9 w =>
 RO t2 t9 R w
theorem ZfF {t0:Value} {R:RT} {w:World} (h:n44 t0 R w):Calls Pg 62 #[t0] w R:=by
 refine yD Tryz.func62 ?_
 refine zs<|zr<|yv h λ _ w h=>yv h λ _ w h=>zm<|zn<|zk<|zs<|zr<|yv h λ _ w h=>yc h c93 λ _ w h=>zm<|yv h λ _ w h=>yv h λ _ w h=>yv h λ _ w h=>?_
 refine yv h λ _ w h=>zm<|yu h λ w h=>zm<|zn<|zk<|zs<|zr<|yv h λ _ w h=>zm<|yu h λ w h=>zm<|zn<|zk<|Zk ?_
 exact Yr rfl rfl rfl h
open Go.RowKit (intOf Below)
theorem Ki (w0:World) (v:Value) (css:List (Cs 2)) (hs:Ze w0 2 (λ _ cs x=>cs=x.1) v css) (h1:∀ x∈css,∀ u∈x.1,u.oneCell'=true) (hb:css.length≤1048576) :
 Ret Pg 60 #[v] w0 λ r w'=>Z5 w' w0.heap.size 62 2 Subtype.val r css∧Ext w0 w':=by
 obtain ⟨A,c,rfl,hlc,hcm,hlm,hel⟩:=Ze.open hs
 refine ZaU (R:=ZQ _) ?_;unfold Zb2
 simp (disch:=try exact DI) only [↓PR,QR,simprocAttr]
 cases A with
 | none =>
  have:css=[]:=by
   cases css with
   | nil=>rfl
   | cons x l=>obtain ⟨_,_,_,h,_⟩:=hel 0 x rfl;cases h
  subst this
  simp only [Option.isNone_none]
  simp (disch:=try exact DI) only [↓PR,QR,simprocAttr]
  exact ⟨Z5.nil _ _ _ _ _,ee⟩
 | some a =>
  simp only [Option.isNone_some]
  simp (disch:=try exact DI) only [↓PR,QR,simprocAttr]
  have hO:=Z5.new w0 62 2 (Subtype.val:Cs 2→List Value) [] (λ x=>x.2) (by simp)
  simp only [List.flatMap_nil,List.length_nil] at hO
  have eW:Ext w0 (w0.alloc (.cells #[] 62)):=ee
  have hsz:w0.heap.size≤(w0.alloc (.cells #[] 62)).heap.size:=eW.size
  generalize w0.alloc (.cells #[] 62)=W at hO eW hsz ⊢
  cases hcs:css with
  | nil =>
   subst hcs
   simp only [List.length_nil]
   rw [UJ Tryz.underlying43 Ax _ _ _ _ _ (Nat.le_refl 0)]
   simp (disch:=try exact DI) only [↓PR,QR,simprocAttr]
   exact ⟨hO,eW⟩
  | cons x0 l0 =>
   obtain ⟨b,o,_,hA,_⟩:=hel 0 x0 (by rw [hcs];rfl)
   injection hA with hA
   subst hA
   rw [← hcs]
   refine X7 Tryz.underlying43 Ax rfl (by decide) (λ x=>x.2) h1 hO (λ j x hx=>?_) hsz ?_ (by simp;omega) ?_
   · obtain ⟨b',o',cs,hA',hl',hE,rfl⟩:=hel j x hx
     injection hA' with hA'
     injection hA' with h3 h4
     subst h3 h4
     exact hE.ext eW
   · have:=ZgC
     rw [List.length_nil,Nat.zero_add]
     exact Nat.le_trans (Nat.mul_le_mul hb this) (by decide)
   · intro v' w' ho hg
     simp (disch:=try exact DI) only [↓PR,QR,simprocAttr]
     refine ⟨ho,eW.grown hg ?_⟩
     intro k hk
     have h:=hO.lt k hk
     exact h.1
theorem Aj (w0:World) (v:Value) (css:List (Cs 3)) (hs:Ze w0 3 (λ _ cs x=>cs=x.1) v css) (h1:∀ x∈css,∀ u∈x.1,u.oneCell'=true) (hb:css.length≤1048576) :
 Ret Pg 61 #[v] w0 λ r w'=>Z5 w' w0.heap.size 60 3 Subtype.val r css∧Ext w0 w':=by
 obtain ⟨A,c,rfl,hlc,hcm,hlm,hel⟩:=Ze.open hs
 refine Zde (R:=ZQ _) ?_;unfold ZaZ
 simp (disch:=try exact DI) only [↓PR,QR,simprocAttr]
 cases A with
 | none =>
  have:css=[]:=by
   cases css with
   | nil=>rfl
   | cons x l=>obtain ⟨_,_,_,h,_⟩:=hel 0 x rfl;cases h
  subst this
  simp only [Option.isNone_none]
  simp (disch:=try exact DI) only [↓PR,QR,simprocAttr]
  exact ⟨Z5.nil _ _ _ _ _,ee⟩
 | some a =>
  simp only [Option.isNone_some]
  simp (disch:=try exact DI) only [↓PR,QR,simprocAttr]
  have hO:=Z5.new w0 60 3 (Subtype.val:Cs 3→List Value) [] (λ x=>x.2) (by simp)
  simp only [List.flatMap_nil,List.length_nil] at hO
  have eW:Ext w0 (w0.alloc (.cells #[] 60)):=ee
  have hsz:w0.heap.size≤(w0.alloc (.cells #[] 60)).heap.size:=eW.size
  generalize w0.alloc (.cells #[] 60)=W at hO eW hsz ⊢
  cases hcs:css with
  | nil =>
   subst hcs
   simp only [List.length_nil]
   rw [UJ Tryz.underlying46 jm _ _ _ _ _ (Nat.le_refl 0)]
   simp (disch:=try exact DI) only [↓PR,QR,simprocAttr]
   exact ⟨hO,eW⟩
  | cons x0 l0 =>
   obtain ⟨b,o,_,hA,_⟩:=hel 0 x0 (by rw [hcs];rfl)
   injection hA with hA
   subst hA
   rw [← hcs]
   refine X7 Tryz.underlying46 jm rfl (by decide) (λ x=>x.2) h1 hO (λ j x hx=>?_) hsz ?_ (by simp;omega) ?_
   · obtain ⟨b',o',cs,hA',hl',hE,rfl⟩:=hel j x hx
     injection hA' with hA'
     injection hA' with h3 h4
     subst h3 h4
     exact hE.ext eW
   · have:=ZeY
     rw [List.length_nil,Nat.zero_add]
     exact Nat.le_trans (Nat.mul_le_mul hb this) (by decide)
   · intro v' w' ho hg
     simp (disch:=try exact DI) only [↓PR,QR,simprocAttr]
     refine ⟨ho,eW.grown hg ?_⟩
     intro k hk
     have h:=hO.lt k hk
     exact h.1
theorem xI (w0:World) (v:Value) (css:List (Cs 15)) (hs:Ze w0 15 (λ _ cs x=>cs=x.1) v css) (h1:∀ x∈css,∀ u∈x.1,u.oneCell'=true) (hb:css.length≤1048576) :
 Ret Pg 59 #[v] w0 λ r w'=>Z5 w' w0.heap.size 48 15 Subtype.val r css∧Ext w0 w':=by
 obtain ⟨A,c,rfl,hlc,hcm,hlm,hel⟩:=Ze.open hs
 refine ZcP (R:=ZQ _) ?_;unfold Zdl
 simp (disch:=try exact DI) only [↓PR,QR,simprocAttr]
 cases A with
 | none =>
  have:css=[]:=by
   cases css with
   | nil=>rfl
   | cons x l=>obtain ⟨_,_,_,h,_⟩:=hel 0 x rfl;cases h
  subst this
  simp only [Option.isNone_none]
  simp (disch:=try exact DI) only [↓PR,QR,simprocAttr]
  exact ⟨Z5.nil _ _ _ _ _,ee⟩
 | some a =>
  simp only [Option.isNone_some]
  simp (disch:=try exact DI) only [↓PR,QR,simprocAttr]
  have hO:=Z5.new w0 48 15 (Subtype.val:Cs 15→List Value) [] (λ x=>x.2) (by simp)
  simp only [List.flatMap_nil,List.length_nil] at hO
  have eW:Ext w0 (w0.alloc (.cells #[] 48)):=ee
  have hsz:w0.heap.size≤(w0.alloc (.cells #[] 48)).heap.size:=eW.size
  generalize w0.alloc (.cells #[] 48)=W at hO eW hsz ⊢
  cases hcs:css with
  | nil =>
   subst hcs
   simp only [List.length_nil]
   rw [UJ Tryz.underlying22 VR _ _ _ _ _ (Nat.le_refl 0)]
   simp (disch:=try exact DI) only [↓PR,QR,simprocAttr]
   exact ⟨hO,eW⟩
  | cons x0 l0 =>
   obtain ⟨b,o,_,hA,_⟩:=hel 0 x0 (by rw [hcs];rfl)
   injection hA with hA
   subst hA
   rw [← hcs]
   refine X7 Tryz.underlying22 VR rfl (by decide) (λ x=>x.2) h1 hO (λ j x hx=>?_) hsz ?_ (by simp;omega) ?_
   · obtain ⟨b',o',cs,hA',hl',hE,rfl⟩:=hel j x hx
     injection hA' with hA'
     injection hA' with h3 h4
     subst h3 h4
     exact hE.ext eW
   · have:=Zdx
     rw [List.length_nil,Nat.zero_add]
     exact Nat.le_trans (Nat.mul_le_mul hb this) (by decide)
   · intro v' w' ho hg
     simp (disch:=try exact DI) only [↓PR,QR,simprocAttr]
     refine ⟨ho,eW.grown hg ?_⟩
     intro k hk
     have h:=hO.lt k hk
     exact h.1
theorem Gu (w0:World) (v:Value) (css:List (Cs 2)) (hs:Ze w0 2 (λ _ cs x=>cs=x.1) v css) (h1:∀ x∈css,∀ u∈x.1,u.oneCell'=true) (hb:css.length≤1048576) :
 Ret Pg 58 #[v] w0 λ r w'=>Z5 w' w0.heap.size 24 2 Subtype.val r css∧Ext w0 w':=by
 obtain ⟨A,c,rfl,hlc,hcm,hlm,hel⟩:=Ze.open hs
 refine Zbv (R:=ZQ _) ?_;unfold Zbq
 simp (disch:=try exact DI) only [↓PR,QR,simprocAttr]
 cases A with
 | none =>
  have:css=[]:=by
   cases css with
   | nil=>rfl
   | cons x l=>obtain ⟨_,_,_,h,_⟩:=hel 0 x rfl;cases h
  subst this
  simp only [Option.isNone_none]
  simp (disch:=try exact DI) only [↓PR,QR,simprocAttr]
  exact ⟨Z5.nil _ _ _ _ _,ee⟩
 | some a =>
  simp only [Option.isNone_some]
  simp (disch:=try exact DI) only [↓PR,QR,simprocAttr]
  have hO:=Z5.new w0 24 2 (Subtype.val:Cs 2→List Value) [] (λ x=>x.2) (by simp)
  simp only [List.flatMap_nil,List.length_nil] at hO
  have eW:Ext w0 (w0.alloc (.cells #[] 24)):=ee
  have hsz:w0.heap.size≤(w0.alloc (.cells #[] 24)).heap.size:=eW.size
  generalize w0.alloc (.cells #[] 24)=W at hO eW hsz ⊢
  cases hcs:css with
  | nil =>
   subst hcs
   simp only [List.length_nil]
   rw [UJ Tryz.underlying26 Uh _ _ _ _ _ (Nat.le_refl 0)]
   simp (disch:=try exact DI) only [↓PR,QR,simprocAttr]
   exact ⟨hO,eW⟩
  | cons x0 l0 =>
   obtain ⟨b,o,_,hA,_⟩:=hel 0 x0 (by rw [hcs];rfl)
   injection hA with hA
   subst hA
   rw [← hcs]
   refine X7 Tryz.underlying26 Uh rfl (by decide) (λ x=>x.2) h1 hO (λ j x hx=>?_) hsz ?_ (by simp;omega) ?_
   · obtain ⟨b',o',cs,hA',hl',hE,rfl⟩:=hel j x hx
     injection hA' with hA'
     injection hA' with h3 h4
     subst h3 h4
     exact hE.ext eW
   · have:=ZcU
     rw [List.length_nil,Nat.zero_add]
     exact Nat.le_trans (Nat.mul_le_mul hb this) (by decide)
   · intro v' w' ho hg
     simp (disch:=try exact DI) only [↓PR,QR,simprocAttr]
     refine ⟨ho,eW.grown hg ?_⟩
     intro k hk
     have h:=hO.lt k hk
     exact h.1
abbrev TT:TypeId:=62
abbrev TC:TypeId:=60
abbrev TF:TypeId:=48
abbrev TM:TypeId:=24
def Qa (w:World) (lo hi:Nat) (cs:List Value) (f:Zm):Prop:=∃ tv cv,cs=Zo f tv cv∧WI w lo hi TT 2 (λ t:ZX=>Wj t) tv f.terms∧WI w lo hi TC 3 (λ c:V0=>Ql c) cv f.cases
def Xl (w:World) (lo hi:Nat) (v:Value) (l:List Zm):Prop:=∃ css:List (Cs 15),WI w lo hi TF 15 Subtype.val v css∧Uf 15 (Qa w lo hi) css l
def WA (w:World) (lo hi:Nat) (cs:List Value) (m:ZD):Prop:=∃ fv,cs=Zx m fv∧Xl w lo hi fv m.fields
def Q4 (w:World) (lo hi:Nat) (v:Value) (l:List ZD):Prop:=∃ css:List (Cs 2),WI w lo hi TM 2 Subtype.val v css∧Uf 2 (WA w lo hi) css l
def Hx (w:World) (lo hi:Nat) (v:Value) (d:YF):Prop:=∃ mv,v = .agg (Zz d mv).toArray∧Q4 w lo hi mv d.msgs
section
variable {w w':World} {lo hi lo' hi':Nat}
theorem Qa.ext {cs:List Value} {f:Zm} (h:Qa w lo hi cs f) (e:Ext w w'):Qa w' lo hi cs f:=by obtain ⟨tv,cv,h1,h2,h3⟩:=h;exact ⟨tv,cv,h1,h2.ext e,h3.ext e⟩
theorem Xl.ext {v:Value} {l:List Zm} (h:Xl w lo hi v l) (e:Ext w w'):Xl w' lo hi v l:=by obtain ⟨css,h1,h2⟩:=h;exact ⟨css,h1.ext e,h2.imp λ _ _ h=>h.ext e⟩
theorem WA.ext {cs:List Value} {m:ZD} (h:WA w lo hi cs m) (e:Ext w w'):WA w' lo hi cs m:=by obtain ⟨fv,h1,h2⟩:=h;exact ⟨fv,h1,h2.ext e⟩
theorem Q4.ext {v:Value} {l:List ZD} (h:Q4 w lo hi v l) (e:Ext w w'):Q4 w' lo hi v l:=by obtain ⟨css,h1,h2⟩:=h;exact ⟨css,h1.ext e,h2.imp λ _ _ h=>h.ext e⟩
theorem Hx.ext {v:Value} {d:YF} (h:Hx w lo hi v d) (e:Ext w w'):Hx w' lo hi v d:=by obtain ⟨mv,h1,h2⟩:=h;exact ⟨mv,h1,h2.ext e⟩
theorem Qa.mono {cs:List Value} {f:Zm} (h:Qa w lo hi cs f) (h1:lo'≤lo) (h2:hi≤hi'):Qa w lo' hi' cs f:=by obtain ⟨tv,cv,a,b,c⟩:=h;exact ⟨tv,cv,a,b.mono h1 h2,c.mono h1 h2⟩
theorem Xl.mono {v:Value} {l:List Zm} (h:Xl w lo hi v l) (h1:lo'≤lo) (h2:hi≤hi'):Xl w lo' hi' v l:=by obtain ⟨css,a,b⟩:=h;exact ⟨css,a.mono h1 h2,b.imp λ _ _ h=>h.mono h1 h2⟩
theorem WA.mono {cs:List Value} {m:ZD} (h:WA w lo hi cs m) (h1:lo'≤lo) (h2:hi≤hi'):WA w lo' hi' cs m:=by obtain ⟨fv,a,b⟩:=h;exact ⟨fv,a,b.mono h1 h2⟩
theorem Q4.mono {v:Value} {l:List ZD} (h:Q4 w lo hi v l) (h1:lo'≤lo) (h2:hi≤hi'):Q4 w lo' hi' v l:=by obtain ⟨css,a,b⟩:=h;exact ⟨css,a.mono h1 h2,b.imp λ _ _ h=>h.mono h1 h2⟩
def Q5 (w:World) (lo hi b:Nat) (Ts:List TypeId):Prop:=hi≤b∨b < lo∨∃ T',X2 w b T'∧∀ T∈Ts,T'≠T
theorem Q5.one {b:Nat} {Ts:List TypeId} (h:Q5 w lo hi b Ts) {T:TypeId} (hT:T∈Ts):hi≤b∨b < lo∨∃ T',X2 w b T'∧T'≠T:=by
 rcases h with h | h | ⟨T',h1,h2⟩
 · exact .inl h
 · exact .inr (.inl h)
 · exact .inr (.inr ⟨T',h1,h2 T hT⟩)
theorem Q5.sub {b:Nat} {Ts Ts':List TypeId} (h:Q5 w lo hi b Ts) (hs:∀ T∈Ts',T∈Ts):Q5 w lo hi b Ts':=by
 rcases h with h | h | ⟨T',h1,h2⟩
 · exact .inl h
 · exact .inr (.inl h)
 · exact .inr (.inr ⟨T',h1,λ T hT=>h2 T (hs T hT)⟩)
theorem Qa.only {b:Nat} {cs:List Value} {f:Zm} (h:Qa w lo hi cs f) (ho:Yu b w w') (hb:Q5 w lo hi b [TT,TC]):Qa w' lo hi cs f:=by
 obtain ⟨tv,cv,h1,h2,h3⟩:=h
 exact ⟨tv,cv,h1,h2.only ho (hb.one (by simp)),h3.only ho (hb.one (by simp))⟩
theorem Xl.only {b:Nat} {v:Value} {l:List Zm} (h:Xl w lo hi v l) (ho:Yu b w w') (hb:Q5 w lo hi b [TT,TC,TF]):Xl w' lo hi v l:=by
 obtain ⟨css,h1,h2⟩:=h
 exact ⟨css,h1.only ho (hb.one (by simp)),h2.imp λ _ _ h=>h.only ho (hb.sub (by simp))⟩
theorem WA.only {b:Nat} {cs:List Value} {m:ZD} (h:WA w lo hi cs m) (ho:Yu b w w') (hb:Q5 w lo hi b [TT,TC,TF]):WA w' lo hi cs m:=by
 obtain ⟨fv,h1,h2⟩:=h;exact ⟨fv,h1,h2.only ho hb⟩
theorem Qa.plain {cs:List Value} {f:Zm} (h:Qa w lo hi cs f):W6 w cs f:=by
 obtain ⟨tv,cv,h1,h2,h3⟩:=h
 exact ⟨tv,cv,h1,h2.1.slice (λ _=>rfl) (λ _ _=>rfl),h3.1.slice (λ _=>rfl) (λ _ _=>rfl)⟩
theorem Xl.plain {v:Value} {l:List Zm} (h:Xl w lo hi v l):Z4 w v l:=by
 obtain ⟨css,h1,h2⟩:=h;exact h1.1.reads (h2.imp λ _ _ h=>h.plain)
theorem WA.plain {cs:List Value} {m:ZD} (h:WA w lo hi cs m):GZ w cs m:=by
 obtain ⟨fv,h1,h2⟩:=h;exact ⟨fv,h1,h2.plain⟩
theorem Q4.plain {v:Value} {l:List ZD} (h:Q4 w lo hi v l):Q0 w v l:=by
 obtain ⟨css,h1,h2⟩:=h;exact h1.1.reads (h2.imp λ _ _ h=>h.plain)
theorem Hx.plain {v:Value} {d:YF} (h:Hx w lo hi v d):Yv w v d:=by
 obtain ⟨mv,h1,h2⟩:=h;exact ⟨mv,h1,h2.plain⟩
end
def Zc5 (f:Zm):Prop:=f.terms.length≤1048576∧f.cases.length≤1048576
def ZaK (m:ZD):Prop:=m.fields.length≤1048576∧∀ f∈m.fields,Zc5 f
def Ra (d:YF):Prop:=d.msgs.length≤1048576∧∀ m∈d.msgs,ZaK m
theorem Q4.only {w w':World} {lo hi b:Nat} {v:Value} {l:List ZD} (h:Q4 w lo hi v l) (ho:Yu b w w') (hb:Q5 w lo hi b [TT,TC,TF,TM]):Q4 w' lo hi v l:=by
 obtain ⟨css,h1,h2⟩:=h
 exact ⟨css,h1.only ho (hb.one (by simp)),h2.imp λ _ _ h=>h.only ho (hb.sub (by simp))⟩
theorem GZ.one {w:World} {cs:List Value} {m:ZD} (h:GZ w cs m):∀ u∈cs,u.oneCell'=true:=by
 obtain ⟨fv,rfl,h1⟩:=h
 have:=h1.oneCell
 intro u hu
 simp only [List.mem_cons,List.not_mem_nil,or_false] at hu
 rcases hu with rfl | rfl
 · rfl
 · exact this
theorem W6.one {w:World} {cs:List Value} {f:Zm} (h:W6 w cs f):∀ u∈cs,u.oneCell'=true:=by
 obtain ⟨tv,cv,rfl,h1,h2⟩:=h
 have h1:=h1.oneCell
 have h2:=h2.oneCell
 intro u hu
 simp only [List.mem_cons,List.not_mem_nil,or_false] at hu
 rcases hu with rfl | rfl | rfl | rfl | rfl | rfl | rfl | rfl | rfl | rfl | rfl | rfl | rfl | rfl | rfl<;>first | rfl | assumption
theorem G8.one {w:World} {cs:List Value} {t:ZX} (h:G8 w cs t):∀ u∈cs,u.oneCell'=true:=by
 obtain rfl:=h
 intro u hu
 simp only [List.mem_cons,List.not_mem_nil,or_false] at hu
 rcases hu with rfl | rfl<;>rfl
theorem Ag.one {w:World} {cs:List Value} {t:V0} (h:Ag w cs t):∀ u∈cs,u.oneCell'=true:=by
 obtain rfl:=h
 intro u hu
 simp only [List.mem_cons,List.not_mem_nil,or_false] at hu
 rcases hu with rfl | rfl | rfl<;>rfl
def Rd (cs:List Value):Option Nat:=(cs[1]?).bind Value.ownBlock
def HB (css:List (Cs 2)) (k:Nat):Prop:=∀ (i j:Nat) (ci cj:Cs 2) (a b:Nat),i < j→j < k→css[i]?=some ci→css[j]?=some cj→Rd ci.1=some a→Rd cj.1=some b→a < b
def Vl (w:World) (lo hi:Nat) (v:Value) (l:List ZD):Prop:=∃ css:List (Cs 2),WI w lo hi TM 2 Subtype.val v css∧Uf 2 (WA w lo hi) css l∧HB css css.length
theorem Vl.toN {w:World} {lo hi:Nat} {v:Value} {l:List ZD} (h:Vl w lo hi v l):Q4 w lo hi v l:=by obtain ⟨css,h1,h2,_⟩:=h;exact ⟨css,h1,h2⟩
theorem Vl.ext {w w':World} {lo hi:Nat} {v:Value} {l:List ZD} (h:Vl w lo hi v l) (e:Ext w w'):Vl w' lo hi v l:=by obtain ⟨css,h1,h2,h3⟩:=h;exact ⟨css,h1.ext e,h2.imp λ _ _ h=>h.ext e,h3⟩
theorem Vl.mono {w:World} {lo hi lo' hi':Nat} {v:Value} {l:List ZD} (h:Vl w lo hi v l) (h1:lo'≤lo) (h2:hi≤hi'):Vl w lo' hi' v l:=by obtain ⟨css,a,b,c⟩:=h;exact ⟨css,a.mono h1 h2,b.imp λ _ _ h=>h.mono h1 h2,c⟩
theorem Vl.only {w w':World} {lo hi b:Nat} {v:Value} {l:List ZD} (h:Vl w lo hi v l) (ho:Yu b w w') (hb:Q5 w lo hi b [TT,TC,TF,TM]):Vl w' lo hi v l:=by
 obtain ⟨css,h1,h2,h3⟩:=h
 exact ⟨css,h1.only ho (hb.one (by simp)),h2.imp λ _ _ h=>h.only ho (hb.sub (by simp)),h3⟩
theorem Mm (w0:World) (v:Value) (d:YF) (hd:Yv w0 v d) (ht:Ra d) :
 Ret Pg 28 #[v] w0 λ r w'=>(∃ mv,r = .agg (Zz d mv).toArray∧Vl w' w0.heap.size w'.heap.size mv d.msgs)∧Ext w0 w':=by
 obtain ⟨mv,rfl,hM⟩:=hd
 refine Ze1 (R:=ZQ _) ?_;unfold n45
 simp (disch:=try exact DI) only [↓PR,QR,simprocAttr]
 obtain ⟨cssM,hraw,hmates⟩:=Ze.raw hM
 generalize hW:(World.alloc (World.alloc w0 _) _)=W
 have eW:Ext w0 W:=by rw [← hW];exact ee
 have hsz:W.heap.size=w0.heap.size+1+1:=by rw [← hW];simp only [World.size_alloc]
 have hX:W.heap[w0.heap.size]?=some (.cells #[.string d.name,mv,.string d.start] 28 (0,0)):=by
  rw [← hW];exact ((Ext.refl _).alloc _).obj (ZE w0 _ _)
 have hR:W.heap[w0.heap.size+1]?=some (.cells #[.string ByteArray.empty,.slice none 0 0,.string ByteArray.empty] 28 (0,0)):=by
  rw [← hW]
  have:=ZE (w0.alloc (Obj.cells (Zz d mv).toArray 28)) #[.string ByteArray.empty,.slice none 0 0,.string ByteArray.empty] 28
  rw [World.size_alloc] at this
  exact this
 clear hW
 refine Zt (Gu W mv cssM (hraw.ext GT eW) (λ x hx=>by obtain ⟨m,_,hm⟩:=hmates.mem hx;exact hm.one) (by rw [hmates.1];exact ht.1)) ?_
 rintro t9 w1 ⟨hO,e1⟩
 obtain ⟨A,c,rfl,hlc,hcm,hlm,hel⟩:=Ze.open (hO.slice (E:=λ _ cs x=>cs=x.1) (λ x=>x.2) (λ _ _=>rfl))
 clear hel
 have s1:=e1.size
 have hX1:=e1.obj hX
 have hX2:(w1.setCell ⟨w0.heap.size,1,none⟩ (.slice A cssM.length c)).heap[w0.heap.size]?=some (.cells #[.string d.name,.slice A cssM.length c,.string d.start] 28 (0,0)):=by
  have:=Z2 (o:=1) hX1 (.slice A cssM.length c)
  simpa using this
 have hR2:(w1.setCell ⟨w0.heap.size,1,none⟩ (.slice A cssM.length c)).heap[w0.heap.size+1]?=some (.cells #[.string ByteArray.empty,.slice none 0 0,.string ByteArray.empty] 28 (0,0)):=by
  rw [Yu.setCell w1 w0.heap.size 1 _ _ (by omega)];exact e1.obj hR
 have hO2:Z5 (w1.setCell ⟨w0.heap.size,1,none⟩ (.slice A cssM.length c)) W.heap.size TM 2 Subtype.val (.slice A cssM.length c) cssM:=(hO.range.only (Yu.setCell w1 w0.heap.size 1 _) (.inr (.inl (by omega)))).1
 have e02:Ext w0 (w1.setCell ⟨w0.heap.size,1,none⟩ (.slice A cssM.length c)):=(eW.trans e1).setCell (Nat.le_refl _) _
 simp (disch:=try exact DI) only [↓PR,QR,simprocAttr,↓Jz,↓JP,↓JL,↓JG,↓JD,↓JI,↓JA,↓JJ,↓JH,(Za hX1).1,(Za hX1).2]
 generalize (World.setCell w1 ⟨w0.heap.size,1,none⟩ (.slice A cssM.length c))=w2 at hX2 hR2 hO2 e02 ⊢
 simp only [hmates.1] at *
 refine ZA (λ a0 w=>∃ (k:Nat) , a0 = .int .i64 (k:Int)∧k≤d.msgs.length∧Ext w0 w∧(∃ css:List (Cs 2),Z5 w W.heap.size TM 2 Subtype.val (.slice A d.msgs.length c) css∧css.length=d.msgs.length∧(∀ (i:Nat) (m:ZD) (cs:Cs 2),d.msgs[i]?=some m→css[i]?=some cs→if i < k then WA w W.heap.size w.heap.size cs.1 m else GZ w0 cs.1 m)∧Below W.heap.size w2 w∧HB css k)) (λ a0 _=>d.msgs.length - (intOf a0).toNat) ⟨0,rfl,Nat.zero_le _,ee,⟨cssM,hO2,hmates.1,λ i m cs hm hcs=>hmates.2 i m cs hm hcs,Below.refl _ _,λ _ _ _ _ _ _ _ hj=>absurd hj (Nat.not_lt_zero _)⟩⟩ ?_
 rintro _ w ⟨k,rfl,hk,e,hI⟩
 have se:=e.size
 rcases ZB hk with ⟨x,hx,hd,hlt,hdec⟩ | ⟨hk,hd,hdec⟩
 · obtain ⟨css,hOc,hlen,hE,hBel,hAp⟩:=hI
   obtain ⟨cs,hcs⟩:=getElem?_lt (l:=css) (k:=k) (by omega)
   have hEk:=hE k x cs hx hcs
   rw [if_neg (by omega)] at hEk
   obtain ⟨fv,hfv,hF⟩:=hEk
   obtain ⟨g,cap,hv,hglo,hglt,hTy,hfrz,hEl⟩:=hOc.row (λ x=>x.2) (by omega)
   injection hv with hv hv' hv''
   subst hv hv''
   have hEk:=hEl k cs hcs
   rw [hfv] at hEk
   have er:=Ext.refl w
   have hXw:w.heap[w0.heap.size]?=some (.cells #[.string d.name,.slice (some ⟨g,0,none⟩) d.msgs.length c,.string d.start] 28 (0,0)):=(hBel.block _ (by omega)).trans hX2
   simp (disch:=try exact DI) only [↓PR,QR,simprocAttr,↓Jz,↓JP,↓JL,↓JG,↓JD,↓JI,↓JA,↓JJ,↓JH,(Za hXw).1,hdec,hEk.c2]
   obtain ⟨cssF,hrawF,hmatesF⟩:=Ze.raw hF
   have htx:=ht.2 x (List.mem_of_getElem? hx)
   refine Zt (xI w fv cssF (hrawF.ext GT e) (λ y hy=>by obtain ⟨m,_,hm⟩:=hmatesF.mem hy;exact hm.one) (by rw [hmatesF.1];exact htx.1)) ?_
   rintro t26 w3 ⟨hOF,e3⟩
   obtain ⟨AF,cF,rfl,hlcF,hcmF,hlmF,helF⟩:=Ze.open (hOF.slice (E:=λ _ cs x=>cs=x.1) (λ x=>x.2) (λ _ _=>rfl))
   clear helF
   have s3:=e3.size
   have hO3:=hOc.ext e3
   have hcsl:k < css.length:=(List.getElem?_eq_some_iff.1 hcs).1
   simp only [hv'] at hO3
   have hO4:=hO3.set hcs (show 1 < 2 by decide) (.slice AF cssF.length cF)
   simp only [← hv'] at hO4
   have oG:=Yu.setCell w3 g (k*2+1) (.slice AF cssF.length cF)
   have hF4:=(hOF.range.only oG (.inr (.inr ⟨TM,hTy.ext e3,by decide⟩))).1
   have e4:Ext w0 (w3.setCell ⟨g,k*2+1,none⟩ (.slice AF cssF.length cF)):=(e.trans e3).setCell (show w0.heap.size≤g by omega) _
   have hBel4:Below W.heap.size w2 (w3.setCell ⟨g,k*2+1,none⟩ (.slice AF cssF.length cF)):=(hBel.trans (e3.below.mono (by omega))).setCell hglo _
   have hTy4:X2 (w3.setCell ⟨g,k*2+1,none⟩ (.slice AF cssF.length cF)) g TM:=by
    obtain ⟨cur,fr,h⟩:=hTy.ext e3
    exact ⟨_,fr,Z2 h _⟩
   have hprev:∀ (i:Nat) (m:ZD) (cs:Cs 2),i≠k→d.msgs[i]?=some m→css[i]?=some cs→if i < k then WA (w3.setCell ⟨g,k*2+1,none⟩ (.slice AF cssF.length cF)) W.heap.size w.heap.size cs.1 m else GZ w0 cs.1 m:=by
    intro i m cs' hik hm hcs'
    have h:=hE i m cs' hm hcs'
    by_cases hlt':i < k
    · rw [if_pos hlt'] at h ⊢
      exact (h.ext e3).only oG (.inr (.inr ⟨TM,hTy.ext e3,by decide⟩))
    · rw [if_neg hlt'] at h ⊢;exact h
   have hfrz3:∀ o,w3.frozen? ⟨g,o,none⟩=false:=λ o=>by rw [e3.frozenQ hglt];exact hfrz o
   simp (disch:=try exact DI) only [↓PR,QR,simprocAttr,↓Jz,↓JP,↓JL,↓JG,↓JD,↓JI,↓JA,↓JJ,↓JH,hEk.c2,hfrz3]
   have hsz4:w.heap.size≤(w3.setCell ⟨g,k*2+1,none⟩ (.slice AF cssF.length cF)).heap.size:=by simpa using s3
   generalize (World.setCell w3 ⟨g,k*2+1,none⟩ (.slice AF cssF.length cF))=w4 at hO4 hF4 e4 hBel4 hTy4 hprev hsz4 ⊢
   simp only [hmatesF.1] at *
   refine ZA (λ a0 wa=>∃ (ka:Nat) , a0 = .int .i64 (ka:Int)∧ka≤x.fields.length∧Ext w0 wa∧(∃ cF':List (Cs 15),Z5 wa w.heap.size TF 15 Subtype.val (.slice AF x.fields.length cF) cF'∧cF'.length=x.fields.length∧(∀ (i:Nat) (f:Zm) (cs:Cs 15),x.fields[i]?=some f→cF'[i]?=some cs→if i < ka then Qa wa W.heap.size wa.heap.size cs.1 f else W6 w0 cs.1 f)∧Z5 wa W.heap.size TM 2 Subtype.val (.slice (some ⟨g,0,none⟩) d.msgs.length c) (css.set k ⟨cs.1.set 1 (.slice AF x.fields.length cF),by simp [cs.2]⟩)∧(∀ (i:Nat) (m:ZD) (cs:Cs 2),i≠k→d.msgs[i]?=some m→css[i]?=some cs→if i < k then WA wa W.heap.size w.heap.size cs.1 m else GZ w0 cs.1 m)∧Below W.heap.size w2 wa∧X2 wa g TM∧w.heap.size≤wa.heap.size)) (λ a0 _=>x.fields.length - (intOf a0).toNat) ⟨0,rfl,Nat.zero_le _,ee,⟨cssF,hF4,hmatesF.1,λ i m cs hm hcs=>hmatesF.2 i m cs hm hcs,hO4,hprev,hBel4,hTy4,hsz4⟩⟩ ?_
   rintro _ wa ⟨ka,rfl,hka,ea,hIa⟩
   have sea:=ea.size
   rcases ZB hka with ⟨xa,hxa,hda,hlta,hdeca⟩ | ⟨hka,hda,hdeca⟩
   · obtain ⟨cF',h1,h2,h3,h4,h5,h6,h7,h8⟩:=hIa
     obtain ⟨cf,hcf⟩:=getElem?_lt (l:=cF') (k:=ka) (by omega)
     have hEf:=h3 ka xa cf hxa hcf
     rw [if_neg (by omega)] at hEf
     obtain ⟨tv,cv,hcfv,hT,hC⟩:=hEf
     obtain ⟨gF,capF,hvF,hgFlo,hgFlt,hTyF,hfrzF,hElF⟩:=h1.row (λ x=>x.2) (by omega)
     injection hvF with hvF hvF' hvF''
     subst hvF hvF''
     have hEfk:=hElF ka cf hcf
     rw [hcfv] at hEfk
     have era:=Ext.refl wa
     obtain ⟨g',cap',hv2,_,hgltA,_,_,hElM⟩:=h4.row (λ x=>x.2) (by simp;omega)
     injection hv2 with hv2 hv2' hv2''
     injection hv2 with hv2
     injection hv2 with hv2
     subst hv2
     have hEm:=hElM k _ (List.getElem?_set_self hcsl)
     simp only [hfv,List.set_cons_succ,List.set_cons_zero] at hEm
     simp (disch:=try exact DI) only [↓PR,QR,simprocAttr,↓Jz,↓JP,↓JL,↓JG,↓JD,↓JI,↓JA,↓JJ,↓JH,hdeca,hEm.c2,hEfk.c15]
     refine ZI ?_
     simp (disch:=try exact DI) only [↓PR,QR,simprocAttr,↓Jz,↓JP,↓JL,↓JG,↓JD,↓JI,↓JA,↓JJ,↓JH,hEfk.c15]
     obtain ⟨cssT,hrawT,hmatesT⟩:=Ze.raw hT
     obtain ⟨cssC,hrawC,hmatesC⟩:=Ze.raw hC
     have htf:=htx.2 xa (List.mem_of_getElem? hxa)
     refine Zt (Ki wa.drew tv cssT (hrawT.ext GT ea.wdrew) (λ y hy=>by obtain ⟨m,_,hm⟩:=hmatesT.mem hy;exact hm.one) (by rw [hmatesT.1];exact htf.1)) ?_
     rintro t50 w5 ⟨hOT,e5⟩
     refine ⟨e5,?_⟩
     refine Zt (Aj w5 cv cssC (hrawC.ext GT (ea.wdrew.trans e5)) (λ y hy=>by obtain ⟨m,_,hm⟩:=hmatesC.mem hy;exact hm.one) (by rw [hmatesC.1];exact htf.2)) ?_
     rintro t55 w6 ⟨hOC,e6⟩
     refine ⟨e5.trans e6,?_⟩
     have s5:=e5.size
     have s6:=e6.size
     simp only [World.size_drew] at s5
     have eA6:Ext wa w6:=era.wdrew.trans (e5.trans e6)
     have hTy6:=hTyF.ext eA6
     have hfrz6:∀ o,w6.frozen? ⟨gF,o,none⟩=false:=λ o=>by rw [eA6.frozenQ hgFlt];exact hfrzF o
     obtain ⟨AT,cT,rfl,_⟩:=Ze.open (hOT.slice (E:=λ _ cs x=>cs=x.1) (λ x=>x.2) (λ _ _=>rfl))
     obtain ⟨AC,cC,rfl,_⟩:=Ze.open (hOC.slice (E:=λ _ cs x=>cs=x.1) (λ x=>x.2) (λ _ _=>rfl))
     simp (disch:=try exact DI) only [↓PR,QR,simprocAttr,↓Jz,↓JP,↓JL,↓JG,↓JD,↓JI,↓JA,↓JJ,↓JH,hEfk.c15,hfrz6]
     obtain ⟨w7,hw7⟩:∃ w7,w6.setCell ⟨gF,ka*15+8,none⟩ (.slice AT cssT.length cT)=w7:=⟨_,rfl⟩
     have o7:Yu gF w6 w7:=by rw [← hw7];exact Yu.setCell _ _ _ _
     have hE7:∀ j,w7.frozen? ⟨gF,j,none⟩=false:=λ j=>by rw [← hw7,Gi];exact hfrz6 j
     have hc7:w7.cell? ⟨gF,ka*15+12,none⟩=some cv:=by
      rw [← hw7,XV (by omega)];exact eA6.cell (hEfk.c15 era).2.2.2.2.2.2.2.2.2.2.2.2.1
     have hTy7:X2 w7 gF TF:=by
      obtain ⟨cur,fr,h⟩:=hTy6
      exact ⟨_,fr,by rw [← hw7];exact Z2 h _⟩
     have s7:w7.heap.size=w6.heap.size:=by rw [← hw7];simp
     have h16:=h1.ext eA6
     have hcfl:ka < cF'.length:=(List.getElem?_eq_some_iff.1 hcf).1
     simp only [hvF'] at h16
     have hF7:=h16.set hcf (show 8 < 15 by decide) (.slice AT cssT.length cT)
     rw [hw7] at hF7
     have e07:Ext w0 w7:=by rw [← hw7];exact (ea.trans eA6).setCell (show w0.heap.size≤gF by omega) _
     have hB7:Below W.heap.size w2 w7:=by rw [← hw7];exact (h6.trans (eA6.below.mono (by omega))).setCell (show W.heap.size≤gF by omega) _
     rw [hw7]
     refine YZ ?_
     simp (disch:=try exact DI) only [↓PR,QR,simprocAttr,↓Jz,↓JP,↓JL,↓JG,↓JD,↓JI,↓JA,↓JJ,↓JH,hc7,hE7]
     obtain ⟨w8,hw8⟩:∃ w8,w7.setCell ⟨gF,ka*15+12,none⟩ (.slice AC cssC.length cC)=w8:=⟨_,rfl⟩
     have o8:Yu gF w7 w8:=by rw [← hw8];exact Yu.setCell _ _ _ _
     have hF8:=hF7.set (List.getElem?_set_self hcfl) (show 12 < 15 by decide) (.slice AC cssC.length cC)
     rw [hw8] at hF8
     have s8:w8.heap.size=w7.heap.size:=by rw [← hw8];simp
     have hTy8:X2 w8 g TM:=((h7.ext eA6).only o7 (by rintro rfl;obtain ⟨_,_,a⟩:=h7;obtain ⟨_,_,b⟩:=hTyF;rw [a] at b;injection b with b;injection b with _ b _;exact absurd b (by decide))).only o8 (by rintro rfl;obtain ⟨_,_,a⟩:=h7;obtain ⟨_,_,b⟩:=hTyF;rw [a] at b;injection b with b;injection b with _ b _;exact absurd b (by decide))
     have e08:Ext w0 w8:=by rw [← hw8];exact e07.setCell (show w0.heap.size≤gF by omega) _
     have hB8:Below W.heap.size w2 w8:=by rw [← hw8];exact hB7.setCell (show W.heap.size≤gF by omega) _
     have hM8:=((((h4.ext eA6).range.only o7 (.inr (.inr ⟨TF,hTy6,by decide⟩))).1).range.only o8 (.inr (.inr ⟨TF,hTy7,by decide⟩))).1
     have hT8:WI w8 W.heap.size w8.heap.size TT 2 (λ t:ZX=>Wj t) (.slice AT cssT.length cT) xa.terms:=by
      have h:=(((hOT.ext e6).range.only o7 (.inr (.inr ⟨TF,hTy6,by decide⟩))).only o8 (.inr (.inr ⟨TF,hTy7,by decide⟩)))
      refine ⟨(Z5.mates h.1 (hmatesT.imp λ _ _ h=>h)).base (by simp only [World.size_drew];omega),λ b hb=>?_⟩
      have:=h.2 b hb
      omega
     have hC8:WI w8 W.heap.size w8.heap.size TC 3 (λ c:V0=>Ql c) (.slice AC cssC.length cC) xa.cases:=by
      have h:=((hOC.range.only o7 (.inr (.inr ⟨TF,hTy6,by decide⟩))).only o8 (.inr (.inr ⟨TF,hTy7,by decide⟩)))
      refine ⟨(Z5.mates h.1 (hmatesC.imp λ _ _ h=>h)).base (by omega),λ b hb=>?_⟩
      have:=h.2 b hb
      omega
     rw [hw8]
     refine YZ ?_
     simp (disch:=try exact DI) only [↓PR,QR,simprocAttr]
     have hf8:∀ (i:Nat) (f:Zm) (cs'':Cs 15),xa.name=xa.name→x.fields[i]?=some f→((cF'.set ka ⟨cf.1.set 8 (.slice AT cssT.length cT),by simp [cf.2]⟩).set ka ⟨(cf.1.set 8 (.slice AT cssT.length cT)).set 12 (.slice AC cssC.length cC),by simp [cf.2]⟩)[i]?=some cs''→if i < ka+1 then Qa w8 W.heap.size w8.heap.size cs''.1 f else W6 w0 cs''.1 f:=by
      intro i f cs'' _ hf hcs''
      by_cases hik:i=ka
      · subst hik
        rw [if_pos (by omega)]
        rw [List.getElem?_set_self (by simp;omega)] at hcs''
        injection hcs'' with hcs''
        subst hcs''
        rw [hxa] at hf
        injection hf with hf
        subst hf
        exact ⟨_,_,by show (cf.1.set 8 _).set 12 _=_;rw [hcfv];rfl,hT8,hC8⟩
      · rw [List.getElem?_set_ne (Ne.symm hik),List.getElem?_set_ne (Ne.symm hik)] at hcs''
        have h:=h3 i f cs'' hf hcs''
        by_cases hlt':i < ka
        · rw [if_pos hlt'] at h
          rw [if_pos (by omega)]
          exact (((h.ext eA6).only o7 (.inr (.inr ⟨TF,hTy6,by decide⟩))).only o8 (.inr (.inr ⟨TF,hTy7,by decide⟩))).mono (Nat.le_refl _) (by omega)
        · rw [if_neg hlt'] at h
          rw [if_neg (by omega)]
          exact h
     have hm8:∀ (i:Nat) (m:ZD) (cs:Cs 2),i≠k→d.msgs[i]?=some m→css[i]?=some cs→if i < k then WA w8 W.heap.size w.heap.size cs.1 m else GZ w0 cs.1 m:=by
      intro i m cs' hik hm hcs'
      have h:=h5 i m cs' hik hm hcs'
      by_cases hlt':i < k
      · rw [if_pos hlt'] at h ⊢
        exact (((h.ext eA6).only o7 (.inl hgFlo)).only o8 (.inl hgFlo))
      · rw [if_neg hlt'] at h ⊢;exact h
     simp only [← hvF'] at hF8
     exact ⟨⟨ka+1,rfl,by omega,ee,⟨_,hF8,by simp [h2],λ i f cs'' hf hc=>hf8 i f cs'' rfl hf hc,hM8,hm8,hB8,hTy8,by omega⟩⟩,ZF (kd := .i64) hlta⟩
   · subst hka
     obtain ⟨cF',h1,h2,h3,h4,h5,h6,h7,h8⟩:=hIa
     simp (disch:=try exact DI) only [↓PR,QR,simprocAttr,↓Jz,↓JP,↓JL,↓JG,↓JD,↓JI,↓JA,↓JJ,↓JH,hdeca]
     have hfin:∀ (i:Nat) (m:ZD) (cs':Cs 2),d.msgs[i]?=some m→(css.set k ⟨cs.1.set 1 (.slice AF x.fields.length cF),by simp [cs.2]⟩)[i]?=some cs'→if i < k+1 then WA wa W.heap.size wa.heap.size cs'.1 m else GZ w0 cs'.1 m:=by
      intro i m cs' hm hcs'
      by_cases hik:i=k
      · subst hik
        rw [if_pos (by omega)]
        rw [List.getElem?_set_self (by omega)] at hcs'
        injection hcs' with hcs'
        subst hcs'
        rw [hx] at hm
        injection hm with hm
        subst hm
        refine ⟨.slice AF x.fields.length cF,by show cs.1.set 1 _=_;rw [hfv];rfl,cF',⟨h1.base (by omega),h1.range.2⟩,h2,λ j f cs'' hf hcs''=>?_⟩
        have:=h3 j f cs'' hf hcs''
        rw [if_pos (List.getElem?_eq_some_iff.1 hf).1] at this
        exact this
      · rw [List.getElem?_set_ne (Ne.symm hik)] at hcs'
        have h:=h5 i m cs' hik hm hcs'
        by_cases hlt':i < k
        · rw [if_pos hlt'] at h
          rw [if_pos (by omega)]
          exact h.mono (Nat.le_refl _) h8
        · rw [if_neg hlt'] at h
          rw [if_neg (by omega)]
          exact h
     have hap:HB (css.set k ⟨cs.1.set 1 (.slice AF x.fields.length cF),by simp [cs.2]⟩) (k+1):=by
      intro i j ci cj a b hij hjk hci hcj ha hb
      have hik:i≠k:=by omega
      rw [List.getElem?_set_ne (Ne.symm hik)] at hci
      by_cases hjk':j=k
      · subst hjk'
        rw [List.getElem?_set_self (by omega)] at hcj
        injection hcj with hcj
        subst hcj
        have hb':(Value.slice AF x.fields.length cF).ownBlock=some b:=by
         unfold Rd at hb
         simp only [hfv,List.set_cons_succ,List.set_cons_zero] at hb
         exact hb
        have h1b:=(h1.lt b hb').1
        obtain ⟨mi,hmi⟩:=getElem?_lt (l:=d.msgs) (k:=i) (by omega)
        have h:=h5 i mi ci hik hmi hci
        rw [if_pos hij] at h
        obtain ⟨fvi,hcs,_,hOi,_⟩:=h
        have:=hOi.2 a (by unfold Rd at ha;rw [hcs] at ha;exact ha)
        omega
      · rw [List.getElem?_set_ne (Ne.symm hjk')] at hcj
        exact hAp i j ci cj a b hij (by omega) hci hcj ha hb
     exact ⟨⟨k+1,rfl,by omega,ee,⟨_,h4,by simp [hlen],hfin,h6,hap⟩⟩,ZF (kd := .i64) hlt⟩
 · subst hk
   obtain ⟨css,hOc,hlen,hE,hBel,hAp⟩:=hI
   have hXw:w.heap[w0.heap.size]?=some (.cells #[.string d.name,.slice A d.msgs.length c,.string d.start] 28 (0,0)):=(hBel.block _ (by omega)).trans hX2
   have hRw:w.heap[w0.heap.size+1]?=some (.cells #[.string ByteArray.empty,.slice none 0 0,.string ByteArray.empty] 28 (0,0)):=(hBel.block _ (by omega)).trans hR2
   have hN:Vl w W.heap.size w.heap.size (.slice A d.msgs.length c) d.msgs:=by
    refine ⟨css,hOc.range,⟨hlen,λ i m cs hm hcs=>?_⟩,by rw [hlen];exact hAp⟩
    have:=hE i m cs hm hcs
    rw [if_pos (List.getElem?_eq_some_iff.1 hm).1] at this
    exact this
   have ho:∀ (w':World) o v,Vl w' W.heap.size w.heap.size (.slice A d.msgs.length c) d.msgs→Vl (w'.setCell ⟨w0.heap.size+1,o,none⟩ v) W.heap.size w.heap.size (.slice A d.msgs.length c) d.msgs:=λ w' o v h=>h.only (Yu.setCell w' _ o v) (.inr (.inl (by omega)))
   simp (disch:=try exact DI) only [↓PR,QR,simprocAttr,↓Jz,↓JP,↓JL,↓JG,↓JD,↓JI,↓JA,↓JJ,↓JH,hdec,(Za hXw).1,(Za hRw).1,(Za hRw).2]
   refine ⟨⟨_,rfl,(ho _ _ _ (ho _ _ _ (ho _ _ _ hN))).mono (by omega) (by simp)⟩,ee⟩
theorem Ez (w0:World) (v:Value) (d:YF) (hd:Yv w0 v d) (ht:Ra d) :
 Ret Pg 28 #[v] w0 λ r w'=>Hx w' w0.heap.size w'.heap.size r d∧Ext w0 w' :=
 (Mm w0 v d hd ht).mono λ _ _ ⟨⟨mv,h1,h2⟩,e⟩=>⟨⟨mv,h1,h2.toN⟩,e⟩
def XY (l:List Zm):List (ByteArray×Value):=(l.filter YB).map λ f=>(f.name,Ym f.low (Y5 f))
theorem JE (l:List Zm) (f:Zm):XY (l++[f])=XY l++(if YB f then [(f.name,Ym f.low (Y5 f))] else []):=by
 unfold XY
 rw [List.filter_append,List.map_append]
 cases h:YB f<;>simp [List.filter_cons,h]
theorem ZU {α:Type} {l:List α} {k:Nat} {x:α} (hx:l[k]?=some x):l.take (k+1)=l.take k++[x]:=by
 rw [List.take_add_one,hx];rfl
theorem UD (w0:World) (v:Value) (l:List Zm) (hs:Z4 w0 v l) :
 Ret Pg 224 #[v] w0 λ r w'=>∃ m,r = .map (some m)∧w0.heap.size≤m∧YG w' m (XY l)∧Ext w0 w':=by
 obtain ⟨A,c,rfl,hlc,hcm,hlm,hel⟩:=Ze.open hs
 refine ZfE (R:=ZQ _) ?_;unfold n93
 simp (disch:=try exact DI) only [↓PR,QR,simprocAttr]
 have hM0:=YG.new w0
 have e0:Ext w0 (w0.alloc (.map #[] 0)):=ee
 refine ZA (λ a0 w=>∃ (k:Nat) , a0 = .int .i64 (k:Int)∧k≤l.length∧Ext w0 w∧YG w w0.heap.size (XY (l.take k))) (λ a0 _=>l.length - (intOf a0).toNat) ⟨0,rfl,Nat.zero_le _,ee,hM0⟩ ?_
 rintro _ w ⟨k,rfl,hk,e,hI⟩
 have se:=e.size
 rcases ZB hk with ⟨x,hx,hd,hlt,hdec⟩ | ⟨hk,hd,hdec⟩
 · obtain ⟨b,o,cs,rfl,hl,hA,hE⟩:=hel k x hx
   obtain ⟨tv,cv,rfl,hT,hC,ht1,hc1⟩:=hE.op
   have hlt2:=hI.lt
   simp (disch:=try exact DI) only [↓PR,QR,simprocAttr,↓AO,↓A9,↓BE,hdec,hA.c15]
   refine zcr (I5 _ _ x ⟨tv,cv,rfl,ZW.ext hT ee,Yc.ext hC ee⟩) λ w1 e1=>?_
   have s1:=e1.size
   try simp only [World.size_alloc,World.size_setCell,World.size_drew,World.putObj_size,Sw.putW_size] at s1
   have hI1:=(hI.ext ((Ext.refl w).alloc _)).ext e1
   have hI2:∀ o,YG (w1.alloc o) w0.heap.size (XY (l.take k)):=λ o=>hI1.ext ((Ext.refl w1).alloc _)
   cases hn:YB x with
   | false =>
    simp (disch:=try exact DI) only [↓PR,QR,simprocAttr,↓AO,↓A9,↓BE,e1.cellQ,e1.frozenQ,Ym]
    have hf:=hI2 (.cells #[.int .i64 0,.int .i64 0] 74)
    rw [show XY (l.take k)=XY (l.take (k+1)) by rw [ZU hx,JE,hn];simp] at hf
    exact ⟨⟨k+1,rfl,by omega,ee,hf⟩,ZF (kd := .i64) hlt⟩
   | true =>
    simp (disch:=try exact DI) only [↓PR,QR,simprocAttr,↓AO,↓A9,↓BE,e1.cellQ,e1.frozenQ,Ym]
    have hf:=hI2 (.cells #[.int .i64 x.low,.int .i64 (Y5 x)] 74)
    rw [FX Tryz.underlying122 Tryz.underlying9 hf]
    have hg:=hf.put x.name (Ym x.low (Y5 x))
    have eg:Ext w0 (putW (w1.alloc (.cells #[.int .i64 x.low,.int .i64 (Y5 x)] 74)) w0.heap.size (XY (l.take k)) x.name (Ym x.low (Y5 x))):=Ext.putW ee (Nat.le_refl _) _ _
    rw [show XY (l.take k)++[(x.name,Ym x.low (Y5 x))]=XY (l.take (k+1)) by rw [ZU hx,JE,hn];simp] at hg
    simp (disch:=try exact DI) only [↓PR,QR,simprocAttr,↓AO,↓A9,↓BE]
    exact ⟨⟨k+1,rfl,by omega,ee,hg⟩,ZF (kd := .i64) hlt⟩
 · subst hk
   simp (disch:=try exact DI) only [↓PR,QR,simprocAttr,↓AO,↓A9,↓BE,hdec]
   rw [List.take_length] at hI
   exact ⟨_,rfl,Nat.le_refl _,hI,e⟩
def Qq (w:World) (pb:Nat) (tv:Value) (ts:List ZX):Prop:=w.cell? ⟨pb,0,none⟩=some tv∧ZW w tv ts∧∀ A m c,tv = .slice (some A) m c→pb < A.block
theorem Qq.ext {w w':World} {pb:Nat} {tv:Value} {ts:List ZX} (h:Qq w pb tv ts) (e:Ext w w'):Qq w' pb tv ts:=⟨e.cell h.1,ZW.ext h.2.1 e,h.2.2⟩
theorem Qq.set {w:World} {pb:Nat} {tv:Value} {ts:List ZX} (h:Qq w pb tv ts) {b o:Nat} (hb:b < pb) (u:Value):Qq (w.setCell ⟨b,o,none⟩ u) pb tv ts :=
 ⟨by rw [XV (by omega)];exact h.1,Ze.setOther h.2.1 u (λ A m c e=>by have:=h.2.2 A m c e;omega) (λ _ _ h=>h),h.2.2⟩
theorem Br (w0:World) (v:Value) (base:Int) (ts:List ZX) (hs:Q6 w0 v base ts) (hb:ts.length≤1048576) :
 Ret Pg 225 #[v] w0 λ r w'=>∃ pb tv,r = .func (.func 237) #[] #[.pointer (some ⟨pb,0,none⟩)]∧Qq w' pb tv (if Q3 base ts then ts else [])∧w0.heap.size≤pb∧Ext w0 w':=by
 obtain ⟨tv,rfl,hT⟩:=hs
 have ht1:=Ze.oneCell hT
 refine ZcV (R:=ZQ _) ?_;unfold ZbN
 simp (disch:=try exact DI) only [↓PR,QR,simprocAttr,↓jM]
 refine zcr (zo _ _ base ts ⟨tv,rfl,ZW.ext hT ee⟩) λ w1 e1=>?_
 have s1:=e1.size
 try simp only [World.size_alloc,World.size_setCell,World.size_drew,World.putObj_size,Sw.putW_size] at s1
 cases hv:Q3 base ts with
 | false =>
  simp (disch:=try exact DI) only [↓PR,QR,simprocAttr,↓jM]
  refine ⟨_,_,rfl,⟨e1.cell (by simp (disch:=try exact DI) only [↓PR,QR,simprocAttr]),Ze.nil _ _ _,λ A m c e=>by cases e⟩,by omega,ee⟩
 | true =>
  simp (disch:=try exact DI) only [↓PR,QR,simprocAttr,↓jM,e1.cellQ,e1.frozenQ]
  obtain ⟨cssT,hrawT,hmatesT⟩:=Ze.raw hT
  refine Zt (Ki _ tv cssT (hrawT.ext GT ee) (λ y hy=>by obtain ⟨m,_,hm⟩:=hmatesT.mem hy;exact hm.one) (by rw [hmatesT.1];exact hb)) ?_
  rintro t8 w2 ⟨hO,e2⟩
  have s2:=e2.size
  have hO':=Z5.mates hO (hmatesT.imp λ _ _ h=>h)
  have hS:=hO'.slice (E:=G8) (λ _=>rfl) (λ _ _=>rfl)
  have h8:=Ze.oneCell hS
  have hTy:X2 w2 (w0.heap.size+1) 43:=(X2.ext (w:=(w0.alloc _).alloc (.cells #[.slice none 0 0] 43)) ⟨_,_,by have:=ZE (w0.alloc (.cells #[.int .i64 base,tv] 45)) #[.slice none 0 0] 43;rw [World.size_alloc] at this;exact this⟩ (e1.trans e2))
  simp (disch:=try exact DI) only [↓PR,QR,simprocAttr,↓jM,e1.cellQ,e1.frozenQ,e2.cellQ,e2.frozenQ]
  have hS2:=((hO'.range.only (Yu.setCell w2 (w0.heap.size+1) 0 t8) (.inr (.inl (by omega)))).1).slice (E:=G8) (λ _=>rfl) (λ _ _=>rfl)
  refine ⟨_,t8,rfl,⟨?_,hS2,λ A m c e=>by subst e;have:=hO'.lt A.block rfl;omega⟩,by omega,ee⟩
  simp (disch:=try exact DI) only [↓PR,QR,simprocAttr,e1.cellQ,e1.frozenQ,e2.cellQ,e2.frozenQ]
def UK (ts:List ZX) (k:Nat):Value:=match ts[k]? with
 | some t => .string t.field
 | none=>undef
theorem Bb (pb:Nat) (tv:Value) (ts:List ZX):IB Pg 237 #[.pointer (some ⟨pb,0,none⟩)] ts.length (UK ts) (λ w=>Qq w pb tv ts):=by
 intro yv J Jx Jp w hFP hJe hJx hstep h0
 obtain ⟨hc,hT,_⟩:=hFP 0 w h0
 obtain ⟨A,c,rfl,hlc,hcm,hlm,hel⟩:=Ze.open hT
 refine Zcz (t0:=yv) (t1 := .pointer (some ⟨pb,0,none⟩)) ?_
 unfold Za7
 simp (disch:=try exact DI) only [↓PR,QR,simprocAttr,hc]
 refine ZA (λ i w=>∃ k:Nat,i = .int .i64 k∧k≤ts.length∧J k w) (λ i _=>ts.length - (intOf i).toNat) ⟨0,rfl,by omega,h0⟩ ?_
 rintro i w' ⟨k,rfl,hk,hJ⟩
 rcases ZB hk with ⟨x,hx,hd,hlt,hdec⟩ | ⟨hk,hd,hdec⟩
 · obtain ⟨_,hT',_⟩:=hFP k w' hJ
   obtain ⟨A',c',hv,_,_,_,hel'⟩:=Ze.open hT'
   injection hv with hv _ hv'
   subst hv hv'
   obtain ⟨b,o,cs,rfl,hl,hA,rfl⟩:=hel' k x hx
   have er:=Ext.refl w'
   simp (disch:=try exact DI) only [↓PR,QR,simprocAttr,↓jf,↓qS,hdec,hA.c2]
   have hs:=hstep k hlt _ (hJe k w' _ hJ ((Ext.refl w').alloc (.cells #[.string x.field,.int .i64 x.factor] 62)))
   rw [show UK ts k = .string x.field by unfold UK;rw [hx]] at hs
   refine J1 hs (λ ch w h=>h) ?_
   rintro v w2 (⟨rfl,h2⟩ | ⟨rfl,h2⟩)
   · simp (disch:=try exact DI) only [↓PR,QR,simprocAttr,↓jf,↓qS]
     exact ⟨⟨k+1,rfl,by omega,h2⟩,ZF (kd := .i64) hlt⟩
   · simp (disch:=try exact DI) only [↓PR,QR,simprocAttr,↓jf,↓qS]
     exact .inr h2
 · subst hk
   simp (disch:=try exact DI) only [↓PR,QR,simprocAttr,↓jf,↓qS,hdec]
   exact .inl hJ
theorem Qq.lasts (B pb:Nat) (tv:Value) (ts:List ZX):ZO B (λ w=>Qq w pb tv ts) :=
 ZO.and (ZO.cell B) (ZO.and ⟨λ _ _ h e=>ZW.ext h e,λ _ _ _ _ _ h hl=>Ze.putLoop (λ _ _ h=>h) hl h⟩ (ZO.const _ _))
def YX (but:ByteArray) (ps:List (ByteArray×Value)) (p:Value→Bool):List ZX→Bool→Int
 | [],no=>if no then 9 else 0
 | t::ts,no=>if t.field=but then YX but ps p ts no else match Yh ps t.field with
  | none=>YX but ps p ts true
  | some v=>if p v then YX but ps p ts no else 2
theorem GU (w0:World) (v:Value) (base:Int) (ts:List ZX) (but:ByteArray) (m:Nat) (ps:List (ByteArray×Value)) (g:FuncId) (caps:Array Value) (p:Value→Bool) (hs:Q6 w0 v base ts) (hb:ts.length≤1048576)
 (hm:YG w0 m ps) (hr:∀ k v,Yh ps k=some v→∃ lo hi,v=Ym lo hi) (hg:Callable Pg g) (hc:∀ w lo hi,Ext w0 w→Ret Pg g (#[Ym lo hi]++caps) w λ r w'=>r = .bool (p (Ym lo hi))∧Ext w w') :
 Ret Pg 229 #[v,.string but,.map (some m),.func (.func g) #[] caps] w0 λ r w'=>r = .int .i64 (if Q3 base ts then YX but ps p ts false else 2)∧Ext w0 w':=by
 obtain ⟨tv,rfl,hT⟩:=hs
 have ht1:=Ze.oneCell hT
 have hmlt:=hm.lt
 refine Zbc (R:=ZQ _) ?_;unfold T7
 simp (disch:=try exact DI) only [↓PR,QR,simprocAttr,↓WP,↓WO,↓WM,↓Wo,↓WE,↓WH]
 refine zcr (zo _ _ base ts ⟨tv,rfl,ZW.ext hT ee⟩) λ w1 e1=>?_
 have s1:=e1.size
 try simp only [World.size_alloc,World.size_setCell,World.size_drew,World.putObj_size,Sw.putW_size] at s1
 cases hv:Q3 base ts with
 | false =>
  simp (disch:=try exact DI) only [↓PR,QR,simprocAttr,↓WP,↓WO,↓WM,↓Wo,↓WE,↓WH,e1.cellQ,e1.frozenQ,WT,jp,Qf]
  exact ⟨by first | trivial | rfl,ee⟩
 | true =>
  simp (disch:=try exact DI) only [↓PR,QR,simprocAttr,↓WP,↓WO,↓WM,↓Wo,↓WE,↓WH,e1.cellQ,e1.frozenQ]
  refine Zt (Br _ _ base ts ⟨tv,rfl,ZW.ext hT ee⟩ hb) ?_
  rintro _ w2 ⟨pb,tv2,rfl,hTA,hpb,e2⟩
  rw [hv] at hTA
  simp only [if_true] at hTA
  have s2:=e2.size
  simp only [World.size_alloc] at s2 hpb
  have o5:w2.heap[w0.heap.size+1]?=some (.cells #[.string but] 9 (0,0)):=by simp (disch:=try exact DI) only [↓PR,QR,simprocAttr,e1.heapQ,e2.heapQ]
  have o6:w2.heap[w0.heap.size+1+1]?=some (.cells #[.map (some m)] 122 (0,0)):=by simp (disch:=try exact DI) only [↓PR,QR,simprocAttr,e1.heapQ,e2.heapQ]
  have o7:w2.heap[w0.heap.size+1+1+1]?=some (.cells #[.func (.func g) #[] caps] 236 (0,0)):=by simp (disch:=try exact DI) only [↓PR,QR,simprocAttr,e1.heapQ,e2.heapQ]
  have o8:w2.heap[w0.heap.size+1+1+1+1]?=some (.cells #[.int .i64 0] 31 (0,0)):=by simp (disch:=try exact DI) only [↓PR,QR,simprocAttr,e1.heapQ,e2.heapQ]
  have o9:w2.heap[w1.heap.size]?=some (.cells #[.bool false] 4 (0,0)):=by simp (disch:=try exact DI) only [↓PR,QR,simprocAttr,e1.heapQ,e2.heapQ]
  have eW:Ext w0 w2:=ee
  simp only [World.size_alloc]
  unfold Wo
  let I:Nat→World→Prop:=λ k w=>Ext w0 w∧w.heap[w0.heap.size+1]?=some (.cells #[.string but] 9 (0,0))∧w.heap[w0.heap.size+1+1]?=some (.cells #[.map (some m)] 122 (0,0)) ∧
   w.heap[w0.heap.size+1+1+1]?=some (.cells #[.func (.func g) #[] caps] 236 (0,0))∧Qq w pb tv2 ts ∧
   ∃ nb x,w.heap[w0.heap.size+1+1+1+1]?=some (.cells #[.int .i64 x] 31 (0,0))∧w.heap[w1.heap.size]?=some (.cells #[.bool nb] 4 (0,0))∧YX but ps p (ts.drop k) nb=YX but ps p ts false
  let Ix:Nat→World→Prop:=λ c w=>c=0∧Ext w0 w∧w.heap[w0.heap.size+1+1+1+1]?=some (.cells #[.int .i64 2] 31 (0,0))∧YX but ps p ts false=2
  have hLI:∀ k,ZO w2.heap.size (I k):=λ k=>ZO.and (ZO.from (by omega)) (ZO.and (ZO.has _ (by simp)) (ZO.and (ZO.has _ (by simp)) (ZO.and (ZO.has _ (by simp)) (ZO.and (Qq.lasts _ _ _ _)
   (ZO.ex λ nb=>ZO.ex λ x=>ZO.and (ZO.has _ (by simp)) (ZO.and (ZO.has _ (by simp)) (ZO.const _ _)))))))
  have hLX:∀ k,ZO w2.heap.size (Ix k):=λ k=>ZO.and (ZO.const _ _)<|ZO.and (ZO.from (by omega)) (ZO.and (ZO.has _ (by simp)) (ZO.const _ _))
  refine ⟨_,_,ts.length,UK ts,λ w=>Qq w pb tv2 ts,I,Ix,λ _ _=>False,rfl,Zc9,Bb pb tv2 ts,⟨eW,o5,o6,o7,hTA,false,0,o8,o9,rfl⟩,λ k w h=>h.2.2.2.2.1,hLI,hLX,?_,?_,?_,?_⟩
  · intro rec j w3 hj hI3 hrec hready
    refine ⟨hready,λ w4 hbz=>?_⟩
    have hrec4:=hrec.busied hbz
    have hI4:=(hLI j).busied hbz (Nat.le_succ _) hI3
    clear hI3 hrec hready hbz
    obtain ⟨e4,o5,o6,o7,hTA4,nb,x,o8,o9,hF⟩:=hI4
    obtain ⟨t,hx⟩:=getElem?_lt hj
    rw [show UK ts j = .string t.field by unfold UK;rw [hx]]
    have hd:ts.drop j=t::ts.drop (j+1):=by
     rw [List.drop_eq_getElem_cons hj]
     congr 1
     exact (List.getElem?_eq_some_iff.1 hx).2
    rw [hd] at hF
    simp only [YX] at hF
    have hm4:=hm.ext e4
    have s4:=e4.size
    have l9:w1.heap.size < w4.heap.size:=(Array.getElem?_eq_some_iff.1 o9).1
    have l8:w0.heap.size+1+1+1+1 < w4.heap.size:=(Array.getElem?_eq_some_iff.1 o8).1
    simp (disch:=try exact DI) only [↓PR,QR,simprocAttr,↓WP,↓WO,↓WM,↓Wo,↓WE,↓WH,(Za o5).1,(Za o6).1]
    rw [Vn Tryz.underlying122 Tryz.underlying9 GG hm4]
    have next:∀ nb' w5,Ext w4 w5→YX but ps p (ts.drop (j+1)) nb'=YX but ps p ts false→nb'=nb→I (j+1) w5:=λ nb' w5 e5 h hn=>(hLI (j+1)).ext _ _ ⟨e4,o5,o6,o7,hTA4,nb,x,o8,o9,hn ▸ h⟩ e5
    cases hl:Yh ps t.field with
    | none =>
     rw [hl] at hF
     simp (disch:=try exact DI) only [↓PR,QR,simprocAttr,↓WP,↓WO,↓WM,↓Wo,↓WE,↓WH,(Za o5).1]
     by_cases hbut:t.field=but
     · rw [if_pos hbut] at hF
       simp only [hbut,decide_true]
       simp (disch:=try exact DI) only [↓PR,QR,simprocAttr]
       exact ⟨hrec4.alloc _,next nb _ ee hF rfl⟩
     · rw [if_neg hbut] at hF
       simp only [hbut,decide_false]
       simp (disch:=try exact DI) only [↓PR,QR,simprocAttr,↓WP,↓WO,↓WM,↓Wo,↓WE,↓WH,(Za o9).1,(Za o9).2]
       refine ⟨(hrec4.setCell _ _).alloc _,ee,by simp (disch:=try exact DI) only [↓PR,QR,simprocAttr,o5],by simp (disch:=try exact DI) only [↓PR,QR,simprocAttr,o6],by simp (disch:=try exact DI) only [↓PR,QR,simprocAttr,o7],(hTA4.set (by omega) _).ext ((Ext.refl _).alloc _),true,x,by simp (disch:=try exact DI) only [↓PR,QR,simprocAttr,o8],?_,hF⟩
       have:=((Ext.refl _).alloc (.cells #[.int .i64 0,.int .i64 0] 74)).obj (Z2 (o:=0) o9 (.bool true))
       simpa using this
    | some v =>
     obtain ⟨lo,hi,rfl⟩:=hr _ _ hl
     rw [hl] at hF
     simp (disch:=try exact DI) only [↓PR,QR,simprocAttr,↓WP,↓WO,↓WM,↓Wo,↓WE,↓WH,(Za o5).1,Ym]
     by_cases hbut:t.field=but
     · rw [if_pos hbut] at hF
       simp only [hbut,decide_true]
       simp (disch:=try exact DI) only [↓PR,QR,simprocAttr]
       exact ⟨hrec4.alloc _,next nb _ ee hF rfl⟩
     · rw [if_neg hbut] at hF
       simp only [hbut,decide_false]
       simp (disch:=try exact DI) only [↓PR,QR,simprocAttr,↓WP,↓WO,↓WM,↓Wo,↓WE,↓WH,(Za o7).1]
       rw [YI hg]
       refine zcr (hc _ lo hi ee) λ w6 e6=>?_
       have s6:=e6.size
       simp only [World.size_alloc] at s6
       cases hp:p (Ym lo hi) with
       | true =>
        simp only [hp,if_true] at hF
        simp (disch:=try exact DI) only [↓PR,QR,simprocAttr,↓WP,↓WO,↓WM,↓Wo,↓WE,↓WH]
        exact ⟨(hrec4.alloc _).ext e6,next nb _ ee hF rfl⟩
       | false =>
        simp only [hp,Bool.false_eq_true,if_false] at hF
        simp (disch:=try exact DI) only [↓PR,QR,simprocAttr,↓WP,↓WO,↓WM,↓Wo,↓WE,↓WH,e6.cellQ,e6.frozenQ,(Za o8).1,(Za o8).2]
        refine ⟨((hrec4.alloc _).ext e6).setCell _ _,rfl,ee,?_,hF.symm⟩
        have:=Z2 (o:=0) ((((Ext.refl w4).alloc (.cells #[.int .i64 lo,.int .i64 hi] 74)).trans e6).obj o8) (.int .i64 2)
        simpa using this
  · rintro w3 ⟨e3,o5,o6,o7,hTA3,nb,x,o8,o9,hF⟩ hmk
    rw [List.drop_length] at hF
    simp only [YX] at hF
    have l2:w2.heap.size < w3.heap.size:=(Array.getElem?_eq_some_iff.1 hmk).1
    cases nb with
    | true =>
     simp (disch:=try exact DI) only [↓PR,QR,simprocAttr,↓WP,↓WO,↓WM,↓Wo,↓WE,↓WH,(Za o8).1,(Za o8).2,(Za o9).1]
     refine WL (hmk.setCell _ _) ?_
     simp (disch:=try exact DI) only [↓PR,QR,simprocAttr,WT,jp,Qf,UM (hmk.setCell _ _),(Za o8).1]
     exact ⟨by rw [← hF];rfl,ee⟩
    | false =>
     simp (disch:=try exact DI) only [↓PR,QR,simprocAttr,↓WP,↓WO,↓WM,↓Wo,↓WE,↓WH,(Za o8).1,(Za o8).2,(Za o9).1]
     refine WL (hmk.setCell _ _) ?_
     simp (disch:=try exact DI) only [↓PR,QR,simprocAttr,WT,jp,Qf,UM (hmk.setCell _ _),(Za o8).1]
     exact ⟨by rw [← hF];rfl,ee⟩
  · rintro c w3 ⟨rfl,e3,o8,hF⟩ hmk
    have l2:w2.heap.size < w3.heap.size:=(Array.getElem?_eq_some_iff.1 hmk).1
    show VP _ _ _ _ _
    refine WL hmk ?_
    simp (disch:=try exact DI) only [↓PR,QR,simprocAttr,WT,jp,Qf,UM hmk,(Za o8).1]
    exact ⟨by rw [hF],ee⟩
  · rintro _ _ h
    exact h.elim
def G3 (base:Int) (vf:ZX→Int) (ts:List ZX):Int:=ts.foldl (λ n t=>IntKind.i64.wrap (n+IntKind.i64.wrap (t.factor*vf t))) base
theorem Fg (w0:World) (v:Value) (base:Int) (ts:List ZX) (g:FuncId) (caps:Array Value) (vf:ZX→Int) (hs:Q6 w0 v base ts) (hg:Callable Pg g)
 (hc:∀ w t,Ext w0 w→Ret Pg g (#[VZ t]++caps) w λ r w'=>r = .int .i64 (vf t)∧Ext w w') :
 Ret Pg 231 #[v,.func (.func g) #[] caps] w0 λ r w'=>r = .int .i64 (G3 base vf ts)∧Ext w0 w':=by
 obtain ⟨tv,rfl,hT⟩:=hs
 obtain ⟨A,c,rfl,hlc,hcm,hlm,hel⟩:=Ze.open hT
 refine ZcL (R:=ZQ _) ?_;unfold Zdf
 simp (disch:=try exact DI) only [↓PR,QR,simprocAttr,↓zY,↓zu,↓zA]
 refine Ye (λ a0 a1 w=>∃ (k:Nat) (n:Int),a0 = .int .i64 n∧a1 = .int .i64 (k:Int)∧k≤ts.length∧Ext w0 w∧G3 n vf (ts.drop k)=G3 base vf ts) (λ a0 a1 _=>ts.length - (intOf a1).toNat) ⟨0,base,rfl,rfl,Nat.zero_le _,ee,rfl⟩ ?_
 rintro _ _ w ⟨k,n,rfl,rfl,hk,e,hI⟩
 have se:=e.size
 rcases ZB hk with ⟨x,hx,hd,hlt,hdec⟩ | ⟨hk,hd,hdec⟩
 · obtain ⟨b,o,cs,rfl,hl,hA,rfl⟩:=hel k x hx
   rw [hd] at hI
   simp (disch:=try exact DI) only [↓PR,QR,simprocAttr,↓zY,↓zu,↓zA,hdec,hA.c2]
   refine ZI ?_
   simp (disch:=try exact DI) only [↓PR,QR,simprocAttr,↓zY,↓zu,↓zA]
   rw [YI hg]
   refine zcr (hc _ x ee) λ w1 e1=>?_
   refine ⟨e1,?_⟩
   simp (disch:=try exact DI) only [↓PR,QR,simprocAttr,↓zY,↓zu,↓zA]
   exact ⟨⟨k+1,_,rfl,rfl,by omega,ee,hI⟩,ZF (kd := .i64) hlt⟩
 · subst hk
   simp (disch:=try exact DI) only [↓PR,QR,simprocAttr,↓zY,↓zu,↓zA,hdec]
   rw [hd] at hI
   exact ⟨by rw [← hI];rfl,e⟩
def RP (rp:List (ByteArray×Int×Int)):List (ByteArray×Value):=rp.map λ p=>(p.1,Ym p.2.1 p.2.2)
def Yn (rp:List (ByteArray×Int×Int)) (s:ByteArray):Option (Int×Int):=(rp.reverse.find? (λ p=>decide (p.1=s))).map (·.2)
theorem QK (rp:List (ByteArray×Int×Int)) (s:ByteArray):Yh (RP rp) s=(Yn rp s).map λ q=>Ym q.1 q.2:=by
 unfold Yh RP Yn
 rw [← List.map_reverse,List.find?_map]
 simp only [Option.map_map]
 rfl
def YS (l:List Zm):List (ByteArray×Int×Int):=(l.filter YB).map λ f=>(f.name,f.low,Y5 f)
theorem VY (l:List Zm):XY l=RP (YS l):=by
 unfold XY RP YS
 rw [List.map_map]
 rfl
def Qu (rp:List (ByteArray×Int×Int)) (least:Bool) (t:ZX):Int:=match Yn rp t.field with
 | some (lo,hi)=>if least == decide (t.factor > 0) then lo else hi
 | none=>0
theorem PX (w0:World) (t:ZX) (pm pl m:Nat) (rp:List (ByteArray×Int×Int)) (least:Bool) (h1:w0.cell? ⟨pm,0,none⟩=some (.map (some m))) (h2:w0.cell? ⟨pl,0,none⟩=some (.bool least)) (hm:YG w0 m (RP rp)) :
 Ret Pg 232 #[VZ t,.pointer (some ⟨pm,0,none⟩),.pointer (some ⟨pl,0,none⟩)] w0 λ r w'=>r = .int .i64 (Qu rp least t)∧Ext w0 w':=by
 have hb1:=World.block_lt_of_cell? w0 _ h1
 have hb2:=World.block_lt_of_cell? w0 _ h2
 simp only at hb1 hb2
 unfold VZ
 refine ZbA (R:=ZQ _) ?_;unfold Zdh
 simp (disch:=try exact DI) only [↓PR,QR,simprocAttr,h1,h2]
 rw [WZ Tryz.underlying122 Tryz.underlying9 GG (hm.ext ee),QK]
 unfold Qu
 cases hl:Yn rp t.field with
 | none =>
  simp (disch:=try exact DI) only [↓PR,QR,simprocAttr,↓Uz,h1,h2,Option.map_none]
  cases (least == decide (0 < t.factor)) with
  | true=>simp (disch:=try exact DI) only [↓PR,QR,simprocAttr,↓Uz,h1,h2];exact ⟨by first | trivial | rfl,ee⟩
  | false =>
   simp (disch:=try exact DI) only [↓PR,QR,simprocAttr,↓Uz,h1,h2]
   rw [WZ Tryz.underlying122 Tryz.underlying9 GG (hm.ext ee),QK,hl]
   simp (disch:=try exact DI) only [↓PR,QR,simprocAttr,↓Uz,Option.map_none]
   exact ⟨by first | trivial | rfl,ee⟩
 | some q =>
  obtain ⟨lo,hi⟩:=q
  simp (disch:=try exact DI) only [↓PR,QR,simprocAttr,↓Uz,h1,h2,Ym]
  cases (least == decide (0 < t.factor)) with
  | true=>simp (disch:=try exact DI) only [↓PR,QR,simprocAttr,↓Uz,h1,h2];exact ⟨by first | trivial | rfl,ee⟩
  | false =>
   simp (disch:=try exact DI) only [↓PR,QR,simprocAttr,↓Uz,h1,h2]
   rw [WZ Tryz.underlying122 Tryz.underlying9 GG (hm.ext ee),QK,hl]
   simp (disch:=try exact DI) only [↓PR,QR,simprocAttr,↓Uz,Ym]
   exact ⟨by first | trivial | rfl,ee⟩
def Ws (lo hi:Int):Bool:=decide (0≤lo)&&decide (lo≤hi)&&decide (hi < 34359738368)
def EB:Value→Bool
 | .agg a=>match a.toList with
  | [.int _ lo,.int _ hi]=>Ws lo hi
  | _=>false
 | _=>false
theorem PB (w0:World) (lo hi:Int):Ret Pg 228 #[Ym lo hi] w0 λ r w'=>r = .bool (EB (Ym lo hi))∧Ext w0 w':=by
 unfold Ym
 refine Zbl (R:=ZQ _) ?_;unfold Zch
 simp (disch:=try exact DI) only [↓PR,QR,simprocAttr,Sw.joinK_eq]
 refine zcr (D3 (by simp only [World.size_alloc]) _ _ _ _) λ w1 e1=>?_
 have s1:=e1.size
 try simp only [World.size_alloc,World.size_setCell,World.size_drew,World.putObj_size,Sw.putW_size] at s1
 simp (disch:=try exact DI) only [↓PR,QR,simprocAttr,Sw.joinK_eq]
 exact ⟨rfl,ee⟩
theorem ET (w0:World) (pm ps m:Nat) (rp:List (ByteArray×Int×Int)) (least:Bool) (base:Int) (tv:Value) (ts:List ZX) (h0:w0.cell? ⟨ps,0,none⟩=some (.int .i64 base)) (h0':w0.cell? ⟨ps,1,none⟩=some tv) (hT:ZW w0 tv ts)
 (h1:w0.cell? ⟨pm,0,none⟩=some (.map (some m))) (hm:YG w0 m (RP rp)) :
 Ret Pg 230 #[.bool least,.pointer (some ⟨ps,0,none⟩),.pointer (some ⟨pm,0,none⟩)] w0 λ r w'=>r = .int .i64 (G3 base (Qu rp least) ts)∧Ext w0 w':=by
 have hb1:=World.block_lt_of_cell? w0 _ h0
 have hb2:=World.block_lt_of_cell? w0 _ h1
 simp only at hb1 hb2
 refine Zce (R:=ZQ _) ?_;unfold Zc8
 simp (disch:=try exact DI) only [↓PR,QR,simprocAttr,h0,h0']
 refine Zt (Fg _ _ base ts _ _ (Qu rp least) ⟨tv,rfl,ZW.ext hT ee⟩ ZdK ?_) ?_
 · intro w t e
   exact PX w t pm w0.heap.size m rp least (((Ext.refl w0).alloc _).trans e |>.cell h1) (e.cell (by simp (disch:=try exact DI) only [↓PR,QR,simprocAttr])) (hm.ext (((Ext.refl w0).alloc _).trans e))
 rintro _ w1 ⟨rfl,e1⟩
 simp (disch:=try exact DI) only [↓PR,QR,simprocAttr,Sw.joinK_eq]
 exact ⟨by first | trivial | rfl,ee⟩
def Yw (base:Int) (ts:List ZX) (rp:List (ByteArray×Int×Int)):Int:=if Q3 base ts then YX ByteArray.empty (RP rp) EB ts false else 2
def X3 (base:Int) (ts:List ZX) (rp:List (ByteArray×Int×Int)):Int:=if Yw base ts rp=0 then G3 base (Qu rp true) ts else 0
def X1 (base:Int) (ts:List ZX) (rp:List (ByteArray×Int×Int)):Int:=if Yw base ts rp=0 then G3 base (Qu rp false) ts else 0
theorem CM (w0:World) (v:Value) (base:Int) (ts:List ZX) (m:Nat) (rp:List (ByteArray×Int×Int)) (hs:Q6 w0 v base ts) (hb:ts.length≤1048576) (hm:YG w0 m (RP rp)) :
 Ret Pg 220 #[v,.map (some m)] w0 λ r w'=>r = .tuple #[Ym (X3 base ts rp) (X1 base ts rp),.int .i64 (Yw base ts rp)]∧Ext w0 w':=by
 obtain ⟨tv,rfl,hT⟩:=hs
 have hT1:=Ze.oneCell hT
 have hmlt:=hm.lt
 refine ZbQ (R:=ZQ _) ?_;unfold Zdi
 simp (disch:=try exact DI) only [↓PR,QR,simprocAttr,↓xY,↓qn,↓zj]
 refine Zt (GU _ _ base ts ByteArray.empty m (RP rp) _ _ EB ⟨tv,rfl,ZW.ext hT ee⟩ hb (hm.ext ee) (λ k v hv=>?_) Zgl (λ w lo hi e=>by simpa using PB w lo hi)) ?_
 · rw [QK] at hv
   obtain ⟨q,_,rfl⟩:=Option.map_eq_some_iff.1 hv
   exact ⟨q.1,q.2,rfl⟩
 rintro _ w1 ⟨rfl,e1⟩
 have s1:=e1.size
 simp only [World.size_alloc] at s1
 show zj _ _ _ (.int .i64 (Yw base ts rp)) _ w1
 unfold X3 X1
 by_cases hE:Yw base ts rp=0
 · rw [hE]
   simp (disch:=try exact DI) only [↓PR,QR,simprocAttr,↓xY,↓qn,↓zj]
   have c0:w1.cell? ⟨w0.heap.size,0,none⟩=some (.int .i64 base):=by simp (disch:=try exact DI) only [↓PR,QR,simprocAttr,e1.cellQ]
   have c1:w1.cell? ⟨w0.heap.size,1,none⟩=some tv:=by simp (disch:=try exact DI) only [↓PR,QR,simprocAttr,e1.cellQ]
   have c2:w1.cell? ⟨w0.heap.size+1,0,none⟩=some (.map (some m)):=by simp (disch:=try exact DI) only [↓PR,QR,simprocAttr,e1.cellQ]
   have eW:Ext w0 w1:=ee
   rw [YI ZbV]
   refine zcr (ET w1 _ _ m rp true base tv ts c0 c1 (hT.ext eW) c2 (hm.ext eW)) λ w2 e2=>?_
   have s2:=e2.size
   simp only [World.size_alloc]
   rw [YI ZbV]
   refine zcr (ET w2 _ _ m rp false base tv ts (e2.cell c0) (e2.cell c1) ((ZW.ext hT eW).ext e2) (e2.cell c2) ((hm.ext eW).ext e2)) λ w3 e3=>?_
   have s3:=e3.size
   simp (disch:=try exact DI) only [↓PR,QR,simprocAttr,↓xY,↓qn,↓zj,e1.cellQ,e1.frozenQ,e2.cellQ,e2.frozenQ,e3.cellQ,e3.frozenQ]
   exact ⟨by first | trivial | rfl,ee⟩
 · have hne:(Yw base ts rp != 0)=true:=by simpa using hE
   simp (disch:=try exact DI) only [↓PR,QR,simprocAttr,↓xY,↓qn,↓zj,hne,e1.cellQ,e1.frozenQ]
   simp only [hE,if_false]
   exact ⟨by first | trivial | rfl,ee⟩
def Kk (t2 t4 t21:Value) (Kr2:World→Prop) (Qr2:List PanicEntry→World→Prop) (R:RT) (w:World):Prop :=
 opV Pg (Instr.loadAt 122 t4) Qr2 w λ t23 w =>
 opV Pg (Instr.lookup 122 t23 t21 true) Qr2 w λ t25 w =>
 opV Pg (Instr.extract t25 0) Qr2 w λ t26 w =>
 opV Pg (Instr.extract t25 1) Qr2 w λ t27 w =>
 opV Pg (Instr.alloc 74 true (.tuple #[])) Qr2 w λ t6 w =>
 opU Pg (Instr.storeAt 74 t6 t26) Qr2 w λ w =>
 opV Pg (Instr.loadAt 140 t2) Qr2 w λ t28 w =>
 Yq Pg 122 #[t28,t27,(.int .i64 8)] Qr2 w λ t30 w =>
 Kr2 w
def Ky (t8 t38 t40 t44:Value) (ds:List Deferred) (R:RT) (w:World):Prop :=
 Zu t40 t44 (.bool false) λ t45 =>
 Zq (λ (t49:Value) (w:World) =>
 Zu t45 t49 (.bool false) λ t50 =>
 Yq Pg 122 #[t38,t50,(.int .i64 9)] (Zw Pg ds [] R) w λ t51 w =>
 VP Pg ds [] R w) λ K4 =>
 Zl t45 true (
 opV Pg (Instr.fieldAt 74 t8 1) (Zw Pg ds [] R) w λ t47 w =>
 opV Pg (Instr.loadAt 3 t47) (Zw Pg ds [] R) w λ t48 w =>
 opV Pg (ZM .leq 3 true t48 (.int .i64 1048576)) (Zw Pg ds [] R) w λ t49 w =>
 K4 t49 w) (
 K4 undef w)
def Km (t2 t35:Value) (ds:List Deferred) (R:RT) (w:World):Prop :=
 opV Pg (Instr.extract t35 0) (Zw Pg ds [] R) w λ t36 w =>
 opV Pg (Instr.extract t35 1) (Zw Pg ds [] R) w λ t37 w =>
 opV Pg (Instr.alloc 74 true (.tuple #[])) (Zw Pg ds [] R) w λ t8 w =>
 opU Pg (Instr.storeAt 74 t8 t36) (Zw Pg ds [] R) w λ w =>
 opV Pg (Instr.loadAt 140 t2) (Zw Pg ds [] R) w λ t38 w =>
 opV Pg (ZM .eql 31 true t37 (.int .i64 0)) (Zw Pg ds [] R) w λ t40 w =>
 Zq (λ (t44:Value) (w:World) =>
 Ky t8 t38 t40 t44 ds R w) λ K3 =>
 Zl t40 true (
 opV Pg (Instr.fieldAt 74 t8 0) (Zw Pg ds [] R) w λ t42 w =>
 opV Pg (Instr.loadAt 3 t42) (Zw Pg ds [] R) w λ t43 w =>
 opV Pg (ZM .geq 3 true t43 (.int .i64 0)) (Zw Pg ds [] R) w λ t44 w =>
 K3 t44 w) (
 K3 undef w)
def UW (t2 t3 t4:Value) (ds:List Deferred) (R:RT) (w:World):Prop :=
 opV Pg (Instr.fieldAt 48 t3 7) (Zw Pg ds [] R) w λ t32 w =>
 opV Pg (Instr.loadAt 45 t32) (Zw Pg ds [] R) w λ t33 w =>
 opV Pg (Instr.loadAt 122 t4) (Zw Pg ds [] R) w λ t34 w =>
 Yq Pg 220 #[t33,t34] (Zw Pg ds [] R) w λ t35 w =>
 Km t2 t35 ds R w
def UX (t2 t3 t4 t20:Value) (ds:List Deferred) (R:RT) (w:World):Prop :=
 zy Pg t20 ds (λ l2 t21 w Kr2 Xr2 Qr2 =>
 AU l2 w λ w =>
 Kk t2 t4 t21 Kr2 Qr2 R w) (λ ch ds w=>Zw Pg ds [] R ch w) w (λ ds w =>
 UW t2 t3 t4 ds R w) []
def KE (t2 t3 t17:Value) (ds:List Deferred) (R:RT) (w:World):Prop :=
 opV Pg (Instr.alloc 122 true (.tuple #[])) (Zw Pg ds [] R) w λ t4 w =>
 opU Pg (Instr.storeAt 122 t4 t17) (Zw Pg ds [] R) w λ w =>
 opV Pg (Instr.fieldAt 48 t3 7) (Zw Pg ds [] R) w λ t18 w =>
 opV Pg (Instr.loadAt 45 t18) (Zw Pg ds [] R) w λ t19 w =>
 Yq Pg 225 #[t19] (Zw Pg ds [] R) w λ t20 w =>
 UX t2 t3 t4 t20 ds R w
def Ku (t2 t3:Value) (ds:List Deferred) (R:RT) (w:World):Prop :=
 opV Pg (Instr.loadAt 140 t2) (Zw Pg ds [] R) w λ t15 w =>
 Yq Pg 184 #[t15] (Zw Pg ds [] R) w λ t16 w =>
 Yq Pg 224 #[t16] (Zw Pg ds [] R) w λ t17 w =>
 KE t2 t3 t17 ds R w
def U9 (t2 t3:Value) (C1:World→Prop) (ds:List Deferred) (R:RT) (w:World):Prop :=
 qV Pg C1 (Instr.loadAt 140 t2) λ t10 =>
 qV Pg C1 (Instr.fieldAt 48 t3 7) λ t11 =>
 qV Pg C1 (Instr.loadAt 45 t11) λ t12 =>
 Yq Pg 223 #[t12] (Zw Pg ds [] R) w λ t13 w =>
 C1 w∧(
 Yq Pg 122 #[t10,t13,(.int .i64 9)] (Zw Pg ds [] R) w λ t14 w =>
 C1 w∧(
 Ku t2 t3 ds R w))
def n63 (t0 t1:Value) (R:RT) (w:World):Prop :=
 (λ (ds:List Deferred) =>
 opV Pg (Instr.box 140 t0) (Zw Pg ds [] R) w λ t2 w =>
 opV Pg (Instr.box 48 t1) (Zw Pg ds [] R) w λ t3 w =>
 Yp w λ C1 w =>
 U9 t2 t3 C1 ds R w) []
theorem ZgM {t0 t1:Value} {R:RT} {w:World} (h:n63 t0 t1 R w):Calls Pg 202 #[t0,t1] w R:=by
 refine yE Tryz.func202 ?_
 unfold n63 at h
 dsimp only at h
 refine zs<|zr<|yv h λ _ w h=>yv h λ _ w h=>zn<|zk<|zs<|yh [10,11,12,13,14] h λ C hC h=>ye 0 hC h λ _ h=>?_
 refine ye 1 hC h λ _ h=>?_
 refine ye 2 hC h λ _ h=>?_
 refine yo 3 ?_
 refine yc h ZaA λ _ w h=>zn ?_
 obtain ⟨hC,h⟩:=h
 refine ⟨hC,?_⟩
 refine yo 4 ?_
 refine yc h VQ λ _ w h=>zn ?_
 obtain ⟨hC,h⟩:=h
 refine ⟨hC,?_⟩
 refine yz<|zk<|zs<|zr<|yv h λ _ w h=>yc h Mg λ _ w h=>yc h Rx λ _ w h=>yv h λ _ w h=>yu h λ w h=>zn<|zk<|zs<|zs<|zr<|yv h λ _ w h=>?_
 refine yv h λ _ w h=>yc h ZaT λ _ w h=>zn<|zk<|Zj<|Ue [] h rfl (λ l2 t21 w Kr2 Xr2 Qr2 h=>?_) (λ ds w h=>?_) (λ c ds w h=>?_) (λ ch ds w h=>XR rfl h)
 · refine zr<|zm<|zn<|zk ?_
   obtain ⟨hr,h⟩:=h
   refine ⟨rfl,hr,λ w hb=>?_⟩
   have h:=h w hb
   refine Zj<|zs<|zr<|yv h λ _ w h=>zm<|yv h λ _ w h=>zm<|yv h λ _ w h=>yv h λ _ w h=>yv h λ _ w h=>yu h λ w h=>zm<|zn<|zk<|zr ?_
   exact yv h λ _ w h=>zm<|yc h VQ λ _ w h=>zn<|Zg<|⟨rfl,h⟩
 · refine Zg<|zk<|zs<|zr<|yv h λ _ w h=>yv h λ _ w h=>yv h λ _ w h=>yc h ZeQ λ _ w h=>zm<|yv h λ _ w h=>yv h λ _ w h=>yv h λ _ w h=>yu h λ w h=>zm<|zn ?_
   refine zk<|Zs<|yG 4<|yv h λ _ w h=>zm<|yb h λ _ w h=>zm<|zn<|yg1 3 3 true [42,43,44] 44 h (λ _ T hT h=>?_) λ σ w h=>?_
   · refine yv h λ _ w h=>yv h λ _ w h=>yb h λ _ w h=>zn ?_
     exact zt hT h
   refine yG 2<|yp h λ _ h=>zm<|zn<|yg1 3 8 true [47,48,49] 49 h (λ _ T hT h=>?_) λ σ w h=>?_
   · refine yv h λ _ w h=>yv h λ _ w h=>yb h λ _ w h=>zn ?_
     exact zt hT h
   exact yG 2<|yp h λ _ h=>yc h VQ λ _ w h=>zn<|ZG<|zf<|Xb rfl h
 exact h.elim
def n90 (t0:Value) (R:RT) (w:World):Prop :=
 opN Pg (YM t0) (Zd R) w λ t4 w =>
 F0 48 t4 5 R w λ t5 w =>
 opU Pg (Instr.storeAt 3 t5 (.int .i64 0)) (Zd R) w λ w =>
 opN Pg (YM t0) (Zd R) w λ t6 w =>
 F0 48 t6 6 R w λ t7 w =>
 opU Pg (Instr.storeAt 3 t7 (.int .i64 0)) (Zd R) w λ w =>
 R (.returned (.tuple #[])) w
theorem ZeV {t0:Value} {R:RT} {w:World} (h:n90 t0 R w):Calls Pg 203 #[t0] w R:=by
 refine yD Tryz.func203 ?_
 exact zr<|zm<|zm<|yN h λ _ w h=>yv h λ _ w h=>yu h λ w h=>yN h λ _ w h=>yv h λ _ w h=>yu h λ w h=>zn<|ZP<|ZZ rfl h
def RU (t0 t3:Value) (R:RT) (w:World):Prop :=
 F0 48 t3 6 R w λ t10 w =>
 L0 3 t10 R w λ t11 w =>
 opV Pg (Instr.buildSlice 30 1 #[(0,t11)]) (Zd R) w λ t12 w =>
 C0 196 #[t0,(.int .i64 0),(.int .i64 1048576),t12] R w λ t13 w =>
 R (.returned (.tuple #[])) w
def n91 (t0 t1:Value) (R:RT) (w:World):Prop :=
 opV Pg (Instr.box 48 t1) (Zd R) w λ t3 w =>
 F0 48 t3 5 R w λ t5 w =>
 L0 3 t5 R w λ t6 w =>
 opV Pg (Instr.buildSlice 30 1 #[(0,t6)]) (Zd R) w λ t7 w =>
 C0 196 #[t0,(.int .i64 0),(.int .i64 255),t7] R w λ t8 w =>
 RU t0 t3 R w
theorem ZfN {t0 t1:Value} {R:RT} {w:World} (h:n91 t0 t1 R w):Calls Pg 204 #[t0,t1] w R:=by
 refine yD Tryz.func204 ?_
 refine zs<|zr<|yv h λ _ w h=>zn<|zk<|zs<|zr<|zm<|yv h λ _ w h=>yv h λ _ w h=>yS h λ _ w h=>yc h CH λ _ w h=>zn<|zk<|zr ?_
 exact zm<|yv h λ _ w h=>yv h λ _ w h=>yS h λ _ w h=>yc h CH λ _ w h=>zn<|ZP<|ZZ rfl h
def n71 (t0:Value) (R:RT) (w:World):Prop :=
 opN Pg (YM t0) (Zd R) w λ t4 w =>
 F0 48 t4 4 R w λ t5 w =>
 opU Pg (Instr.storeAt 4 t5 (.bool false)) (Zd R) w λ w =>
 opN Pg (YM t0) (Zd R) w λ t6 w =>
 F0 48 t6 6 R w λ t7 w =>
 opU Pg (Instr.storeAt 3 t7 (.int .i64 0)) (Zd R) w λ w =>
 R (.returned (.tuple #[])) w
theorem ZdU {t0:Value} {R:RT} {w:World} (h:n71 t0 R w):Calls Pg 205 #[t0] w R:=by
 refine yD Tryz.func205 ?_
 exact zr<|zm<|zm<|yN h λ _ w h=>yv h λ _ w h=>yu h λ w h=>yN h λ _ w h=>yv h λ _ w h=>yu h λ w h=>zn<|ZP<|ZZ rfl h
def n72 (t0 t1:Value) (R:RT) (w:World):Prop :=
 opV Pg (Instr.box 48 t1) (Zd R) w λ t3 w =>
 F0 48 t3 6 R w λ t5 w =>
 L0 3 t5 R w λ t6 w =>
 opV Pg (Instr.buildSlice 30 1 #[(0,t6)]) (Zd R) w λ t7 w =>
 C0 196 #[t0,(.int .i64 2),(.int .i64 1048576),t7] R w λ t8 w =>
 R (.returned (.tuple #[])) w
theorem Zfu {t0 t1:Value} {R:RT} {w:World} (h:n72 t0 t1 R w):Calls Pg 206 #[t0,t1] w R:=by
 refine yD Tryz.func206 ?_
 exact zs<|zr<|yv h λ _ w h=>zn<|zk<|zr<|zm<|yv h λ _ w h=>yv h λ _ w h=>yS h λ _ w h=>yc h CH λ _ w h=>zn<|ZP<|ZZ rfl h
def n73 (t0:Value) (R:RT) (w:World):Prop :=
 opV Pg (Instr.build 45 #[]) (Zd R) w λ t4 w =>
 opN Pg (YM t0) (Zd R) w λ t5 w =>
 F0 48 t5 8 R w λ t6 w =>
 opU Pg (Instr.storeAt 9 t6 (.string { data := #[] })) (Zd R) w λ w =>
 opN Pg (YM t0) (Zd R) w λ t7 w =>
 F0 48 t7 7 R w λ t8 w =>
 opU Pg (Instr.storeAt 45 t8 t4) (Zd R) w λ w =>
 R (.returned (.tuple #[])) w
theorem Zdz {t0:Value} {R:RT} {w:World} (h:n73 t0 R w):Calls Pg 207 #[t0] w R:=by
 refine yD Tryz.func207 ?_
 exact zr<|zm<|zm<|yB h λ _ w h=>yN h λ _ w h=>yv h λ _ w h=>yu h λ w h=>yN h λ _ w h=>yv h λ _ w h=>yu h λ w h=>zn<|ZP<|ZZ rfl h
def n74 (t0 t1:Value) (R:RT) (w:World):Prop :=
 opV Pg (Instr.box 48 t1) (Zd R) w λ t3 w =>
 F0 48 t3 8 R w λ t5 w =>
 L0 9 t5 R w λ t6 w =>
 C0 209 #[t0,t6] R w λ t7 w =>
 L0 48 t3 R w λ t9 w =>
 C0 202 #[t0,t9] R w λ t10 w =>
 R (.returned (.tuple #[])) w
theorem ZdX {t0 t1:Value} {R:RT} {w:World} (h:n74 t0 t1 R w):Calls Pg 208 #[t0,t1] w R:=by
 refine yD Tryz.func208 ?_
 refine zs<|zr<|yv h λ _ w h=>zn<|zk<|zs<|zr<|zm<|yv h λ _ w h=>yv h λ _ w h=>yc h T0 λ _ w h=>zn<|zk<|zr<|zm ?_
 exact yv h λ _ w h=>yc h Zal λ _ w h=>zn<|ZP<|ZZ rfl h
def n62 (t0 t1:Value) (R:RT) (w:World):Prop :=
 opN Pg (YM t0) (Zd R) w λ t8 w =>
 F0 164 t8 1 R w λ t9 w =>
 L0 161 t9 R w λ t10 w =>
 opV Pg (Instr.lookup 161 t10 t1 true) (Zd R) w λ t12 w =>
 opV Pg (Instr.extract t12 0) (Zd R) w λ t13 w =>
 opV Pg (Instr.extract t12 1) (Zd R) w λ t14 w =>
 C0 122 #[t0,t14,(.int .i64 8)] R w λ t17 w =>
 R (.returned (.tuple #[])) w
theorem Zf4 {t0 t1:Value} {R:RT} {w:World} (h:n62 t0 t1 R w):Calls Pg 209 #[t0,t1] w R:=by
 refine yD Tryz.func209 ?_
 refine zs<|zr<|zm<|yN h λ _ w h=>yv h λ _ w h=>yv h λ _ w h=>zm<|yv h λ _ w h=>zm<|yv h λ _ w h=>yv h λ _ w h=>zm<|zm<|zn<|zk ?_
 exact zr<|zm<|zm<|yc h VQ λ _ w h=>zn<|ZP<|ZZ rfl h
def n75 (t0:Value) (R:RT) (w:World):Prop :=
 opN Pg (YM t0) (Zd R) w λ t3 w =>
 F0 48 t3 8 R w λ t4 w =>
 opU Pg (Instr.storeAt 9 t4 (.string { data := #[] })) (Zd R) w λ w =>
 R (.returned (.tuple #[])) w
theorem ZeD {t0:Value} {R:RT} {w:World} (h:n75 t0 R w):Calls Pg 210 #[t0] w R:=by
 refine yD Tryz.func210 ?_
 exact zr<|zm<|yN h λ _ w h=>yv h λ _ w h=>yu h λ w h=>zn<|ZP<|ZZ rfl h
def n76 (t0 t1:Value) (R:RT) (w:World):Prop :=
 opV Pg (Instr.box 48 t1) (Zd R) w λ t3 w =>
 F0 48 t3 8 R w λ t5 w =>
 L0 9 t5 R w λ t6 w =>
 C0 209 #[t0,t6] R w λ t7 w =>
 R (.returned (.tuple #[])) w
theorem Zd0 {t0 t1:Value} {R:RT} {w:World} (h:n76 t0 t1 R w):Calls Pg 211 #[t0,t1] w R:=by
 refine yD Tryz.func211 ?_
 exact zs<|zr<|yv h λ _ w h=>zn<|zk<|zr<|zm<|yv h λ _ w h=>yv h λ _ w h=>yc h T0 λ _ w h=>zn<|ZP<|ZZ rfl h
def n77 (t0:Value) (R:RT) (w:World):Prop :=
 opN Pg (YM t0) (Zd R) w λ t4 w =>
 F0 48 t4 9 R w λ t5 w =>
 opU Pg (Instr.storeAt 9 t5 (.string { data := #[] })) (Zd R) w λ w =>
 opN Pg (YM t0) (Zd R) w λ t6 w =>
 F0 48 t6 11 R w λ t7 w =>
 opU Pg (Instr.storeAt 46 t7 (Value.slice none 0 0)) (Zd R) w λ w =>
 R (.returned (.tuple #[])) w
theorem ZgV {t0:Value} {R:RT} {w:World} (h:n77 t0 R w):Calls Pg 212 #[t0] w R:=by
 refine yD Tryz.func212 ?_
 exact zr<|zm<|zm<|yN h λ _ w h=>yv h λ _ w h=>yu h λ w h=>yN h λ _ w h=>yv h λ _ w h=>yu h λ w h=>zn<|ZP<|ZZ rfl h
def Bh (t9 t47:Value) (next5:KW) (R:RT) (w:World):Prop :=
 F0 60 t9 1 R w λ t65 w =>
 L0 3 t65 R w λ t66 w =>
 B0 .add 3 true t66 (.int .i64 1) R w λ t67 w =>
 B0 .add 3 true t47 (.int .i64 1) R w λ t68 w =>
 next5 t67 t68 w
def Bt (t0 t9 t47:Value) (next5:KW) (R:RT) (w:World):Prop :=
 F0 60 t9 2 R w λ t62 w =>
 L0 9 t62 R w λ t63 w =>
 C0 209 #[t0,t63] R w λ t64 w =>
 Bh t9 t47 next5 R w
def BD (t0 t4 t7 t45 t47:Value) (next5:KW) (R:RT) (w:World):Prop :=
 X0 46 t45 t47 R w λ t49 w =>
 L0 60 t49 R w λ t50 w =>
 opV Pg (Instr.alloc 60 true (.tuple #[])) (Zd R) w λ t9 w =>
 opU Pg (Instr.storeAt 60 t9 t50) (Zd R) w λ w =>
 F0 74 t4 1 R w λ t53 w =>
 L0 3 t53 R w λ t54 w =>
 F0 60 t9 0 R w λ t55 w =>
 L0 3 t55 R w λ t56 w =>
 F0 60 t9 1 R w λ t57 w =>
 L0 3 t57 R w λ t58 w =>
 opV Pg (Instr.buildSlice 30 2 #[(0,t56),(1,t58)]) (Zd R) w λ t59 w =>
 C0 196 #[t0,t7,t54,t59] R w λ t60 w =>
 Bt t0 t9 t47 next5 R w
def qm (t0 t3 t4:Value) (R:RT) (w:World):Prop :=
 F0 74 t4 0 R w λ t42 w =>
 L0 3 t42 R w λ t43 w =>
 F0 48 t3 11 R w λ t44 w =>
 L0 46 t44 R w λ t45 w =>
 opV Pg (Builtin.len_ #[46] 3 #[t45]) (Zd R) w λ t46 w =>
 XP (λ t7 t47 w next5 =>
 B0 .lss 3 false t47 t46 R w λ t48 w =>
 Zr t48 (
 BD t0 t4 t7 t45 t47 next5 R w) (
 R (.returned (.tuple #[])) w)) t43 (.int .i64 0) w
def jn (t0 t3 t4:Value) (R:RT) (w:World):Prop :=
 F0 48 t3 11 R w λ t31 w =>
 L0 46 t31 R w λ t32 w =>
 opV Pg (Builtin.len_ #[46] 3 #[t32]) (Zd R) w λ t33 w =>
 B0 .geq 3 true t33 (.int .i64 1) R w λ t34 w =>
 Zq (λ (t39:Value) (w:World) =>
 Zu t34 t39 (.bool false) λ t40 =>
 C0 122 #[t0,t40,(.int .i64 3)] R w λ t41 w =>
 qm t0 t3 t4 R w) λ K4 =>
 Zl t34 true (
 F0 48 t3 11 R w λ t36 w =>
 L0 46 t36 R w λ t37 w =>
 opV Pg (Builtin.len_ #[46] 3 #[t37]) (Zd R) w λ t38 w =>
 B0 .leq 3 true t38 (.int .i64 40) R w λ t39 w =>
 K4 t39 w) (
 K4 undef w)
def qX (t0 t3 t4 t5 t22:Value) (R:RT) (w:World):Prop :=
 Zq (λ (t27:Value) (w:World) =>
 Zu t5 t27 (.bool false) λ t28 =>
 C0 122 #[t0,t28,(.int .i64 8)] R w λ t29 w =>
 jn t0 t3 t4 R w) λ K3 =>
 Zl t5 true (
 opV Pg (Op.unary .not t22) (Zd R) w λ t27 w =>
 K3 t27 w) (
 K3 undef w)
def KC (t0 t3 t4 t5:Value) (R:RT) (w:World):Prop :=
 C0 184 #[t0] R w λ t20 w =>
 opV Pg (Instr.makeFunc (.func 227) #[] #[t3]) (Zd R) w λ t21 w =>
 C0 226 #[t20,t21] R w λ t22 w =>
 qX t0 t3 t4 t5 t22 R w
def jK (t13 t15:Value) (C7:World→Prop) (K2:KW) (R:RT) (w:World):Prop :=
 qV Pg C7 (Instr.lookup 122 t13 t15 true) λ t16 =>
 qV Pg C7 (Instr.extract t16 0) λ t17 =>
 qV Pg C7 (Instr.extract t16 1) λ t18 =>
 opV Pg (Instr.alloc 74 true (.tuple #[])) (Zd R) w λ t4 w =>
 C7 w∧(
 opU Pg (Instr.storeAt 74 t4 t17) (Zd R) w λ w =>
 C7 w∧(
 K2 t4 t18 w))
def GI (t4 t13 t15:Value) (C8:World→Prop) (K2:KW) (R:RT) (w:World):Prop :=
 qV Pg C8 (Instr.lookup 122 t13 t15 true) λ t16 =>
 qV Pg C8 (Instr.extract t16 0) λ t17 =>
 qV Pg C8 (Instr.extract t16 1) λ t18 =>
 opU Pg (Instr.storeAt 74 t4 t17) (Zd R) w λ w =>
 C8 w∧(
 K2 t4 t18 w)
def Gn (t12 t15:Value) (C6:World→Prop) (K2:KW) (R:RT) (w:World):Prop :=
 (
 C0 224 #[t12] R w λ t13 w =>
 Q8 C6 w λ C7 w =>
 jK t13 t15 C7 K2 R w)∧(
 opV Pg (Instr.alloc 74 true (.tuple #[])) (Zd R) w λ t4 w =>
 C6 w∧(
 C0 224 #[t12] R w λ t13 w =>
 Q8 C6 w λ C8 w =>
 GI t4 t13 t15 C8 K2 R w))
def zZ (t4 t13 t15:Value) (C10:World→Prop) (K2:KW) (R:RT) (w:World):Prop :=
 qV Pg C10 (Instr.lookup 122 t13 t15 true) λ t16 =>
 qV Pg C10 (Instr.extract t16 0) λ t17 =>
 qV Pg C10 (Instr.extract t16 1) λ t18 =>
 opU Pg (Instr.storeAt 74 t4 t17) (Zd R) w λ w =>
 C10 w∧(
 K2 t4 t18 w)
def Gq (t0 t4 t15:Value) (C1:World→Prop) (K2:KW) (R:RT) (w:World):Prop :=
 C0 184 #[t0] R w λ t12 w =>
 Q8 C1 w λ C9 w =>
 C0 224 #[t12] R w λ t13 w =>
 Q8 C9 w λ C10 w =>
 zZ t4 t13 t15 C10 K2 R w
def Gp (t0 t3:Value) (C1:World→Prop) (R:RT) (w:World):Prop :=
 qV Pg C1 (Instr.fieldAt 48 t3 9) λ t14 =>
 qV Pg C1 (Instr.loadAt 9 t14) λ t15 =>
 Zq (λ (t4:Value) (t5:Value) (w:World) =>
 KC t0 t3 t4 t5 R w) λ K2 =>
 (
 C0 184 #[t0] R w λ t12 w =>
 Q8 C1 w λ C6 w =>
 Gn t12 t15 C6 K2 R w)∧(
 opV Pg (Instr.alloc 74 true (.tuple #[])) (Zd R) w λ t4 w =>
 C1 w∧(
 Gq t0 t4 t15 C1 K2 R w))
def n57 (t0 t1:Value) (R:RT) (w:World):Prop :=
 opV Pg (Instr.box 48 t1) (Zd R) w λ t3 w =>
 Yp w λ C1 w =>
 Gp t0 t3 C1 R w
set_option maxHeartbeats 40000000 in
theorem ZgX {t0 t1:Value} {R:RT} {w:World} (h:n57 t0 t1 R w):Calls Pg 213 #[t0,t1] w R:=by
 refine yD Tryz.func213 ?_
 refine zs<|zr<|yv h λ _ w h=>zn<|zk<|zs<|yh [4,5,10,11,12,13,14,15,16,17,18] h λ C hC h=>yw 0 hC ?_
 refine ye 3 hC h λ _ h=>?_
 refine ye 4 hC h λ _ h=>?_
 refine J0 h (λ K2 hK h=>?_)
 refine zS [4,5,10,12,13,16,17,18] (λ ρ w=>K2 (ρ 4) (ρ 5) w) (λ T hT=>?_) (λ σ w h=>?_)
 · obtain ⟨h0,h1⟩:=h
   refine Uw 1 9 rfl rfl (by kernel_rfl) (λ _ _=>rfl) (λ _ _=>rfl) ?_ ?_
   · have h:=h0
     refine yc h Mg λ _ w h=>zn ?_
     obtain ⟨C6,hs,hC,h⟩:=h
     refine ⟨C6,hs,hC,?_⟩
     obtain ⟨h0,h1⟩:=h
     refine Uw 2 9 rfl rfl (by kernel_rfl) (λ _ _=>rfl) (λ _ _=>rfl) ?_ ?_
     · have h:=h0
       refine yc h Rx λ _ w h=>zn ?_
       obtain ⟨C7,hs,hC,h⟩:=h
       refine ⟨C7,hs,hC,?_⟩
       refine ye 5 hC h λ _ h=>?_
       refine yw 6 hC ?_
       refine ye 7 hC h λ _ h=>?_
       refine ye 8 hC h λ _ h=>?_
       refine yo 9 ?_
       refine yv h λ _ w h=>zn ?_
       obtain ⟨hC,h⟩:=h
       refine ⟨hC,?_⟩
       refine yo 10 ?_
       refine yu h λ w h=>zn ?_
       obtain ⟨hC,h⟩:=h
       refine ⟨hC,?_⟩
       refine yw 11 hC ?_
       refine yz ?_
       exact zt hT h
     have h:=h1
     refine yv h λ _ w h=>zn ?_
     obtain ⟨hC,h⟩:=h
     refine ⟨_,λ _ h=>h,hC,?_⟩
     refine yr 2 ?_
     refine yc h Rx λ _ w h=>zn ?_
     obtain ⟨C8,hs,hC,h⟩:=h
     refine ⟨C8,hs,hC,?_⟩
     refine ye 5 hC h λ _ h=>?_
     refine yw 6 hC ?_
     refine ye 7 hC h λ _ h=>?_
     refine ye 8 hC h λ _ h=>?_
     refine yo 10 ?_
     refine yu h λ w h=>zn ?_
     obtain ⟨hC,h⟩:=h
     refine ⟨hC,?_⟩
     refine yw 11 hC ?_
     refine yz ?_
     exact zt hT h
   have h:=h1
   refine yv h λ _ w h=>zn ?_
   obtain ⟨hC,h⟩:=h
   refine ⟨_,λ _ h=>h,hC,?_⟩
   refine yr 1 ?_
   refine yc h Mg λ _ w h=>zn ?_
   obtain ⟨C9,hs,hC,h⟩:=h
   refine ⟨C9,hs,hC,?_⟩
   refine yr 2 ?_
   refine yc h Rx λ _ w h=>zn ?_
   obtain ⟨C10,hs,hC,h⟩:=h
   refine ⟨C10,hs,hC,?_⟩
   refine ye 5 hC h λ _ h=>?_
   refine yw 6 hC ?_
   refine ye 7 hC h λ _ h=>?_
   refine ye 8 hC h λ _ h=>?_
   refine yo 10 ?_
   refine yu h λ w h=>zn ?_
   obtain ⟨hC,h⟩:=h
   refine ⟨hC,?_⟩
   refine yw 11 hC ?_
   refine yz ?_
   exact zt hT h
 subst hK
 refine zk<|zs<|zr<|zm<|yc h Mg λ _ w h=>yF h λ _ w h=>yc h Zf8 λ _ w h=>zm<|zn<|zk<|zs<|Zs<|yG 3<|zm<|zm ?_
 refine zm<|zn<|yg1 2 2 true [26,27] 27 h (λ _ T hT h=>?_) λ σ w h=>?_
 · refine zm<|yv h λ _ w h=>zn ?_
   exact zt hT h
 refine yG 2<|yp h λ _ h=>yc h VQ λ _ w h=>zn<|ZG<|zk<|zs<|Zs<|yG 6<|zm<|yv h λ _ w h=>yv h λ _ w h=>yx h λ _ w h=>yb h λ _ w h=>zm ?_
 refine zn<|yg1 4 5 true [36,37,38,39] 39 h (λ _ T hT h=>?_) λ σ w h=>?_
 · refine yv h λ _ w h=>yv h λ _ w h=>yx h λ _ w h=>yb h λ _ w h=>zn ?_
   exact zt hT h
 refine yG 2<|yp h λ _ h=>yc h VQ λ _ w h=>zn<|ZG<|zk<|zs<|zr<|yv h λ _ w h=>yv h λ _ w h=>zm<|zn<|zk<|zs<|zr ?_
 refine yv h λ _ w h=>yv h λ _ w h=>yx h λ _ w h=>zm<|zn<|zk<|Zj<|yl2 [7,9,47,48,49,50,51,52,53,54,55,56,57,58,59,60,61,62,63,64,65,66,67,68] 7 47 h λ σ w next h=>zs<|zr<|yb h λ _ w h=>zn<|zk<|zs<|yC h (λ h=>?_) λ h=>?_
 · refine Zh<|zk<|zs<|Zj<|zs<|zr<|yv h λ _ w h=>yv h λ _ w h=>yv h λ _ w h=>yu h λ w h=>zn<|zk<|zs<|zr<|zm ?_
   refine zm<|yv h λ _ w h=>yv h λ _ w h=>yv h λ _ w h=>yv h λ _ w h=>yv h λ _ w h=>yv h λ _ w h=>yS h λ _ w h=>yc h CH λ _ w h=>zn<|zk<|zs<|zr<|zm<|yv h λ _ w h=>?_
   refine yv h λ _ w h=>yc h T0 λ _ w h=>zn<|zk<|zr<|yv h λ _ w h=>yv h λ _ w h=>yb h λ _ w h=>zm<|zn<|Zg<|zk<|zr<|yb h λ _ w h=>zm ?_
   exact zn<|zk<|⟨rfl,h⟩
 exact Zy<|Zc<|Zc<|Zn<|ZP<|ZZ rfl h
def n78 (t0:Value) (R:RT) (w:World):Prop :=
 opN Pg (YM t0) (Zd R) w λ t3 w =>
 F0 48 t3 2 R w λ t4 w =>
 opU Pg (Instr.storeAt 3 t4 (.int .i64 0)) (Zd R) w λ w =>
 R (.returned (.tuple #[])) w
theorem Zgs {t0:Value} {R:RT} {w:World} (h:n78 t0 R w):Calls Pg 214 #[t0] w R:=by
 refine yD Tryz.func214 ?_
 exact zr<|zm<|yN h λ _ w h=>yv h λ _ w h=>yu h λ w h=>zn<|ZP<|ZZ rfl h
def OP (t0 t12 t22 t26:Value) (R:RT) (w:World):Prop :=
 Zq (λ (t27:Value) (w:World) =>
 Zu t12 (.bool true) t27 λ t28 =>
 C0 122 #[t0,t28,(.int .i64 6)] R w λ t29 w =>
 R (.returned (.tuple #[])) w) λ K6 =>
 Zl t12 false (
 Zu t22 t26 (.bool false) λ t27 =>
 K6 t27 w) (
 K6 undef w)
def Oq (t0 t3 t12 t22:Value) (R:RT) (w:World):Prop :=
 Zq (λ (t26:Value) (w:World) =>
 OP t0 t12 t22 t26 R w) λ K5 =>
 Zl t22 true (
 F0 48 t3 2 R w λ t23 w =>
 L0 3 t23 R w λ t24 w =>
 B0 .rem 3 true t24 (.int .i64 8) R w λ t25 w =>
 B0 .eql 3 true t25 (.int .i64 0) R w λ t26 w =>
 K5 t26 w) (
 K5 undef w)
def Py (t0 t3 t12 t17:Value) (R:RT) (w:World):Prop :=
 Zq (λ (t20:Value) (w:World) =>
 Zq (λ (t22:Value) (w:World) =>
 Oq t0 t3 t12 t22 R w) λ K4 =>
 Zl t12 false (
 Zu t17 t20 (.bool false) λ t21 =>
 K4 t21 w) (
 K4 undef w)) λ K3 =>
 Zl t17 true (
 F0 48 t3 2 R w λ t18 w =>
 L0 3 t18 R w λ t19 w =>
 B0 .leq 3 true t19 (.int .i64 512) R w λ t20 w =>
 K3 t20 w) (
 K3 undef w)
def PE (t0 t3 t7 t11:Value) (R:RT) (w:World):Prop :=
 Zu t7 (.bool true) t11 λ t12 =>
 Zq (λ (t17:Value) (w:World) =>
 Py t0 t3 t12 t17 R w) λ K2 =>
 Zl t12 false (
 F0 48 t3 2 R w λ t14 w =>
 L0 3 t14 R w λ t15 w =>
 B0 .geq 3 true t15 (.int .i64 8) R w λ t16 w =>
 K2 t16 w) (
 K2 undef w)
def n79 (t0 t1:Value) (R:RT) (w:World):Prop :=
 opV Pg (Instr.box 48 t1) (Zd R) w λ t3 w =>
 F0 48 t3 2 R w λ t5 w =>
 L0 3 t5 R w λ t6 w =>
 B0 .eql 3 true t6 (.int .i64 2) R w λ t7 w =>
 Zq (λ (t11:Value) (w:World) =>
 PE t0 t3 t7 t11 R w) λ K1 =>
 Zl t7 false (
 F0 48 t3 2 R w λ t9 w =>
 L0 3 t9 R w λ t10 w =>
 B0 .eql 3 true t10 (.int .i64 4) R w λ t11 w =>
 K1 t11 w) (
 K1 undef w)
theorem Zfl {t0 t1:Value} {R:RT} {w:World} (h:n79 t0 t1 R w):Calls Pg 215 #[t0,t1] w R:=by
 refine yD Tryz.func215 ?_
 refine zs<|zr<|yv h λ _ w h=>zn<|zk<|Zs<|yG 5<|zm<|yv h λ _ w h=>yv h λ _ w h=>yb h λ _ w h=>zm<|zn<|yg1 3 4 false [9,10,11] 11 h (λ _ T hT h=>?_) λ σ w h=>?_
 · refine yv h λ _ w h=>yv h λ _ w h=>yb h λ _ w h=>zn ?_
   exact zt hT h
 refine yG 2<|yp h λ _ h=>zm<|zn<|yg1 4 9 false [14,15,16,17] 17 h (λ _ T hT h=>?_) λ σ w h=>?_
 · refine yv h λ _ w h=>yv h λ _ w h=>yb h λ _ w h=>zm<|zn ?_
   exact zt hT h
 refine yg1 3 13 true [18,19,20] 20 h (λ _ T hT h=>?_) λ σ w h=>?_
 · refine yv h λ _ w h=>yv h λ _ w h=>yb h λ _ w h=>zn ?_
   exact zt hT h
 refine yg1 2 9 false [21,22] 22 h (λ _ T hT h=>?_) λ σ w h=>?_
 · refine yp h λ _ h=>zm<|zn ?_
   exact zt hT h
 refine yg1 4 18 true [23,24,25,26] 26 h (λ _ T hT h=>?_) λ σ w h=>?_
 · refine yv h λ _ w h=>yv h λ _ w h=>yb h λ _ w h=>yb h λ _ w h=>zn ?_
   exact zt hT h
 refine yg1 1 9 false [27] 27 h (λ _ T hT h=>?_) λ σ w h=>?_
 · refine yp h λ _ h=>zn ?_
   exact zt hT h
 exact yG 2<|yp h λ _ h=>yc h VQ λ _ w h=>zn<|ZG<|ZP<|ZZ rfl h
def n80 (t0:Value) (R:RT) (w:World):Prop :=
 opN Pg (YM t0) (Zd R) w λ t4 w =>
 F0 48 t4 10 R w λ t5 w =>
 opU Pg (Instr.storeAt 9 t5 (.string { data := #[] })) (Zd R) w λ w =>
 opN Pg (YM t0) (Zd R) w λ t6 w =>
 F0 48 t6 12 R w λ t7 w =>
 opU Pg (Instr.storeAt 3 t7 (.int .i64 0)) (Zd R) w λ w =>
 R (.returned (.tuple #[])) w
theorem ZeL {t0:Value} {R:RT} {w:World} (h:n80 t0 R w):Calls Pg 216 #[t0] w R:=by
 refine yD Tryz.func216 ?_
 exact zr<|zm<|zm<|yN h λ _ w h=>yv h λ _ w h=>yu h λ w h=>yN h λ _ w h=>yv h λ _ w h=>yu h λ w h=>zn<|ZP<|ZZ rfl h
abbrev Uv (a f c:Int):Value := .agg #[.int .i64 a,.int .i64 f,.int .i64 c]
def Xc (a f c:Int):PanicEntry:={ v := .iface 90 (Uv a f c),recovered:=false }
def Qd (w:World) (a f c:Int):Ending→World→Prop:=λ e w'=>Ext w w'∧(c=0∧e = .returned (.tuple #[])∨c≠0∧e = .panicked [Xc a f c])
theorem ZR {f:FuncId} {args:Array Value} {QP:List PanicEntry→World→Prop} {w:World} {k:Value→World→Prop} {a fl c:Int} (h:Calls Pg f args w (Qd w a fl c)) (hk:∀ w',Ext w w'→c=0→k (.tuple #[]) w') (hp:∀ w',Ext w w'→c≠0→QP [Xc a fl c] w'):Yq Pg f args QP w k :=
 xo h (λ v w' h=>by rcases h with ⟨e,⟨h1,h2⟩ | ⟨_,h2⟩⟩<;>cases h2;exact hk w' e h1) (λ ch w' h=>by rcases h with ⟨e,⟨_,h2⟩ | ⟨h1,h2⟩⟩<;>cases h2;exact hp w' e h1) (λ w' h=>by rcases h with ⟨_,⟨_,h2⟩ | ⟨_,h2⟩⟩<;>cases h2)
theorem YY {w w':World} {a f c:Int} (e:Ext w w') (h:c=0):Qd w a f c (.returned (.tuple #[])) w':=⟨e,.inl ⟨h,rfl⟩⟩
theorem Yg {w w':World} {a f c c':Int} (e:Ext w w') (h:c=c') (h0:c'≠0):Zd (Qd w a f c) [Xc a f c'] w':=⟨e,.inr ⟨by rw [h];exact h0,by rw [h]⟩⟩
def orC (a b:Int):Int:=if a=0 then b else a
theorem YK (b:Int):orC 0 b=b:=rfl
theorem Qp {a b:Int} (h:a≠0):orC a b=a:=by unfold orC;rw [if_neg h]
def Ya (b:Bool) (c:Int):Int:=if b then 0 else c
structure Chk (w:World) (cb md ms:Nat) (deps:List (ByteArray×Value)) (strs:List (ByteArray×Value)) (at_ fld:Int) (fs:List Zm):Prop where
 obj:∃ dn mv ds mn fv,w.heap[cb]?=some (.cells #[.string dn,mv,.string ds,.map (some md),.map (some ms),.int .i64 at_,.int .i64 fld,.string mn,fv] 164 (0,0))∧Z4 w fv fs
 mdeps:YG w md deps
 mstrs:YG w ms strs
 dint:∀ k v,Yh deps k=some v→∃ n,v = .int .i64 n
 sbool:∀ k v,Yh strs k=some v→∃ b,v = .bool b
def Ci (strs:List (ByteArray×Value)) (s:ByteArray):Bool:=match Yh strs s with
 | some (.bool b)=>b
 | _=>false
theorem Chk.strV {w:World} {cb md ms:Nat} {deps strs:List (ByteArray×Value)} {at_ fld:Int} {fs:List Zm} (h:Chk w cb md ms deps strs at_ fld fs) (s:ByteArray):(Yh strs s).getD (.bool false) = .bool (Ci strs s):=by
 unfold Ci
 cases hl:Yh strs s with
 | none=>rfl
 | some v=>obtain ⟨b,rfl⟩:=h.sbool s v hl;rfl
theorem Chk.ext {w w':World} {cb md ms:Nat} {deps strs:List (ByteArray×Value)} {at_ fld:Int} {fs:List Zm} (h:Chk w cb md ms deps strs at_ fld fs) (e:Ext w w'):Chk w' cb md ms deps strs at_ fld fs:=by
 obtain ⟨⟨dn,mv,ds,mn,fv,h1,h2⟩,h3,h4,h5,h6⟩:=h
 exact ⟨⟨dn,mv,ds,mn,fv,e.obj h1,h2.ext e⟩,h3.ext e,h4.ext e,h5,h6⟩
section
variable {w0:World} {cb md ms:Nat} {deps strs:List (ByteArray×Value)} {at_ fld:Int} {fs:List Zm}
theorem Yt (h:Chk w0 cb md ms deps strs at_ fld fs) (b:Bool) (c:Int) (hc:c≠0):Calls Pg 122 #[.pointer (some ⟨cb,0,none⟩),.bool b,.int .i64 c] w0 (Qd w0 at_ fld (Ya b c)):=by
 obtain ⟨⟨dn,mv,ds,mn,fv,h1,h2⟩,h3,h4,h5,h6⟩:=h
 refine ZgU ?_;unfold n60
 cases b with
 | true =>
  simp (disch:=try exact DI) only [↓PR,QR,simprocAttr,↓H8]
  exact YY (Ext.refl _) rfl
 | false =>
  simp (disch:=try exact DI) only [↓PR,QR,simprocAttr,↓H8]
  refine ZI ?_
  simp (disch:=try exact DI) only [↓PR,QR,simprocAttr,↓H8,(Za h1).1]
  rw [ML]
  exact Yg (Ext.refl _).drew rfl hc
theorem WJ (h:Chk w0 cb md ms deps strs at_ fld fs) (i:Nat) (hi:fld=i) (hlt:i < fs.length):Ret Pg 184 #[.pointer (some ⟨cb,0,none⟩)] w0 λ r w'=>Z4 w' r (fs.take i)∧Ext w0 w':=by
 obtain ⟨⟨dn,mv,ds,mn,fv,h1,h2⟩,h3,h4,h5,h6⟩:=h
 obtain ⟨A,c,rfl,hlc,hcm,hlm,hel⟩:=Ze.open h2
 obtain ⟨x,hx⟩:=getElem?_lt hlt
 obtain ⟨b,o,_,rfl,_⟩:=hel i x hx
 subst hi
 refine Zed (R:=ZQ _) ?_;unfold n55
 refine ZI ?_
 simp (disch:=try exact DI) only [↓PR,QR,simprocAttr,↓Sd,(Za h1).1]
 rw [YN λ QP w' k=>JZ Tryz.underlying22 VR b o fs.length c .i64 i (by omega)]
 simp (disch:=try exact DI) only [↓PR,QR,simprocAttr]
 refine ⟨?_,ee⟩
 have hlen:(fs.take i).length=i:=by rw [List.length_take];omega
 refine ⟨_,c,by rw [hlen],by rw [hlen];omega,hcm,λ _=>⟨b,o,rfl,λ k y hy=>?_⟩⟩
 rw [List.getElem?_take] at hy
 split at hy
 · obtain ⟨b',o',cs,hA,hl,hA2,hE⟩:=hel k y hy
   injection hA with hA
   injection hA with h5 h6
   subst h5 h6
   have e:Ext w0 (drew w0):=(Ext.refl w0).drew
   exact ⟨cs,hl,hA2.ext e,zX _ _ _ _ e hE⟩
 · cases hy
theorem zO (h:Chk w0 cb md ms deps strs at_ fld fs) (s:ByteArray):Calls Pg 209 #[.pointer (some ⟨cb,0,none⟩),.string s] w0 (Qd w0 at_ fld (Ya (Yh deps s).isSome 8)):=by
 have h':=h
 obtain ⟨⟨dn,mv,ds,mn,fv,h1,h2⟩,h3,h4,h5,h6⟩:=h
 refine Zf4 ?_;unfold n62
 simp (disch:=try exact DI) only [↓PR,QR,simprocAttr,Sw.joinK_eq,(Za h1).1]
 rw [Vn Tryz.underlying161 Tryz.underlying9 ty3 h3]
 simp (disch:=try exact DI) only [↓PR,QR,simprocAttr]
 refine ZR (Yt h' _ 8 (by decide)) (λ w' e h0=>?_) (λ w' e h0=>?_)
 · exact YY e h0
 · exact Yg e rfl h0
def Z1 (high:Int):Int→List Int→Int
 | _,[]=>0
 | low,n::l=>orC (Ya (decide (low≤n)&&decide (n≤high)) 7) (Z1 high n l)
def VA (w:World) (v:Value) (l:List Int):Prop:=Ze w 1 GS v l
theorem By {w:World} {p:Nat} (hp:p=w.heap.size) (a:Int) (T:TypeId):VA (w.alloc (.cells #[.int .i64 a] T)) (.slice (some ⟨p,0,none⟩) 1 1) [a]:=by
 subst hp;exact Ze.new1 (E:=GS) (λ n:Int => .int .i64 n) (λ _ _=>rfl) w [a] T (by simp)
theorem Oa {w:World} {p:Nat} (hp:p=w.heap.size) (a b:Int) (T:TypeId):VA (w.alloc (.cells #[.int .i64 a,.int .i64 b] T)) (.slice (some ⟨p,0,none⟩) 2 2) [a,b]:=by
 subst hp;exact Ze.new1 (E:=GS) (λ n:Int => .int .i64 n) (λ _ _=>rfl) w [a,b] T (by simp)
theorem Qb (h:Chk w0 cb md ms deps strs at_ fld fs) (low high:Int) (v:Value) (l:List Int) (hs:VA w0 v l):Calls Pg 196 #[.pointer (some ⟨cb,0,none⟩),.int .i64 low,.int .i64 high,v] w0 (Qd w0 at_ fld (Z1 high low l)):=by
 obtain ⟨A,c,rfl,hlc,hcm,hlm,hel⟩:=Ze.open hs
 refine ZeZ ?_;unfold n64
 simp (disch:=try exact DI) only [↓PR,QR,simprocAttr]
 refine Ye (λ a0 a1 w=>∃ (k:Nat) (n:Int),a0 = .int .i64 n∧a1 = .int .i64 (k:Int)∧k≤l.length∧Ext w0 w∧Z1 high n (l.drop k)=Z1 high low l) (λ a0 a1 _=>l.length - (intOf a1).toNat) ⟨0,low,rfl,rfl,Nat.zero_le _,ee,rfl⟩ ?_
 rintro _ _ w ⟨k,n,rfl,rfl,hk,e,hI⟩
 have se:=e.size
 rcases ZB hk with ⟨x,hx,hd,hlt,hdec⟩ | ⟨hk,hd,hdec⟩
 · obtain ⟨b,o,cs,rfl,hl,hA,rfl⟩:=hel k x hx
   rw [hd] at hI
   simp only [Z1] at hI
   simp (disch:=try exact DI) only [↓PR,QR,simprocAttr,↓Iv,↓H0,hdec,hA.c1]
   refine ZR (Yt (h.ext e) _ 7 (by decide)) (λ w' e1 h0=>?_) (λ w' e1 h0=>?_)
   · rw [h0,YK] at hI
     simp (disch:=try exact DI) only [↓PR,QR,simprocAttr,↓Iv,↓H0]
     exact ⟨⟨k+1,_,rfl,rfl,by omega,ee,hI⟩,ZF (kd := .i64) hlt⟩
   · rw [Qp h0] at hI
     exact Yg (e.trans e1) hI.symm h0
 · subst hk
   simp (disch:=try exact DI) only [↓PR,QR,simprocAttr,↓Iv,↓H0,hdec]
   rw [hd] at hI
   exact YY e hI.symm
def Xg (f:Zm):Bool:=decide (1≤f.bits)&&decide (f.bits≤32)&&(!f.little||(decide (8 < f.bits)&&(f.bits.tmod 8 == 0)))
theorem EG (h:Chk w0 cb md ms deps strs at_ fld fs) (v:Value) (f:Zm) (hf:ZV w0 v f):Calls Pg 195 #[.pointer (some ⟨cb,0,none⟩),v] w0 (Qd w0 at_ fld (Ya (Xg f) 6)):=by
 obtain ⟨tv,cv,rfl,hT,hC,ht1,hc1⟩:=hf.op
 refine Zf9 ?_;unfold n56
 simp (disch:=try exact DI) only [↓PR,QR,simprocAttr,↓M1,↓OV,↓MX,↓NF]
 have e0:Ext w0 (w0.alloc (Obj.cells (Zo f tv cv).toArray 48)):=ee
 have fin:∀ b,b=Xg f→Yq Pg 122 #[.pointer (some ⟨cb,0,none⟩),.bool b,.int .i64 6] (Zd (Qd w0 at_ fld (Ya (Xg f) 6))) (w0.alloc (Obj.cells (Zo f tv cv).toArray 48)) (λ _ w=>Qd w0 at_ fld (Ya (Xg f) 6) (.returned (.tuple #[])) w):=by
  rintro b rfl
  exact ZR (Yt (h.ext e0) _ 6 (by decide)) (λ w' e1 h0=>YY (e0.trans e1) h0) (λ w' e1 h0=>Yg (e0.trans e1) rfl h0)
 unfold Xg at fin ⊢
 generalize decide (1≤f.bits)=b1 at fin ⊢
 generalize decide (f.bits≤32)=b2 at fin ⊢
 generalize f.little=b3 at fin ⊢
 generalize decide (8 < f.bits)=b4 at fin ⊢
 generalize (f.bits.tmod 8 == 0)=b5 at fin ⊢
 cases b1<;>cases b2<;>cases b3<;>cases b4<;>cases b5<;>simp (disch:=try exact DI) only [↓PR,QR,simprocAttr,↓M1,↓OV,↓MX,↓NF]<;>exact fin _ rfl
def QY (rp:List (ByteArray×Int×Int)):List ZX→Int
 | []=>0
 | t::ts=>orC (Ya (Yn rp t.field).isSome 8) (QY rp ts)
def LS (base:Int) (ts:List ZX) (rp:List (ByteArray×Int×Int)):Bool:=(Yw base ts rp == 0)&&decide (0≤X3 base ts rp)&&decide (X1 base ts rp≤1048576)
def QA (rp:List (ByteArray×Int×Int)) (f:Zm):Int:=orC (Ya (Q3 f.base f.terms) 9) (orC (QY rp f.terms) (Ya (LS f.base f.terms rp) 9))
theorem zD (h:Chk w0 cb md ms deps strs at_ fld fs) (i:Nat) (hi:fld=i) (hlt:i < fs.length) (v:Value) (f:Zm) (hf:ZV w0 v f) (ht:f.terms.length≤1048576) :
 Calls Pg 202 #[.pointer (some ⟨cb,0,none⟩),v] w0 (Qd w0 at_ fld (QA (YS (fs.take i)) f)):=by
 obtain ⟨tv,cv,rfl,hT,hC,ht1,hc1⟩:=hf.op
 refine ZgM ?_;unfold n63
 simp (disch:=try exact DI) only [↓PR,QR,simprocAttr,↓Kk,↓Ky,↓Km,↓UW,↓UX,↓KE,↓Ku,↓U9]
 generalize hW:World.alloc (World.alloc w0 _) _=W
 have e0:Ext w0 W:=by rw [← hW];exact ee
 have o2:W.heap[w0.heap.size]?=some (.cells #[.pointer (some ⟨cb,0,none⟩)] 140 (0,0)):=by rw [← hW];simp (disch:=try exact DI) only [↓PR,QR,simprocAttr]
 have o3:W.heap[w0.heap.size+1]?=some (.cells (Zo f tv cv).toArray 48 (0,0)):=by rw [← hW];simp (disch:=try exact DI) only [↓PR,QR,simprocAttr]
 clear hW
 simp only [World.size_alloc]
 refine ZI ?_
 simp (disch:=try exact DI) only [↓PR,QR,simprocAttr,↓Kk,↓Ky,↓Km,↓UW,↓UX,↓KE,↓Ku,↓U9,(Za o2).1,(Za o3).1]
 refine zcr (zo _ _ f.base f.terms ⟨tv,rfl,ZW.ext hT ee⟩) λ w1 e1=>?_
 refine ⟨e1,?_⟩
 unfold QA
 refine ZR (Yt (h.ext (e0.wdrew.trans e1)) _ 9 (by decide)) (λ w2 e2 h0=>?_) (λ w2 e2 h0=>?_)
 · rw [h0,YK]
   refine ⟨e1.trans e2,?_⟩
   have e3:Ext W w2:=(Ext.refl W).wdrew.trans (e1.trans e2)
   have hv:Q3 f.base f.terms=true:=by
    cases hb:Q3 f.base f.terms with
    | true=>rfl
    | false=>rw [hb] at h0;exact absurd h0 (by decide)
   simp (disch:=try exact DI) only [↓PR,QR,simprocAttr,↓Kk,↓Ky,↓Km,↓UW,↓UX,↓KE,↓Ku,↓U9,(Za (e3.obj o2)).1]
   refine Zt (WJ (h.ext (e0.trans e3)) i hi hlt) ?_
   rintro bv w4 ⟨hB,e4⟩
   simp (disch:=try exact DI) only [↓PR,QR,simprocAttr,↓Kk,↓Ky,↓Km,↓UW,↓UX,↓KE,↓Ku,↓U9]
   refine Zt (UD _ _ _ hB) ?_
   rintro _ w5 ⟨m,rfl,hmlo,hM,e5⟩
   rw [VY] at hM
   have e6:Ext W w5:=e3.trans (e4.trans e5)
   have l3:w0.heap.size+1 < w5.heap.size:=(Array.getElem?_eq_some_iff.1 (e6.obj o3)).1
   simp (disch:=try exact DI) only [↓PR,QR,simprocAttr,↓Kk,↓Ky,↓Km,↓UW,↓UX,↓KE,↓Ku,↓U9,(Za (e6.obj o3)).1]
   have e6':Ext w0 w5:=e0.trans e6
   refine Zt (Br _ _ f.base f.terms ⟨tv,rfl,ZW.ext hT ee⟩ ht) ?_
   rintro _ w7 ⟨pb,tv2,rfl,hTA,_,e7⟩
   rw [hv,if_pos rfl] at hTA
   have s7:=e7.size
   simp only [World.size_alloc] at s7
   have e8:Ext W w7:=ee
   have p4:w7.heap[w5.heap.size]?=some (.cells #[.map (some m)] 122 (0,0)):=by simp (disch:=try exact DI) only [↓PR,QR,simprocAttr,e7.heapQ]
   have hM7:YG w7 m (RP (YS (fs.take i))):=hM.ext (((Ext.refl _).alloc _).trans e7)
   have h7:Chk w7 cb md ms deps strs at_ fld fs:=h.ext (e0.trans e8)
   have o2':=e8.obj o2
   have o3':=e8.obj o3
   have e07:Ext w0 w7:=e0.trans e8
   clear e7 e6 e5 e4 e3 e2 e1 hM hB hmlo s7 l3 o2 o3 e8 e6'
   unfold UX
   have hLI:∀ k,ZO w7.heap.size (λ w=>Ext w7 w∧QY (YS (fs.take i)) (f.terms.drop k)=QY (YS (fs.take i)) f.terms):=λ k=>ZO.and (ZO.from (Nat.le_refl _)) (ZO.const _ _)
   refine ⟨_,_,f.terms.length,UK f.terms,λ w=>Qq w pb tv2 f.terms,λ k w=>Ext w7 w∧QY (YS (fs.take i)) (f.terms.drop k)=QY (YS (fs.take i)) f.terms,λ _ _=>False,
    λ ch w=>Ext w7 w∧∃ c,c≠0∧ch=[Xc at_ fld c]∧QY (YS (fs.take i)) f.terms=c,rfl,Zc9,Bb pb tv2 f.terms,⟨Ext.refl _,rfl⟩,λ k w h=>hTA.ext h.1,hLI,λ _=>ZO.const _ _,?_,?_,?_,?_⟩
   · intro rec j w3 hj hI3 hrec hready
     refine ⟨hready,λ w4 hbz=>?_⟩
     have hrec4:=hrec.busied hbz
     obtain ⟨e4,hF⟩:=(hLI j).busied hbz (Nat.le_succ _) hI3
     clear hI3 hrec hready hbz
     obtain ⟨t,hx⟩:=getElem?_lt hj
     rw [show UK f.terms j = .string t.field by unfold UK;rw [hx]]
     have hd:f.terms.drop j=t::f.terms.drop (j+1):=by
      rw [List.drop_eq_getElem_cons hj]
      congr 1
      exact (List.getElem?_eq_some_iff.1 hx).2
     rw [hd] at hF
     simp only [QY] at hF
     have o2:=e4.obj o2'
     have l2:w0.heap.size < w4.heap.size:=(Array.getElem?_eq_some_iff.1 o2).1
     simp (disch:=try exact DI) only [↓PR,QR,simprocAttr,↓Kk,↓Ky,↓Km,↓UW,↓UX,↓KE,↓Ku,↓U9,(Za (e4.obj p4)).1]
     rw [Vn Tryz.underlying122 Tryz.underlying9 GG (hM7.ext e4),QK]
     have fin:∀ w5 b,Ext w4 w5→b=(Yn (YS (fs.take i)) t.field).isSome→Yq Pg 122 #[.pointer (some ⟨cb,0,none⟩),.bool b,.int .i64 8] (λ ch w''=>Xa rec w7.heap.size w''∧Ext w7 w''∧∃ c,c≠0∧ch=[Xc at_ fld c]∧QY (YS (fs.take i)) f.terms=c) w5 (λ _ w''=>Xa rec w7.heap.size w''∧Ext w7 w''∧QY (YS (fs.take i)) (f.terms.drop (j+1))=QY (YS (fs.take i)) f.terms):=by
      rintro w5 b e5 rfl
      refine ZR (Yt (h7.ext (e4.trans e5)) _ 8 (by decide)) (λ w6 e6 h0=>?_) (λ w6 e6 h0=>?_)
      · rw [h0,YK] at hF
        exact ⟨hrec4.ext (e5.trans e6),e4.trans (e5.trans e6),hF⟩
      · rw [Qp h0] at hF
        exact ⟨hrec4.ext (e5.trans e6),e4.trans (e5.trans e6),_,h0,rfl,hF.symm⟩
     cases hl:Yn (YS (fs.take i)) t.field with
     | none =>
      rw [hl] at fin
      simp (disch:=try exact DI) only [↓PR,QR,simprocAttr,↓Kk,↓Ky,↓Km,↓UW,↓UX,↓KE,↓Ku,↓U9,(Za o2).1,Option.map_none]
      exact fin _ _ ee rfl
     | some q =>
      obtain ⟨lo,hi⟩:=q
      rw [hl] at fin
      simp (disch:=try exact DI) only [↓PR,QR,simprocAttr,↓Kk,↓Ky,↓Km,↓UW,↓UX,↓KE,↓Ku,↓U9,(Za o2).1,Ym]
      exact fin _ _ ee rfl
   · rintro w3 ⟨e3,hF⟩ hmk
     rw [List.drop_length] at hF
     have l7:w7.heap.size < w3.heap.size:=(Array.getElem?_eq_some_iff.1 hmk).1
     rw [← hF]
     show UW _ _ _ _ (Qd w0 at_ fld (orC 0 _)) w3
     rw [YK]
     simp (disch:=try exact DI) only [↓PR,QR,simprocAttr,↓Kk,↓Ky,↓Km,↓UW,↓UX,↓KE,↓Ku,↓U9,(Za (e3.obj o3')).1,(Za (e3.obj p4)).1]
     refine zcr (CM _ _ f.base f.terms m _ ⟨tv,rfl,ZW.ext hT (e07.trans e3)⟩ ht (hM7.ext e3)) λ w4 e4=>?_
     have s4:=e4.size
     have o2:=(e3.trans e4).obj o2'
     have l2:w0.heap.size < w4.heap.size:=(Array.getElem?_eq_some_iff.1 o2).1
     simp (disch:=try exact DI) only [↓PR,QR,simprocAttr,↓Kk,↓Ky,↓Km,↓UW,↓UX,↓KE,↓Ku,↓U9,(Za o2).1,Ym]
     have e5:Ext w3 (w4.alloc (Obj.cells #[.int .i64 (X3 f.base f.terms (YS (fs.take i))),.int .i64 (X1 f.base f.terms (YS (fs.take i)))] 74)):=e4.alloc _
     have s07:=e07.size
     refine ZR (Yt (h7.ext (e3.trans e5)) (LS f.base f.terms (YS (fs.take i))) 9 (by decide)) (λ w6 e6 h0=>?_) (λ w6 e6 h0=>?_)
     · refine WL (hmk.ext (e5.trans e6)) ?_
       rw [WT]
       exact YY (((e07.trans e3).trans (e5.trans e6)).putObj (by omega) _) h0
     · refine zP (hmk.ext (e5.trans e6)) ?_
       rw [Vp]
       exact Yg (((e07.trans e3).trans (e5.trans e6)).putObj (by omega) _) rfl h0
   · rintro c w3 h
     exact h.elim
   · rintro ch w3 ⟨e3,c,hc,rfl,hF⟩ hmk
     have l7:w7.heap.size < w3.heap.size:=(Array.getElem?_eq_some_iff.1 hmk).1
     rw [hF,Qp hc]
     refine zP hmk ?_
     rw [Vp]
     exact Yg (by have:=e07.size;exact ee) rfl hc
 · rw [Qp h0]
   exact Yg (e0.wdrew.trans (e1.trans e2)) rfl h0
end
end Go.Proofs.YtfjjgjjlebllmaaGreat
