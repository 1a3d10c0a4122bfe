/-
  Lemmas for the claim.
-/
import Derived.Test.YtiajhbbmgglmlaaGreatFg2
set_option linter.all false
set_option maxHeartbeats 4000000
set_option maxRecDepth 100000
namespace Go.Proofs.YtiajhbbmgglmlaaGreat
open Sw
def n12c1 (t2 t3 t5:Value) (C3:World→Prop) (next2:KV) (R:RT) (w:World):Prop :=
 qV Pg C3 (Instr.fieldAt 49 t2 1) fun t27 =>
 qV Pg C3 (Instr.loadAt 47 t27) fun t28 =>
 qV Pg C3 (Instr.indexAt 47 t28 t5) fun t30 =>
 qV Pg C3 (Instr.loadAt 78 t30) fun t31 =>
 qV Pg C3 (Instr.fieldAt 49 t3 1) fun t32 =>
 qV Pg C3 (Instr.loadAt 47 t32) fun t33 =>
 qV Pg C3 (Instr.indexAt 47 t33 t5) fun t35 =>
 qV Pg C3 (Instr.loadAt 78 t35) fun t36 =>
 qV Pg C3 (binS .neq 78 false t31 t36) fun t37 =>
 condP t37 (
 R (.returned (.bool false)) w) (
 B0 .add 3 true t5 (.int .i64 1) R w fun t26 w =>
 next2 t26 w)
def n12c2 (t2 t3 t5:Value) (next2:KV) (R:RT) (w:World):Prop :=
 F0 49 t2 1 R w fun t21 w =>
 L0 47 t21 R w fun t22 w =>
 opV Pg (Builtin.len_ #[47] 3 #[t22]) (panK R) w fun t23 w =>
 B0 .lss 3 false t5 t23 R w fun t24 w =>
 condP t24 (
 drawK w fun C3 w =>
 n12c1 t2 t3 t5 C3 next2 R w) (
 R (.returned (.bool true)) w)
def n12 (t0 t1:Value) (R:RT) (w:World):Prop :=
 opV Pg (Instr.box 49 t0) (panK R) w fun t2 w =>
 opV Pg (Instr.box 49 t1) (panK R) w fun t3 w =>
 F0 49 t2 0 R w fun t6 w =>
 L0 3 t6 R w fun t7 w =>
 F0 49 t3 0 R w fun t8 w =>
 L0 3 t8 R w fun t9 w =>
 B0 .neq 3 false t7 t9 R w fun t10 w =>
 joinK (fun (t18:Value) (w:World) =>
 pickK t10 (.bool true) t18 fun t19 =>
 condP t19 (
 R (.returned (.bool false)) w) (
 loop1 (fun t5 w next2 =>
 n12c2 t2 t3 t5 next2 R w) (.int .i64 0) w)) fun K1 =>
 guardP t10 false (
 F0 49 t2 1 R w fun t12 w =>
 L0 47 t12 R w fun t13 w =>
 opV Pg (Builtin.len_ #[47] 3 #[t13]) (panK R) w fun t14 w =>
 F0 49 t3 1 R w fun t15 w =>
 L0 47 t15 R w fun t16 w =>
 opV Pg (Builtin.len_ #[47] 3 #[t16]) (panK R) w fun t17 w =>
 B0 .neq 3 false t14 t17 R w fun t18 w =>
 K1 t18 w) (
 K1 undef w)
theorem n12s {t0 t1:Value} {R:RT} {w:World} (h:n12 t0 t1 R w):Calls Pg 45 #[t0,t1] w R:=by
 refine calls_of_den (args:=[t0,t1]) Tryz.func45 rfl (Nat.le_of_ble_eq_true rfl) ?_
 unfold n12 at h
 refine zs<|zr ?_
 refine zv h fun t2 w h=>?_
 refine zv h fun t3 w h=>?_
 refine zm<|zn<|zk<|zs<|zs<|sim_regionG ?_
 refine sim_seg 6 rfl ?_
 refine zv h fun t6 w h=>?_
 refine zv h fun t7 w h=>?_
 refine zv h fun t8 w h=>?_
 refine zv h fun t9 w h=>?_
 refine zb h fun t10 w h=>?_
 refine zm<|zn ?_
 refine joinK_elim h (fun K1 hK h=>?_)
 refine sim_groupJ 7 5 false [12,13,14,15,16,17,18] (fun ρ w=>K1 (ρ 18) w) rfl rfl (fun T hT=>guardP_mono h (fun h=>?_) (fun h=>?_)) (fun σ w h=>?_)
 · refine zv h fun t12 w h=>?_
   refine zv h fun t13 w h=>?_
   refine zx h fun t14 w h=>?_
   refine zv h fun t15 w h=>?_
   refine zv h fun t16 w h=>?_
   refine zx h fun t17 w h=>?_
   refine zb h fun t18 w h=>?_
   refine zn ?_
   exact zt hT h
 · exact zt hT h
 subst hK
 refine sim_seg 1 rfl ?_
 refine sim_pick h rfl rfl rfl ?_;intro t19 h
 refine zn<|sim_end<|zk ?_
 refine sim_cond h rfl (fun h=>?_) (fun h=>?_)
 · refine zs<|zr<|zm<|zn<|zk<|sim_ret<|sim_then_ret ?_
   exact body_ret1 rfl rfl h
 · refine sim_skip<|zk<|zs<|zs<|zr<|zm<|zn<|zk<|sim_block ?_
   obtain ⟨I,μ,h0,hr⟩:=h
   refine sim_loop [4,5,20,21,22,23,24,25,26,27,28,29,30,31,32,33,34,35,36,37] (by kernel_rfl) (fun ρ w=>I (ρ 5) w) (fun ρ w=>μ (ρ 5) w) h0 (fun σ w hI=>?_)
   have h:=hr _ _ hI
   clear hr h0 hI
   refine zs<|zs<|zr<|zm ?_
   refine zv h fun t21 w h=>?_
   refine zv h fun t22 w h=>?_
   refine zx h fun t23 w h=>?_
   refine zb h fun t24 w h=>?_
   refine zn<|zk ?_
   refine sim_cond h rfl (fun h=>?_) (fun h=>?_)
   · refine sim_skip<|zk<|zs<|sim_block<|zs ?_
     obtain ⟨C3,hC,h⟩:=h
     refine sim_draw [27,28,29,30,31,32,33,34,35,36,37] (by kernel_rfl) (by kernel_rfl) C3 ?_
     refine ze 0 hC h fun t27 h=>?_
     refine ze 1 hC h fun t28 h=>?_
     refine zw 2 hC ?_
     refine ze 3 hC h fun t30 h=>?_
     refine ze 4 hC h fun t31 h=>?_
     refine ze 5 hC h fun t32 h=>?_
     refine ze 6 hC h fun t33 h=>?_
     refine zw 7 hC ?_
     refine ze 8 hC h fun t35 h=>?_
     refine ze 9 hC h fun t36 h=>?_
     obtain ⟨t37,hv,h⟩:=h
     refine sim_dsilent 10 hC rfl (by kernel_rfl) (by kernel_rfl) (fun _ _=>rfl) rfl (Sw.qV_bin rfl rfl rfl hv) ?_
     refine sim_dend (by kernel_rfl) ?_
     refine zk ?_
     refine sim_cond h rfl (fun h=>?_) (fun h=>?_)
     · refine zs<|zr<|zm<|zn<|zk<|sim_ret<|sim_block_ret<|sim_then_ret<|sim_then_ret<|sim_block_ret<|sim_then_ret ?_
       exact body_ret1 rfl rfl h
     · refine sim_skip<|sim_block_normal<|zk<|zr<|zm ?_
       refine zb h fun t26 w h=>?_
       refine zm<|zn<|zk ?_
       exact ⟨rfl,h⟩
   · refine sim_exit<|sim_then_exit<|sim_then_exit<|sim_block_hit<|zk<|zs<|zr<|zm<|zn<|zk<|sim_ret ?_
     exact body_ret1 rfl rfl h
def n31c1 (t0 t1 t5:Value) (C2:World→Prop) (next1:KV) (R:RT) (w:World):Prop :=
 qV Pg C2 (Instr.indexAt 50 t0 t5) fun t19 =>
 qV Pg C2 (Instr.loadAt 81 t19) fun t20 =>
 qV Pg C2 (Instr.indexAt 50 t1 t5) fun t23 =>
 qV Pg C2 (Instr.loadAt 81 t23) fun t24 =>
 qV Pg C2 (binS .neq 81 false t20 t24) fun t25 =>
 condP t25 (
 R (.returned (.bool false)) w) (
 B0 .add 3 true t5 (.int .i64 1) R w fun t16 w =>
 next1 t16 w)
def n31c2 (t0 t1 t5:Value) (next1:KV) (R:RT) (w:World):Prop :=
 opV Pg (Builtin.len_ #[50] 3 #[t0]) (panK R) w fun t13 w =>
 B0 .lss 3 false t5 t13 R w fun t14 w =>
 condP t14 (
 drawK w fun C2 w =>
 n31c1 t0 t1 t5 C2 next1 R w) (
 R (.returned (.bool true)) w)
def n31 (t0 t1:Value) (R:RT) (w:World):Prop :=
 opV Pg (Builtin.len_ #[50] 3 #[t0]) (panK R) w fun t7 w =>
 opV Pg (Builtin.len_ #[50] 3 #[t1]) (panK R) w fun t9 w =>
 B0 .neq 3 false t7 t9 R w fun t10 w =>
 condP t10 (
 R (.returned (.bool false)) w) (
 loop1 (fun t5 w next1 =>
 n31c2 t0 t1 t5 next1 R w) (.int .i64 0) w)
theorem n31s {t0 t1:Value} {R:RT} {w:World} (h:n31 t0 t1 R w):Calls Pg 46 #[t0,t1] w R:=by
 refine calls_of_den (args:=[t0,t1]) Tryz.func46 rfl (Nat.le_of_ble_eq_true rfl) ?_
 unfold n31 at h
 refine zs<|zr<|zm<|zn<|zk<|zs<|zs<|zr<|zm ?_
 refine zx h fun t7 w h=>?_
 refine zm ?_
 refine zx h fun t9 w h=>?_
 refine zb h fun t10 w h=>?_
 refine zn<|zk ?_
 refine sim_cond h rfl (fun h=>?_) (fun h=>?_)
 · refine zs<|zr<|zm<|zn<|zk<|sim_ret<|sim_then_ret ?_
   exact body_ret1 rfl rfl h
 · refine sim_skip<|zk<|zs<|zs<|zr<|zm<|zn<|zk<|sim_block ?_
   obtain ⟨I,μ,h0,hr⟩:=h
   refine sim_loop [4,5,11,12,13,14,15,16,17,18,19,20,21,22,23,24,25] (by kernel_rfl) (fun ρ w=>I (ρ 5) w) (fun ρ w=>μ (ρ 5) w) h0 (fun σ w hI=>?_)
   have h:=hr _ _ hI
   clear hr h0 hI
   refine zs<|zs<|zr<|zm<|zm ?_
   refine zx h fun t13 w h=>?_
   refine zb h fun t14 w h=>?_
   refine zn<|zk ?_
   refine sim_cond h rfl (fun h=>?_) (fun h=>?_)
   · refine sim_skip<|zk<|zs<|sim_block<|zs ?_
     obtain ⟨C2,hC,h⟩:=h
     refine sim_draw [17,18,19,20,21,22,23,24,25] (by kernel_rfl) (by kernel_rfl) C2 ?_
     refine zw 0 hC ?_
     refine zw 1 hC ?_
     refine ze 2 hC h fun t19 h=>?_
     refine ze 3 hC h fun t20 h=>?_
     refine zw 4 hC ?_
     refine zw 5 hC ?_
     refine ze 6 hC h fun t23 h=>?_
     refine ze 7 hC h fun t24 h=>?_
     obtain ⟨t25,hv,h⟩:=h
     refine sim_dsilent 8 hC rfl (by kernel_rfl) (by kernel_rfl) (fun _ _=>rfl) rfl (Sw.qV_bin rfl rfl rfl hv) ?_
     refine sim_dend (by kernel_rfl) ?_
     refine zk ?_
     refine sim_cond h rfl (fun h=>?_) (fun h=>?_)
     · refine zs<|zr<|zm<|zn<|zk<|sim_ret<|sim_block_ret<|sim_then_ret<|sim_then_ret<|sim_block_ret<|sim_then_ret ?_
       exact body_ret1 rfl rfl h
     · refine sim_skip<|sim_block_normal<|zk<|zr<|zm ?_
       refine zb h fun t16 w h=>?_
       refine zm<|zn<|zk ?_
       exact ⟨rfl,h⟩
   · refine sim_exit<|sim_then_exit<|sim_then_exit<|sim_block_hit<|zk<|zs<|zr<|zm<|zn<|zk<|sim_ret ?_
     exact body_ret1 rfl rfl h
def n45c1 (t1 t2:Value) (R:RT) (w:World):Prop :=
 F0 52 t1 5 R w fun t13 w =>
 L0 3 t13 R w fun t14 w =>
 F0 52 t1 5 R w fun t15 w =>
 L0 3 t15 R w fun t16 w =>
 opV Pg (Instr.build 58 #[(0,t14),(1,t16)]) (panK R) w fun t17 w =>
 opU Pg (Instr.storeAt 58 t2 t17) (panK R) w fun w =>
 qW Pg 58 t2 w fun r0 =>
 R (.returned (.tuple #[r0,(.int .i64 0)])) w
def n45c2 (t1 t2:Value) (R:RT) (w:World):Prop :=
 F0 52 t1 5 R w fun t18 w =>
 L0 3 t18 R w fun t19 w =>
 F0 52 t1 6 R w fun t20 w =>
 L0 3 t20 R w fun t21 w =>
 opV Pg (Instr.build 58 #[(0,t19),(1,t21)]) (panK R) w fun t22 w =>
 opU Pg (Instr.storeAt 58 t2 t22) (panK R) w fun w =>
 qW Pg 58 t2 w fun r0 =>
 R (.returned (.tuple #[r0,(.int .i64 0)])) w
def n45c3 (t2:Value) (R:RT) (w:World):Prop :=
 opV Pg (Instr.build 58 #[]) (panK R) w fun t8 w =>
 opU Pg (Instr.storeAt 58 t2 t8) (panK R) w fun w =>
 qW Pg 58 t2 w fun r0 =>
 R (.returned (.tuple #[r0,(.int .i64 2)])) w
def n45c4 (t1 t2:Value) (R:RT) (w:World):Prop :=
 F0 52 t1 1 R w fun t10 w =>
 L0 46 t10 R w fun t11 w =>
 B0 .eql 46 true t11 (.int .i64 2) R w fun t12 w =>
 condP t12 (
 n45c1 t1 t2 R w) (
 n45c2 t1 t2 R w)
def n45 (t0:Value) (R:RT) (w:World):Prop :=
 opV Pg (Instr.box 52 t0) (panK R) w fun t1 w =>
 opV Pg (Instr.alloc 58 true (.tuple #[])) (panK R) w fun t2 w =>
 L0 52 t1 R w fun t5 w =>
 C0 64 #[t5] R w fun t6 w =>
 opV Pg (Op.unary .not t6) (panK R) w fun t7 w =>
 condP t7 (
 n45c3 t2 R w) (
 n45c4 t1 t2 R w)
theorem n45s {t0:Value} {R:RT} {w:World} (h:n45 t0 R w):Calls Pg 47 #[t0] w R:=by
 refine calls_of_den (args:=[t0]) Tryz.func47 rfl (Nat.le_of_ble_eq_true rfl) ?_
 unfold n45 at h
 refine zs<|zr ?_
 refine zv h fun t1 w h=>?_
 refine zv h fun t2 w h=>?_
 refine zm<|zn<|zk<|zs<|sim_block<|zs<|zr ?_
 refine zv h fun t5 w h=>?_
 refine zc h c64 fun t6 w h=>?_
 refine zv h fun t7 w h=>?_
 refine zm<|zn<|zk ?_
 refine sim_cond h rfl (fun h=>?_) (fun h=>?_)
 · refine zs<|zr ?_
   refine sim_build h rfl (fun _ _ h=>⟨rfl,h⟩) ?_;intro t8 w h
   refine zu h fun w h=>?_
   refine zm<|zn<|zk<|sim_ret<|sim_block_ret<|sim_then_ret ?_
   exact body_retCT rfl rfl rfl h
 · refine zs<|zr ?_
   refine zv h fun t10 w h=>?_
   refine zv h fun t11 w h=>?_
   refine zb h fun t12 w h=>?_
   refine zm<|zn<|zk ?_
   refine sim_cond h rfl (fun h=>?_) (fun h=>?_)
   · refine zs<|zr ?_
     refine zv h fun t13 w h=>?_
     refine zv h fun t14 w h=>?_
     refine zv h fun t15 w h=>?_
     refine zv h fun t16 w h=>?_
     refine sim_build h rfl (fun _ _ h=>⟨rfl,h⟩) ?_;intro t17 w h
     refine zu h fun w h=>?_
     refine zm<|zn<|zk<|sim_ret<|sim_block_ret<|sim_then_ret ?_
     exact body_retCT rfl rfl rfl h
   · refine sim_skip<|sim_block_normal<|zk<|zs<|zr ?_
     refine zv h fun t18 w h=>?_
     refine zv h fun t19 w h=>?_
     refine zv h fun t20 w h=>?_
     refine zv h fun t21 w h=>?_
     refine sim_build h rfl (fun _ _ h=>⟨rfl,h⟩) ?_;intro t22 w h
     refine zu h fun w h=>?_
     refine zm<|zn<|zk<|sim_ret ?_
     exact body_retCT rfl rfl rfl h
def n95c1 (t0 t5 t9:Value) (R:RT) (w:World):Prop :=
 pickK t5 t9 (.bool false) fun t10 =>
 joinK (fun (t13:Value) (w:World) =>
 pickK t10 t13 (.bool false) fun t14 =>
 R (.returned t14) w) fun K2 =>
 guardP t10 true (
 opV Pg (binS .neq 5 true t0 (.int .u8 95)) (panK R) w fun t13 w =>
 K2 t13 w) (
 K2 undef w)
def n95c2 (t0 t4:Value) (R:RT) (w:World):Prop :=
 opV Pg (Op.unary .not t4) (panK R) w fun t5 w =>
 joinK (fun (t9:Value) (w:World) =>
 n95c1 t0 t5 t9 R w) fun K1 =>
 guardP t5 true (
 C0 50 #[t0] R w fun t8 w =>
 opV Pg (Op.unary .not t8) (panK R) w fun t9 w =>
 K1 t9 w) (
 K1 undef w)
def n95 (t0:Value) (R:RT) (w:World):Prop :=
 C0 49 #[t0] R w fun t4 w =>
 n95c2 t0 t4 R w
theorem n95s {t0:Value} {R:RT} {w:World} (h:n95 t0 R w):Calls Pg 48 #[t0] w R:=by
 refine calls_of_den (args:=[t0]) Tryz.func48 rfl (Nat.le_of_ble_eq_true rfl) ?_
 unfold n95 at h
 refine zs<|zr<|zm<|zn<|zk<|zs<|sim_regionG ?_
 refine sim_seg 4 rfl ?_
 refine zm ?_
 refine zc h c49 fun t4 w h=>?_
 refine zv h fun t5 w h=>?_
 refine zm<|zn ?_
 refine joinK_elim h (fun K1 hK h=>?_)
 refine sim_groupJ 3 3 true [7,8,9] (fun ρ w=>K1 (ρ 9) w) rfl rfl (fun T hT=>guardP_mono h (fun h=>?_) (fun h=>?_)) (fun σ w h=>?_)
 · refine zm ?_
   refine zc h c50 fun t8 w h=>?_
   refine zv h fun t9 w h=>?_
   refine zn ?_
   exact zt hT h
 · exact zt hT h
 subst hK
 refine sim_seg 2 rfl ?_
 refine sim_pick h rfl rfl rfl ?_;intro t10 h
 refine zm<|zn ?_
 refine joinK_elim h (fun K2 hK h=>?_)
 refine sim_groupJ 2 8 true [12,13] (fun ρ w=>K2 (ρ 13) w) rfl rfl (fun T hT=>guardP_mono h (fun h=>?_) (fun h=>?_)) (fun σ w h=>?_)
 · refine zm ?_
   refine zb h fun t13 w h=>?_
   refine zn ?_
   exact zt hT h
 · exact zt hT h
 subst hK
 refine sim_seg 2 rfl ?_
 refine sim_pick h rfl rfl rfl ?_;intro t14 h
 refine zm<|zn<|sim_end<|zk<|sim_ret ?_
 exact body_ret1 rfl rfl h
def n103c1 (t0 t8 t12:Value) (R:RT) (w:World):Prop :=
 joinK (fun (t14:Value) (w:World) =>
 joinK (fun (t15:Value) (w:World) =>
 pickK t8 (.bool true) t15 fun t16 =>
 R (.returned t16) w) fun K4 =>
 guardP t8 false (
 pickK t12 t14 (.bool false) fun t15 =>
 K4 t15 w) (
 K4 undef w)) fun K3 =>
 guardP t12 true (
 opV Pg (binS .leq 5 true t0 (.int .u8 122)) (panK R) w fun t14 w =>
 K3 t14 w) (
 K3 undef w)
def n103c2 (t0 t4 t7:Value) (R:RT) (w:World):Prop :=
 pickK t4 t7 (.bool false) fun t8 =>
 joinK (fun (t12:Value) (w:World) =>
 n103c1 t0 t8 t12 R w) fun K2 =>
 guardP t8 false (
 opV Pg (binS .geq 5 true t0 (.int .u8 97)) (panK R) w fun t11 w =>
 K2 t11 w) (
 K2 undef w)
def n103 (t0:Value) (R:RT) (w:World):Prop :=
 opV Pg (binS .geq 5 true t0 (.int .u8 65)) (panK R) w fun t4 w =>
 joinK (fun (t7:Value) (w:World) =>
 n103c2 t0 t4 t7 R w) fun K1 =>
 guardP t4 true (
 opV Pg (binS .leq 5 true t0 (.int .u8 90)) (panK R) w fun t7 w =>
 K1 t7 w) (
 K1 undef w)
theorem n103s {t0:Value} {R:RT} {w:World} (h:n103 t0 R w):Calls Pg 49 #[t0] w R:=by
 refine calls_of_den (args:=[t0]) Tryz.func49 rfl (Nat.le_of_ble_eq_true rfl) ?_
 unfold n103 at h
 refine zs<|zr<|zm<|zn<|zk<|zs<|sim_regionG ?_
 refine sim_seg 3 rfl ?_
 refine zm ?_
 refine zb h fun t4 w h=>?_
 refine zm<|zn ?_
 refine joinK_elim h (fun K1 hK h=>?_)
 refine sim_groupJ 2 2 true [6,7] (fun ρ w=>K1 (ρ 7) w) rfl rfl (fun T hT=>guardP_mono h (fun h=>?_) (fun h=>?_)) (fun σ w h=>?_)
 · refine zm ?_
   refine zb h fun t7 w h=>?_
   refine zn ?_
   exact zt hT h
 · exact zt hT h
 subst hK
 refine sim_seg 2 rfl ?_
 refine sim_pick h rfl rfl rfl ?_;intro t8 h
 refine zm<|zn ?_
 refine joinK_elim h (fun K2 hK h=>?_)
 refine sim_groupJ 3 6 false [10,11,12] (fun ρ w=>K2 (ρ 12) w) rfl rfl (fun T hT=>guardP_mono h (fun h=>?_) (fun h=>?_)) (fun σ w h=>?_)
 · refine zm ?_
   refine zb h fun t11 w h=>?_
   refine zm<|zn ?_
   exact zt hT h
 · exact zt hT h
 subst hK
 refine joinK_elim h (fun K3 hK h=>?_)
 refine sim_groupJ 2 9 true [13,14] (fun ρ w=>K3 (ρ 14) w) rfl rfl (fun T hT=>guardP_mono h (fun h=>?_) (fun h=>?_)) (fun σ w h=>?_)
 · refine zm ?_
   refine zb h fun t14 w h=>?_
   refine zn ?_
   exact zt hT h
 · exact zt hT h
 subst hK
 refine joinK_elim h (fun K4 hK h=>?_)
 refine sim_groupJ 1 6 false [15] (fun ρ w=>K4 (ρ 15) w) rfl rfl (fun T hT=>guardP_mono h (fun h=>?_) (fun h=>?_)) (fun σ w h=>?_)
 · refine sim_pick h rfl rfl rfl ?_;intro t15 h
   refine zn ?_
   exact zt hT h
 · exact zt hT h
 subst hK
 refine sim_seg 2 rfl ?_
 refine sim_pick h rfl rfl rfl ?_;intro t16 h
 refine zm<|zn<|sim_end<|zk<|sim_ret ?_
 exact body_ret1 rfl rfl h
def n102 (t0:Value) (R:RT) (w:World):Prop :=
 opV Pg (binS .geq 5 true t0 (.int .u8 48)) (panK R) w fun t4 w =>
 joinK (fun (t7:Value) (w:World) =>
 pickK t4 t7 (.bool false) fun t8 =>
 R (.returned t8) w) fun K1 =>
 guardP t4 true (
 opV Pg (binS .leq 5 true t0 (.int .u8 57)) (panK R) w fun t7 w =>
 K1 t7 w) (
 K1 undef w)
theorem n102s {t0:Value} {R:RT} {w:World} (h:n102 t0 R w):Calls Pg 50 #[t0] w R:=by
 refine calls_of_den (args:=[t0]) Tryz.func50 rfl (Nat.le_of_ble_eq_true rfl) ?_
 unfold n102 at h
 refine zs<|zr<|zm<|zn<|zk<|zs<|sim_regionG ?_
 refine sim_seg 3 rfl ?_
 refine zm ?_
 refine zb h fun t4 w h=>?_
 refine zm<|zn ?_
 refine joinK_elim h (fun K1 hK h=>?_)
 refine sim_groupJ 2 2 true [6,7] (fun ρ w=>K1 (ρ 7) w) rfl rfl (fun T hT=>guardP_mono h (fun h=>?_) (fun h=>?_)) (fun σ w h=>?_)
 · refine zm ?_
   refine zb h fun t7 w h=>?_
   refine zn ?_
   exact zt hT h
 · exact zt hT h
 subst hK
 refine sim_seg 2 rfl ?_
 refine sim_pick h rfl rfl rfl ?_;intro t8 h
 refine zm<|zn<|sim_end<|zk<|sim_ret ?_
 exact body_ret1 rfl rfl h
def n100 (t0:Value) (R:RT) (w:World):Prop :=
 C0 65 #[t0,(.bool false)] R w fun t4 w =>
 opV Pg (Op.unary .not t4) (panK R) w fun t5 w =>
 R (.returned t5) w
theorem n100s {t0:Value} {R:RT} {w:World} (h:n100 t0 R w):Calls Pg 51 #[t0] w R:=by
 refine calls_of_den (args:=[t0]) Tryz.func51 rfl (Nat.le_of_ble_eq_true rfl) ?_
 unfold n100 at h
 refine zs<|zr<|zm<|zn<|zk<|zs<|zr<|zm ?_
 refine zc h c65 fun t4 w h=>?_
 refine zv h fun t5 w h=>?_
 refine zm<|zn<|zk<|sim_ret ?_
 exact body_ret1 rfl rfl h
def n112 (t0 t1:Value) (R:RT) (w:World):Prop :=
 C0 66 #[t0,t1] R w fun t7 w =>
 B0 .geq 3 true t7 (.int .i64 0) R w fun t8 w =>
 R (.returned t8) w
theorem n112s {t0 t1:Value} {R:RT} {w:World} (h:n112 t0 t1 R w):Calls Pg 52 #[t0,t1] w R:=by
 refine calls_of_den (args:=[t0,t1]) Tryz.func52 rfl (Nat.le_of_ble_eq_true rfl) ?_
 unfold n112 at h
 refine zs<|zr<|zm<|zn<|zk<|zs<|zr<|zm<|zm ?_
 refine zc h c66 fun t7 w h=>?_
 refine zb h fun t8 w h=>?_
 refine zm<|zn<|zk<|sim_ret ?_
 exact body_ret1 rfl rfl h
def n54c1 (t0 t3 t6:Value) (R:RT) (w:World):Prop :=
 F0 121 t6 1 R w fun t49 w =>
 L0 119 t49 R w fun t50 w =>
 L0 52 t3 R w fun t52 w =>
 callV Pg t50 #[t0,t52] (panK R) w fun t53 w =>
 R (.returned (.tuple #[])) w
def n54c2 (t0 t3 t6 t7:Value) (R:RT) (w:World):Prop :=
 L0 52 t7 R w fun t41 w =>
 F0 52 t3 0 R w fun t42 w =>
 L0 9 t42 R w fun t43 w =>
 F0 52 t3 1 R w fun t44 w =>
 L0 46 t44 R w fun t45 w =>
 opV Pg (Instr.build 52 #[(0,t43),(1,t45)]) (panK R) w fun t46 w =>
 C0 70 #[t41,t46] R w fun t47 w =>
 C0 37 #[t0,t47,(.int .i64 5)] R w fun t48 w =>
 n54c1 t0 t3 t6 R w
def n54c3 (t0 t3 t6:Value) (R:RT) (w:World):Prop :=
 L0 52 t3 R w fun t36 w =>
 opV Pg (Instr.alloc 52 true (.tuple #[])) (panK R) w fun t7 w =>
 opU Pg (Instr.storeAt 52 t7 t36) (panK R) w fun w =>
 F0 121 t6 0 R w fun t37 w =>
 L0 118 t37 R w fun t38 w =>
 callV Pg t38 #[t7] (panK R) w fun t39 w =>
 n54c2 t0 t3 t6 t7 R w
def n54c4 (t27 t29:Value) (C4:World→Prop) (K3:KW) (R:RT) (w:World):Prop :=
 qV Pg C4 (Instr.lookup 123 t27 t29 true) fun t30 =>
 qV Pg C4 (Instr.extract t30 0) fun t31 =>
 qV Pg C4 (Instr.extract t30 1) fun t32 =>
 opV Pg (Instr.alloc 121 true (.tuple #[])) (panK R) w fun t6 w =>
 C4 w∧(
 opU Pg (Instr.storeAt 121 t6 t31) (panK R) w fun w =>
 C4 w∧(
 K3 t32 t6 w))
def n54c5 (t6 t27 t29:Value) (C5:World→Prop) (K3:KW) (R:RT) (w:World):Prop :=
 qV Pg C5 (Instr.lookup 123 t27 t29 true) fun t30 =>
 qV Pg C5 (Instr.extract t30 0) fun t31 =>
 qV Pg C5 (Instr.extract t30 1) fun t32 =>
 opU Pg (Instr.storeAt 121 t6 t31) (panK R) w fun w =>
 C5 w∧(
 K3 t32 t6 w)
def n54c6 (t0 t3:Value) (C2:World→Prop) (R:RT) (w:World):Prop :=
 qV Pg C2 (Instr.fieldAt 52 t3 1) fun t28 =>
 qV Pg C2 (Instr.loadAt 46 t28) fun t29 =>
 joinK (fun (t5:Value) (t6:Value) (w:World) =>
 C0 37 #[t0,t5,(.int .i64 4)] R w fun t35 w =>
 n54c3 t0 t3 t6 R w) fun K3 =>
 (
 C0 69 #[] R w fun t27 w =>
 narrowK C2 w fun C4 w =>
 n54c4 t27 t29 C4 K3 R w)∧(
 opV Pg (Instr.alloc 121 true (.tuple #[])) (panK R) w fun t6 w =>
 C2 w∧(
 C0 69 #[] R w fun t27 w =>
 narrowK C2 w fun C5 w =>
 n54c5 t6 t27 t29 C5 K3 R w))
def n54c7 (t0 t3 t19:Value) (C1:World→Prop) (R:RT) (w:World):Prop :=
 qV Pg C1 (Instr.extract t19 0) fun t20 =>
 qV Pg C1 (Instr.extract t19 1) fun t21 =>
 opV Pg (Op.unary .not t21) (panK R) w fun t24 w =>
 C0 37 #[t0,t24,(.int .i64 2)] R w fun t25 w =>
 drawK w fun C2 w =>
 n54c6 t0 t3 C2 R w
def n54c8 (t0 t3:Value) (C1:World→Prop) (R:RT) (w:World):Prop :=
 qV Pg C1 (Instr.fieldAt 52 t3 0) fun t17 =>
 qV Pg C1 (Instr.loadAt 9 t17) fun t18 =>
 C0 68 #[t0] R w fun t15 w =>
 C1 w∧(
 qV Pg C1 (Instr.build 45 #[(1,t15)]) fun t16 =>
 C0 67 #[t16,t18] R w fun t19 w =>
 C1 w∧(
 n54c7 t0 t3 t19 C1 R w))
def n54 (t0 t1:Value) (R:RT) (w:World):Prop :=
 opV Pg (Instr.box 52 t1) (panK R) w fun t3 w =>
 F0 52 t3 0 R w fun t9 w =>
 L0 9 t9 R w fun t10 w =>
 C0 38 #[t10] R w fun t11 w =>
 C0 37 #[t0,t11,(.int .i64 1)] R w fun t12 w =>
 drawK w fun C1 w =>
 n54c8 t0 t3 C1 R w
theorem n54s {t0 t1:Value} {R:RT} {w:World} (h:n54 t0 t1 R w):Calls Pg 53 #[t0,t1] w R:=by
 refine calls_of_den (args:=[t0,t1]) Tryz.func53 rfl (Nat.le_of_ble_eq_true rfl) ?_
 unfold n54 at h
 refine zs<|zr ?_
 refine zv h fun t3 w h=>?_
 refine zn<|zk<|zs<|zr<|zm ?_
 refine zv h fun t9 w h=>?_
 refine zv h fun t10 w h=>?_
 refine zc h c38 fun t11 w h=>?_
 refine zc h c37 fun t12 w h=>?_
 refine zn<|zk<|zs ?_
 obtain ⟨C1,hC,h⟩:=h
 refine sim_draw [4,5,13,14,15,16,17,18,19,20,21] (by kernel_rfl) (by kernel_rfl) C1 ?_
 refine zw 0 hC ?_
 refine ze 3 hC h fun t17 h=>?_
 refine ze 4 hC h fun t18 h=>?_
 refine sim_dloud 1 rfl (by kernel_rfl) (fun _ _=>rfl) ?_
 refine sim_call h c68 rfl (fun _ _ h _ _=>⟨rfl,h⟩) ?_;intro t15 w h
 refine zn ?_
 obtain ⟨hC,h⟩:=h
 refine ⟨hC,?_⟩
 obtain ⟨t16,hv,h⟩:=h
 refine sim_dsilent 2 hC rfl (by kernel_rfl) (by kernel_rfl) (fun _ _=>rfl) rfl (Sw.qV_build rfl hv) ?_
 refine sim_dloud 5 rfl (by kernel_rfl) (fun _ _=>rfl) ?_
 refine sim_call h c67 rfl (fun _ _ h _ _=>⟨rfl,h⟩) ?_;intro t19 w h
 refine zn ?_
 obtain ⟨hC,h⟩:=h
 refine ⟨hC,?_⟩
 refine zw 6 hC ?_
 refine ze 7 hC h fun t20 h=>?_
 refine ze 8 hC h fun t21 h=>?_
 refine zw 9 hC ?_
 refine zw 10 hC ?_
 refine sim_dend (by kernel_rfl) ?_
 refine zk<|zs<|zr<|zm<|zm ?_
 refine zv h fun t24 w h=>?_
 refine zc h c37 fun t25 w h=>?_
 refine zn<|zk<|zs ?_
 obtain ⟨C2,hC,h⟩:=h
 refine sim_draw [5,6,26,27,28,29,30,31,32] (by kernel_rfl) (by kernel_rfl) C2 ?_
 refine ze 1 hC h fun t28 h=>?_
 refine ze 2 hC h fun t29 h=>?_
 refine joinK_elim h (fun K3 hK h=>?_)
 refine sim_dmeet [5,6,26,27,30,31,32] (fun ρ w=>K3 (ρ 5) (ρ 6) w) (fun T hT=>?_) (fun σ w h=>?_)
 · obtain ⟨h0,h1⟩:=h
   refine sim_dloud2 0 7 rfl rfl (by kernel_rfl) (fun _ _=>rfl) (fun _ _=>rfl) ?_ ?_
   · have h:=h0
     refine sim_call h c69 rfl (fun _ _ h _ _=>⟨rfl,h⟩) ?_;intro t27 w h
     refine zn ?_
     obtain ⟨C4,hs,hC,h⟩:=h
     refine ⟨C4,hs,hC,?_⟩
     refine ze 3 hC h fun t30 h=>?_
     refine zw 4 hC ?_
     refine ze 5 hC h fun t31 h=>?_
     refine ze 6 hC h fun t32 h=>?_
     refine sim_dloud 7 rfl (by kernel_rfl) (fun _ _=>rfl) ?_
     refine sim_val h rfl rfl (fun _ _ h _ _=>⟨rfl,h⟩) ?_;intro t6 w h
     refine zn ?_
     obtain ⟨hC,h⟩:=h
     refine ⟨hC,?_⟩
     refine sim_dloud 8 rfl (by kernel_rfl) (fun _ _=>rfl) ?_
     refine sim_unit h rfl rfl (fun _ _ h _ _=>⟨rfl,h⟩) ?_;intro w h
     refine zn ?_
     obtain ⟨hC,h⟩:=h
     refine ⟨hC,?_⟩
     refine zw 9 hC ?_
     refine sim_dend (by kernel_rfl) ?_
     exact zt hT h
   · have h:=h1
     refine sim_val h rfl rfl (fun _ _ h _ _=>⟨rfl,h⟩) ?_;intro t6 w h
     refine zn ?_
     obtain ⟨hC,h⟩:=h
     refine ⟨_,fun _ h=>h,hC,?_⟩
     refine sim_dnarrow 0 rfl (by kernel_rfl) (fun _ _=>rfl) ?_
     refine sim_call h c69 rfl (fun _ _ h _ _=>⟨rfl,h⟩) ?_;intro t27 w h
     refine zn ?_
     obtain ⟨C5,hs,hC,h⟩:=h
     refine ⟨C5,hs,hC,?_⟩
     refine ze 3 hC h fun t30 h=>?_
     refine zw 4 hC ?_
     refine ze 5 hC h fun t31 h=>?_
     refine ze 6 hC h fun t32 h=>?_
     refine sim_dloud 8 rfl (by kernel_rfl) (fun _ _=>rfl) ?_
     refine sim_unit h rfl rfl (fun _ _ h _ _=>⟨rfl,h⟩) ?_;intro w h
     refine zn ?_
     obtain ⟨hC,h⟩:=h
     refine ⟨hC,?_⟩
     refine zw 9 hC ?_
     refine sim_dend (by kernel_rfl) ?_
     exact zt hT h
 subst hK
 refine zk<|zs<|zr<|zm<|zm ?_
 refine zc h c37 fun t35 w h=>?_
 refine zn<|zk<|zs<|zr ?_
 refine zv h fun t36 w h=>?_
 refine zv h fun t7 w h=>?_
 refine zu h fun w h=>?_
 refine zn<|zk<|zs<|zr ?_
 refine zv h fun t37 w h=>?_
 refine zv h fun t38 w h=>?_
 refine sim_callV h rfl rfl (fun _ _ h=>⟨rfl,h⟩) ?_;intro t39 w h
 refine zn<|zk<|zs<|zr<|zm ?_
 refine zv h fun t41 w h=>?_
 refine zv h fun t42 w h=>?_
 refine zv h fun t43 w h=>?_
 refine zv h fun t44 w h=>?_
 refine zv h fun t45 w h=>?_
 refine sim_build h rfl (fun _ _ h=>⟨rfl,h⟩) ?_;intro t46 w h
 refine zc h c70 fun t47 w h=>?_
 refine zc h c37 fun t48 w h=>?_
 refine zn<|zk<|zr ?_
 refine zv h fun t49 w h=>?_
 refine zv h fun t50 w h=>?_
 refine zm ?_
 refine zv h fun t52 w h=>?_
 refine sim_callV h rfl rfl (fun _ _ h=>⟨rfl,h⟩) ?_;intro t53 w h
 refine zn ?_
 refine body_normal ?_
 exact body_ret0 rfl h
end Go.Proofs.YtiajhbbmgglmlaaGreat
namespace Go.Proofs.YtiajhbbmgglmlaaGreat
open Sw
def n10c1 (t1 t7 t34 t42 t54:Value) (C3:World→Prop) (K2:KV) (R:RT) (w:World):Prop :=
 pickK t42 (.bool true) t54 fun t55 =>
 joinK (fun (t62:Value) (w:World) =>
 pickK t55 (.bool true) t62 fun t63 =>
 condP t63 (
 R (.returned (.tuple #[(.int .i64 0),(.int .i64 0),(.int .i64 2)])) w) (
 K2 t7 w)) fun K5 =>
 guardP t55 false (
 qV Pg C3 (Instr.indexAt 127 t1 t34) fun t59 =>
 qV Pg C3 (Instr.fieldAt 129 t59 2) fun t60 =>
 qV Pg C3 (Instr.loadAt 3 t60) fun t61 =>
 qV Pg C3 (binS .geq 3 true t61 (.int .i64 34359738368)) fun t62 =>
 K5 t62 w) (
 K5 undef w)
def n10c2 (t1 t7 t34:Value) (C3:World→Prop) (K2:KV) (R:RT) (w:World):Prop :=
 qV Pg C3 (Instr.indexAt 127 t1 t34) fun t39 =>
 qV Pg C3 (Instr.fieldAt 129 t39 1) fun t40 =>
 qV Pg C3 (Instr.loadAt 3 t40) fun t41 =>
 qV Pg C3 (binS .lss 3 true t41 (.int .i64 0)) fun t42 =>
 joinK (fun (t54:Value) (w:World) =>
 n10c1 t1 t7 t34 t42 t54 C3 K2 R w) fun K4 =>
 guardP t42 false (
 qV Pg C3 (Instr.indexAt 127 t1 t34) fun t46 =>
 qV Pg C3 (Instr.fieldAt 129 t46 1) fun t47 =>
 qV Pg C3 (Instr.loadAt 3 t47) fun t48 =>
 qV Pg C3 (Instr.indexAt 127 t1 t34) fun t51 =>
 qV Pg C3 (Instr.fieldAt 129 t51 2) fun t52 =>
 qV Pg C3 (Instr.loadAt 3 t52) fun t53 =>
 qV Pg C3 (binS .gtr 3 false t48 t53) fun t54 =>
 K4 t54 w) (
 K4 undef w)
def n10c3 (t2 t13 t14 t16:Value) (next7:KW) (R:RT) (w:World):Prop :=
 F0 49 t2 1 R w fun t103 w =>
 L0 47 t103 R w fun t104 w =>
 X0 47 t104 t14 R w fun t106 w =>
 F0 78 t106 1 R w fun t107 w =>
 L0 3 t107 R w fun t108 w =>
 B0 .mul 3 false t108 t16 R w fun t110 w =>
 B0 .add 3 false t13 t110 R w fun t111 w =>
 B0 .add 3 true t14 (.int .i64 1) R w fun t81 w =>
 next7 t111 t81 w
def n10c4 (t1 t2 t12 t13 t14 t90:Value) (next7:KW) (R:RT) (w:World):Prop :=
 X0 127 t1 t90 R w fun t91 w =>
 L0 129 t91 R w fun t92 w =>
 opV Pg (Instr.alloc 129 true (.tuple #[])) (panK R) w fun t15 w =>
 opU Pg (Instr.storeAt 129 t15 t92) (panK R) w fun w =>
 F0 129 t15 1 R w fun t93 w =>
 L0 3 t93 R w fun t94 w =>
 B0 .shr 3 false t12 t14 R w fun t97 w =>
 B0 .rem 3 true t97 (.int .i64 2) R w fun t98 w =>
 B0 .eql 3 true t98 (.int .i64 1) R w fun t99 w =>
 joinK (fun (t16:Value) (w:World) =>
 n10c3 t2 t13 t14 t16 next7 R w) fun K8 =>
 condP t99 (
 F0 129 t15 2 R w fun t100 w =>
 L0 3 t100 R w fun t101 w =>
 K8 t101 w) (
 K8 t94 w)
def n10c5 (t10 t11 t12 t13 t121 t125:Value) (next6:Value→Value→Value→World→Prop) (R:RT) (w:World):Prop :=
 pickK t121 (.bool true) t125 fun t126 =>
 joinK (fun (t11:Value) (w:World) =>
 B0 .add 3 true t12 (.int .i64 1) R w fun t72 w =>
 next6 t10 t11 t72 w) fun K12 =>
 condP t126 (
 K12 t13 w) (
 K12 t11 w)
def n10c6 (t10 t11 t12 t13:Value) (next6:Value→Value→Value→World→Prop) (R:RT) (w:World):Prop :=
 B0 .eql 3 true t12 (.int .i64 0) R w fun t121 w =>
 joinK (fun (t125:Value) (w:World) =>
 n10c5 t10 t11 t12 t13 t121 t125 next6 R w) fun K11 =>
 guardP t121 false (
 B0 .gtr 3 false t13 t11 R w fun t125 w =>
 K11 t125 w) (
 K11 undef w)
def n10c7 (t10 t11 t12 t13:Value) (next6:Value→Value→Value→World→Prop) (R:RT) (w:World):Prop :=
 B0 .eql 3 true t12 (.int .i64 0) R w fun t113 w =>
 joinK (fun (t117:Value) (w:World) =>
 pickK t113 (.bool true) t117 fun t118 =>
 joinK (fun (t10:Value) (w:World) =>
 n10c6 t10 t11 t12 t13 next6 R w) fun K10 =>
 condP t118 (
 K10 t13 w) (
 K10 t10 w)) fun K9 =>
 guardP t113 false (
 B0 .lss 3 false t13 t10 R w fun t117 w =>
 K9 t117 w) (
 K9 undef w)
def n10c8 (t1 t2 t12 t13 t14:Value) (next7:KW) (R:RT) (w:World):Prop :=
 F0 49 t2 1 R w fun t84 w =>
 L0 47 t84 R w fun t85 w =>
 X0 47 t85 t14 R w fun t87 w =>
 F0 78 t87 0 R w fun t88 w =>
 L0 9 t88 R w fun t89 w =>
 C0 110 #[t1,t89] R w fun t90 w =>
 n10c4 t1 t2 t12 t13 t14 t90 next7 R w
def n10c9 (t1 t2 t10 t11 t12 t13 t14:Value) (next6:Value→Value→Value→World→Prop) (next7:KW) (R:RT) (w:World):Prop :=
 F0 49 t2 1 R w fun t76 w =>
 L0 47 t76 R w fun t77 w =>
 opV Pg (Builtin.len_ #[47] 3 #[t77]) (panK R) w fun t78 w =>
 B0 .lss 3 false t14 t78 R w fun t79 w =>
 condP t79 (
 n10c8 t1 t2 t12 t13 t14 next7 R w) (
 n10c7 t10 t11 t12 t13 next6 R w)
def n10c10 (t1 t2 t10 t11 t12:Value) (next6:Value→Value→Value→World→Prop) (R:RT) (w:World):Prop :=
 F0 49 t2 0 R w fun t73 w =>
 L0 3 t73 R w fun t74 w =>
 loop2 (fun t13 t14 w next7 =>
 n10c9 t1 t2 t10 t11 t12 t13 t14 next6 next7 R w) t74 (.int .i64 0) w
def n10c11 (t1 t2 t10 t11 t12:Value) (next6:Value→Value→Value→World→Prop) (R:RT) (w:World):Prop :=
 F0 49 t2 1 R w fun t66 w =>
 L0 47 t66 R w fun t67 w =>
 opV Pg (Builtin.len_ #[47] 3 #[t67]) (panK R) w fun t68 w =>
 B0 .shl 3 true (.int .i64 1) t68 R w fun t69 w =>
 B0 .lss 3 false t12 t69 R w fun t70 w =>
 condP t70 (
 n10c10 t1 t2 t10 t11 t12 next6 R w) (
 R (.returned (.tuple #[t10,t11,(.int .i64 0)])) w)
def n10c12 (t1 t2 t7:Value) (R:RT) (w:World):Prop :=
 condP t7 (
 R (.returned (.tuple #[(.int .i64 0),(.int .i64 0),(.int .i64 9)])) w) (
 loop3 (fun t10 t11 t12 w next6 =>
 n10c11 t1 t2 t10 t11 t12 next6 R w) (.int .i64 0) (.int .i64 0) (.int .i64 0) w)
def n10c13 (t1 t2 t7 t8:Value) (next1:KW) (R:RT) (w:World):Prop :=
 joinK (fun (t7:Value) (w:World) =>
 B0 .add 3 true t8 (.int .i64 1) R w fun t26 w =>
 next1 t7 t26 w) fun K2 =>
 F0 49 t2 1 R w fun t28 w =>
 L0 47 t28 R w fun t29 w =>
 X0 47 t29 t8 R w fun t31 w =>
 F0 78 t31 0 R w fun t32 w =>
 L0 9 t32 R w fun t33 w =>
 C0 110 #[t1,t33] R w fun t34 w =>
 B0 .lss 3 true t34 (.int .i64 0) R w fun t36 w =>
 condP t36 (
 K2 (.bool true) w) (
 drawK w fun C3 w =>
 n10c2 t1 t7 t34 C3 K2 R w)
def n10c14 (t1 t2 t7 t8:Value) (next1:KW) (R:RT) (w:World):Prop :=
 F0 49 t2 1 R w fun t21 w =>
 L0 47 t21 R w fun t22 w =>
 opV Pg (Builtin.len_ #[47] 3 #[t22]) (panK R) w fun t23 w =>
 B0 .lss 3 false t8 t23 R w fun t24 w =>
 condP t24 (
 n10c13 t1 t2 t7 t8 next1 R w) (
 n10c12 t1 t2 t7 R w)
def n10c15 (t1 t2 t18:Value) (R:RT) (w:World):Prop :=
 opV Pg (Op.unary .not t18) (panK R) w fun t19 w =>
 condP t19 (
 R (.returned (.tuple #[(.int .i64 0),(.int .i64 0),(.int .i64 2)])) w) (
 loop2 (fun t7 t8 w next1 =>
 n10c14 t1 t2 t7 t8 next1 R w) (.bool false) (.int .i64 0) w)
def n10 (t0 t1:Value) (R:RT) (w:World):Prop :=
 opV Pg (Instr.box 49 t0) (panK R) w fun t2 w =>
 L0 49 t2 R w fun t17 w =>
 C0 73 #[t17] R w fun t18 w =>
 n10c15 t1 t2 t18 R w
theorem n10s {t0 t1:Value} {R:RT} {w:World} (h:n10 t0 t1 R w):Calls Pg 74 #[t0,t1] w R:=by
 refine calls_of_den (args:=[t0,t1]) Tryz.func74 rfl (Nat.le_of_ble_eq_true rfl) ?_
 unfold n10 at h
 refine zs<|zr ?_
 refine zv h fun t2 w h=>?_
 refine zm<|zm<|zm<|zn<|zk<|zs<|zs<|zr ?_
 refine zv h fun t17 w h=>?_
 refine zc h c73 fun t18 w h=>?_
 refine zv h fun t19 w h=>?_
 refine zn<|zk ?_
 refine sim_cond h rfl (fun h=>?_) (fun h=>?_)
 · refine zs<|zr<|zm<|zm<|zm<|zn<|zk<|sim_ret<|sim_then_ret ?_
   exact body_ret3 rfl rfl rfl rfl h
 · refine sim_skip<|zk<|zs<|zr<|zm<|zn<|zk<|zs<|zs<|zr<|zm<|zn<|zk<|sim_block ?_
   obtain ⟨I,μ,h0,hr⟩:=h
   refine sim_loop [4,5,6,7,8,9,20,21,22,23,24,25,26,27,28,29,30,31,32,33,34,35,36,37,38,39,40,41,42,43,44,45,46,47,48,49,50,51,52,53,54,55,56,57,58,59,60,61,62,63] (by kernel_rfl) (fun ρ w=>I (ρ 7) (ρ 8) w) (fun ρ w=>μ (ρ 7) (ρ 8) w) h0 (fun σ w hI=>?_)
   have h:=hr _ _ _ hI
   clear hr h0 hI
   refine zs<|zs<|zr<|zm ?_
   refine zv h fun t21 w h=>?_
   refine zv h fun t22 w h=>?_
   refine zx h fun t23 w h=>?_
   refine zb h fun t24 w h=>?_
   refine zn<|zk ?_
   refine sim_cond h rfl (fun h=>?_) (fun h=>?_)
   · refine sim_skip<|zk<|zs ?_
     refine joinK_elim h (fun K2 hK h=>?_)
     refine sim_joinQ [4,5,6,7,9,27,28,29,30,31,32,33,34,35,36,37,38,39,40,41,42,43,44,45,46,47,48,49,50,51,52,53,54,55,56,57,58,59,60,61,62,63] (fun ρ w=>K2 (ρ 7) w) (fun _ hkK2=>?_) (fun σ w h=>?_)
     · refine sim_block<|zs<|zr<|zm ?_
       refine zv h fun t28 w h=>?_
       refine zv h fun t29 w h=>?_
       refine zm ?_
       refine zv h fun t31 w h=>?_
       refine zv h fun t32 w h=>?_
       refine zv h fun t33 w h=>?_
       refine zc h c110 fun t34 w h=>?_
       refine zm<|zn<|zk<|zs<|zs<|zr<|zm ?_
       refine zb h fun t36 w h=>?_
       refine zn<|zk ?_
       refine sim_cond h rfl (fun h=>?_) (fun h=>?_)
       · refine zs<|zr<|zm<|zn<|zk<|sim_exit<|sim_then_exit<|sim_block_hit<|zk ?_
         exact zt hkK2 h
       · refine sim_skip<|zk<|zs ?_
         obtain ⟨C3,hC,h⟩:=h
         refine sim_draw [37,38,39,40,41,42,43,44,45,46,47,48,49,50,51,52,53,54,55,56,57,58,59,60,61,62,63] (by kernel_rfl) (by kernel_rfl) C3 ?_
         refine zw 0 hC ?_
         refine zw 1 hC ?_
         refine ze 2 hC h fun t39 h=>?_
         refine ze 3 hC h fun t40 h=>?_
         refine ze 4 hC h fun t41 h=>?_
         obtain ⟨t42,hv,h⟩:=h
         refine sim_dsilent 5 hC rfl (by kernel_rfl) (by kernel_rfl) (fun _ _=>rfl) rfl (Sw.qV_bin rfl rfl rfl hv) ?_
         refine zw 6 hC ?_
         refine joinK_elim h (fun K4 hK h=>?_)
         refine sim_djoin 9 [17,16,15,14,13,12,11,10,9,8,7,6,5,4,3,2,1,0] [44,45,46,47,48,49,50,51,52,53,54] (fun ρ w=>K4 (ρ 54) w) (fun _ hT=>?_) (fun σ w hC h=>?_)
         · rcases Sw.guardP_cases h with ⟨hb,h⟩ | ⟨hb,h⟩
           · refine sim_dsilent 7 hC rfl (by kernel_rfl) (by kernel_rfl) (fun _ _=>Sw.guardP_true hb) rfl (Sw.move_run rfl) ?_
             refine sim_dsilent 8 hC rfl (by kernel_rfl) (by kernel_rfl) (fun _ _=>Sw.guardP_true hb) rfl (Sw.move_run rfl) ?_
             obtain ⟨t46,hv,h⟩:=h
             refine sim_dsilent 9 hC rfl (by kernel_rfl) (by kernel_rfl) (fun _ _=>Sw.guardP_true hb) rfl (Sw.qV_run rfl hv) ?_
             obtain ⟨t47,hv,h⟩:=h
             refine sim_dsilent 10 hC rfl (by kernel_rfl) (by kernel_rfl) (fun _ _=>Sw.guardP_true hb) rfl (Sw.qV_run rfl hv) ?_
             obtain ⟨t48,hv,h⟩:=h
             refine sim_dsilent 11 hC rfl (by kernel_rfl) (by kernel_rfl) (fun _ _=>Sw.guardP_true hb) rfl (Sw.qV_run rfl hv) ?_
             refine sim_dsilent 12 hC rfl (by kernel_rfl) (by kernel_rfl) (fun _ _=>Sw.guardP_true hb) rfl (Sw.move_run rfl) ?_
             refine sim_dsilent 13 hC rfl (by kernel_rfl) (by kernel_rfl) (fun _ _=>Sw.guardP_true hb) rfl (Sw.move_run rfl) ?_
             obtain ⟨t51,hv,h⟩:=h
             refine sim_dsilent 14 hC rfl (by kernel_rfl) (by kernel_rfl) (fun _ _=>Sw.guardP_true hb) rfl (Sw.qV_run rfl hv) ?_
             obtain ⟨t52,hv,h⟩:=h
             refine sim_dsilent 15 hC rfl (by kernel_rfl) (by kernel_rfl) (fun _ _=>Sw.guardP_true hb) rfl (Sw.qV_run rfl hv) ?_
             obtain ⟨t53,hv,h⟩:=h
             refine sim_dsilent 16 hC rfl (by kernel_rfl) (by kernel_rfl) (fun _ _=>Sw.guardP_true hb) rfl (Sw.qV_run rfl hv) ?_
             obtain ⟨t54,hv,h⟩:=h
             refine sim_dsilent 17 hC rfl (by kernel_rfl) (by kernel_rfl) (fun _ _=>Sw.guardP_true hb) rfl (Sw.qV_bin rfl rfl rfl hv) ?_
             exact hT _ _ (by repeat (first | exact Sw.Fr.refl _ _ | refine Sw.Fr.put rfl ?_ | refine Sw.Fr.put_none ?_ | refine Sw.Fr.mix rfl ?_ | refine Sw.Fr.skipAll rfl ?_)) hC h
           · refine sim_dskip 7 hC rfl (by kernel_rfl) (by kernel_rfl) (fun _ _=>Sw.guardP_false hb) ?_
             refine sim_dskip 8 hC rfl (by kernel_rfl) (by kernel_rfl) (fun _ _=>Sw.guardP_false hb) ?_
             refine sim_dskip 9 hC rfl (by kernel_rfl) (by kernel_rfl) (fun _ _=>Sw.guardP_false hb) ?_
             refine sim_dskip 10 hC rfl (by kernel_rfl) (by kernel_rfl) (fun _ _=>Sw.guardP_false hb) ?_
             refine sim_dskip 11 hC rfl (by kernel_rfl) (by kernel_rfl) (fun _ _=>Sw.guardP_false hb) ?_
             refine sim_dskip 12 hC rfl (by kernel_rfl) (by kernel_rfl) (fun _ _=>Sw.guardP_false hb) ?_
             refine sim_dskip 13 hC rfl (by kernel_rfl) (by kernel_rfl) (fun _ _=>Sw.guardP_false hb) ?_
             refine sim_dskip 14 hC rfl (by kernel_rfl) (by kernel_rfl) (fun _ _=>Sw.guardP_false hb) ?_
             refine sim_dskip 15 hC rfl (by kernel_rfl) (by kernel_rfl) (fun _ _=>Sw.guardP_false hb) ?_
             refine sim_dskip 16 hC rfl (by kernel_rfl) (by kernel_rfl) (fun _ _=>Sw.guardP_false hb) ?_
             refine sim_dskip 17 hC rfl (by kernel_rfl) (by kernel_rfl) (fun _ _=>Sw.guardP_false hb) ?_
             exact hT _ _ (by repeat (first | exact Sw.Fr.refl _ _ | refine Sw.Fr.put rfl ?_ | refine Sw.Fr.put_none ?_ | refine Sw.Fr.mix rfl ?_ | refine Sw.Fr.skipAll rfl ?_)) hC h
         subst hK
         obtain ⟨b55,hb55,h⟩:=Sw.pickK_elim h
         refine sim_dsilent 18 hC rfl (by kernel_rfl) (by kernel_rfl) (fun _ _=>rfl) rfl (Sw.pick_run hb55 rfl rfl) ?_
         refine zw 19 hC ?_
         refine joinK_elim h (fun K5 hK h=>?_)
         refine sim_djoin 1 [25,24,23,22,21,20,19,18,17,16,15,14,13,12,11,10,9,8,7,6,5,4,3,2,1,0] [57,58,59,60,61,62] (fun ρ w=>K5 (ρ 62) w) (fun _ hT=>?_) (fun σ w hC h=>?_)
         · rcases Sw.guardP_cases h with ⟨hb,h⟩ | ⟨hb,h⟩
           · refine sim_dsilent 20 hC rfl (by kernel_rfl) (by kernel_rfl) (fun _ _=>Sw.guardP_true hb) rfl (Sw.move_run rfl) ?_
             refine sim_dsilent 21 hC rfl (by kernel_rfl) (by kernel_rfl) (fun _ _=>Sw.guardP_true hb) rfl (Sw.move_run rfl) ?_
             obtain ⟨t59,hv,h⟩:=h
             refine sim_dsilent 22 hC rfl (by kernel_rfl) (by kernel_rfl) (fun _ _=>Sw.guardP_true hb) rfl (Sw.qV_run rfl hv) ?_
             obtain ⟨t60,hv,h⟩:=h
             refine sim_dsilent 23 hC rfl (by kernel_rfl) (by kernel_rfl) (fun _ _=>Sw.guardP_true hb) rfl (Sw.qV_run rfl hv) ?_
             obtain ⟨t61,hv,h⟩:=h
             refine sim_dsilent 24 hC rfl (by kernel_rfl) (by kernel_rfl) (fun _ _=>Sw.guardP_true hb) rfl (Sw.qV_run rfl hv) ?_
             obtain ⟨t62,hv,h⟩:=h
             refine sim_dsilent 25 hC rfl (by kernel_rfl) (by kernel_rfl) (fun _ _=>Sw.guardP_true hb) rfl (Sw.qV_bin rfl rfl rfl hv) ?_
             exact hT _ _ (by repeat (first | exact Sw.Fr.refl _ _ | refine Sw.Fr.put rfl ?_ | refine Sw.Fr.put_none ?_ | refine Sw.Fr.mix rfl ?_ | refine Sw.Fr.skipAll rfl ?_)) hC h
           · refine sim_dskip 20 hC rfl (by kernel_rfl) (by kernel_rfl) (fun _ _=>Sw.guardP_false hb) ?_
             refine sim_dskip 21 hC rfl (by kernel_rfl) (by kernel_rfl) (fun _ _=>Sw.guardP_false hb) ?_
             refine sim_dskip 22 hC rfl (by kernel_rfl) (by kernel_rfl) (fun _ _=>Sw.guardP_false hb) ?_
             refine sim_dskip 23 hC rfl (by kernel_rfl) (by kernel_rfl) (fun _ _=>Sw.guardP_false hb) ?_
             refine sim_dskip 24 hC rfl (by kernel_rfl) (by kernel_rfl) (fun _ _=>Sw.guardP_false hb) ?_
             refine sim_dskip 25 hC rfl (by kernel_rfl) (by kernel_rfl) (fun _ _=>Sw.guardP_false hb) ?_
             exact hT _ _ (by repeat (first | exact Sw.Fr.refl _ _ | refine Sw.Fr.put rfl ?_ | refine Sw.Fr.put_none ?_ | refine Sw.Fr.mix rfl ?_ | refine Sw.Fr.skipAll rfl ?_)) hC h
         subst hK
         obtain ⟨b63,hb63,h⟩:=Sw.pickK_elim h
         refine sim_dsilent 26 hC rfl (by kernel_rfl) (by kernel_rfl) (fun _ _=>rfl) rfl (Sw.pick_run hb63 rfl rfl) ?_
         refine sim_dend (by kernel_rfl) ?_
         refine zk ?_
         refine sim_cond h rfl (fun h=>?_) (fun h=>?_)
         · refine zs<|zr<|zm<|zm<|zm<|zn<|zk<|sim_ret<|sim_block_ret<|sim_then_ret<|sim_then_ret<|sim_then_ret<|sim_block_ret<|sim_then_ret ?_
           exact body_ret3 rfl rfl rfl rfl h
         · refine sim_skip<|sim_block_normal<|zk ?_
           exact zt hkK2 h
     subst hK
     refine zk<|zr<|zm ?_
     refine zb h fun t26 w h=>?_
     refine zm<|zn<|zk ?_
     exact ⟨rfl,h⟩
   · refine sim_exit<|sim_then_exit<|sim_then_exit<|sim_block_hit<|zk<|zs<|zs<|zr<|zm<|zn<|zk ?_
     refine sim_cond h rfl (fun h=>?_) (fun h=>?_)
     · refine zs<|zr<|zm<|zm<|zm<|zn<|zk<|sim_ret<|sim_then_ret ?_
       exact body_ret3 rfl rfl rfl rfl h
     · refine sim_skip<|zk<|zs<|zr<|zm<|zm<|zn<|zk<|zs<|zs<|zr<|zm<|zn<|zk<|sim_block ?_
       obtain ⟨I,μ,h0,hr⟩:=h
       refine sim_loop [10,11,12,13,14,15,16,65,66,67,68,69,70,71,72,73,74,75,76,77,78,79,80,81,82,83,84,85,86,87,88,89,90,91,92,93,94,95,96,97,98,99,100,101,102,103,104,105,106,107,108,109,110,111,112,113,114,115,116,117,118,119,120,121,122,123,124,125,126,127] (by kernel_rfl) (fun ρ w=>I (ρ 10) (ρ 11) (ρ 12) w) (fun ρ w=>μ (ρ 10) (ρ 11) (ρ 12) w) h0 (fun σ w hI=>?_)
       have h:=hr _ _ _ _ hI
       clear hr h0 hI
       refine zs<|zs<|zr<|zm ?_
       refine zv h fun t66 w h=>?_
       refine zv h fun t67 w h=>?_
       refine zx h fun t68 w h=>?_
       refine zb h fun t69 w h=>?_
       refine zb h fun t70 w h=>?_
       refine zn<|zk ?_
       refine sim_cond h rfl (fun h=>?_) (fun h=>?_)
       · refine sim_skip<|zk<|zs<|sim_block<|zs<|zr ?_
         refine zv h fun t73 w h=>?_
         refine zv h fun t74 w h=>?_
         refine zm<|zn<|zk<|zs<|zs<|zr<|zm<|zn<|zk<|sim_block ?_
         obtain ⟨I,μ,h0,hr⟩:=h
         refine sim_loop [13,14,15,16,75,76,77,78,79,80,81,82,83,84,85,86,87,88,89,90,91,92,93,94,95,96,97,98,99,100,101,102,103,104,105,106,107,108,109,110,111] (by kernel_rfl) (fun ρ w=>I (ρ 13) (ρ 14) w) (fun ρ w=>μ (ρ 13) (ρ 14) w) h0 (fun σ w hI=>?_)
         have h:=hr _ _ _ hI
         clear hr h0 hI
         refine zs<|zs<|zr<|zm ?_
         refine zv h fun t76 w h=>?_
         refine zv h fun t77 w h=>?_
         refine zx h fun t78 w h=>?_
         refine zb h fun t79 w h=>?_
         refine zn<|zk ?_
         refine sim_cond h rfl (fun h=>?_) (fun h=>?_)
         · refine sim_skip<|zk<|zs<|sim_block<|zs<|zr<|zm<|zm ?_
           refine zv h fun t84 w h=>?_
           refine zv h fun t85 w h=>?_
           refine zm ?_
           refine zv h fun t87 w h=>?_
           refine zv h fun t88 w h=>?_
           refine zv h fun t89 w h=>?_
           refine zc h c110 fun t90 w h=>?_
           refine zv h fun t91 w h=>?_
           refine zv h fun t92 w h=>?_
           refine zv h fun t15 w h=>?_
           refine zu h fun w h=>?_
           refine zn<|zk<|zs<|zr ?_
           refine zv h fun t93 w h=>?_
           refine zv h fun t94 w h=>?_
           refine zm<|zn<|zk<|zs<|zs<|zr<|zm<|zm ?_
           refine zb h fun t97 w h=>?_
           refine zb h fun t98 w h=>?_
           refine zb h fun t99 w h=>?_
           refine zn<|zk ?_
           refine joinK_elim h (fun K8 hK h=>?_)
           refine sim_joinQ [16,100,101] (fun ρ w=>K8 (ρ 16) w) (fun _ hkK8=>?_) (fun σ w h=>?_)
           · refine sim_cond h rfl (fun h=>?_) (fun h=>?_)
             · refine zr ?_
               refine zv h fun t100 w h=>?_
               refine zv h fun t101 w h=>?_
               refine zm<|zn<|zk ?_
               exact zt hkK8 h
             · refine sim_skip<|zk ?_
               exact zt hkK8 h
           subst hK
           refine zk<|zr<|zm ?_
           refine zv h fun t103 w h=>?_
           refine zv h fun t104 w h=>?_
           refine zm ?_
           refine zv h fun t106 w h=>?_
           refine zv h fun t107 w h=>?_
           refine zv h fun t108 w h=>?_
           refine zm ?_
           refine zb h fun t110 w h=>?_
           refine zb h fun t111 w h=>?_
           refine zm<|zn<|sim_block_normal<|zk<|zr<|zm ?_
           refine zb h fun t81 w h=>?_
           refine zm<|zn<|zk ?_
           exact ⟨rfl,h⟩
         · refine sim_exit<|sim_then_exit<|sim_then_exit<|sim_block_hit<|zk<|zs<|zs<|sim_regionG ?_
           refine sim_seg 3 rfl ?_
           refine zm ?_
           refine zb h fun t113 w h=>?_
           refine zm<|zn ?_
           refine joinK_elim h (fun K9 hK h=>?_)
           refine sim_groupJ 3 2 false [115,116,117] (fun ρ w=>K9 (ρ 117) w) rfl rfl (fun T hT=>guardP_mono h (fun h=>?_) (fun h=>?_)) (fun σ w h=>?_)
           · refine zm<|zm ?_
             refine zb h fun t117 w h=>?_
             refine zn ?_
             exact zt hT h
           · exact zt hT h
           subst hK
           refine sim_seg 1 rfl ?_
           refine sim_pick h rfl rfl rfl ?_;intro t118 h
           refine zn<|sim_end<|zk ?_
           refine joinK_elim h (fun K10 hK h=>?_)
           refine sim_joinQ [10,119] (fun ρ w=>K10 (ρ 10) w) (fun _ hkK10=>?_) (fun σ w h=>?_)
           · refine sim_cond h rfl (fun h=>?_) (fun h=>?_)
             · refine zr<|zm<|zm<|zn<|zk ?_
               exact zt hkK10 h
             · refine sim_skip<|zk ?_
               exact zt hkK10 h
           subst hK
           refine zk<|zs<|sim_regionG ?_
           refine sim_seg 3 rfl ?_
           refine zm ?_
           refine zb h fun t121 w h=>?_
           refine zm<|zn ?_
           refine joinK_elim h (fun K11 hK h=>?_)
           refine sim_groupJ 3 2 false [123,124,125] (fun ρ w=>K11 (ρ 125) w) rfl rfl (fun T hT=>guardP_mono h (fun h=>?_) (fun h=>?_)) (fun σ w h=>?_)
           · refine zm<|zm ?_
             refine zb h fun t125 w h=>?_
             refine zn ?_
             exact zt hT h
           · exact zt hT h
           subst hK
           refine sim_seg 1 rfl ?_
           refine sim_pick h rfl rfl rfl ?_;intro t126 h
           refine zn<|sim_end<|zk ?_
           refine joinK_elim h (fun K12 hK h=>?_)
           refine sim_joinQ [11,127] (fun ρ w=>K12 (ρ 11) w) (fun _ hkK12=>?_) (fun σ w h=>?_)
           · refine sim_cond h rfl (fun h=>?_) (fun h=>?_)
             · refine zr<|zm<|zm<|zn<|zk ?_
               exact zt hkK12 h
             · refine sim_skip<|zk ?_
               exact zt hkK12 h
           subst hK
           refine sim_block_normal<|zk<|zr<|zm ?_
           refine zb h fun t72 w h=>?_
           refine zm<|zn<|zk ?_
           exact ⟨rfl,h⟩
       · refine sim_exit<|sim_then_exit<|sim_then_exit<|sim_block_hit<|zk<|zs<|zr<|zm<|zm<|zm<|zm<|zm<|zn<|zk<|sim_ret ?_
         exact body_ret3 rfl rfl rfl rfl h
def n120c1 (t0 t1 t8:Value) (next1:KV) (R:RT) (w:World):Prop :=
 X0 33 t0 t8 R w fun t14 w =>
 L0 4 t14 R w fun t15 w =>
 B0 .eql 4 false t1 t15 R w fun t16 w =>
 condP t16 (
 R (.returned t8) w) (
 B0 .add 3 true t8 (.int .i64 1) R w fun t18 w =>
 next1 t18 w)
def n120 (t0 t1:Value) (R:RT) (w:World):Prop :=
 opV Pg (Builtin.len_ #[33] 3 #[t0]) (panK R) w fun t7 w =>
 loop1 (fun t8 w next1 =>
 B0 .lss 3 false t8 t7 R w fun t9 w =>
 condP t9 (
 n120c1 t0 t1 t8 next1 R w) (
 R (.returned (.int .i64 (-1))) w)) (.int .i64 0) w
theorem n120s {t0 t1:Value} {R:RT} {w:World} (h:n120 t0 t1 R w):Calls Pg 75 #[t0,t1] w R:=by
 refine calls_of_den (args:=[t0,t1]) Tryz.func75 rfl (Nat.le_of_ble_eq_true rfl) ?_
 unfold n120 at h
 refine zs<|zr<|zm<|zn<|zk<|zs<|zs<|zr<|zm ?_
 refine zx h fun t7 w h=>?_
 refine zm<|zn<|zk<|sim_block ?_
 obtain ⟨I,μ,h0,hr⟩:=h
 refine sim_loop [4,5,8,9,10,11,12,13,14,15,16,17,18] (by kernel_rfl) (fun ρ w=>I (ρ 8) w) (fun ρ w=>μ (ρ 8) w) h0 (fun σ w hI=>?_)
 have h:=hr _ _ hI
 clear hr h0 hI
 refine zs<|zr ?_
 refine zb h fun t9 w h=>?_
 refine zn<|zk<|zs ?_
 refine sim_cond h rfl (fun h=>?_) (fun h=>?_)
 · refine sim_skip<|zk<|zs<|sim_block<|zs<|zr<|zm<|zm<|zn<|zk<|zs<|zr<|zm<|zm<|zm ?_
   refine zv h fun t14 w h=>?_
   refine zv h fun t15 w h=>?_
   refine zb h fun t16 w h=>?_
   refine zn<|zk ?_
   refine sim_cond h rfl (fun h=>?_) (fun h=>?_)
   · refine zs<|zr<|zm<|zm<|zn<|zk<|sim_ret<|sim_block_ret<|sim_then_ret<|sim_then_ret<|sim_block_ret<|sim_then_ret ?_
     exact body_ret1 rfl rfl h
   · refine sim_skip<|sim_block_normal<|zk<|zr ?_
     refine zb h fun t18 w h=>?_
     refine zm<|zn<|zk ?_
     exact ⟨rfl,h⟩
 · refine sim_exit<|sim_then_exit<|sim_then_exit<|sim_block_hit<|zk<|zs<|zr<|zm<|zn<|zk<|sim_ret ?_
   exact body_ret1 rfl rfl h
def n62c1 (t9:Value) (R:RT) (w:World):Prop :=
 opV Pg (Builtin.max_ #[3,3] 3 #[t9,(.int .i64 0)]) (panK R) w fun t11 w =>
 B0 .geq 3 true t9 (.int .i64 0) R w fun t13 w =>
 R (.returned (.tuple #[t11,t13])) w
def n62 (t0 t1:Value) (R:RT) (w:World):Prop :=
 C0 111 #[t0,t1] R w fun t9 w =>
 n62c1 t9 R w
theorem n62s {t0 t1:Value} {R:RT} {w:World} (h:n62 t0 t1 R w):Calls Pg 76 #[t0,t1] w R:=by
 refine calls_of_den (args:=[t0,t1]) Tryz.func76 rfl (Nat.le_of_ble_eq_true rfl) ?_
 unfold n62 at h
 refine zs<|zr<|zm<|zm<|zn<|zk<|zs<|zr<|zm<|zm ?_
 refine zc h c111 fun t9 w h=>?_
 refine zm<|zn<|zk<|zs<|zr<|zm ?_
 refine zx h fun t11 w h=>?_
 refine zm ?_
 refine zb h fun t13 w h=>?_
 refine zm<|zm<|zn<|zk<|sim_ret ?_
 exact body_ret2 rfl rfl rfl h
def n42 (t0 t1:Value) (R:RT) (w:World):Prop :=
 opV Pg (Instr.box 52 t0) (panK R) w fun t2 w =>
 F0 52 t2 0 R w fun t4 w =>
 L0 9 t4 R w fun t5 w =>
 L0 9 t1 R w fun t6 w =>
 B0 .eql 9 false t5 t6 R w fun t7 w =>
 R (.returned t7) w
theorem n42s {t0 t1:Value} {R:RT} {w:World} (h:n42 t0 t1 R w):Calls Pg 77 #[t0,t1] w R:=by
 refine calls_of_den (args:=[t0,t1]) Tryz.func77 rfl (Nat.le_of_ble_eq_true rfl) ?_
 unfold n42 at h
 refine zs<|zr ?_
 refine zv h fun t2 w h=>?_
 refine zm<|zn<|zk<|zs<|zr ?_
 refine zv h fun t4 w h=>?_
 refine zv h fun t5 w h=>?_
 refine zv h fun t6 w h=>?_
 refine zb h fun t7 w h=>?_
 refine zm<|zn<|zk<|sim_ret ?_
 exact body_ret1 rfl rfl h
def n64 (t0:Value) (R:RT) (w:World):Prop :=
 opN Pg (nilN t0) (panK R) w fun t6 w =>
 F0 52 t6 2 R w fun t7 w =>
 opU Pg (Instr.storeAt 3 t7 (.int .i64 0)) (panK R) w fun w =>
 opN Pg (nilN t0) (panK R) w fun t8 w =>
 F0 52 t8 3 R w fun t9 w =>
 opU Pg (Instr.storeAt 4 t9 (.bool false)) (panK R) w fun w =>
 opN Pg (nilN t0) (panK R) w fun t10 w =>
 F0 52 t10 5 R w fun t11 w =>
 opU Pg (Instr.storeAt 3 t11 (.int .i64 0)) (panK R) w fun w =>
 opN Pg (nilN t0) (panK R) w fun t12 w =>
 F0 52 t12 6 R w fun t13 w =>
 opU Pg (Instr.storeAt 3 t13 (.int .i64 0)) (panK R) w fun w =>
 R (.returned (.tuple #[])) w
theorem n64s {t0:Value} {R:RT} {w:World} (h:n64 t0 R w):Calls Pg 78 #[t0] w R:=by
 refine calls_of_den (args:=[t0]) Tryz.func78 rfl (Nat.le_of_ble_eq_true rfl) ?_
 unfold n64 at h
 refine zr<|zm<|zm<|zm<|zm ?_
 refine sim_next h rfl rfl (fun _ _ h=>⟨rfl,h⟩) ?_;intro t6 w h
 refine zv h fun t7 w h=>?_
 refine zu h fun w h=>?_
 refine sim_next h rfl rfl (fun _ _ h=>⟨rfl,h⟩) ?_;intro t8 w h
 refine zv h fun t9 w h=>?_
 refine zu h fun w h=>?_
 refine sim_next h rfl rfl (fun _ _ h=>⟨rfl,h⟩) ?_;intro t10 w h
 refine zv h fun t11 w h=>?_
 refine zu h fun w h=>?_
 refine sim_next h rfl rfl (fun _ _ h=>⟨rfl,h⟩) ?_;intro t12 w h
 refine zv h fun t13 w h=>?_
 refine zu h fun w h=>?_
 refine zn ?_
 refine body_normal ?_
 exact body_ret0 rfl h
def n75c1 (t0 t3:Value) (C1:World→Prop) (R:RT) (w:World):Prop :=
 qV Pg C1 (Instr.fieldAt 52 t3 2) fun t8 =>
 qV Pg C1 (Instr.loadAt 3 t8) fun t9 =>
 qV Pg C1 (binS .shl 3 true (.int .i64 1) t9) fun t10 =>
 qV Pg C1 (binS .sub 3 true t10 (.int .i64 1)) fun t11 =>
 qV Pg C1 (Instr.fieldAt 52 t3 5) fun t12 =>
 qV Pg C1 (Instr.loadAt 3 t12) fun t13 =>
 qV Pg C1 (Instr.fieldAt 52 t3 6) fun t14 =>
 qV Pg C1 (Instr.loadAt 3 t14) fun t15 =>
 opV Pg (Instr.buildSlice 85 2 #[(0,t13),(1,t15)]) (panK R) w fun t16 w =>
 C1 w∧(
 C0 81 #[t0,(.int .i64 0),t11,t16] R w fun t17 w =>
 C1 w∧(
 R (.returned (.tuple #[])) w))
def n75 (t0 t1:Value) (R:RT) (w:World):Prop :=
 opV Pg (Instr.box 52 t1) (panK R) w fun t3 w =>
 L0 52 t3 R w fun t5 w =>
 C0 80 #[t0,t5] R w fun t6 w =>
 drawK w fun C1 w =>
 n75c1 t0 t3 C1 R w
theorem n75s {t0 t1:Value} {R:RT} {w:World} (h:n75 t0 t1 R w):Calls Pg 79 #[t0,t1] w R:=by
 refine calls_of_den (args:=[t0,t1]) Tryz.func79 rfl (Nat.le_of_ble_eq_true rfl) ?_
 unfold n75 at h
 refine zs<|zr ?_
 refine zv h fun t3 w h=>?_
 refine zn<|zk<|zs<|zr<|zm ?_
 refine zv h fun t5 w h=>?_
 refine zc h c80 fun t6 w h=>?_
 refine zn<|zk ?_
 obtain ⟨C1,hC,h⟩:=h
 refine sim_draw [7,8,9,10,11,12,13,14,15,16,17] (by kernel_rfl) (by kernel_rfl) C1 ?_
 refine zw 0 hC ?_
 refine ze 1 hC h fun t8 h=>?_
 refine ze 2 hC h fun t9 h=>?_
 obtain ⟨t10,hv,h⟩:=h
 refine sim_dsilent 3 hC rfl (by kernel_rfl) (by kernel_rfl) (fun _ _=>rfl) rfl (Sw.qV_bin rfl rfl rfl hv) ?_
 obtain ⟨t11,hv,h⟩:=h
 refine sim_dsilent 4 hC rfl (by kernel_rfl) (by kernel_rfl) (fun _ _=>rfl) rfl (Sw.qV_bin rfl rfl rfl hv) ?_
 refine ze 5 hC h fun t12 h=>?_
 refine ze 6 hC h fun t13 h=>?_
 refine ze 7 hC h fun t14 h=>?_
 refine ze 8 hC h fun t15 h=>?_
 refine sim_dloud 9 rfl (by kernel_rfl) (fun _ _=>rfl) ?_
 refine sim_buildSlice h rfl (fun _ _ h _ _=>⟨rfl,h⟩) ?_;intro t16 w h
 refine zn ?_
 obtain ⟨hC,h⟩:=h
 refine ⟨hC,?_⟩
 refine sim_dloud 10 rfl (by kernel_rfl) (fun _ _=>rfl) ?_
 refine sim_call h c81 rfl (fun _ _ h _ _=>⟨rfl,h⟩) ?_;intro t17 w h
 refine zn ?_
 obtain ⟨hC,h⟩:=h
 refine ⟨hC,?_⟩
 refine sim_dend (by kernel_rfl) ?_
 refine body_normal ?_
 exact body_ret0 rfl h
def n51c1 (t0 t12 t17 t26:Value) (R:RT) (w:World):Prop :=
 joinK (fun (t27:Value) (w:World) =>
 pickK t12 t27 (.bool false) fun t28 =>
 C0 37 #[t0,t28,(.int .i64 6)] R w fun t29 w =>
 R (.returned (.tuple #[])) w) fun K6 =>
 guardP t12 true (
 pickK t17 (.bool true) t26 fun t27 =>
 K6 t27 w) (
 K6 undef w)
def n51c2 (t0 t3 t12 t17 t21:Value) (R:RT) (w:World):Prop :=
 joinK (fun (t25:Value) (w:World) =>
 joinK (fun (t26:Value) (w:World) =>
 n51c1 t0 t12 t17 t26 R w) fun K5 =>
 guardP t17 false (
 pickK t21 t25 (.bool false) fun t26 =>
 K5 t26 w) (
 K5 undef w)) fun K4 =>
 guardP t21 true (
 F0 52 t3 2 R w fun t22 w =>
 L0 3 t22 R w fun t23 w =>
 B0 .rem 3 true t23 (.int .i64 8) R w fun t24 w =>
 B0 .eql 3 true t24 (.int .i64 0) R w fun t25 w =>
 K4 t25 w) (
 K4 undef w)
def n51c3 (t0 t3 t12 t17:Value) (R:RT) (w:World):Prop :=
 joinK (fun (t21:Value) (w:World) =>
 n51c2 t0 t3 t12 t17 t21 R w) fun K3 =>
 guardP t17 false (
 F0 52 t3 2 R w fun t18 w =>
 L0 3 t18 R w fun t19 w =>
 B0 .gtr 3 true t19 (.int .i64 8) R w fun t20 w =>
 K3 t20 w) (
 K3 undef w)
def n51c4 (t0 t3 t7 t11:Value) (R:RT) (w:World):Prop :=
 pickK t7 t11 (.bool false) fun t12 =>
 joinK (fun (t17:Value) (w:World) =>
 n51c3 t0 t3 t12 t17 R w) fun K2 =>
 guardP t12 true (
 F0 52 t3 3 R w fun t14 w =>
 L0 4 t14 R w fun t15 w =>
 opV Pg (Op.unary .not t15) (panK R) w fun t16 w =>
 K2 t16 w) (
 K2 undef w)
def n51 (t0 t1:Value) (R:RT) (w:World):Prop :=
 opV Pg (Instr.box 52 t1) (panK R) w fun t3 w =>
 F0 52 t3 2 R w fun t5 w =>
 L0 3 t5 R w fun t6 w =>
 B0 .geq 3 true t6 (.int .i64 1) R w fun t7 w =>
 joinK (fun (t11:Value) (w:World) =>
 n51c4 t0 t3 t7 t11 R w) fun K1 =>
 guardP t7 true (
 F0 52 t3 2 R w fun t9 w =>
 L0 3 t9 R w fun t10 w =>
 B0 .leq 3 true t10 (.int .i64 32) R w fun t11 w =>
 K1 t11 w) (
 K1 undef w)
theorem n51s {t0 t1:Value} {R:RT} {w:World} (h:n51 t0 t1 R w):Calls Pg 80 #[t0,t1] w R:=by
 refine calls_of_den (args:=[t0,t1]) Tryz.func80 rfl (Nat.le_of_ble_eq_true rfl) ?_
 unfold n51 at h
 refine zs<|zr ?_
 refine zv h fun t3 w h=>?_
 refine zn<|zk<|sim_regionG ?_
 refine sim_seg 5 rfl ?_
 refine zm ?_
 refine zv h fun t5 w h=>?_
 refine zv h fun t6 w h=>?_
 refine zb h fun t7 w h=>?_
 refine zm<|zn ?_
 refine joinK_elim h (fun K1 hK h=>?_)
 refine sim_groupJ 3 4 true [9,10,11] (fun ρ w=>K1 (ρ 11) w) rfl rfl (fun T hT=>guardP_mono h (fun h=>?_) (fun h=>?_)) (fun σ w h=>?_)
 · refine zv h fun t9 w h=>?_
   refine zv h fun t10 w h=>?_
   refine zb h fun t11 w h=>?_
   refine zn ?_
   exact zt hT h
 · exact zt hT h
 subst hK
 refine sim_seg 2 rfl ?_
 refine sim_pick h rfl rfl rfl ?_;intro t12 h
 refine zm<|zn ?_
 refine joinK_elim h (fun K2 hK h=>?_)
 refine sim_groupJ 4 9 true [14,15,16,17] (fun ρ w=>K2 (ρ 17) w) rfl rfl (fun T hT=>guardP_mono h (fun h=>?_) (fun h=>?_)) (fun σ w h=>?_)
 · refine zv h fun t14 w h=>?_
   refine zv h fun t15 w h=>?_
   refine zv h fun t16 w h=>?_
   refine zm<|zn ?_
   exact zt hT h
 · exact zt hT h
 subst hK
 refine joinK_elim h (fun K3 hK h=>?_)
 refine sim_groupJ 4 13 false [18,19,20,21] (fun ρ w=>K3 (ρ 21) w) rfl rfl (fun T hT=>guardP_mono h (fun h=>?_) (fun h=>?_)) (fun σ w h=>?_)
 · refine zv h fun t18 w h=>?_
   refine zv h fun t19 w h=>?_
   refine zb h fun t20 w h=>?_
   refine zm<|zn ?_
   exact zt hT h
 · exact zt hT h
 subst hK
 refine joinK_elim h (fun K4 hK h=>?_)
 refine sim_groupJ 4 17 true [22,23,24,25] (fun ρ w=>K4 (ρ 25) w) rfl rfl (fun T hT=>guardP_mono h (fun h=>?_) (fun h=>?_)) (fun σ w h=>?_)
 · refine zv h fun t22 w h=>?_
   refine zv h fun t23 w h=>?_
   refine zb h fun t24 w h=>?_
   refine zb h fun t25 w h=>?_
   refine zn ?_
   exact zt hT h
 · exact zt hT h
 subst hK
 refine joinK_elim h (fun K5 hK h=>?_)
 refine sim_groupJ 1 13 false [26] (fun ρ w=>K5 (ρ 26) w) rfl rfl (fun T hT=>guardP_mono h (fun h=>?_) (fun h=>?_)) (fun σ w h=>?_)
 · refine sim_pick h rfl rfl rfl ?_;intro t26 h
   refine zn ?_
   exact zt hT h
 · exact zt hT h
 subst hK
 refine joinK_elim h (fun K6 hK h=>?_)
 refine sim_groupJ 1 9 true [27] (fun ρ w=>K6 (ρ 27) w) rfl rfl (fun T hT=>guardP_mono h (fun h=>?_) (fun h=>?_)) (fun σ w h=>?_)
 · refine sim_pick h rfl rfl rfl ?_;intro t27 h
   refine zn ?_
   exact zt hT h
 · exact zt hT h
 subst hK
 refine sim_seg 2 rfl ?_
 refine sim_pick h rfl rfl rfl ?_;intro t28 h
 refine zc h c37 fun t29 w h=>?_
 refine zn<|sim_end ?_
 refine body_normal ?_
 exact body_ret0 rfl h
end Go.Proofs.YtiajhbbmgglmlaaGreat
namespace Go.Proofs.YtiajhbbmgglmlaaGreat
open Sw
def n94c1 (t0 t11 t15:Value) (R:RT) (w:World):Prop :=
 pickK t11 t15 (.bool false) fun t16 =>
 joinK (fun (t22:Value) (w:World) =>
 pickK t16 t22 (.bool false) fun t23 =>
 R (.returned t23) w) fun K2 =>
 guardP t16 true (
 opV Pg (Go.convert 9 100 t0) (panK R) w fun t19 w =>
 callK Pg 52 #[t19,(.func (.func 48) #[] #[])] (panK R) w fun t21 w =>
 opV Pg (Op.unary .not t21) (panK R) w fun t22 w =>
 K2 t22 w) (
 K2 undef w)
def n94c2 (t0 t11:Value) (R:RT) (w:World):Prop :=
 joinK (fun (t15:Value) (w:World) =>
 n94c1 t0 t11 t15 R w) fun K1 =>
 guardP t11 true (
 opV Pg (Instr.index 9 t0 (.int .i64 0)) (panK R) w fun t14 w =>
 C0 49 #[t14] R w fun t15 w =>
 K1 t15 w) (
 K1 undef w)
def n94 (t0:Value) (R:RT) (w:World):Prop :=
 opV Pg (Builtin.len_ #[9] 3 #[t0]) (panK R) w fun t5 w =>
 B0 .geq 3 true t5 (.int .i64 1) R w fun t6 w =>
 opV Pg (Builtin.len_ #[9] 3 #[t0]) (panK R) w fun t8 w =>
 B0 .leq 3 true t8 (.int .i64 32) R w fun t9 w =>
 opV Pg (Instr.buildSlice 33 2 #[(0,t6),(1,t9)]) (panK R) w fun t10 w =>
 C0 51 #[t10] R w fun t11 w =>
 n94c2 t0 t11 R w
theorem n94s {t0:Value} {R:RT} {w:World} (h:n94 t0 R w):Calls Pg 38 #[t0] w R:=by
 refine calls_of_den (args:=[t0]) Tryz.func38 rfl (Nat.le_of_ble_eq_true rfl) ?_
 unfold n94 at h
 refine zs<|zr<|zm<|zn<|zk<|zs<|zr<|zm<|zn<|zk<|zs<|sim_regionG ?_
 refine sim_seg 9 rfl ?_
 refine zm ?_
 refine zx h fun t5 w h=>?_
 refine zb h fun t6 w h=>?_
 refine zm ?_
 refine zx h fun t8 w h=>?_
 refine zb h fun t9 w h=>?_
 refine sim_buildSlice h rfl (fun _ _ h=>⟨rfl,h⟩) ?_;intro t10 w h
 refine zc h c51 fun t11 w h=>?_
 refine zm<|zn ?_
 refine joinK_elim h (fun K1 hK h=>?_)
 refine sim_groupJ 3 8 true [13,14,15] (fun ρ w=>K1 (ρ 15) w) rfl rfl (fun T hT=>guardP_mono h (fun h=>?_) (fun h=>?_)) (fun σ w h=>?_)
 · refine zm ?_
   refine zv h fun t14 w h=>?_
   refine zc h c49 fun t15 w h=>?_
   refine zn ?_
   exact zt hT h
 · exact zt hT h
 subst hK
 refine sim_seg 2 rfl ?_
 refine sim_pick h rfl rfl rfl ?_;intro t16 h
 refine zm<|zn ?_
 refine joinK_elim h (fun K2 hK h=>?_)
 refine sim_groupJ 5 13 true [18,19,20,21,22] (fun ρ w=>K2 (ρ 22) w) rfl rfl (fun T hT=>guardP_mono h (fun h=>?_) (fun h=>?_)) (fun σ w h=>?_)
 · refine zm ?_
   refine zv h fun t19 w h=>?_
   refine zm ?_
   refine zc h c52 fun t21 w h=>?_
   refine zv h fun t22 w h=>?_
   refine zn ?_
   exact zt hT h
 · exact zt hT h
 subst hK
 refine sim_seg 2 rfl ?_
 refine sim_pick h rfl rfl rfl ?_;intro t23 h
 refine zm<|zn<|sim_end<|zk<|sim_ret ?_
 exact body_ret1 rfl rfl h
def n56c1 (t6 t52 t64 t68:Value) (next6:KV) (ds:List Deferred) (R:RT) (w:World):Prop :=
 pickK t64 t68 (.bool false) fun t69 =>
 opU Pg (Instr.storeAt 4 t6 t69) (outQ Pg ds [] R) w fun w =>
 opV Pg (binS .add 3 true t52 (.int .i64 1)) (outQ Pg ds [] R) w fun t70 w =>
 next6 t70 w
def n56c2 (t6 t8 t52:Value) (next6:KV) (ds:List Deferred) (R:RT) (w:World):Prop :=
 opV Pg (Instr.loadAt 4 t6) (outQ Pg ds [] R) w fun t64 w =>
 joinK (fun (t68:Value) (w:World) =>
 n56c1 t6 t52 t64 t68 next6 ds R w) fun K7 =>
 guardP t64 true (
 opV Pg (Instr.fieldAt 52 t8 4) (outQ Pg ds [] R) w fun t66 w =>
 opV Pg (Instr.loadAt 4 t66) (outQ Pg ds [] R) w fun t67 w =>
 opV Pg (Op.unary .not t67) (outQ Pg ds [] R) w fun t68 w =>
 K7 t68 w) (
 K7 undef w)
def n56c3 (t2 t6 t76:Value) (Kr8:World→Prop) (Qr8:List PanicEntry→World→Prop) (R:RT) (w:World):Prop :=
 opV Pg (Instr.loadAt 4 t6) Qr8 w fun t85 w =>
 joinK (fun (t92:Value) (w:World) =>
 pickK t85 t92 (.bool false) fun t93 =>
 opU Pg (Instr.storeAt 4 t6 t93) Qr8 w fun w =>
 Kr8 w) fun K11 =>
 guardP t85 true (
 opV Pg (Instr.loadAt 61 t2) Qr8 w fun t87 w =>
 opN Pg (nilN t87) Qr8 w fun t88 w =>
 opV Pg (Instr.fieldAt 65 t88 2) Qr8 w fun t89 w =>
 opV Pg (Instr.loadAt 63 t89) Qr8 w fun t90 w =>
 opV Pg (Instr.lookup 63 t90 t76 false) Qr8 w fun t92 w =>
 K11 t92 w) (
 K11 undef w)
def n56c4 (t2 t6 t9 t76:Value) (C9:World→Prop) (Kr8:World→Prop) (Qr8:List PanicEntry→World→Prop) (R:RT) (w:World):Prop :=
 qV Pg C9 (Instr.loadAt 3 t9) fun t77 =>
 qV Pg C9 (Instr.loadAt 61 t2) fun t78 =>
 qN Pg C9 (nilN t78) fun t79 =>
 qV Pg C9 (Instr.fieldAt 65 t79 1) fun t80 =>
 qV Pg C9 (Instr.loadAt 62 t80) fun t81 =>
 qV Pg C9 (Instr.lookup 62 t81 t76 false) fun t83 =>
 qV Pg C9 (Builtin.max_ #[3,3] 3 #[t77,t83]) fun t84 =>
 opU Pg (Instr.storeAt 3 t9 t84) Qr8 w fun w =>
 turnK w fun C10 w =>
 n56c3 t2 t6 t76 Kr8 Qr8 R w
def n56c5 (t2 t9:Value) (ds:List Deferred) (R:RT) (w:World):Prop :=
 opV Pg (Instr.loadAt 61 t2) (outQ Pg ds [] R) w fun t113 w =>
 opV Pg (Instr.loadAt 3 t9) (outQ Pg ds [] R) w fun t114 w =>
 opV Pg (binS .lss 3 true t114 (.int .i64 16)) (outQ Pg ds [] R) w fun t115 w =>
 callK Pg 37 #[t113,t115,(.int .i64 10)] (outQ Pg ds [] R) w fun t116 w =>
 outX Pg ds [] R w
def n56c6 (t2 t9 t103 t108 t111:Value) (C12:World→Prop) (ds:List Deferred) (R:RT) (w:World):Prop :=
 qV Pg C12 (Instr.extract t111 1) fun t112 =>
 opU Pg (Instr.entryStore 63 t103 t112 t108) (outQ Pg ds [] R) w fun w =>
 turnK w fun C13 w =>
 n56c5 t2 t9 ds R w
def n56c7 (t2 t9 t97 t103 t105 t107 t108 t109:Value) (C12:World→Prop) (ds:List Deferred) (R:RT) (w:World):Prop :=
 qV Pg C12 (Instr.extract t109 1) fun t110 =>
 opU Pg (Instr.entryStore 62 t97 t110 t107) (outQ Pg ds [] R) w fun w =>
 C12 w∧(
 opV Pg (Instr.mapEntry 63 t103 t105) (outQ Pg ds [] R) w fun t111 w =>
 C12 w∧(
 n56c6 t2 t9 t103 t108 t111 C12 ds R w))
def n56c8 (t2 t3 t6 t9:Value) (C12:World→Prop) (ds:List Deferred) (R:RT) (w:World):Prop :=
 qV Pg C12 (Instr.loadAt 61 t2) fun t94 =>
 qN Pg C12 (nilN t94) fun t95 =>
 qV Pg C12 (Instr.fieldAt 65 t95 1) fun t96 =>
 qV Pg C12 (Instr.loadAt 62 t96) fun t97 =>
 qV Pg C12 (Instr.fieldAt 45 t3 0) fun t98 =>
 qV Pg C12 (Instr.loadAt 9 t98) fun t99 =>
 qV Pg C12 (Instr.loadAt 61 t2) fun t100 =>
 qN Pg C12 (nilN t100) fun t101 =>
 qV Pg C12 (Instr.fieldAt 65 t101 2) fun t102 =>
 qV Pg C12 (Instr.loadAt 63 t102) fun t103 =>
 qV Pg C12 (Instr.fieldAt 45 t3 0) fun t104 =>
 qV Pg C12 (Instr.loadAt 9 t104) fun t105 =>
 qV Pg C12 (Instr.loadAt 3 t9) fun t106 =>
 qV Pg C12 (binS .add 3 true t106 (.int .i64 1)) fun t107 =>
 qV Pg C12 (Instr.loadAt 4 t6) fun t108 =>
 opV Pg (Instr.mapEntry 62 t97 t99) (outQ Pg ds [] R) w fun t109 w =>
 C12 w∧(
 n56c7 t2 t9 t97 t103 t105 t107 t108 t109 C12 ds R w)
def n56c9 (t2 t3 t6 t9 t75:Value) (ds:List Deferred) (R:RT) (w:World):Prop :=
 rangeN Pg t75 ds (fun l8 t76 w Kr8 Xr8 Qr8 =>
 busyK l8 w fun w =>
 drawK w fun C9 w =>
 n56c4 t2 t6 t9 t76 C9 Kr8 Qr8 R w) (fun ch ds w=>outQ Pg ds [] R ch w) w (fun ds w =>
 drawK w fun C12 w =>
 n56c8 t2 t3 t6 t9 C12 ds R w) []
def n56c10 (t2 t3 t6:Value) (ds:List Deferred) (R:RT) (w:World):Prop :=
 opV Pg (Instr.loadAt 61 t2) (outQ Pg ds [] R) w fun t71 w =>
 opN Pg (nilN t71) (outQ Pg ds [] R) w fun t72 w =>
 opV Pg (Instr.fieldAt 65 t72 4) (outQ Pg ds [] R) w fun t73 w =>
 opU Pg (Instr.storeAt 3 t73 (.int .i64 (-1))) (outQ Pg ds [] R) w fun w =>
 opV Pg (Instr.alloc 3 true (.tuple #[])) (outQ Pg ds [] R) w fun t9 w =>
 opU Pg (Instr.storeAt 3 t9 (.int .i64 0)) (outQ Pg ds [] R) w fun w =>
 opV Pg (Instr.loadAt 45 t3) (outQ Pg ds [] R) w fun t74 w =>
 callK Pg 54 #[t74] (outQ Pg ds [] R) w fun t75 w =>
 n56c9 t2 t3 t6 t9 t75 ds R w
def n56c11 (t2 t6 t50 t52:Value) (next6:KV) (ds:List Deferred) (R:RT) (w:World):Prop :=
 opV Pg (Instr.indexAt 43 t50 t52) (outQ Pg ds [] R) w fun t55 w =>
 opV Pg (Instr.loadAt 52 t55) (outQ Pg ds [] R) w fun t56 w =>
 opV Pg (Instr.alloc 52 true (.tuple #[])) (outQ Pg ds [] R) w fun t8 w =>
 opU Pg (Instr.storeAt 52 t8 t56) (outQ Pg ds [] R) w fun w =>
 opV Pg (Instr.loadAt 61 t2) (outQ Pg ds [] R) w fun t57 w =>
 opN Pg (nilN t57) (outQ Pg ds [] R) w fun t59 w =>
 opV Pg (Instr.fieldAt 65 t59 4) (outQ Pg ds [] R) w fun t60 w =>
 opU Pg (Instr.storeAt 3 t60 t52) (outQ Pg ds [] R) w fun w =>
 opV Pg (Instr.loadAt 61 t2) (outQ Pg ds [] R) w fun t61 w =>
 opV Pg (Instr.loadAt 52 t8) (outQ Pg ds [] R) w fun t62 w =>
 callK Pg 53 #[t61,t62] (outQ Pg ds [] R) w fun t63 w =>
 n56c2 t6 t8 t52 next6 ds R w
def n56c12 (t2 t3 t6 t50 t51 t52:Value) (next6:KV) (ds:List Deferred) (R:RT) (w:World):Prop :=
 opV Pg (binS .lss 3 false t52 t51) (outQ Pg ds [] R) w fun t53 w =>
 condP t53 (
 n56c11 t2 t6 t50 t52 next6 ds R w) (
 n56c10 t2 t3 t6 ds R w)
def n56c13 (t2 t3:Value) (ds:List Deferred) (R:RT) (w:World):Prop :=
 opV Pg (Instr.alloc 4 true (.tuple #[])) (outQ Pg ds [] R) w fun t6 w =>
 opU Pg (Instr.storeAt 4 t6 (.bool true)) (outQ Pg ds [] R) w fun w =>
 opV Pg (Instr.fieldAt 45 t3 1) (outQ Pg ds [] R) w fun t49 w =>
 opV Pg (Instr.loadAt 43 t49) (outQ Pg ds [] R) w fun t50 w =>
 opV Pg (Builtin.len_ #[43] 3 #[t50]) (outQ Pg ds [] R) w fun t51 w =>
 loop1 (fun t52 w next6 =>
 n56c12 t2 t3 t6 t50 t51 t52 next6 ds R w) (.int .i64 0) w
def n56c14 (t2 t3:Value) (ds:List Deferred) (R:RT) (w:World):Prop :=
 opV Pg (Instr.loadAt 61 t2) (outQ Pg ds [] R) w fun t37 w =>
 opV Pg (Instr.fieldAt 45 t3 1) (outQ Pg ds [] R) w fun t38 w =>
 opV Pg (Instr.loadAt 43 t38) (outQ Pg ds [] R) w fun t39 w =>
 opV Pg (Builtin.len_ #[43] 3 #[t39]) (outQ Pg ds [] R) w fun t40 w =>
 opV Pg (binS .geq 3 true t40 (.int .i64 1)) (outQ Pg ds [] R) w fun t41 w =>
 joinK (fun (t46:Value) (w:World) =>
 pickK t41 t46 (.bool false) fun t47 =>
 callK Pg 37 #[t37,t47,(.int .i64 3)] (outQ Pg ds [] R) w fun t48 w =>
 n56c13 t2 t3 ds R w) fun K5 =>
 guardP t41 true (
 opV Pg (Instr.fieldAt 45 t3 1) (outQ Pg ds [] R) w fun t43 w =>
 opV Pg (Instr.loadAt 43 t43) (outQ Pg ds [] R) w fun t44 w =>
 opV Pg (Builtin.len_ #[43] 3 #[t44]) (outQ Pg ds [] R) w fun t45 w =>
 opV Pg (binS .leq 3 true t45 (.int .i64 40)) (outQ Pg ds [] R) w fun t46 w =>
 K5 t46 w) (
 K5 undef w)
def n56c15 (t2 t3:Value) (C4:World→Prop) (ds:List Deferred) (R:RT) (w:World):Prop :=
 qV Pg C4 (Instr.loadAt 61 t2) fun t24 =>
 qN Pg C4 (nilN t24) fun t25 =>
 qV Pg C4 (Instr.fieldAt 65 t25 1) fun t26 =>
 qV Pg C4 (Instr.loadAt 62 t26) fun t27 =>
 qV Pg C4 (Instr.fieldAt 45 t3 0) fun t28 =>
 qV Pg C4 (Instr.loadAt 9 t28) fun t29 =>
 qV Pg C4 (Instr.lookup 62 t27 t29 true) fun t30 =>
 qV Pg C4 (Instr.extract t30 0) fun t31 =>
 qV Pg C4 (Instr.extract t30 1) fun t32 =>
 opV Pg (Instr.loadAt 61 t2) (outQ Pg ds [] R) w fun t33 w =>
 opV Pg (Op.unary .not t32) (outQ Pg ds [] R) w fun t35 w =>
 callK Pg 37 #[t33,t35,(.int .i64 2)] (outQ Pg ds [] R) w fun t36 w =>
 n56c14 t2 t3 ds R w
def n56c16 (t2 t3:Value) (C3:World→Prop) (ds:List Deferred) (R:RT) (w:World):Prop :=
 qV Pg C3 (Instr.loadAt 61 t2) fun t18 =>
 qV Pg C3 (Instr.fieldAt 45 t3 0) fun t19 =>
 qV Pg C3 (Instr.loadAt 9 t19) fun t20 =>
 callK Pg 38 #[t20] (outQ Pg ds [] R) w fun t21 w =>
 C3 w∧(
 callK Pg 37 #[t18,t21,(.int .i64 1)] (outQ Pg ds [] R) w fun t22 w =>
 C3 w∧(
 drawK w fun C4 w =>
 n56c15 t2 t3 C4 ds R w))
def n56c17 (t2 t3 t12:Value) (C1:World→Prop) (ds:List Deferred) (R:RT) (w:World):Prop :=
 qN Pg C1 (nilN t12) fun t16 =>
 qV Pg C1 (Instr.fieldAt 65 t16 4) fun t17 =>
 opU Pg (Instr.storeAt 3 t17 (.int .i64 (-1))) (outQ Pg ds [] R) w fun w =>
 turnK w fun C2 w =>
 drawK w fun C3 w =>
 n56c16 t2 t3 C3 ds R w
def n56c18 (t2 t3:Value) (C1:World→Prop) (ds:List Deferred) (R:RT) (w:World):Prop :=
 qV Pg C1 (Instr.loadAt 61 t2) fun t11 =>
 qV Pg C1 (Instr.loadAt 61 t2) fun t12 =>
 qV Pg C1 (Instr.loadAt 45 t3) fun t13 =>
 qN Pg C1 (nilN t11) fun t14 =>
 qV Pg C1 (Instr.fieldAt 65 t14 5) fun t15 =>
 opU Pg (Instr.storeAt 45 t15 t13) (outQ Pg ds [] R) w fun w =>
 C1 w∧(
 n56c17 t2 t3 t12 C1 ds R w)
def n56 (t0 t1:Value) (R:RT) (w:World):Prop :=
 (fun (ds:List Deferred) =>
 opV Pg (Instr.box 61 t0) (outQ Pg ds [] R) w fun t2 w =>
 opV Pg (Instr.box 45 t1) (outQ Pg ds [] R) w fun t3 w =>
 drawK w fun C1 w =>
 n56c18 t2 t3 C1 ds R w) []
theorem n56s {t0 t1:Value} {R:RT} {w:World} (h:n56 t0 t1 R w):Calls Pg 39 #[t0,t1] w R:=by
 refine calls_of_denM (args:=[t0,t1]) Tryz.func39 rfl (Nat.le_of_ble_eq_true rfl) ?_
 unfold n56 at h
 dsimp only at h
 refine zs<|zr ?_
 refine zq h fun t2 w h=>?_
 refine zq h fun t3 w h=>?_
 refine zn<|zk<|zs ?_
 obtain ⟨C1,hC,h⟩:=h
 refine sim_draw [11,12,13,14,15,16,17] (by kernel_rfl) (by kernel_rfl) C1 ?_
 refine ze 0 hC h fun t11 h=>?_
 refine ze 1 hC h fun t12 h=>?_
 refine ze 2 hC h fun t13 h=>?_
 obtain ⟨t14,hv,h⟩:=h
 refine sim_dsilent 3 hC rfl (by kernel_rfl) (by kernel_rfl) (fun _ _=>rfl) rfl (Sw.qN_run rfl hv) ?_
 refine ze 4 hC h fun t15 h=>?_
 refine sim_dloud 5 rfl (by kernel_rfl) (fun _ _=>rfl) ?_
 refine sim_unit h rfl rfl (fun _ _ h=>outQ_ofD rfl rfl h) ?_;intro w h
 refine zn ?_
 obtain ⟨hC,h⟩:=h
 refine ⟨hC,?_⟩
 obtain ⟨t16,hv,h⟩:=h
 refine sim_dsilent 6 hC rfl (by kernel_rfl) (by kernel_rfl) (fun _ _=>rfl) rfl (Sw.qN_run rfl hv) ?_
 refine ze 7 hC h fun t17 h=>?_
 refine sim_dturn 8 2 rfl (by kernel_rfl) (by kernel_rfl) (fun _ _=>rfl) ?_
 refine sim_unit h rfl rfl (fun _ _ h=>outQ_ofD rfl rfl h) ?_;intro w h
 refine zn ?_
 obtain ⟨C2,hC,h⟩:=h
 refine ⟨C2,hC,?_⟩
 refine sim_dend (by kernel_rfl) ?_
 refine zk<|zs ?_
 obtain ⟨C3,hC,h⟩:=h
 refine sim_draw [18,19,20,21,22] (by kernel_rfl) (by kernel_rfl) C3 ?_
 refine ze 0 hC h fun t18 h=>?_
 refine ze 1 hC h fun t19 h=>?_
 refine ze 2 hC h fun t20 h=>?_
 refine sim_dloud 3 rfl (by kernel_rfl) (fun _ _=>rfl) ?_
 refine sim_call h c38 rfl (fun _ _ h=>outQ_ofD rfl rfl h) ?_;intro t21 w h
 refine zn ?_
 obtain ⟨hC,h⟩:=h
 refine ⟨hC,?_⟩
 refine sim_dloud 4 rfl (by kernel_rfl) (fun _ _=>rfl) ?_
 refine sim_call h c37 rfl (fun _ _ h=>outQ_ofD rfl rfl h) ?_;intro t22 w h
 refine zn ?_
 obtain ⟨hC,h⟩:=h
 refine ⟨hC,?_⟩
 refine sim_dend (by kernel_rfl) ?_
 refine zk<|zs ?_
 obtain ⟨C4,hC,h⟩:=h
 refine sim_draw [4,5,23,24,25,26,27,28,29,30,31,32] (by kernel_rfl) (by kernel_rfl) C4 ?_
 refine ze 0 hC h fun t24 h=>?_
 obtain ⟨t25,hv,h⟩:=h
 refine sim_dsilent 1 hC rfl (by kernel_rfl) (by kernel_rfl) (fun _ _=>rfl) rfl (Sw.qN_run rfl hv) ?_
 refine ze 2 hC h fun t26 h=>?_
 refine ze 3 hC h fun t27 h=>?_
 refine ze 4 hC h fun t28 h=>?_
 refine ze 5 hC h fun t29 h=>?_
 refine ze 6 hC h fun t30 h=>?_
 refine zw 7 hC ?_
 refine ze 8 hC h fun t31 h=>?_
 refine ze 9 hC h fun t32 h=>?_
 refine zw 10 hC ?_
 refine zw 11 hC ?_
 refine sim_dend (by kernel_rfl) ?_
 refine zk<|zs<|zr ?_
 refine zq h fun t33 w h=>?_
 refine zm ?_
 refine zq h fun t35 w h=>?_
 refine sim_call h c37 rfl (fun _ _ h=>outQ_of rfl h) ?_;intro t36 w h
 refine zn<|zk<|zs<|sim_regionG ?_
 refine sim_seg 6 rfl ?_
 refine zq h fun t37 w h=>?_
 refine zq h fun t38 w h=>?_
 refine zq h fun t39 w h=>?_
 refine sim_builtin h rfl (fun _ _ h=>outQ_of rfl h) ?_;intro t40 w h
 refine sim_bin h rfl rfl rfl (fun _ _ h=>outQ_of rfl h) ?_;intro t41 w h
 refine zm<|zn ?_
 refine joinK_elim h (fun K5 hK h=>?_)
 refine sim_groupJ 4 5 true [43,44,45,46] (fun ρ w=>K5 (ρ 46) w) rfl rfl (fun T hT=>guardP_mono h (fun h=>?_) (fun h=>?_)) (fun σ w h=>?_)
 · refine zq h fun t43 w h=>?_
   refine zq h fun t44 w h=>?_
   refine sim_builtin h rfl (fun _ _ h=>outQ_of rfl h) ?_;intro t45 w h
   refine sim_bin h rfl rfl rfl (fun _ _ h=>outQ_of rfl h) ?_;intro t46 w h
   refine zn ?_
   exact zt hT h
 · exact zt hT h
 subst hK
 refine sim_seg 2 rfl ?_
 refine sim_pick h rfl rfl rfl ?_;intro t47 h
 refine sim_call h c37 rfl (fun _ _ h=>outQ_of rfl h) ?_;intro t48 w h
 refine zn<|sim_end<|zk<|zs<|zr ?_
 refine zq h fun t6 w h=>?_
 refine sim_unit h rfl rfl (fun _ _ h=>outQ_of rfl h) ?_;intro w h
 refine zn<|zk<|zs<|zs<|zr ?_
 refine zq h fun t49 w h=>?_
 refine zq h fun t50 w h=>?_
 refine sim_builtin h rfl (fun _ _ h=>outQ_of rfl h) ?_;intro t51 w h
 refine zm<|zn<|zk<|sim_block ?_
 obtain ⟨I,μ,h0,hr⟩:=h
 refine sim_loop [7,8,52,53,54,55,56,57,58,59,60,61,62,63,64,65,66,67,68,69,70] (by kernel_rfl) (fun ρ w=>I (ρ 52) w) (fun ρ w=>μ (ρ 52) w) h0 (fun σ w hI=>?_)
 have h:=hr _ _ hI
 clear hr h0 hI
 refine zs<|zr ?_
 refine sim_bin h rfl rfl rfl (fun _ _ h=>outQ_of rfl h) ?_;intro t53 w h
 refine zn<|zk<|zs ?_
 refine sim_cond h rfl (fun h=>?_) (fun h=>?_)
 · refine sim_skip<|zk<|zs<|sim_block<|zs<|zr<|zm ?_
   refine zq h fun t55 w h=>?_
   refine zq h fun t56 w h=>?_
   refine zq h fun t8 w h=>?_
   refine zm ?_
   refine sim_unit h rfl rfl (fun _ _ h=>outQ_of rfl h) ?_;intro w h
   refine zn<|zk<|zs<|zr ?_
   refine zq h fun t57 w h=>?_
   refine zm ?_
   refine sim_next h rfl rfl (fun _ _ h=>outQ_of rfl h) ?_;intro t59 w h
   refine zq h fun t60 w h=>?_
   refine sim_unit h rfl rfl (fun _ _ h=>outQ_of rfl h) ?_;intro w h
   refine zn<|zk<|zs<|zr ?_
   refine zq h fun t61 w h=>?_
   refine zq h fun t62 w h=>?_
   refine sim_call h c53 rfl (fun _ _ h=>outQ_of rfl h) ?_;intro t63 w h
   refine zn<|zk<|sim_regionG ?_
   refine sim_seg 2 rfl ?_
   refine zq h fun t64 w h=>?_
   refine zm<|zn ?_
   refine joinK_elim h (fun K7 hK h=>?_)
   refine sim_groupJ 3 1 true [66,67,68] (fun ρ w=>K7 (ρ 68) w) rfl rfl (fun T hT=>guardP_mono h (fun h=>?_) (fun h=>?_)) (fun σ w h=>?_)
   · refine zq h fun t66 w h=>?_
     refine zq h fun t67 w h=>?_
     refine zq h fun t68 w h=>?_
     refine zn ?_
     exact zt hT h
   · exact zt hT h
   subst hK
   refine sim_seg 2 rfl ?_
   refine sim_pick h rfl rfl rfl ?_;intro t69 h
   refine sim_unit h rfl rfl (fun _ _ h=>outQ_of rfl h) ?_;intro w h
   refine zn<|sim_end<|sim_block_normal<|zk<|zr ?_
   refine sim_bin h rfl rfl rfl (fun _ _ h=>outQ_of rfl h) ?_;intro t70 w h
   refine zm<|zn<|zk ?_
   exact ⟨rfl,h⟩
 · refine sim_exit<|sim_then_exit<|sim_then_exit<|sim_block_hit<|zk<|zs<|zr ?_
   refine zq h fun t71 w h=>?_
   refine sim_next h rfl rfl (fun _ _ h=>outQ_of rfl h) ?_;intro t72 w h
   refine zq h fun t73 w h=>?_
   refine sim_unit h rfl rfl (fun _ _ h=>outQ_of rfl h) ?_;intro w h
   refine zn<|zk<|zs<|zr ?_
   refine zq h fun t9 w h=>?_
   refine sim_unit h rfl rfl (fun _ _ h=>outQ_of rfl h) ?_;intro w h
   refine zn<|zk<|zs<|zs<|zr ?_
   refine zq h fun t74 w h=>?_
   refine sim_call h c54 rfl (fun _ _ h=>outQ_of rfl h) ?_;intro t75 w h
   refine zn<|zk<|sim_block ?_
   refine sim_range [] h rfl (fun l8 t76 w Kr8 Xr8 Qr8 h=>?_) (fun ds w h=>?_) (fun c ds w h=>?_) (fun ch ds w h=>outQ_of rfl h)
   · refine zr<|zm<|zn<|zk ?_
     obtain ⟨hr,h⟩:=h
     refine ⟨rfl,hr,fun w hb=>?_⟩
     have h:=h w hb
     refine sim_block<|zs ?_
     obtain ⟨C9,hC,h⟩:=h
     refine sim_draw [77,78,79,80,81,82,83,84] (by kernel_rfl) (by kernel_rfl) C9 ?_
     refine ze 0 hC h fun t77 h=>?_
     refine ze 1 hC h fun t78 h=>?_
     obtain ⟨t79,hv,h⟩:=h
     refine sim_dsilent 2 hC rfl (by kernel_rfl) (by kernel_rfl) (fun _ _=>rfl) rfl (Sw.qN_run rfl hv) ?_
     refine ze 3 hC h fun t80 h=>?_
     refine ze 4 hC h fun t81 h=>?_
     refine zw 5 hC ?_
     refine ze 6 hC h fun t83 h=>?_
     obtain ⟨t84,hv,h⟩:=h
     refine sim_dsilent 7 hC rfl (by kernel_rfl) (by kernel_rfl) (fun _ _=>rfl) rfl (Sw.qV_builtin rfl hv) ?_
     refine sim_dturn 8 1 rfl (by kernel_rfl) (by kernel_rfl) (fun _ _=>rfl) ?_
     refine sim_unit h rfl rfl (fun _ _ h _ _=>⟨rfl,h⟩) ?_;intro w h
     refine zn ?_
     obtain ⟨C10,hC,h⟩:=h
     refine ⟨C10,hC,?_⟩
     refine sim_dend (by kernel_rfl) ?_
     refine zk<|sim_regionG ?_
     refine sim_seg 2 rfl ?_
     refine zv h fun t85 w h=>?_
     refine zm<|zn ?_
     refine joinK_elim h (fun K11 hK h=>?_)
     refine sim_groupJ 6 1 true [87,88,89,90,91,92] (fun ρ w=>K11 (ρ 92) w) rfl rfl (fun T hT=>guardP_mono h (fun h=>?_) (fun h=>?_)) (fun σ w h=>?_)
     · refine zv h fun t87 w h=>?_
       refine sim_next h rfl rfl (fun _ _ h=>⟨rfl,h⟩) ?_;intro t88 w h
       refine zv h fun t89 w h=>?_
       refine zv h fun t90 w h=>?_
       refine zm ?_
       refine zv h fun t92 w h=>?_
       refine zn ?_
       exact zt hT h
     · exact zt hT h
     subst hK
     refine sim_seg 2 rfl ?_
     refine sim_pick h rfl rfl rfl ?_;intro t93 h
     refine zu h fun w h=>?_
     refine zn<|sim_end<|sim_block_normal ?_
     exact ⟨rfl,h⟩
   · refine sim_block_normal<|zk<|zs ?_
     obtain ⟨C12,hC,h⟩:=h
     refine sim_draw [94,95,96,97,98,99,100,101,102,103,104,105,106,107,108,109,110,111,112] (by kernel_rfl) (by kernel_rfl) C12 ?_
     refine ze 0 hC h fun t94 h=>?_
     obtain ⟨t95,hv,h⟩:=h
     refine sim_dsilent 1 hC rfl (by kernel_rfl) (by kernel_rfl) (fun _ _=>rfl) rfl (Sw.qN_run rfl hv) ?_
     refine ze 2 hC h fun t96 h=>?_
     refine ze 3 hC h fun t97 h=>?_
     refine ze 4 hC h fun t98 h=>?_
     refine ze 5 hC h fun t99 h=>?_
     refine ze 6 hC h fun t100 h=>?_
     obtain ⟨t101,hv,h⟩:=h
     refine sim_dsilent 7 hC rfl (by kernel_rfl) (by kernel_rfl) (fun _ _=>rfl) rfl (Sw.qN_run rfl hv) ?_
     refine ze 8 hC h fun t102 h=>?_
     refine ze 9 hC h fun t103 h=>?_
     refine ze 10 hC h fun t104 h=>?_
     refine ze 11 hC h fun t105 h=>?_
     refine ze 12 hC h fun t106 h=>?_
     obtain ⟨t107,hv,h⟩:=h
     refine sim_dsilent 13 hC rfl (by kernel_rfl) (by kernel_rfl) (fun _ _=>rfl) rfl (Sw.qV_bin rfl rfl rfl hv) ?_
     refine ze 14 hC h fun t108 h=>?_
     refine sim_dloud 15 rfl (by kernel_rfl) (fun _ _=>rfl) ?_
     refine sim_val h rfl rfl (fun _ _ h=>outQ_ofD rfl rfl h) ?_;intro t109 w h
     refine zn ?_
     obtain ⟨hC,h⟩:=h
     refine ⟨hC,?_⟩
     refine ze 16 hC h fun t110 h=>?_
     refine sim_dloud 17 rfl (by kernel_rfl) (fun _ _=>rfl) ?_
     refine sim_unit h rfl rfl (fun _ _ h=>outQ_ofD rfl rfl h) ?_;intro w h
     refine zn ?_
     obtain ⟨hC,h⟩:=h
     refine ⟨hC,?_⟩
     refine sim_dloud 18 rfl (by kernel_rfl) (fun _ _=>rfl) ?_
     refine sim_val h rfl rfl (fun _ _ h=>outQ_ofD rfl rfl h) ?_;intro t111 w h
     refine zn ?_
     obtain ⟨hC,h⟩:=h
     refine ⟨hC,?_⟩
     refine ze 19 hC h fun t112 h=>?_
     refine sim_dturn 20 1 rfl (by kernel_rfl) (by kernel_rfl) (fun _ _=>rfl) ?_
     refine sim_unit h rfl rfl (fun _ _ h=>outQ_ofD rfl rfl h) ?_;intro w h
     refine zn ?_
     obtain ⟨C13,hC,h⟩:=h
     refine ⟨C13,hC,?_⟩
     refine sim_dend (by kernel_rfl) ?_
     refine zk<|zr ?_
     refine zq h fun t113 w h=>?_
     refine zq h fun t114 w h=>?_
     refine sim_bin h rfl rfl rfl (fun _ _ h=>outQ_of rfl h) ?_;intro t115 w h
     refine sim_call h c37 rfl (fun _ _ h=>outQ_of rfl h) ?_;intro t116 w h
     refine zn ?_
     refine Sw.bodyM_normal ?_
     exact Sw.bodyM_ret rfl h
   · exact h.elim
def n15c1 (t0 t8 t12:Value) (R:RT) (w:World):Prop :=
 joinK (fun (t14:Value) (w:World) =>
 joinK (fun (t15:Value) (w:World) =>
 pickK t8 (.bool true) t15 fun t16 =>
 R (.returned t16) w) fun K4 =>
 guardP t8 false (
 pickK t12 t14 (.bool false) fun t15 =>
 K4 t15 w) (
 K4 undef w)) fun K3 =>
 guardP t12 true (
 opV Pg (binS .leq 5 true t0 (.int .u8 122)) (panK R) w fun t14 w =>
 K3 t14 w) (
 K3 undef w)
def n15c2 (t0 t4 t7:Value) (R:RT) (w:World):Prop :=
 pickK t4 t7 (.bool false) fun t8 =>
 joinK (fun (t12:Value) (w:World) =>
 n15c1 t0 t8 t12 R w) fun K2 =>
 guardP t8 false (
 opV Pg (binS .geq 5 true t0 (.int .u8 97)) (panK R) w fun t11 w =>
 K2 t11 w) (
 K2 undef w)
def n15 (t0:Value) (R:RT) (w:World):Prop :=
 opV Pg (binS .geq 5 true t0 (.int .u8 65)) (panK R) w fun t4 w =>
 joinK (fun (t7:Value) (w:World) =>
 n15c2 t0 t4 t7 R w) fun K1 =>
 guardP t4 true (
 opV Pg (binS .leq 5 true t0 (.int .u8 90)) (panK R) w fun t7 w =>
 K1 t7 w) (
 K1 undef w)
theorem n15s {t0:Value} {R:RT} {w:World} (h:n15 t0 R w):Calls Pg 40 #[t0] w R:=by
 refine calls_of_den (args:=[t0]) Tryz.func40 rfl (Nat.le_of_ble_eq_true rfl) ?_
 unfold n15 at h
 refine zs<|zr<|zm<|zn<|zk<|zs<|sim_regionG ?_
 refine sim_seg 3 rfl ?_
 refine zm ?_
 refine zb h fun t4 w h=>?_
 refine zm<|zn ?_
 refine joinK_elim h (fun K1 hK h=>?_)
 refine sim_groupJ 2 2 true [6,7] (fun ρ w=>K1 (ρ 7) w) rfl rfl (fun T hT=>guardP_mono h (fun h=>?_) (fun h=>?_)) (fun σ w h=>?_)
 · refine zm ?_
   refine zb h fun t7 w h=>?_
   refine zn ?_
   exact zt hT h
 · exact zt hT h
 subst hK
 refine sim_seg 2 rfl ?_
 refine sim_pick h rfl rfl rfl ?_;intro t8 h
 refine zm<|zn ?_
 refine joinK_elim h (fun K2 hK h=>?_)
 refine sim_groupJ 3 6 false [10,11,12] (fun ρ w=>K2 (ρ 12) w) rfl rfl (fun T hT=>guardP_mono h (fun h=>?_) (fun h=>?_)) (fun σ w h=>?_)
 · refine zm ?_
   refine zb h fun t11 w h=>?_
   refine zm<|zn ?_
   exact zt hT h
 · exact zt hT h
 subst hK
 refine joinK_elim h (fun K3 hK h=>?_)
 refine sim_groupJ 2 9 true [13,14] (fun ρ w=>K3 (ρ 14) w) rfl rfl (fun T hT=>guardP_mono h (fun h=>?_) (fun h=>?_)) (fun σ w h=>?_)
 · refine zm ?_
   refine zb h fun t14 w h=>?_
   refine zn ?_
   exact zt hT h
 · exact zt hT h
 subst hK
 refine joinK_elim h (fun K4 hK h=>?_)
 refine sim_groupJ 1 6 false [15] (fun ρ w=>K4 (ρ 15) w) rfl rfl (fun T hT=>guardP_mono h (fun h=>?_) (fun h=>?_)) (fun σ w h=>?_)
 · refine sim_pick h rfl rfl rfl ?_;intro t15 h
   refine zn ?_
   exact zt hT h
 · exact zt hT h
 subst hK
 refine sim_seg 2 rfl ?_
 refine sim_pick h rfl rfl rfl ?_;intro t16 h
 refine zm<|zn<|sim_end<|zk<|sim_ret ?_
 exact body_ret1 rfl rfl h
def n14 (t0:Value) (R:RT) (w:World):Prop :=
 opV Pg (binS .geq 5 true t0 (.int .u8 48)) (panK R) w fun t4 w =>
 joinK (fun (t7:Value) (w:World) =>
 pickK t4 t7 (.bool false) fun t8 =>
 R (.returned t8) w) fun K1 =>
 guardP t4 true (
 opV Pg (binS .leq 5 true t0 (.int .u8 57)) (panK R) w fun t7 w =>
 K1 t7 w) (
 K1 undef w)
theorem n14s {t0:Value} {R:RT} {w:World} (h:n14 t0 R w):Calls Pg 41 #[t0] w R:=by
 refine calls_of_den (args:=[t0]) Tryz.func41 rfl (Nat.le_of_ble_eq_true rfl) ?_
 unfold n14 at h
 refine zs<|zr<|zm<|zn<|zk<|zs<|sim_regionG ?_
 refine sim_seg 3 rfl ?_
 refine zm ?_
 refine zb h fun t4 w h=>?_
 refine zm<|zn ?_
 refine joinK_elim h (fun K1 hK h=>?_)
 refine sim_groupJ 2 2 true [6,7] (fun ρ w=>K1 (ρ 7) w) rfl rfl (fun T hT=>guardP_mono h (fun h=>?_) (fun h=>?_)) (fun σ w h=>?_)
 · refine zm ?_
   refine zb h fun t7 w h=>?_
   refine zn ?_
   exact zt hT h
 · exact zt hT h
 subst hK
 refine sim_seg 2 rfl ?_
 refine sim_pick h rfl rfl rfl ?_;intro t8 h
 refine zm<|zn<|sim_end<|zk<|sim_ret ?_
 exact body_ret1 rfl rfl h
def n19c1 (t1 t3 t7:Value) (next1:KV) (R:RT) (w:World):Prop :=
 F0 45 t3 1 R w fun t13 w =>
 L0 43 t13 R w fun t14 w =>
 X0 43 t14 t7 R w fun t16 w =>
 F0 52 t16 0 R w fun t17 w =>
 L0 9 t17 R w fun t18 w =>
 B0 .eql 9 false t18 t1 R w fun t20 w =>
 condP t20 (
 R (.returned t7) w) (
 B0 .add 3 true t7 (.int .i64 1) R w fun t12 w =>
 next1 t12 w)
def n19 (t0 t1 t2:Value) (R:RT) (w:World):Prop :=
 opV Pg (Instr.box 45 t0) (panK R) w fun t3 w =>
 loop1 (fun t7 w next1 =>
 B0 .lss 3 false t7 t2 R w fun t10 w =>
 condP t10 (
 n19c1 t1 t3 t7 next1 R w) (
 R (.returned (.int .i64 (-1))) w)) (.int .i64 0) w
theorem n19s {t0 t1 t2:Value} {R:RT} {w:World} (h:n19 t0 t1 t2 R w):Calls Pg 42 #[t0,t1,t2] w R:=by
 refine calls_of_den (args:=[t0,t1,t2]) Tryz.func42 rfl (Nat.le_of_ble_eq_true rfl) ?_
 unfold n19 at h
 refine zs<|zr ?_
 refine zv h fun t3 w h=>?_
 refine zm<|zn<|zk<|zs<|zs<|zr<|zm<|zn<|zk<|sim_block ?_
 obtain ⟨I,μ,h0,hr⟩:=h
 refine sim_loop [6,7,8,9,10,11,12,13,14,15,16,17,18,19,20,21] (by kernel_rfl) (fun ρ w=>I (ρ 7) w) (fun ρ w=>μ (ρ 7) w) h0 (fun σ w hI=>?_)
 have h:=hr _ _ hI
 clear hr h0 hI
 refine zs<|zs<|zr<|zm<|zm ?_
 refine zb h fun t10 w h=>?_
 refine zn<|zk ?_
 refine sim_cond h rfl (fun h=>?_) (fun h=>?_)
 · refine sim_skip<|zk<|zs<|sim_block<|zs<|zr ?_
   refine zv h fun t13 w h=>?_
   refine zv h fun t14 w h=>?_
   refine zm ?_
   refine zv h fun t16 w h=>?_
   refine zv h fun t17 w h=>?_
   refine zv h fun t18 w h=>?_
   refine zm ?_
   refine zb h fun t20 w h=>?_
   refine zn<|zk ?_
   refine sim_cond h rfl (fun h=>?_) (fun h=>?_)
   · refine zs<|zr<|zm<|zm<|zn<|zk<|sim_ret<|sim_block_ret<|sim_then_ret<|sim_then_ret<|sim_block_ret<|sim_then_ret ?_
     exact body_ret1 rfl rfl h
   · refine sim_skip<|sim_block_normal<|zk<|zr<|zm ?_
     refine zb h fun t12 w h=>?_
     refine zm<|zn<|zk ?_
     exact ⟨rfl,h⟩
 · refine sim_exit<|sim_then_exit<|sim_then_exit<|sim_block_hit<|zk<|zs<|zr<|zm<|zn<|zk<|sim_ret ?_
   exact body_ret1 rfl rfl h
end Go.Proofs.YtiajhbbmgglmlaaGreat
namespace Go.Proofs.YtiajhbbmgglmlaaGreat
open Sw
open Go.RowKit (intOf)
def letterB (c:UInt8):Bool:=(decide (65≤(c.toNat:Int))&&decide ((c.toNat:Int)≤90))||(decide (97≤(c.toNat:Int))&&decide ((c.toNat:Int)≤122))
def digitB (c:UInt8):Bool:=decide (48≤(c.toNat:Int))&&decide ((c.toNat:Int)≤57)
def wordB (c:UInt8):Bool:=letterB c||digitB c||((c.toNat:Int) == 95)
def smallB (v:Int):Bool:=decide (-1048576≤v)&&decide (v≤1048576)
def nameB (s:ByteArray):Bool:=decide (1≤(s.size:Int))&&decide ((s.size:Int)≤32)&&(match s.data.toList with | []=>false | c::_=>letterB c)&&s.data.toList.all wordB
theorem letter_ret (w0:World) (c:UInt8):Ret Pg 49 #[.int .u8 c.toNat] w0 fun r w'=>r = .bool (letterB c)∧Ext w0 w':=by
 refine n103s (R:=retR _) ?_;unfold n103
 simp (disch:=try exact DI) only [↓PR,QR,Int.reduceBEq,Int.reduceBNe,Int.reduceLT,Int.reduceLE,Int.reduceGT,Int.reduceGE,Int.reduceNeg,↓n103c1,↓n103c2]
 unfold letterB
 have e:=Ext.refl w0
 generalize decide (65≤(c.toNat:Int))=b1
 generalize decide ((c.toNat:Int)≤90)=b2
 generalize decide (97≤(c.toNat:Int))=b3
 generalize decide ((c.toNat:Int)≤122)=b4
 cases b1<;>cases b2<;>cases b3<;>cases b4<;>simp (disch:=try exact DI) only [↓PR,QR,Int.reduceBEq,Int.reduceBNe,Int.reduceLT,Int.reduceLE,Int.reduceGT,Int.reduceGE,Int.reduceNeg,↓n103c1,↓n103c2]<;>exact ⟨by trivial,e⟩
theorem rletter_ret (w0:World) (c:UInt8):Ret Pg 40 #[.int .u8 c.toNat] w0 fun r w'=>r = .bool (letterB c)∧Ext w0 w':=by
 refine n15s (R:=retR _) ?_;unfold n15
 simp (disch:=try exact DI) only [↓PR,QR,Int.reduceBEq,Int.reduceBNe,Int.reduceLT,Int.reduceLE,Int.reduceGT,Int.reduceGE,Int.reduceNeg,↓n15c1,↓n15c2]
 unfold letterB
 have e:=Ext.refl w0
 generalize decide (65≤(c.toNat:Int))=b1
 generalize decide ((c.toNat:Int)≤90)=b2
 generalize decide (97≤(c.toNat:Int))=b3
 generalize decide ((c.toNat:Int)≤122)=b4
 cases b1<;>cases b2<;>cases b3<;>cases b4<;>simp (disch:=try exact DI) only [↓PR,QR,Int.reduceBEq,Int.reduceBNe,Int.reduceLT,Int.reduceLE,Int.reduceGT,Int.reduceGE,Int.reduceNeg,↓n15c1,↓n15c2]<;>exact ⟨by trivial,e⟩
theorem digit_ret (w0:World) (c:UInt8):Ret Pg 50 #[.int .u8 c.toNat] w0 fun r w'=>r = .bool (digitB c)∧Ext w0 w':=by
 refine n102s (R:=retR _) ?_;unfold n102
 simp (disch:=try exact DI) only [↓PR,QR,Int.reduceBEq,Int.reduceBNe,Int.reduceLT,Int.reduceLE,Int.reduceGT,Int.reduceGE,Int.reduceNeg,Sw.joinK_eq]
 unfold digitB
 have e:=Ext.refl w0
 generalize decide (48≤(c.toNat:Int))=b1
 generalize decide ((c.toNat:Int)≤57)=b2
 cases b1<;>cases b2<;>simp (disch:=try exact DI) only [↓PR,QR,Int.reduceBEq,Int.reduceBNe,Int.reduceLT,Int.reduceLE,Int.reduceGT,Int.reduceGE,Int.reduceNeg,Sw.joinK_eq]<;>exact ⟨by trivial,e⟩
theorem rdigit_ret (w0:World) (c:UInt8):Ret Pg 41 #[.int .u8 c.toNat] w0 fun r w'=>r = .bool (digitB c)∧Ext w0 w':=by
 refine n14s (R:=retR _) ?_;unfold n14
 simp (disch:=try exact DI) only [↓PR,QR,Int.reduceBEq,Int.reduceBNe,Int.reduceLT,Int.reduceLE,Int.reduceGT,Int.reduceGE,Int.reduceNeg,Sw.joinK_eq]
 unfold digitB
 have e:=Ext.refl w0
 generalize decide (48≤(c.toNat:Int))=b1
 generalize decide ((c.toNat:Int)≤57)=b2
 cases b1<;>cases b2<;>simp (disch:=try exact DI) only [↓PR,QR,Int.reduceBEq,Int.reduceBNe,Int.reduceLT,Int.reduceLE,Int.reduceGT,Int.reduceGE,Int.reduceNeg,Sw.joinK_eq]<;>exact ⟨by trivial,e⟩
theorem small_ret (w0:World) (v:Int):Ret Pg 118 #[.int .i64 v] w0 fun r w'=>r = .bool (smallB v)∧Ext w0 w':=by
 refine n105s (R:=retR _) ?_;unfold n105
 simp (disch:=try exact DI) only [↓PR,QR,Int.reduceBEq,Int.reduceBNe,Int.reduceLT,Int.reduceLE,Int.reduceGT,Int.reduceGE,Int.reduceNeg,Sw.joinK_eq]
 unfold smallB
 have e:=Ext.refl w0
 generalize decide (-1048576≤v)=b1
 generalize decide (v≤1048576)=b2
 cases b1<;>cases b2<;>simp (disch:=try exact DI) only [↓PR,QR,Int.reduceBEq,Int.reduceBNe,Int.reduceLT,Int.reduceLE,Int.reduceGT,Int.reduceGE,Int.reduceNeg,Sw.joinK_eq]<;>exact ⟨by trivial,e⟩
def BoolsOf (w:World) (v:Value) (l:List Bool):Prop:=SliceOf w 1 EBool v l
theorem Index_bool_ret (w0:World) (v:Value) (l:List Bool) (x:Bool) (hs:BoolsOf w0 v l) :
 Ret Pg 75 #[v,.bool x] w0 fun r w'=>r = .int .i64 (idx (x == ·) l)∧Ext w0 w':=by
 obtain ⟨A,c,rfl,hlc,hcm,hlm,hel⟩:=SliceOf.open hs
 refine n120s (R:=retR _) ?_;unfold n120
 simp (disch:=try exact DI) only [↓PR,QR,Int.reduceBEq,Int.reduceBNe,Int.reduceLT,Int.reduceLE,Int.reduceGT,Int.reduceGE,Int.reduceNeg]
 refine loop1_intro (fun i w=>∃ k:Nat,i = .int .i64 k∧k≤l.length∧Ext w0 w∧∀ (j:Nat) y,j < k→l[j]?=some y→(x == y)=false) (fun i _=>l.length - (intOf i).toNat) ⟨0,rfl,by omega,Ext.refl _,fun j y h=>by omega⟩ ?_
 rintro i w ⟨k,rfl,hk,e,hb⟩
 by_cases hlt:k < l.length
 · obtain ⟨y,hy⟩:=getElem?_lt hlt
   obtain ⟨b,o,cs,rfl,hl,hA,rfl⟩:=hel k y hy
   have hd:decide ((k:Int) < (l.length:Int))=true:=by simp;omega
   have hc:w.cell? ⟨b,o+k*1,none⟩=some (.bool y):=(hA.ext e).cell 0 rfl
   simp (disch:=try exact DI) only [↓PR,QR,Int.reduceBEq,Int.reduceBNe,Int.reduceLT,Int.reduceLE,Int.reduceGT,Int.reduceGE,Int.reduceNeg,hd,hc,↓n120c1]
   cases hp:(x == y) with
   | true =>
    simp (disch:=try exact DI) only [↓PR,QR,Int.reduceBEq,Int.reduceBNe,Int.reduceLT,Int.reduceLE,Int.reduceGT,Int.reduceGE,Int.reduceNeg]
    exact ⟨by rw [idx_here hy hp hb],e⟩
   | false =>
    simp (disch:=try exact DI) only [↓PR,QR,Int.reduceBEq,Int.reduceBNe,Int.reduceLT,Int.reduceLE,Int.reduceGT,Int.reduceGE,Int.reduceNeg]
    exact ⟨⟨k+1,rfl,by omega,e,before_succ hb hy hp⟩,by simp [intOf];omega⟩
 · have hd:decide ((k:Int) < (l.length:Int))=false:=by simp;omega
   simp (disch:=try exact DI) only [↓PR,QR,Int.reduceBEq,Int.reduceBNe,Int.reduceLT,Int.reduceLE,Int.reduceGT,Int.reduceGE,Int.reduceNeg,hd,↓n120c1]
   exact ⟨by rw [idx_none fun j y hy=>hb j y (by have:=(List.getElem?_eq_some_iff.1 hy).1;omega) hy],e⟩
theorem Contains_bool_ret (w0:World) (v:Value) (l:List Bool) (x:Bool) (hs:BoolsOf w0 v l) :
 Ret Pg 65 #[v,.bool x] w0 fun r w'=>r = .bool (l.any (x == ·))∧Ext w0 w':=by
 refine n113s (R:=retR _) ?_;unfold n113
 refine callK_ret (Index_bool_ret _ _ l x hs) ?_
 rintro r w' ⟨rfl,e⟩
 simp (disch:=try exact DI) only [↓PR,QR,Int.reduceBEq,Int.reduceBNe,Int.reduceLT,Int.reduceLE,Int.reduceGT,Int.reduceGE,Int.reduceNeg,Sw.joinK_eq]
 exact ⟨by rw [idx_neg],e⟩
theorem all_ret (w0:World) (v:Value) (l:List Bool) (hs:BoolsOf w0 v l) :
 Ret Pg 51 #[v] w0 fun r w'=>r = .bool (l.all id)∧Ext w0 w':=by
 refine n100s (R:=retR _) ?_;unfold n100
 refine callK_ret (Contains_bool_ret _ _ l false hs) ?_
 rintro r w' ⟨rfl,e⟩
 simp (disch:=try exact DI) only [↓PR,QR,Int.reduceBEq,Int.reduceBNe,Int.reduceLT,Int.reduceLE,Int.reduceGT,Int.reduceGE,Int.reduceNeg,Sw.joinK_eq]
 refine ⟨?_,e⟩
 congr 1
 clear hs
 induction l with
 | nil=>rfl
 | cons a l ih=>cases a<;>simp_all
theorem NameS1_ret (w0:World) (c:UInt8):Ret Pg 48 #[.int .u8 c.toNat] w0 fun r w'=>r = .bool (!wordB c)∧Ext w0 w':=by
 refine n95s (R:=retR _) ?_;unfold n95
 refine callK_ret (letter_ret _ c) ?_
 rintro r w' ⟨rfl,e⟩
 simp (disch:=try exact DI) only [↓PR,QR,Int.reduceBEq,Int.reduceBNe,Int.reduceLT,Int.reduceLE,Int.reduceGT,Int.reduceGE,Int.reduceNeg,↓n95c1,↓n95c2]
 unfold wordB
 cases letterB c with
 | true=>simp (disch:=try exact DI) only [↓PR,QR,Int.reduceBEq,Int.reduceBNe,Int.reduceLT,Int.reduceLE,Int.reduceGT,Int.reduceGE,Int.reduceNeg,↓n95c1,↓n95c2];exact ⟨by trivial,e⟩
 | false =>
  simp (disch:=try exact DI) only [↓PR,QR,Int.reduceBEq,Int.reduceBNe,Int.reduceLT,Int.reduceLE,Int.reduceGT,Int.reduceGE,Int.reduceNeg,↓n95c1,↓n95c2]
  refine callK_ret (digit_ret _ c) ?_
  rintro r w2 ⟨rfl,e2⟩
  have e3:=e.trans e2
  cases digitB c with
  | true=>simp (disch:=try exact DI) only [↓PR,QR,Int.reduceBEq,Int.reduceBNe,Int.reduceLT,Int.reduceLE,Int.reduceGT,Int.reduceGE,Int.reduceNeg,↓n95c1,↓n95c2];exact ⟨by trivial,e3⟩
  | false=>simp (disch:=try exact DI) only [↓PR,QR,Int.reduceBEq,Int.reduceBNe,Int.reduceLT,Int.reduceLE,Int.reduceGT,Int.reduceGE,Int.reduceNeg,↓n95c1,↓n95c2];exact ⟨by trivial,e3⟩
def BytesOf (w:World) (v:Value) (l:List UInt8):Prop:=SliceOf w 1 EByte v l
theorem ContainsFunc_byte_ret (w0:World) (v:Value) (l:List UInt8) (g:FuncId) (caps:Array Value) (p:UInt8→Bool) (hs:BytesOf w0 v l) (hg:Callable Pg g) (hc:Tests w0 (fun _ v x=>v = .int .u8 (x.toNat:Int)) g caps p l) :
 Ret Pg 52 #[v,.func (.func g) #[] caps] w0 fun r w'=>r = .bool (l.any p)∧Ext w0 w':=by
 refine n112s (R:=retR _) ?_;unfold n112
 refine callK_ret (IndexFunc_byte_ret _ _ l g caps p hs hg hc) ?_
 rintro r w' ⟨rfl,e⟩
 simp (disch:=try exact DI) only [↓PR,QR,Int.reduceBEq,Int.reduceBNe,Int.reduceLT,Int.reduceLE,Int.reduceGT,Int.reduceGE,Int.reduceNeg,Sw.joinK_eq]
 exact ⟨by rw [idx_neg],e⟩
theorem boolsNew (w:World) (l:List Bool) (T:TypeId) (hl:l.length≤9223372036854775807):BoolsOf (w.alloc (.cells (l.map Value.bool).toArray T)) (.slice (some ⟨w.heap.size,0,none⟩) l.length l.length) l:=SliceOf.new1 _ (fun _ _=>rfl) w l T hl
theorem all2_ret {w:World} {p:Nat} (hp:p=w.heap.size) (a b:Bool) (T:TypeId):Ret Pg 51 #[.slice (some ⟨p,0,none⟩) 2 2] (w.alloc (.cells #[.bool a,.bool b] T)) fun r w'=>r = .bool (a&&b)∧Ext (w.alloc (.cells #[.bool a,.bool b] T)) w':=by
 subst hp
 have h:=all_ret _ _ [a,b] (boolsNew w [a,b] T (by simp))
 simpa using h
theorem all3_ret {w:World} {p:Nat} (hp:p=w.heap.size) (a b c:Bool) (T:TypeId):Ret Pg 51 #[.slice (some ⟨p,0,none⟩) 3 3] (w.alloc (.cells #[.bool a,.bool b,.bool c] T)) fun r w'=>r = .bool (a&&b&&c)∧Ext (w.alloc (.cells #[.bool a,.bool b,.bool c] T)) w':=by
 subst hp
 have h:=all_ret _ _ [a,b,c] (boolsNew w [a,b,c] T (by simp))
 simpa [Bool.and_assoc] using h
theorem Name_ret (w0:World) (s:ByteArray):Ret Pg 38 #[.string s] w0 fun r w'=>r = .bool (nameB s)∧Ext w0 w':=by
 refine n94s (R:=retR _) ?_;unfold n94
 simp (disch:=try exact DI) only [↓PR,QR,Int.reduceBEq,Int.reduceBNe,Int.reduceLT,Int.reduceLE,Int.reduceGT,Int.reduceGE,Int.reduceNeg,↓n94c1,↓n94c2]
 have e1:Ext w0 (w0.alloc (.cells #[.bool (decide (1≤(s.size:Int))),.bool (decide ((s.size:Int)≤32))] 4)):=(Ext.refl w0).alloc _
 refine callK_ret (all_ret _ _ [decide (1≤(s.size:Int)),decide ((s.size:Int)≤32)] (boolsNew w0 [decide (1≤(s.size:Int)),decide ((s.size:Int)≤32)] 4 (by simp))) ?_
 rintro r w1 ⟨rfl,e2⟩
 have e:=e1.trans e2
 have hall:[decide (1≤(s.size:Int)),decide ((s.size:Int)≤32)].all id=(decide (1≤(s.size:Int))&&decide ((s.size:Int)≤32)):=by simp
 rw [hall]
 unfold nameB
 cases h1:(decide (1≤(s.size:Int))&&decide ((s.size:Int)≤32)) with
 | false=>simp (disch:=try exact DI) only [↓PR,QR,Int.reduceBEq,Int.reduceBNe,Int.reduceLT,Int.reduceLE,Int.reduceGT,Int.reduceGE,Int.reduceNeg,↓n94c1,↓n94c2];exact ⟨by trivial,e⟩
 | true =>
  simp (disch:=try exact DI) only [↓PR,QR,Int.reduceBEq,Int.reduceBNe,Int.reduceLT,Int.reduceLE,Int.reduceGT,Int.reduceGE,Int.reduceNeg,↓n94c1,↓n94c2]
  have hlen:s.size≤9223372036854775807:=by simp only [Bool.and_eq_true,decide_eq_true_eq] at h1;omega
  obtain ⟨c,cs,hcs⟩:∃ c cs,s.data.toList=c::cs:=by
   simp only [Bool.and_eq_true,decide_eq_true_eq] at h1
   cases hd:s.data.toList with
   | nil =>
    have:s.data.size=0:=by rw [← Array.length_toList,hd];rfl
    have h0:s.size=s.data.size:=rfl
    omega
   | cons c cs=>exact ⟨c,cs,rfl⟩
  rw [op_indexS0 Tryz.underlying9 s .i64 (b:=c) (by rw [hcs];rfl)]
  refine callK_ret (letter_ret _ c) ?_
  rintro r w2 ⟨rfl,e3⟩
  have e:=e.trans e3
  rw [hcs]
  cases hl:letterB c with
  | false=>simp (disch:=try exact DI) only [↓PR,QR,Int.reduceBEq,Int.reduceBNe,Int.reduceLT,Int.reduceLE,Int.reduceGT,Int.reduceGE,Int.reduceNeg,↓n94c1,↓n94c2];exact ⟨by rw [hl];rfl,e⟩
  | true =>
   simp (disch:=try exact DI) only [↓PR,QR,Int.reduceBEq,Int.reduceBNe,Int.reduceLT,Int.reduceLE,Int.reduceGT,Int.reduceGE,Int.reduceNeg,↓n94c1,↓n94c2]
   refine op_bytes Tryz.underlying9 Tryz.underlying100 Tryz.underlying5 s hlen ?_
   rintro v w3 e4 ⟨A,cp,rfl,hc1,hc2,b,rfl,hcell⟩
   have hsz:s.data.toList.length=s.size:=by rw [Array.length_toList];rfl
   have hB:BytesOf w3 (.slice (some ⟨b,0,none⟩) s.size cp) s.data.toList:=by
    rw [← hsz]
    refine ⟨_,_,rfl,by omega,hc2,fun _=>⟨_,_,rfl,fun k x hx=>⟨[.int .u8 x.toNat],rfl,fun j v hv=>?_,rfl⟩⟩⟩
    cases j with
    | zero=>injection hv with hv;subst hv;simpa using hcell k x hx
    | succ j=>cases hv
   have e:=e.trans e4
   refine callK_ret (ContainsFunc_byte_ret _ _ s.data.toList _ _ (fun x=>!wordB x) hB c48 ?_) ?_
   · rintro w v x _ _ rfl
     exact NameS1_ret w x
   · rintro r w4 ⟨rfl,e5⟩
     simp (disch:=try exact DI) only [↓PR,QR,Int.reduceBEq,Int.reduceBNe,Int.reduceLT,Int.reduceLE,Int.reduceGT,Int.reduceGE,Int.reduceNeg,↓n94c1,↓n94c2]
     refine ⟨?_,e.trans e5⟩
     rw [hcs,hl]
     congr 1
     generalize c::cs=l
     clear hall
     induction l with
     | nil=>rfl
     | cons a l ih=>simp only [List.any_cons,List.all_cons,Bool.not_or,Bool.not_not,Bool.true_and] at *;rw [ih]
def termB (t:TermD):Bool:=nameB t.field&&(t.factor != 0)&&smallB t.factor
theorem ValidS1_ret (w:World) (t:TermD) (pb r:Nat) (names:List ByteArray) (hcell:w.cell? ⟨pb,0,none⟩=some (.map (some r))) (hm:SetOf w r names) :
 Ret Pg 117 #[termVal t,.pointer (some ⟨pb,0,none⟩)] w fun v w'=>v = .bool (memB names t.field||!termB t)∧SetOf w' r (names++[t.field])∧w'.cell? ⟨pb,0,none⟩=some (.map (some r)) ∧
  ∀ w0,Ext w0 w→w0.heap.size≤r→Ext w0 w':=by
 have hpb:pb < w.heap.size:=World.block_lt_of_cell? w _ hcell
 obtain ⟨L,c,hM,hl⟩:=hm
 refine n99s (R:=retR _) ?_;unfold n99
 unfold termVal
 simp (disch:=try exact DI) only [↓PR,QR,Int.reduceBEq,Int.reduceBNe,Int.reduceLT,Int.reduceLE,Int.reduceGT,Int.reduceGE,Int.reduceNeg,hcell]
 have e1:Ext w (w.alloc (.cells #[.string t.field,.int .i64 t.factor] 78)):=(Ext.refl w).alloc _
 rw [op_lookup1S Tryz.underlying63 Tryz.underlying9 ty4 (hM.ext e1)]
 simp (disch:=try exact DI) only [↓PR,QR,Int.reduceBEq,Int.reduceBNe,Int.reduceLT,Int.reduceLE,Int.reduceGT,Int.reduceGE,Int.reduceNeg,hcell]
 rw [op_mapUpdateS Tryz.underlying63 Tryz.underlying9 (hM.ext e1)]
 obtain ⟨W,hW⟩:∃ W,((w.alloc (.cells #[.string t.field,.int .i64 t.factor] 78)).putObj r (mapObjS (putL L c t.field (.bool true)) (putC L c t.field)))=W:=⟨_,rfl⟩
 have hS:SetOf W r (names++[t.field]):=by rw [← hW];exact SetOf.put (hM.ext e1) hl _
 have hC:W.cell? ⟨pb,0,none⟩=some (.map (some r)):=by rw [← hW,cell_putMap (hM.ext e1)];exact e1.cell hcell
 have hE:∀ w0,Ext w0 w→w0.heap.size≤r→Ext w0 W:=fun w0 h0 hr=>by rw [← hW];exact (h0.trans e1).putObj hr _
 have hA0:W.cell? ⟨w.heap.size,0,none⟩=some (.string t.field):=by rw [← hW,cell_putMap (hM.ext e1),cell_new];rfl
 have hA1:W.cell? ⟨w.heap.size,1,none⟩=some (.int .i64 t.factor):=by rw [← hW,cell_putMap (hM.ext e1),cell_new];rfl
 rw [hW]
 refine drawK_intro ?_
 have ht8:(Sw.look L t.field).getD (.bool false) = .bool (memB names t.field):=by rw [hl];cases memB names t.field<;>rfl
 rw [ht8]
 have fin:∀ b w',Ext W w'→b=(memB names t.field||!termB t)→(Value.bool b = .bool (memB names t.field||!termB t)∧SetOf w' r (names++[t.field])∧w'.cell? ⟨pb,0,none⟩=some (.map (some r))∧∀ w0,Ext w0 w→w0.heap.size≤r→Ext w0 w') :=
  fun b w' e hb=>⟨by rw [hb],hS.ext e,e.cell hC,fun w0 h0 hr=>(hE w0 h0 hr).trans e⟩
 cases hmem:memB names t.field with
 | true =>
  simp (disch:=try exact DI) only [↓PR,QR,Int.reduceBEq,Int.reduceBNe,Int.reduceLT,Int.reduceLE,Int.reduceGT,Int.reduceGE,Int.reduceNeg,↓n99c1,↓n99c2]
  exact ⟨trivial,(fin (true||!termB t) _ (Ext.refl _).wdrew (by rw [hmem])).2⟩
 | false =>
  simp (disch:=try exact DI) only [↓PR,QR,Int.reduceBEq,Int.reduceBNe,Int.reduceLT,Int.reduceLE,Int.reduceGT,Int.reduceGE,Int.reduceNeg,↓n99c1,↓n99c2,hA0,hA1]
  refine zcr (Name_ret _ t.field) fun w1 e2=>?_
  refine ⟨e2,?_⟩
  refine zcr (small_ret _ t.factor) fun w2 e3=>?_
  refine ⟨e2.trans e3,?_⟩
  simp (disch:=try exact DI) only [↓PR,QR,Int.reduceBEq,Int.reduceBNe,Int.reduceLT,Int.reduceLE,Int.reduceGT,Int.reduceGE,Int.reduceNeg,↓n99c1,↓n99c2]
  have e:=e2.trans e3
  refine ⟨e.alloc _,?_⟩
  refine zcr (all3_ret rfl _ _ _ _) fun w3 e4=>?_
  refine ⟨(e.alloc _).trans e4,?_⟩
  simp (disch:=try exact DI) only [↓PR,QR,Int.reduceBEq,Int.reduceBNe,Int.reduceLT,Int.reduceLE,Int.reduceGT,Int.reduceGE,Int.reduceNeg,↓n99c1,↓n99c2]
  exact ⟨rfl,(fin (!termB t) w3 (((Ext.refl _).wdrew).trans ((e.alloc _).trans e4)) (by rw [hmem];rfl)).2⟩
def termsB:List ByteArray→List TermD→Bool
 | _,[]=>true
 | seen,t::ts=>!(memB seen t.field)&&termB t&&termsB (seen++[t.field]) ts
theorem termsB_iff:∀ (ts:List TermD) (seen:List ByteArray),termsB seen ts=true↔∀ k x,ts[k]?=some x→(memB (seen++(ts.take k).map (·.field)) x.field||!termB x)=false
 | [],seen=>by simp [termsB]
 | t::ts,seen=>by
  simp only [termsB,Bool.and_eq_true,termsB_iff ts]
  constructor
  · rintro ⟨⟨h1,h2⟩,h3⟩ k x hx
    cases k with
    | zero=>simp at hx;subst hx;simpa using ⟨by simpa using h1,h2⟩
    | succ k=>have:=h3 k x (by simpa using hx);simpa using this
  · intro h
    refine ⟨?_,fun k x hx=>by simpa using h (k+1) x (by simpa using hx)⟩
    have:=h 0 t rfl
    simp at this
    exact ⟨by rw [this.1];rfl,this.2⟩
theorem ContainsFunc_Term_st (w0 w1:World) (v:Value) (l:List TermD) (g:FuncId) (caps:Array Value) (p:Nat→Bool) (J:Nat→World→Prop) (hs:TermsOf w0 v l) (hg:Callable Pg g) (hJ:∀ k w,J k w→Ext w0 w) (h0:J 0 w1)
 (hc:∀ k x w u,l[k]?=some x→J k w→(fun _ v x=>v=termVal x) w u x→Ret Pg g (#[u]++caps) w fun r w'=>r = .bool (p k)∧J (k+1) w') :
 Ret Pg 119 #[v,.func (.func g) #[] caps] w1 fun r w'=>r = .bool ((List.range l.length).any p)∧∃ k,J k w':=by
 refine n111s (R:=retR _) ?_;unfold n111
 refine callK_ret (IndexFunc_Term_st w0 _ _ l g caps p J hs hg hJ h0 hc) ?_
 rintro r w' ⟨rfl,e⟩
 simp (disch:=try exact DI) only [↓PR,QR,Int.reduceBEq,Int.reduceBNe,Int.reduceLT,Int.reduceLE,Int.reduceGT,Int.reduceGE,Int.reduceNeg,Sw.joinK_eq]
 exact ⟨by rw [idx_neg],e⟩
def sizeB (base:Int) (ts:List TermD):Bool:=smallB base&&decide (ts.length≤4)&&termsB [] ts
theorem Valid_ret (w0:World) (v:Value) (base:Int) (ts:List TermD) (hs:SizeVal w0 v base ts) :
 Ret Pg 112 #[v] w0 fun r w'=>r = .bool (sizeB base ts)∧Ext w0 w':=by
 obtain ⟨tv,rfl,hT⟩:=hs
 refine n98s (R:=retR _) ?_;unfold n98
 simp (disch:=try exact DI) only [↓PR,QR,Int.reduceBEq,Int.reduceBNe,Int.reduceLT,Int.reduceLE,Int.reduceGT,Int.reduceGE,Int.reduceNeg]
 obtain ⟨A,c,rfl,hlc,hcm,hlm,hel⟩:=SliceOf.open hT
 obtain ⟨W1,hW1⟩:∃ W1,w0.alloc (.cells #[.int .i64 base,.slice A ts.length c] 49)=W1:=⟨_,rfl⟩
 have e0:Ext w0 W1:=by rw [← hW1];exact (Ext.refl w0).alloc _
 have hc0:W1.cell? ⟨w0.heap.size,0,none⟩=some (.int .i64 base):=by rw [← hW1];simp (disch:=try exact DI) only [↓PR,QR,Int.reduceBEq,Int.reduceBNe,Int.reduceLT,Int.reduceLE,Int.reduceGT,Int.reduceGE,Int.reduceNeg]
 have hc1:W1.cell? ⟨w0.heap.size,1,none⟩=some (.slice A ts.length c):=by rw [← hW1];simp (disch:=try exact DI) only [↓PR,QR,Int.reduceBEq,Int.reduceBNe,Int.reduceLT,Int.reduceLE,Int.reduceGT,Int.reduceGE,Int.reduceNeg]
 have hsz:w0.heap.size+1=W1.heap.size:=by rw [← hW1];simp (disch:=try exact DI) only [↓PR,QR,Int.reduceBEq,Int.reduceBNe,Int.reduceLT,Int.reduceLE,Int.reduceGT,Int.reduceGE,Int.reduceNeg]
 simp only [hW1,hsz]
 refine drawK_introE (w1:=W1) (((Ext.refl W1).alloc _).alloc _) ?_
 simp (disch:=try exact DI) only [↓PR,QR,Int.reduceBEq,Int.reduceBNe,Int.reduceLT,Int.reduceLE,Int.reduceGT,Int.reduceGE,Int.reduceNeg,↓n98c1,↓n98c2,↓n98c3,hc0,hc1]
 generalize hW:(World.drew _)=W
 have e1:Ext W1 W:=by rw [← hW];exact (((Ext.refl W1).alloc _).alloc _).wdrew
 have hpb:W.cell? ⟨W1.heap.size+1,0,none⟩=some (.map (some W1.heap.size)):=by rw [← hW];simp (disch:=try exact DI) only [↓PR,QR,Int.reduceBEq,Int.reduceBNe,Int.reduceLT,Int.reduceLE,Int.reduceGT,Int.reduceGE,Int.reduceNeg]
 have hset:SetOf W W1.heap.size []:=by
  rw [← hW]
  have h:=(MapS.new W1).ext (((Ext.refl _).alloc (Obj.cells (#[Value.map none].setIfInBounds 0 (Value.map (some W1.heap.size))) 63)).wdrew)
  exact ⟨[],0,by simpa using h,fun s=>rfl⟩
 clear hW
 refine zcr (small_ret _ base) fun w1 e2=>?_
 refine ⟨e1.trans e2,?_⟩
 simp (disch:=try exact DI) only [↓PR,QR,Int.reduceBEq,Int.reduceBNe,Int.reduceLT,Int.reduceLE,Int.reduceGT,Int.reduceGE,Int.reduceNeg]
 refine ⟨e1.trans (e2.alloc _),?_⟩
 refine zcr (all2_ret rfl _ _ _) fun w2 e3=>?_
 replace e2:=(e2.alloc _).trans e3
 refine ⟨e1.trans e2,?_⟩
 simp (disch:=try exact DI) only [↓PR,QR,Int.reduceBEq,Int.reduceBNe,Int.reduceLT,Int.reduceLE,Int.reduceGT,Int.reduceGE,Int.reduceNeg,↓n98c1,↓n98c2,↓n98c3]
 unfold sizeB
 cases hb:(smallB base&&decide (ts.length≤4)) with
 | false =>
  have hb':(smallB base&&decide ((ts.length:Int)≤4))=false:=by rw [← hb];congr 1;simp;omega
  rw [hb']
  simp (disch:=try exact DI) only [↓PR,QR,Int.reduceBEq,Int.reduceBNe,Int.reduceLT,Int.reduceLE,Int.reduceGT,Int.reduceGE,Int.reduceNeg,↓n98c1,↓n98c2,↓n98c3,hc0,hc1]
  exact ⟨by trivial,e0.trans (e1.trans e2)⟩
 | true =>
  have hb':(smallB base&&decide ((ts.length:Int)≤4))=true:=by rw [← hb];congr 1;simp;omega
  rw [hb']
  simp (disch:=try exact DI) only [↓PR,QR,Int.reduceBEq,Int.reduceBNe,Int.reduceLT,Int.reduceLE,Int.reduceGT,Int.reduceGE,Int.reduceNeg,↓n98c1,↓n98c2,↓n98c3,hc0,hc1]
  refine callK_ret (ContainsFunc_Term_st W1 w2 _ ts 117 _ (fun k=>match ts[k]? with | some t=>memB ((ts.take k).map (·.field)) t.field||!termB t | none=>true) (fun k w=>SetOf w W1.heap.size ((ts.take k).map (·.field))∧w.cell? ⟨W1.heap.size+1,0,none⟩=some (.map (some W1.heap.size))∧Ext W1 w) (hT.ext e0) c117 (fun k w h=>h.2.2) ⟨hset.ext e2,e2.cell hpb,e1.trans e2⟩ ?_) ?_
  · rintro k x w u hx ⟨h1,h2,h3⟩ rfl
    simp only [hsz]
    refine Ret.mono (ValidS1_ret w x _ _ _ h2 h1) ?_
    rintro v w' ⟨rfl,h4,h5,h6⟩
    refine ⟨by rw [hx],?_,h5,h6 _ h3 (Nat.le_refl _)⟩
    rw [List.take_add_one,hx]
    simpa using h4
  · rintro _ w3 ⟨rfl,k,h1,h2,h3⟩
    refine ⟨h3,?_⟩
    simp (disch:=try exact DI) only [↓PR,QR,Int.reduceBEq,Int.reduceBNe,Int.reduceLT,Int.reduceLE,Int.reduceGT,Int.reduceGE,Int.reduceNeg,↓n98c1,↓n98c2,↓n98c3]
    refine ⟨?_,e0.trans h3⟩
    congr 1
    rw [Bool.eq_iff_iff,termsB_iff,Bool.not_eq_true',List.any_eq_false]
    simp only [List.mem_range,List.nil_append]
    constructor
    · intro h k x hx
      have:=h k (List.getElem?_eq_some_iff.1 hx).1
      rw [hx] at this
      simpa using this
    · intro h k hk
      rw [List.getElem?_eq_getElem hk]
      have:=h k _ (List.getElem?_eq_getElem hk)
      simpa using this
end Go.Proofs.YtiajhbbmgglmlaaGreat
namespace Go.Proofs.YtiajhbbmgglmlaaGreat
open Sw
def n18c1 (t8 t78:Value) (C8:World→Prop) (next7:KV) (R:RT) (w:World):Prop :=
 C8 w∧(
 qV Pg C8 (Op.unary .not t78) fun t79 =>
 condP t79 (
 R (.returned (.bool false)) w) (
 B0 .add 3 true t8 (.int .i64 1) R w fun t67 w =>
 next7 t67 w))
def n18c2 (t6 t7 t8:Value) (C8:World→Prop) (next7:KV) (R:RT) (w:World):Prop :=
 qV Pg C8 (Instr.fieldAt 45 t6 1) fun t68 =>
 qV Pg C8 (Instr.loadAt 43 t68) fun t69 =>
 qV Pg C8 (Instr.indexAt 43 t69 t8) fun t71 =>
 qV Pg C8 (Instr.loadAt 52 t71) fun t72 =>
 qV Pg C8 (Instr.fieldAt 45 t7 1) fun t73 =>
 qV Pg C8 (Instr.loadAt 43 t73) fun t74 =>
 qV Pg C8 (Instr.indexAt 43 t74 t8) fun t76 =>
 qV Pg C8 (Instr.loadAt 52 t76) fun t77 =>
 C0 34 #[t72,t77] R w fun t78 w =>
 n18c1 t8 t78 C8 next7 R w
def n18c3 (t5 t6 t7 t8:Value) (next3:KV) (next7:KV) (R:RT) (w:World):Prop :=
 F0 45 t6 1 R w fun t62 w =>
 L0 43 t62 R w fun t63 w =>
 opV Pg (Builtin.len_ #[43] 3 #[t63]) (panK R) w fun t64 w =>
 B0 .lss 3 false t8 t64 R w fun t65 w =>
 condP t65 (
 drawK w fun C8 w =>
 n18c2 t6 t7 t8 C8 next7 R w) (
 B0 .add 3 true t5 (.int .i64 1) R w fun t36 w =>
 next3 t36 w)
def n18c4 (t5 t6 t7:Value) (next3:KV) (R:RT) (w:World):Prop :=
 F0 45 t6 0 R w fun t47 w =>
 L0 9 t47 R w fun t48 w =>
 F0 45 t7 0 R w fun t49 w =>
 L0 9 t49 R w fun t50 w =>
 B0 .neq 9 false t48 t50 R w fun t51 w =>
 joinK (fun (t59:Value) (w:World) =>
 pickK t51 (.bool true) t59 fun t60 =>
 condP t60 (
 R (.returned (.bool false)) w) (
 loop1 (fun t8 w next7 =>
 n18c3 t5 t6 t7 t8 next3 next7 R w) (.int .i64 0) w)) fun K6 =>
 guardP t51 false (
 F0 45 t6 1 R w fun t53 w =>
 L0 43 t53 R w fun t54 w =>
 opV Pg (Builtin.len_ #[43] 3 #[t54]) (panK R) w fun t55 w =>
 F0 45 t7 1 R w fun t56 w =>
 L0 43 t56 R w fun t57 w =>
 opV Pg (Builtin.len_ #[43] 3 #[t57]) (panK R) w fun t58 w =>
 B0 .neq 3 false t55 t58 R w fun t59 w =>
 K6 t59 w) (
 K6 undef w)
def n18c5 (t6 t41 t46:Value) (C4:World→Prop) (K5:KW) (R:RT) (w:World):Prop :=
 opV Pg (Instr.alloc 45 true (.tuple #[])) (panK R) w fun t7 w =>
 C4 w∧(
 opU Pg (Instr.storeAt 45 t6 t41) (panK R) w fun w =>
 C4 w∧(
 opU Pg (Instr.storeAt 45 t7 t46) (panK R) w fun w =>
 turnK w fun C9 w =>
 K5 t6 t7 w))
def n18c6 (t7 t41 t46:Value) (C4:World→Prop) (K5:KW) (R:RT) (w:World):Prop :=
 opV Pg (Instr.alloc 45 true (.tuple #[])) (panK R) w fun t6 w =>
 C4 w∧(
 opU Pg (Instr.storeAt 45 t6 t41) (panK R) w fun w =>
 C4 w∧(
 opU Pg (Instr.storeAt 45 t7 t46) (panK R) w fun w =>
 turnK w fun C10 w =>
 K5 t6 t7 w))
def n18c7 (t2 t3 t5:Value) (C4:World→Prop) (next3:KV) (R:RT) (w:World):Prop :=
 qV Pg C4 (Instr.fieldAt 24 t2 1) fun t37 =>
 qV Pg C4 (Instr.loadAt 22 t37) fun t38 =>
 qV Pg C4 (Instr.indexAt 22 t38 t5) fun t40 =>
 qV Pg C4 (Instr.loadAt 45 t40) fun t41 =>
 qV Pg C4 (Instr.fieldAt 24 t3 1) fun t42 =>
 qV Pg C4 (Instr.loadAt 22 t42) fun t43 =>
 qV Pg C4 (Instr.indexAt 22 t43 t5) fun t45 =>
 qV Pg C4 (Instr.loadAt 45 t45) fun t46 =>
 joinK (fun (t6:Value) (t7:Value) (w:World) =>
 n18c4 t5 t6 t7 next3 R w) fun K5 =>
 (
 opV Pg (Instr.alloc 45 true (.tuple #[])) (panK R) w fun t6 w =>
 C4 w∧(
 n18c5 t6 t41 t46 C4 K5 R w))∧(
 opV Pg (Instr.alloc 45 true (.tuple #[])) (panK R) w fun t7 w =>
 C4 w∧(
 n18c6 t7 t41 t46 C4 K5 R w))
def n18c8 (t2 t3 t5:Value) (next3:KV) (R:RT) (w:World):Prop :=
 F0 24 t2 1 R w fun t31 w =>
 L0 22 t31 R w fun t32 w =>
 opV Pg (Builtin.len_ #[22] 3 #[t32]) (panK R) w fun t33 w =>
 B0 .lss 3 false t5 t33 R w fun t34 w =>
 condP t34 (
 drawK w fun C4 w =>
 n18c7 t2 t3 t5 C4 next3 R w) (
 R (.returned (.bool true)) w)
def n18c9 (t2 t3 t13 t19:Value) (R:RT) (w:World):Prop :=
 pickK t13 (.bool true) t19 fun t20 =>
 joinK (fun (t28:Value) (w:World) =>
 pickK t20 (.bool true) t28 fun t29 =>
 condP t29 (
 R (.returned (.bool false)) w) (
 loop1 (fun t5 w next3 =>
 n18c8 t2 t3 t5 next3 R w) (.int .i64 0) w)) fun K2 =>
 guardP t20 false (
 F0 24 t2 1 R w fun t22 w =>
 L0 22 t22 R w fun t23 w =>
 opV Pg (Builtin.len_ #[22] 3 #[t23]) (panK R) w fun t24 w =>
 F0 24 t3 1 R w fun t25 w =>
 L0 22 t25 R w fun t26 w =>
 opV Pg (Builtin.len_ #[22] 3 #[t26]) (panK R) w fun t27 w =>
 B0 .neq 3 false t24 t27 R w fun t28 w =>
 K2 t28 w) (
 K2 undef w)
def n18 (t0 t1:Value) (R:RT) (w:World):Prop :=
 opV Pg (Instr.box 24 t0) (panK R) w fun t2 w =>
 opV Pg (Instr.box 24 t1) (panK R) w fun t3 w =>
 F0 24 t2 0 R w fun t9 w =>
 L0 9 t9 R w fun t10 w =>
 F0 24 t3 0 R w fun t11 w =>
 L0 9 t11 R w fun t12 w =>
 B0 .neq 9 false t10 t12 R w fun t13 w =>
 joinK (fun (t19:Value) (w:World) =>
 n18c9 t2 t3 t13 t19 R w) fun K1 =>
 guardP t13 false (
 F0 24 t2 2 R w fun t15 w =>
 L0 9 t15 R w fun t16 w =>
 F0 24 t3 2 R w fun t17 w =>
 L0 9 t17 R w fun t18 w =>
 B0 .neq 9 false t16 t18 R w fun t19 w =>
 K1 t19 w) (
 K1 undef w)
theorem n18s {t0 t1:Value} {R:RT} {w:World} (h:n18 t0 t1 R w):Calls Pg 16 #[t0,t1] w R:=by
 refine calls_of_den (args:=[t0,t1]) Tryz.func16 rfl (Nat.le_of_ble_eq_true rfl) ?_
 unfold n18 at h
 refine zs<|zr ?_
 refine zv h fun t2 w h=>?_
 refine zv h fun t3 w h=>?_
 refine zm<|zn<|zk<|zs<|zs<|sim_regionG ?_
 refine sim_seg 6 rfl ?_
 refine zv h fun t9 w h=>?_
 refine zv h fun t10 w h=>?_
 refine zv h fun t11 w h=>?_
 refine zv h fun t12 w h=>?_
 refine zb h fun t13 w h=>?_
 refine zm<|zn ?_
 refine joinK_elim h (fun K1 hK h=>?_)
 refine sim_groupJ 5 5 false [15,16,17,18,19] (fun ρ w=>K1 (ρ 19) w) rfl rfl (fun T hT=>guardP_mono h (fun h=>?_) (fun h=>?_)) (fun σ w h=>?_)
 · refine zv h fun t15 w h=>?_
   refine zv h fun t16 w h=>?_
   refine zv h fun t17 w h=>?_
   refine zv h fun t18 w h=>?_
   refine zb h fun t19 w h=>?_
   refine zn ?_
   exact zt hT h
 · exact zt hT h
 subst hK
 refine sim_seg 2 rfl ?_
 refine sim_pick h rfl rfl rfl ?_;intro t20 h
 refine zm<|zn ?_
 refine joinK_elim h (fun K2 hK h=>?_)
 refine sim_groupJ 7 12 false [22,23,24,25,26,27,28] (fun ρ w=>K2 (ρ 28) w) rfl rfl (fun T hT=>guardP_mono h (fun h=>?_) (fun h=>?_)) (fun σ w h=>?_)
 · refine zv h fun t22 w h=>?_
   refine zv h fun t23 w h=>?_
   refine zx h fun t24 w h=>?_
   refine zv h fun t25 w h=>?_
   refine zv h fun t26 w h=>?_
   refine zx h fun t27 w h=>?_
   refine zb h fun t28 w h=>?_
   refine zn ?_
   exact zt hT h
 · exact zt hT h
 subst hK
 refine sim_seg 1 rfl ?_
 refine sim_pick h rfl rfl rfl ?_;intro t29 h
 refine zn<|sim_end<|zk ?_
 refine sim_cond h rfl (fun h=>?_) (fun h=>?_)
 · refine zs<|zr<|zm<|zn<|zk<|sim_ret<|sim_then_ret ?_
   exact body_ret1 rfl rfl h
 · refine sim_skip<|zk<|zs<|zs<|zr<|zm<|zn<|zk<|sim_block ?_
   obtain ⟨I,μ,h0,hr⟩:=h
   refine sim_loop [4,5,6,7,8,30,31,32,33,34,35,36,37,38,39,40,41,42,43,44,45,46,47,48,49,50,51,52,53,54,55,56,57,58,59,60,61,62,63,64,65,66,67,68,69,70,71,72,73,74,75,76,77,78,79] (by kernel_rfl) (fun ρ w=>I (ρ 5) w) (fun ρ w=>μ (ρ 5) w) h0 (fun σ w hI=>?_)
   have h:=hr _ _ hI
   clear hr h0 hI
   refine zs<|zs<|zr<|zm ?_
   refine zv h fun t31 w h=>?_
   refine zv h fun t32 w h=>?_
   refine zx h fun t33 w h=>?_
   refine zb h fun t34 w h=>?_
   refine zn<|zk ?_
   refine sim_cond h rfl (fun h=>?_) (fun h=>?_)
   · refine sim_skip<|zk<|zs<|sim_block<|zs ?_
     obtain ⟨C4,hC,h⟩:=h
     refine sim_draw [6,7,37,38,39,40,41,42,43,44,45,46] (by kernel_rfl) (by kernel_rfl) C4 ?_
     refine ze 0 hC h fun t37 h=>?_
     refine ze 1 hC h fun t38 h=>?_
     refine zw 2 hC ?_
     refine ze 3 hC h fun t40 h=>?_
     refine ze 4 hC h fun t41 h=>?_
     refine ze 5 hC h fun t42 h=>?_
     refine ze 6 hC h fun t43 h=>?_
     refine zw 7 hC ?_
     refine ze 8 hC h fun t45 h=>?_
     refine ze 9 hC h fun t46 h=>?_
     refine joinK_elim h (fun K5 hK h=>?_)
     refine sim_dmeet [6,7] (fun ρ w=>K5 (ρ 6) (ρ 7) w) (fun T hT=>?_) (fun σ w h=>?_)
     · obtain ⟨h0,h1⟩:=h
       refine sim_dloud2 10 11 rfl rfl (by kernel_rfl) (fun _ _=>rfl) (fun _ _=>rfl) ?_ ?_
       · have h:=h0
         refine sim_val h rfl rfl (fun _ _ h _ _=>⟨rfl,h⟩) ?_;intro t6 w h
         refine zn ?_
         obtain ⟨hC,h⟩:=h
         refine ⟨_,fun _ h=>h,hC,?_⟩
         refine sim_dloud 11 rfl (by kernel_rfl) (fun _ _=>rfl) ?_
         refine sim_val h rfl rfl (fun _ _ h _ _=>⟨rfl,h⟩) ?_;intro t7 w h
         refine zn ?_
         obtain ⟨hC,h⟩:=h
         refine ⟨hC,?_⟩
         refine sim_dloud 12 rfl (by kernel_rfl) (fun _ _=>rfl) ?_
         refine sim_unit h rfl rfl (fun _ _ h _ _=>⟨rfl,h⟩) ?_;intro w h
         refine zn ?_
         obtain ⟨hC,h⟩:=h
         refine ⟨hC,?_⟩
         refine sim_dturn 13 1 rfl (by kernel_rfl) (by kernel_rfl) (fun _ _=>rfl) ?_
         refine sim_unit h rfl rfl (fun _ _ h _ _=>⟨rfl,h⟩) ?_;intro w h
         refine zn ?_
         obtain ⟨C9,hC,h⟩:=h
         refine ⟨C9,hC,?_⟩
         refine sim_dend (by kernel_rfl) ?_
         exact zt hT h
       · have h:=h1
         refine sim_val h rfl rfl (fun _ _ h _ _=>⟨rfl,h⟩) ?_;intro t7 w h
         refine zn ?_
         obtain ⟨hC,h⟩:=h
         refine ⟨_,fun _ h=>h,hC,?_⟩
         refine sim_dloud 10 rfl (by kernel_rfl) (fun _ _=>rfl) ?_
         refine sim_val h rfl rfl (fun _ _ h _ _=>⟨rfl,h⟩) ?_;intro t6 w h
         refine zn ?_
         obtain ⟨hC,h⟩:=h
         refine ⟨hC,?_⟩
         refine sim_dloud 12 rfl (by kernel_rfl) (fun _ _=>rfl) ?_
         refine sim_unit h rfl rfl (fun _ _ h _ _=>⟨rfl,h⟩) ?_;intro w h
         refine zn ?_
         obtain ⟨hC,h⟩:=h
         refine ⟨hC,?_⟩
         refine sim_dturn 13 1 rfl (by kernel_rfl) (by kernel_rfl) (fun _ _=>rfl) ?_
         refine sim_unit h rfl rfl (fun _ _ h _ _=>⟨rfl,h⟩) ?_;intro w h
         refine zn ?_
         obtain ⟨C10,hC,h⟩:=h
         refine ⟨C10,hC,?_⟩
         refine sim_dend (by kernel_rfl) ?_
         exact zt hT h
     subst hK
     refine zk<|zs<|zs<|sim_regionG ?_
     refine sim_seg 6 rfl ?_
     refine zv h fun t47 w h=>?_
     refine zv h fun t48 w h=>?_
     refine zv h fun t49 w h=>?_
     refine zv h fun t50 w h=>?_
     refine zb h fun t51 w h=>?_
     refine zm<|zn ?_
     refine joinK_elim h (fun K6 hK h=>?_)
     refine sim_groupJ 7 5 false [53,54,55,56,57,58,59] (fun ρ w=>K6 (ρ 59) w) rfl rfl (fun T hT=>guardP_mono h (fun h=>?_) (fun h=>?_)) (fun σ w h=>?_)
     · refine zv h fun t53 w h=>?_
       refine zv h fun t54 w h=>?_
       refine zx h fun t55 w h=>?_
       refine zv h fun t56 w h=>?_
       refine zv h fun t57 w h=>?_
       refine zx h fun t58 w h=>?_
       refine zb h fun t59 w h=>?_
       refine zn ?_
       exact zt hT h
     · exact zt hT h
     subst hK
     refine sim_seg 1 rfl ?_
     refine sim_pick h rfl rfl rfl ?_;intro t60 h
     refine zn<|sim_end<|zk ?_
     refine sim_cond h rfl (fun h=>?_) (fun h=>?_)
     · refine zs<|zr<|zm<|zn<|zk<|sim_ret<|sim_then_ret<|sim_block_ret<|sim_then_ret<|sim_then_ret<|sim_block_ret<|sim_then_ret ?_
       exact body_ret1 rfl rfl h
     · refine sim_skip<|zk<|zs<|zr<|zm<|zn<|zk<|sim_block ?_
       obtain ⟨I,μ,h0,hr⟩:=h
       refine sim_loop [4,8,61,62,63,64,65,66,67,68,69,70,71,72,73,74,75,76,77,78,79] (by kernel_rfl) (fun ρ w=>I (ρ 8) w) (fun ρ w=>μ (ρ 8) w) h0 (fun σ w hI=>?_)
       have h:=hr _ _ hI
       clear hr h0 hI
       refine zs<|zs<|zr<|zm ?_
       refine zv h fun t62 w h=>?_
       refine zv h fun t63 w h=>?_
       refine zx h fun t64 w h=>?_
       refine zb h fun t65 w h=>?_
       refine zn<|zk ?_
       refine sim_cond h rfl (fun h=>?_) (fun h=>?_)
       · refine sim_skip<|zk<|zs<|sim_block<|zs ?_
         obtain ⟨C8,hC,h⟩:=h
         refine sim_draw [68,69,70,71,72,73,74,75,76,77,78,79] (by kernel_rfl) (by kernel_rfl) C8 ?_
         refine ze 0 hC h fun t68 h=>?_
         refine ze 1 hC h fun t69 h=>?_
         refine zw 2 hC ?_
         refine ze 3 hC h fun t71 h=>?_
         refine ze 4 hC h fun t72 h=>?_
         refine ze 5 hC h fun t73 h=>?_
         refine ze 6 hC h fun t74 h=>?_
         refine zw 7 hC ?_
         refine ze 8 hC h fun t76 h=>?_
         refine ze 9 hC h fun t77 h=>?_
         refine sim_dloud 10 rfl (by kernel_rfl) (fun _ _=>rfl) ?_
         refine sim_call h c34 rfl (fun _ _ h _ _=>⟨rfl,h⟩) ?_;intro t78 w h
         refine zn ?_
         obtain ⟨hC,h⟩:=h
         refine ⟨hC,?_⟩
         refine ze 11 hC h fun t79 h=>?_
         refine sim_dend (by kernel_rfl) ?_
         refine zk ?_
         refine sim_cond h rfl (fun h=>?_) (fun h=>?_)
         · refine zs<|zr<|zm<|zn<|zk<|sim_ret<|sim_block_ret<|sim_then_ret<|sim_then_ret<|sim_block_ret<|sim_block_ret<|sim_then_ret<|sim_then_ret<|sim_block_ret<|sim_then_ret ?_
           exact body_ret1 rfl rfl h
         · refine sim_skip<|sim_block_normal<|zk<|zr<|zm ?_
           refine zb h fun t67 w h=>?_
           refine zm<|zn<|zk ?_
           exact ⟨rfl,h⟩
       · refine sim_exit<|sim_then_exit<|sim_then_exit<|sim_block_hit<|sim_block_normal<|zk<|zr<|zm ?_
         refine zb h fun t36 w h=>?_
         refine zm<|zn<|zk ?_
         exact ⟨rfl,h⟩
   · refine sim_exit<|sim_then_exit<|sim_then_exit<|sim_block_hit<|zk<|zs<|zr<|zm<|zn<|zk<|sim_ret ?_
     exact body_ret1 rfl rfl h
def n8 (R:RT) (w:World):Prop :=
 opV Pg (Instr.alloc 24 true (.tuple #[])) (panK R) w fun t0 w =>
 opV Pg (Instr.build 52 #[(0,(.string { data := #[110] })),(1,(.int .i64 1)),(2,(.int .i64 8)),(6,(.int .i64 255))]) (panK R) w fun t1 w =>
 opV Pg (Instr.build 78 #[(0,(.string { data := #[110] })),(1,(.int .i64 1))]) (panK R) w fun t2 w =>
 opV Pg (Instr.buildSlice 47 1 #[(0,t2)]) (panK R) w fun t3 w =>
 opV Pg (Instr.build 49 #[(1,t3)]) (panK R) w fun t4 w =>
 opV Pg (Instr.build 52 #[(0,(.string { data := #[98] })),(1,(.int .i64 4)),(7,t4)]) (panK R) w fun t5 w =>
 opV Pg (Instr.buildSlice 43 2 #[(0,t1),(1,t5)]) (panK R) w fun t6 w =>
 opV Pg (Instr.build 45 #[(0,(.string { data := #[109] })),(1,t6)]) (panK R) w fun t7 w =>
 opV Pg (Instr.buildSlice 22 1 #[(0,t7)]) (panK R) w fun t8 w =>
 opV Pg (Instr.build 24 #[(0,(.string { data := #[100] })),(2,(.string { data := #[109] })),(1,t8)]) (panK R) w fun t9 w =>
 opU Pg (Instr.storeAt 24 t0 t9) (panK R) w fun w =>
 qW Pg 24 t0 w fun r0 =>
 R (.returned r0) w
theorem n8s {R:RT} {w:World} (h:n8 R w):Calls Pg 17 #[] w R:=by
 refine calls_of_den (args:=[]) Tryz.func17 rfl (Nat.le_of_ble_eq_true rfl) ?_
 unfold n8 at h
 refine zs<|zr ?_
 refine zv h fun t0 w h=>?_
 refine zn<|zk<|zs<|zr ?_
 refine sim_build h rfl (fun _ _ h=>⟨rfl,h⟩) ?_;intro t1 w h
 refine sim_build h rfl (fun _ _ h=>⟨rfl,h⟩) ?_;intro t2 w h
 refine sim_buildSlice h rfl (fun _ _ h=>⟨rfl,h⟩) ?_;intro t3 w h
 refine sim_build h rfl (fun _ _ h=>⟨rfl,h⟩) ?_;intro t4 w h
 refine sim_build h rfl (fun _ _ h=>⟨rfl,h⟩) ?_;intro t5 w h
 refine sim_buildSlice h rfl (fun _ _ h=>⟨rfl,h⟩) ?_;intro t6 w h
 refine sim_build h rfl (fun _ _ h=>⟨rfl,h⟩) ?_;intro t7 w h
 refine sim_buildSlice h rfl (fun _ _ h=>⟨rfl,h⟩) ?_;intro t8 w h
 refine sim_build h rfl (fun _ _ h=>⟨rfl,h⟩) ?_;intro t9 w h
 refine zu h fun w h=>?_
 refine zn<|zk<|sim_ret ?_
 exact body_retC rfl rfl h
def n6c1 (t1 t2 t3 t13:Value) (R:RT) (w:World):Prop :=
 opV Pg (Instr.extract t13 0) (panK R) w fun t14 w =>
 opV Pg (Instr.extract t13 1) (panK R) w fun t15 w =>
 opV Pg (Instr.alloc 39 true (.tuple #[])) (panK R) w fun t9 w =>
 opU Pg (Instr.storeAt 39 t9 t14) (panK R) w fun w =>
 joinK (fun (t23:Value) (w:World) =>
 pickK t15 t23 (.bool false) fun t24 =>
 R (.returned t24) w) fun K1 =>
 guardP t15 true (
 L0 39 t9 R w fun t18 w =>
 opV Pg (Instr.build 39 #[(0,t1),(1,t2),(2,t3)]) (panK R) w fun t22 w =>
 B0 .eql 39 false t18 t22 R w fun t23 w =>
 K1 t23 w) (
 K1 undef w)
def n6 (t0 t1 t2 t3:Value) (R:RT) (w:World):Prop :=
 opV Pg (Instr.box 24 t0) (panK R) w fun t4 w =>
 L0 24 t4 R w fun t12 w =>
 C0 13 #[t12] R w fun t13 w =>
 n6c1 t1 t2 t3 t13 R w
theorem n6s {t0 t1 t2 t3:Value} {R:RT} {w:World} (h:n6 t0 t1 t2 t3 R w):Calls Pg 18 #[t0,t1,t2,t3] w R:=by
 refine calls_of_den (args:=[t0,t1,t2,t3]) Tryz.func18 rfl (Nat.le_of_ble_eq_true rfl) ?_
 unfold n6 at h
 refine zs<|zr ?_
 refine zv h fun t4 w h=>?_
 refine zm<|zn<|zk<|zs<|zr ?_
 refine zv h fun t12 w h=>?_
 refine zc h c13 fun t13 w h=>?_
 refine zm ?_
 refine zv h fun t14 w h=>?_
 refine zv h fun t15 w h=>?_
 refine zv h fun t9 w h=>?_
 refine zu h fun w h=>?_
 refine zm<|zn<|zk<|zs<|sim_regionG ?_
 refine sim_seg 2 rfl ?_
 refine zm<|zm<|zn ?_
 refine joinK_elim h (fun K1 hK h=>?_)
 refine sim_groupJ 6 1 true [18,19,20,21,22,23] (fun ρ w=>K1 (ρ 23) w) rfl rfl (fun T hT=>guardP_mono h (fun h=>?_) (fun h=>?_)) (fun σ w h=>?_)
 · refine zv h fun t18 w h=>?_
   refine zm<|zm<|zm ?_
   refine sim_build h rfl (fun _ _ h=>⟨rfl,h⟩) ?_;intro t22 w h
   refine zb h fun t23 w h=>?_
   refine zn ?_
   exact zt hT h
 · exact zt hT h
 subst hK
 refine sim_seg 2 rfl ?_
 refine sim_pick h rfl rfl rfl ?_;intro t24 h
 refine zm<|zn<|sim_end<|zk<|sim_ret ?_
 exact body_ret1 rfl rfl h
def n46 (t0:Value) (R:RT) (w:World):Prop :=
 opV Pg (Instr.box 45 t0) (panK R) w fun t1 w =>
 F0 45 t1 1 R w fun t3 w =>
 L0 43 t3 R w fun t4 w =>
 C0 35 #[t4] R w fun t5 w =>
 R (.returned t5) w
theorem n46s {t0:Value} {R:RT} {w:World} (h:n46 t0 R w):Calls Pg 19 #[t0] w R:=by
 refine calls_of_den (args:=[t0]) Tryz.func19 rfl (Nat.le_of_ble_eq_true rfl) ?_
 unfold n46 at h
 refine zs<|zr ?_
 refine zv h fun t1 w h=>?_
 refine zm<|zn<|zk<|zs<|zr ?_
 refine zv h fun t3 w h=>?_
 refine zv h fun t4 w h=>?_
 refine zc h c35 fun t5 w h=>?_
 refine zm<|zn<|zk<|sim_ret ?_
 exact body_ret1 rfl rfl h
def n43c1 (t1 t5 t9:Value) (R:RT) (w:World):Prop :=
 pickK t5 t9 (.bool false) fun t10 =>
 joinK (fun (t14:Value) (w:World) =>
 pickK t10 t14 (.bool false) fun t15 =>
 R (.returned t15) w) fun K2 =>
 guardP t10 true (
 F0 52 t1 1 R w fun t12 w =>
 L0 46 t12 R w fun t13 w =>
 B0 .neq 46 true t13 (.int .i64 11) R w fun t14 w =>
 K2 t14 w) (
 K2 undef w)
def n43 (t0:Value) (R:RT) (w:World):Prop :=
 opV Pg (Instr.box 52 t0) (panK R) w fun t1 w =>
 F0 52 t1 1 R w fun t3 w =>
 L0 46 t3 R w fun t4 w =>
 B0 .neq 46 true t4 (.int .i64 2) R w fun t5 w =>
 joinK (fun (t9:Value) (w:World) =>
 n43c1 t1 t5 t9 R w) fun K1 =>
 guardP t5 true (
 F0 52 t1 1 R w fun t7 w =>
 L0 46 t7 R w fun t8 w =>
 B0 .neq 46 true t8 (.int .i64 10) R w fun t9 w =>
 K1 t9 w) (
 K1 undef w)
theorem n43s {t0:Value} {R:RT} {w:World} (h:n43 t0 R w):Calls Pg 20 #[t0] w R:=by
 refine calls_of_den (args:=[t0]) Tryz.func20 rfl (Nat.le_of_ble_eq_true rfl) ?_
 unfold n43 at h
 refine zs<|zr ?_
 refine zv h fun t1 w h=>?_
 refine zm<|zn<|zk<|zs<|sim_regionG ?_
 refine sim_seg 4 rfl ?_
 refine zv h fun t3 w h=>?_
 refine zv h fun t4 w h=>?_
 refine zb h fun t5 w h=>?_
 refine zm<|zn ?_
 refine joinK_elim h (fun K1 hK h=>?_)
 refine sim_groupJ 3 3 true [7,8,9] (fun ρ w=>K1 (ρ 9) w) rfl rfl (fun T hT=>guardP_mono h (fun h=>?_) (fun h=>?_)) (fun σ w h=>?_)
 · refine zv h fun t7 w h=>?_
   refine zv h fun t8 w h=>?_
   refine zb h fun t9 w h=>?_
   refine zn ?_
   exact zt hT h
 · exact zt hT h
 subst hK
 refine sim_seg 2 rfl ?_
 refine sim_pick h rfl rfl rfl ?_;intro t10 h
 refine zm<|zn ?_
 refine joinK_elim h (fun K2 hK h=>?_)
 refine sim_groupJ 3 8 true [12,13,14] (fun ρ w=>K2 (ρ 14) w) rfl rfl (fun T hT=>guardP_mono h (fun h=>?_) (fun h=>?_)) (fun σ w h=>?_)
 · refine zv h fun t12 w h=>?_
   refine zv h fun t13 w h=>?_
   refine zb h fun t14 w h=>?_
   refine zn ?_
   exact zt hT h
 · exact zt hT h
 subst hK
 refine sim_seg 2 rfl ?_
 refine sim_pick h rfl rfl rfl ?_;intro t15 h
 refine zm<|zn<|sim_end<|zk<|sim_ret ?_
 exact body_ret1 rfl rfl h
def n86c1 (t1 t2 t3 t14:Value) (C2:World→Prop) (R:RT) (w:World):Prop :=
 qV Pg C2 (Instr.fieldAt 24 t3 1) fun t34 =>
 qV Pg C2 (Instr.loadAt 22 t34) fun t35 =>
 qV Pg C2 (Instr.indexAt 22 t35 t1) fun t37 =>
 qV Pg C2 (Instr.fieldAt 45 t37 0) fun t38 =>
 qV Pg C2 (Instr.loadAt 9 t38) fun t39 =>
 callV Pg t2 #[t14] (panK R) w fun t33 w =>
 narrowK C2 w fun C3 w =>
 qV Pg C3 (Instr.lookup 62 t33 t39 false) fun t40 =>
 R (.returned (.tuple #[t40,(.int .i64 0)])) w
def n86c2 (t1 t2 t3 t14:Value) (R:RT) (w:World):Prop :=
 B0 .lss 3 true t1 (.int .i64 0) R w fun t22 w =>
 joinK (fun (t28:Value) (w:World) =>
 pickK t22 (.bool true) t28 fun t29 =>
 condP t29 (
 R (.returned (.tuple #[(.int .i64 0),(.int .i64 3)])) w) (
 drawK w fun C2 w =>
 n86c1 t1 t2 t3 t14 C2 R w)) fun K1 =>
 guardP t22 false (
 F0 24 t3 1 R w fun t25 w =>
 L0 22 t25 R w fun t26 w =>
 opV Pg (Builtin.len_ #[22] 3 #[t26]) (panK R) w fun t27 w =>
 B0 .geq 3 false t1 t27 R w fun t28 w =>
 K1 t28 w) (
 K1 undef w)
def n86c3 (t1 t2 t3 t13:Value) (R:RT) (w:World):Prop :=
 opV Pg (Instr.extract t13 0) (panK R) w fun t14 w =>
 opV Pg (Instr.extract t13 1) (panK R) w fun t15 w =>
 opV Pg (Instr.extract t13 2) (panK R) w fun t16 w =>
 opV Pg (Instr.alloc 39 true (.tuple #[])) (panK R) w fun t9 w =>
 opU Pg (Instr.storeAt 39 t9 t15) (panK R) w fun w =>
 condP t16 (
 R (.returned (.tuple #[(.int .i64 0),(.int .i64 2)])) w) (
 n86c2 t1 t2 t3 t14 R w)
def n86 (t0 t1 t2:Value) (R:RT) (w:World):Prop :=
 opV Pg (Instr.box 24 t0) (panK R) w fun t3 w =>
 L0 24 t3 R w fun t12 w =>
 C0 31 #[t12] R w fun t13 w =>
 n86c3 t1 t2 t3 t13 R w
theorem n86s {t0 t1 t2:Value} {R:RT} {w:World} (h:n86 t0 t1 t2 R w):Calls Pg 21 #[t0,t1,t2] w R:=by
 refine calls_of_den (args:=[t0,t1,t2]) Tryz.func21 rfl (Nat.le_of_ble_eq_true rfl) ?_
 unfold n86 at h
 refine zs<|zr ?_
 refine zv h fun t3 w h=>?_
 refine zm<|zm<|zn<|zk<|zs<|zr ?_
 refine zv h fun t12 w h=>?_
 refine zc h c31 fun t13 w h=>?_
 refine zm ?_
 refine zv h fun t14 w h=>?_
 refine zv h fun t15 w h=>?_
 refine zv h fun t16 w h=>?_
 refine zv h fun t9 w h=>?_
 refine zm ?_
 refine zu h fun w h=>?_
 refine zm<|zn<|zk<|zs<|sim_block<|zs<|zr<|zm<|zm<|zn<|zk ?_
 refine sim_cond h rfl (fun h=>?_) (fun h=>?_)
 · refine zs<|zr<|zm<|zm<|zm<|zn<|zk<|sim_ret<|sim_block_ret<|sim_then_ret ?_
   exact body_ret2 rfl rfl rfl h
 · refine zs<|sim_regionG ?_
   refine sim_seg 3 rfl ?_
   refine zm ?_
   refine zb h fun t22 w h=>?_
   refine zm<|zn ?_
   refine joinK_elim h (fun K1 hK h=>?_)
   refine sim_groupJ 5 2 false [24,25,26,27,28] (fun ρ w=>K1 (ρ 28) w) rfl rfl (fun T hT=>guardP_mono h (fun h=>?_) (fun h=>?_)) (fun σ w h=>?_)
   · refine zm ?_
     refine zv h fun t25 w h=>?_
     refine zv h fun t26 w h=>?_
     refine zx h fun t27 w h=>?_
     refine zb h fun t28 w h=>?_
     refine zn ?_
     exact zt hT h
   · exact zt hT h
   subst hK
   refine sim_seg 2 rfl ?_
   refine sim_pick h rfl rfl rfl ?_;intro t29 h
   refine zm<|zn<|sim_end<|zk ?_
   refine sim_cond h rfl (fun h=>?_) (fun h=>?_)
   · refine zs<|zr<|zm<|zm<|zm<|zn<|zk<|sim_ret<|sim_block_ret<|sim_then_ret ?_
     exact body_ret2 rfl rfl rfl h
   · refine sim_skip<|sim_block_normal<|zk<|zs ?_
     obtain ⟨C2,hC,h⟩:=h
     refine sim_draw [6,7,31,32,33,34,35,36,37,38,39,40] (by kernel_rfl) (by kernel_rfl) C2 ?_
     refine zw 0 hC ?_
     refine zw 1 hC ?_
     refine ze 3 hC h fun t34 h=>?_
     refine ze 4 hC h fun t35 h=>?_
     refine zw 5 hC ?_
     refine ze 6 hC h fun t37 h=>?_
     refine ze 7 hC h fun t38 h=>?_
     refine ze 8 hC h fun t39 h=>?_
     refine sim_dnarrow 2 rfl (by kernel_rfl) (fun _ _=>rfl) ?_
     refine sim_callV h rfl rfl (fun _ _ h _ _=>⟨rfl,h⟩) ?_;intro t33 w h
     refine zn ?_
     obtain ⟨C3,hs,hC,h⟩:=h
     refine ⟨C3,hs,hC,?_⟩
     refine ze 9 hC h fun t40 h=>?_
     refine zw 10 hC ?_
     refine zw 11 hC ?_
     refine sim_dend (by kernel_rfl) ?_
     refine zk<|sim_ret ?_
     exact body_ret2 rfl rfl rfl h
def n40 (t0:Value) (R:RT) (w:World):Prop :=
 opN Pg (nilN t0) (panK R) w fun t4 w =>
 F0 65 t4 1 R w fun t5 w =>
 L0 62 t5 R w fun t6 w =>
 R (.returned t6) w
theorem n40s {t0:Value} {R:RT} {w:World} (h:n40 t0 R w):Calls Pg 22 #[t0] w R:=by
 refine calls_of_den (args:=[t0]) Tryz.func22 rfl (Nat.le_of_ble_eq_true rfl) ?_
 unfold n40 at h
 refine zs<|zr<|zm<|zn<|zk<|zs<|zr<|zm ?_
 refine sim_next h rfl rfl (fun _ _ h=>⟨rfl,h⟩) ?_;intro t4 w h
 refine zv h fun t5 w h=>?_
 refine zv h fun t6 w h=>?_
 refine zm<|zn<|zk<|sim_ret ?_
 exact body_ret1 rfl rfl h
end Go.Proofs.YtiajhbbmgglmlaaGreat
namespace Go.Proofs.YtiajhbbmgglmlaaGreat
open Sw
open Go.RowKit (intOf)
def numberB (f:FieldD):Bool:=f.kind == 1||f.kind == 2||f.kind == 3
def hasValueB (f:FieldD):Bool:=f.kind != 2&&f.kind != 10&&f.kind != 11
def highOf (f:FieldD):Int:=if f.kind == 2 then f.low else f.high
abbrev rangeVal (lo hi:Int):Value := .agg #[.int .i64 lo,.int .i64 hi]
theorem Number_ret (w0:World) (v:Value) (f:FieldD) (hf:FieldVal w0 v f):Ret Pg 64 #[v] w0 fun r w'=>r = .bool (numberB f)∧Ext w0 w':=by
 obtain ⟨tv,cv,rfl,hT,hC⟩:=hf
 refine n44s (R:=retR _) ?_;unfold n44
 simp (disch:=try exact DI) only [↓PR,QR,Int.reduceBEq,Int.reduceBNe,Int.reduceLT,Int.reduceLE,Int.reduceGT,Int.reduceGE,Int.reduceNeg,↓n44c1]
 exact ⟨by first | trivial | rfl,ee⟩
theorem rNumber_ret (w0:World) (v:Value) (f:FieldD) (hf:FieldVal w0 v f):Ret Pg 60 #[v] w0 fun r w'=>r = .bool (numberB f)∧Ext w0 w':=by
 obtain ⟨tv,cv,rfl,hT,hC⟩:=hf
 refine n21s (R:=retR _) ?_;unfold n21
 simp (disch:=try exact DI) only [↓PR,QR,Int.reduceBEq,Int.reduceBNe,Int.reduceLT,Int.reduceLE,Int.reduceGT,Int.reduceGE,Int.reduceNeg,Sw.joinK_eq]
 refine ⟨?_,(Ext.refl _).alloc _⟩
 congr 1
 unfold numberB
 rw [Bool.eq_iff_iff]
 simp
 omega
theorem HasValue_ret (w0:World) (v:Value) (f:FieldD) (hf:FieldVal w0 v f):Ret Pg 20 #[v] w0 fun r w'=>r = .bool (hasValueB f)∧Ext w0 w':=by
 obtain ⟨tv,cv,rfl,hT,hC⟩:=hf
 refine n43s (R:=retR _) ?_;unfold n43
 simp (disch:=try exact DI) only [↓PR,QR,Int.reduceBEq,Int.reduceBNe,Int.reduceLT,Int.reduceLE,Int.reduceGT,Int.reduceGE,Int.reduceNeg,↓n43c1]
 exact ⟨by first | trivial | rfl,ee⟩
theorem rRange_ret (w0:World) (v:Value) (f:FieldD) (hf:FieldVal w0 v f):Ret Pg 62 #[v] w0 fun r w'=>r = .tuple #[.int .i64 f.low,.int .i64 (highOf f)]∧Ext w0 w':=by
 obtain ⟨tv,cv,rfl,hT,hC⟩:=hf
 refine n22s (R:=retR _) ?_;unfold n22
 simp (disch:=try exact DI) only [↓PR,QR,Int.reduceBEq,Int.reduceBNe,Int.reduceLT,Int.reduceLE,Int.reduceGT,Int.reduceGE,Int.reduceNeg,↓n22c1,↓n22c2]
 unfold highOf
 cases f.kind == 2
 · simp (disch:=try exact DI) only [↓PR,QR,Int.reduceBEq,Int.reduceBNe,Int.reduceLT,Int.reduceLE,Int.reduceGT,Int.reduceGE,Int.reduceNeg]
   refine drawK_intro ?_
   simp (disch:=try exact DI) only [↓PR,QR,Int.reduceBEq,Int.reduceBNe,Int.reduceLT,Int.reduceLE,Int.reduceGT,Int.reduceGE,Int.reduceNeg,↓n22c1,↓n22c2]
   exact ⟨by first | trivial | rfl,ee⟩
 · simp (disch:=try exact DI) only [↓PR,QR,Int.reduceBEq,Int.reduceBNe,Int.reduceLT,Int.reduceLE,Int.reduceGT,Int.reduceGE,Int.reduceNeg]
   refine drawK_intro ?_
   simp (disch:=try exact DI) only [↓PR,QR,Int.reduceBEq,Int.reduceBNe,Int.reduceLT,Int.reduceLE,Int.reduceGT,Int.reduceGE,Int.reduceNeg,↓n22c1,↓n22c2]
   exact ⟨by first | trivial | rfl,ee⟩
theorem Range_ret (w0:World) (v:Value) (f:FieldD) (hf:FieldVal w0 v f):Ret Pg 47 #[v] w0 fun r w'=>r = .tuple #[if numberB f then rangeVal f.low (highOf f) else rangeVal 0 0,.int .i64 (if numberB f then 0 else 2)]∧Ext w0 w':=by
 obtain ⟨tv,cv,rfl,hT,hC⟩:=hf
 refine n45s (R:=retR _) ?_;unfold n45
 simp (disch:=try exact DI) only [↓PR,QR,Int.reduceBEq,Int.reduceBNe,Int.reduceLT,Int.reduceLE,Int.reduceGT,Int.reduceGE,Int.reduceNeg,↓n45c1,↓n45c2,↓n45c3,↓n45c4]
 refine zcr (Number_ret _ _ f ⟨tv,cv,rfl,TermsOf.ext hT ee,CasesOf.ext hC ee⟩) fun w1 e1=>?_
 have s1:=e1.size
 try simp only [World.size_alloc,World.size_setCell,World.size_drew,World.putObj_size,Sw.putW_size] at s1
 cases hn:numberB f with
 | false =>
  simp (disch:=try exact DI) only [↓PR,QR,Int.reduceBEq,Int.reduceBNe,Int.reduceLT,Int.reduceLE,Int.reduceGT,Int.reduceGE,Int.reduceNeg,↓n45c1,↓n45c2,↓n45c3,↓n45c4,e1.cellQ,e1.frozenQ]
  exact ⟨by first | trivial | rfl,ee⟩
 | true =>
  simp (disch:=try exact DI) only [↓PR,QR,Int.reduceBEq,Int.reduceBNe,Int.reduceLT,Int.reduceLE,Int.reduceGT,Int.reduceGE,Int.reduceNeg,↓n45c1,↓n45c2,↓n45c3,↓n45c4,e1.cellQ,e1.frozenQ]
  unfold highOf
  cases f.kind == 2
  · simp (disch:=try exact DI) only [↓PR,QR,Int.reduceBEq,Int.reduceBNe,Int.reduceLT,Int.reduceLE,Int.reduceGT,Int.reduceGE,Int.reduceNeg,↓n45c1,↓n45c2,↓n45c3,↓n45c4,e1.cellQ,e1.frozenQ]
    exact ⟨by first | trivial | rfl,ee⟩
  · simp (disch:=try exact DI) only [↓PR,QR,Int.reduceBEq,Int.reduceBNe,Int.reduceLT,Int.reduceLE,Int.reduceGT,Int.reduceGE,Int.reduceNeg,↓n45c1,↓n45c2,↓n45c3,↓n45c4,e1.cellQ,e1.frozenQ]
    exact ⟨by first | trivial | rfl,ee⟩
theorem found_Field_ret (w0:World) (v:Value) (l:List FieldD) (g:FuncId) (caps:Array Value) (p:FieldD→Bool) (hs:FieldsOf w0 v l) (hg:Callable Pg g) (hc:Tests w0 FieldVal g caps p l) :
 Ret Pg 76 #[v,.func (.func g) #[] caps] w0 fun r w'=>r = .tuple #[.int .i64 (if idx p l < 0 then 0 else idx p l),.bool (l.any p)]∧Ext w0 w':=by
 refine n62s (R:=retR _) ?_;unfold n62
 refine zcr (IndexFunc_Field_ret _ _ l g caps p hs hg hc) fun w1 e1=>?_
 have s1:=e1.size
 try simp only [World.size_alloc,World.size_setCell,World.size_drew,World.putObj_size,Sw.putW_size] at s1
 simp (disch:=try exact DI) only [↓PR,QR,Int.reduceBEq,Int.reduceBNe,Int.reduceLT,Int.reduceLE,Int.reduceGT,Int.reduceGE,Int.reduceNeg,↓n62c1]
 exact ⟨by rw [idx_neg],e1⟩
def idx0 {α:Type} (p:α→Bool) (l:List α):Int:=if idx p l < 0 then 0 else idx p l
theorem FieldS1_ret (w0:World) (v:Value) (f:FieldD) (pb:Nat) (s:ByteArray) (hf:FieldVal w0 v f) (hp:w0.cell? ⟨pb,0,none⟩=some (.string s)):Ret Pg 77 #[v,.pointer (some ⟨pb,0,none⟩)] w0 fun r w'=>r = .bool (decide (f.name=s))∧Ext w0 w':=by
 obtain ⟨tv,cv,rfl,hT,hC⟩:=hf
 have hb:=World.block_lt_of_cell? w0 _ hp
 simp only at hb
 refine n42s (R:=retR _) ?_;unfold n42
 simp (disch:=try exact DI) only [↓PR,QR,Int.reduceBEq,Int.reduceBNe,Int.reduceLT,Int.reduceLE,Int.reduceGT,Int.reduceGE,Int.reduceNeg,Sw.joinK_eq,hp]
 exact ⟨by first | trivial | rfl,ee⟩
theorem Field_ret (w0:World) (v:Value) (m:MsgD) (s:ByteArray) (hm:MsgVal w0 v m):Ret Pg 67 #[v,.string s] w0 fun r w'=>r = .tuple #[.int .i64 (idx0 (fun f=>decide (f.name=s)) m.fields),.bool (m.fields.any fun f=>decide (f.name=s))]∧Ext w0 w':=by
 obtain ⟨fv,rfl,hF⟩:=hm
 refine n41s (R:=retR _) ?_;unfold n41
 simp (disch:=try exact DI) only [↓PR,QR,Int.reduceBEq,Int.reduceBNe,Int.reduceLT,Int.reduceLE,Int.reduceGT,Int.reduceGE,Int.reduceNeg,Sw.joinK_eq]
 refine callK_ret (found_Field_ret _ _ m.fields _ _ (fun f=>decide (f.name=s)) (hF.ext ee) c77 ?_) ?_
 · intro w v f hf e hv
   exact FieldS1_ret w v f _ s hv (e.cell (by simp (disch:=try exact DI) only [↓PR,QR,Int.reduceBEq,Int.reduceBNe,Int.reduceLT,Int.reduceLE,Int.reduceGT,Int.reduceGE,Int.reduceNeg]))
 rintro _ w1 ⟨rfl,e1⟩
 simp (disch:=try exact DI) only [↓PR,QR,Int.reduceBEq,Int.reduceBNe,Int.reduceLT,Int.reduceLE,Int.reduceGT,Int.reduceGE,Int.reduceNeg,Sw.joinK_eq]
 exact ⟨by first | trivial | rfl,ee⟩
end Go.Proofs.YtiajhbbmgglmlaaGreat
namespace Go.Proofs.YtiajhbbmgglmlaaGreat
open Sw
def n25c1 (t2 t6 t8:Value) (K3:KV) (R:RT) (w:World):Prop :=
 F0 24 t2 1 R w fun t29 w =>
 L0 22 t29 R w fun t30 w =>
 X0 22 t30 t6 R w fun t32 w =>
 F0 45 t32 1 R w fun t33 w =>
 L0 43 t33 R w fun t34 w =>
 X0 43 t34 t8 R w fun t36 w =>
 F0 52 t36 4 R w fun t37 w =>
 L0 4 t37 R w fun t38 w =>
 opV Pg (Op.unary .not t38) (panK R) w fun t39 w =>
 K3 t39 w
def n25c2 (t2 t5 t6 t7 t10 t46:Value) (C5:World→Prop) (next4:KW) (R:RT) (w:World):Prop :=
 joinK (fun (t64:Value) (w:World) =>
 pickK t7 t64 (.bool false) fun t65 =>
 B0 .add 3 true t10 (.int .i64 1) R w fun t52 w =>
 next4 t65 t52 w) fun K6 =>
 guardP t7 true (
 qV Pg C5 (Instr.loadAt 24 t2) fun t56 =>
 qV Pg C5 (Instr.indexAt 69 t46 t10) fun t59 =>
 qV Pg C5 (Instr.loadAt 9 t59) fun t60 =>
 C0 26 #[t56,t60,t6] R w fun t62 w =>
 C5 w∧(
 qV Pg C5 (Instr.indexAt 33 t5 t62) fun t63 =>
 qV Pg C5 (Instr.loadAt 4 t63) fun t64 =>
 K6 t64 w)) (
 K6 undef w)
def n25c3 (t5 t6 t7:Value) (next1:KW) (R:RT) (w:World):Prop :=
 opV Pg (Instr.buildSlice 33 1 #[(0,t7)]) (panK R) w fun t68 w =>
 opV Pg (Builtin.append_ #[33,33] 33 #[t5,t68]) (panK R) w fun t69 w =>
 B0 .add 3 true t6 (.int .i64 1) R w fun t15 w =>
 next1 t69 t15 w
def n25c4 (t2 t5 t6 t7 t10 t46:Value) (next1:KW) (next4:KW) (R:RT) (w:World):Prop :=
 opV Pg (Builtin.len_ #[69] 3 #[t46]) (panK R) w fun t49 w =>
 B0 .lss 3 false t10 t49 R w fun t50 w =>
 condP t50 (
 drawK w fun C5 w =>
 n25c2 t2 t5 t6 t7 t10 t46 C5 next4 R w) (
 n25c3 t5 t6 t7 next1 R w)
def n25c5 (t2 t5 t6 t7:Value) (next1:KW) (R:RT) (w:World):Prop :=
 F0 24 t2 1 R w fun t41 w =>
 L0 22 t41 R w fun t42 w =>
 X0 22 t42 t6 R w fun t44 w =>
 L0 45 t44 R w fun t45 w =>
 C0 25 #[t45] R w fun t46 w =>
 loop2 (fun t7 t10 w next4 =>
 n25c4 t2 t5 t6 t7 t10 t46 next1 next4 R w) t7 (.int .i64 0) w
def n25c6 (t2 t6 t7 t8:Value) (next2:KW) (R:RT) (w:World):Prop :=
 joinK (fun (t39:Value) (w:World) =>
 pickK t7 t39 (.bool false) fun t40 =>
 B0 .add 3 true t8 (.int .i64 1) R w fun t26 w =>
 next2 t40 t26 w) fun K3 =>
 guardP t7 true (
 n25c1 t2 t6 t8 K3 R w) (
 K3 undef w)
def n25c7 (t2 t5 t6 t7 t8:Value) (next1:KW) (next2:KW) (R:RT) (w:World):Prop :=
 F0 24 t2 1 R w fun t17 w =>
 L0 22 t17 R w fun t18 w =>
 X0 22 t18 t6 R w fun t20 w =>
 F0 45 t20 1 R w fun t21 w =>
 L0 43 t21 R w fun t22 w =>
 opV Pg (Builtin.len_ #[43] 3 #[t22]) (panK R) w fun t23 w =>
 B0 .lss 3 false t8 t23 R w fun t24 w =>
 condP t24 (
 n25c6 t2 t6 t7 t8 next2 R w) (
 n25c5 t2 t5 t6 t7 next1 R w)
def n25c8 (t1 t2 t5 t6:Value) (next1:KW) (R:RT) (w:World):Prop :=
 B0 .lss 3 false t6 t1 R w fun t13 w =>
 condP t13 (
 loop2 (fun t7 t8 w next2 =>
 n25c7 t2 t5 t6 t7 t8 next1 next2 R w) (.bool true) (.int .i64 0) w) (
 R (.returned t5) w)
def n25 (t0 t1:Value) (R:RT) (w:World):Prop :=
 opV Pg (Instr.box 24 t0) (panK R) w fun t2 w =>
 loop2 (fun t5 t6 w next1 =>
 n25c8 t1 t2 t5 t6 next1 R w) (Value.slice none 0 0) (.int .i64 0) w
theorem n25s {t0 t1:Value} {R:RT} {w:World} (h:n25 t0 t1 R w):Calls Pg 11 #[t0,t1] w R:=by
 refine calls_of_den (args:=[t0,t1]) Tryz.func11 rfl (Nat.le_of_ble_eq_true rfl) ?_
 unfold n25 at h
 refine zs<|zr ?_
 refine zv h fun t2 w h=>?_
 refine zm<|zn<|zk<|zs<|zr<|zm<|zn<|zk<|zs<|zs<|zr<|zm<|zn<|zk<|sim_block ?_
 obtain ⟨I,μ,h0,hr⟩:=h
 refine sim_loop [5,6,7,8,9,10,11,12,13,14,15,16,17,18,19,20,21,22,23,24,25,26,27,28,29,30,31,32,33,34,35,36,37,38,39,40,41,42,43,44,45,46,47,48,49,50,51,52,53,54,55,56,57,58,59,60,61,62,63,64,65,66,67,68,69] (by kernel_rfl) (fun ρ w=>I (ρ 5) (ρ 6) w) (fun ρ w=>μ (ρ 5) (ρ 6) w) h0 (fun σ w hI=>?_)
 have h:=hr _ _ _ hI
 clear hr h0 hI
 refine zs<|zs<|zr<|zm<|zm ?_
 refine zb h fun t13 w h=>?_
 refine zn<|zk ?_
 refine sim_cond h rfl (fun h=>?_) (fun h=>?_)
 · refine sim_skip<|zk<|zs<|sim_block<|zs<|zr<|zm<|zn<|zk<|zs<|zs<|zr<|zm<|zn<|zk<|sim_block ?_
   obtain ⟨I,μ,h0,hr⟩:=h
   refine sim_loop [7,8,16,17,18,19,20,21,22,23,24,25,26,27,28,29,30,31,32,33,34,35,36,37,38,39,40] (by kernel_rfl) (fun ρ w=>I (ρ 7) (ρ 8) w) (fun ρ w=>μ (ρ 7) (ρ 8) w) h0 (fun σ w hI=>?_)
   have h:=hr _ _ _ hI
   clear hr h0 hI
   refine zs<|zs<|zr<|zm ?_
   refine zv h fun t17 w h=>?_
   refine zv h fun t18 w h=>?_
   refine zm ?_
   refine zv h fun t20 w h=>?_
   refine zv h fun t21 w h=>?_
   refine zv h fun t22 w h=>?_
   refine zx h fun t23 w h=>?_
   refine zb h fun t24 w h=>?_
   refine zn<|zk ?_
   refine sim_cond h rfl (fun h=>?_) (fun h=>?_)
   · refine sim_skip<|zk<|zs<|sim_block<|sim_regionG ?_
     refine sim_seg 2 rfl ?_
     refine zm<|zm<|zn ?_
     refine joinK_elim h (fun K3 hK h=>?_)
     refine sim_groupJ 11 1 true [29,30,31,32,33,34,35,36,37,38,39] (fun ρ w=>K3 (ρ 39) w) rfl rfl (fun T hT=>guardP_mono h (fun h=>?_) (fun h=>?_)) (fun σ w h=>?_)
     · refine zv h fun t29 w h=>?_
       refine zv h fun t30 w h=>?_
       refine zm ?_
       refine zv h fun t32 w h=>?_
       refine zv h fun t33 w h=>?_
       refine zv h fun t34 w h=>?_
       refine zm ?_
       refine zv h fun t36 w h=>?_
       refine zv h fun t37 w h=>?_
       refine zv h fun t38 w h=>?_
       refine zv h fun t39 w h=>?_
       refine zn ?_
       exact zt hT h
     · exact zt hT h
     subst hK
     refine sim_seg 2 rfl ?_
     refine sim_pick h rfl rfl rfl ?_;intro t40 h
     refine zm<|zn<|sim_end<|sim_block_normal<|zk<|zr<|zm ?_
     refine zb h fun t26 w h=>?_
     refine zm<|zn<|zk ?_
     exact ⟨rfl,h⟩
   · refine sim_exit<|sim_then_exit<|sim_then_exit<|sim_block_hit<|zk<|zs<|zr ?_
     refine zv h fun t41 w h=>?_
     refine zv h fun t42 w h=>?_
     refine zm ?_
     refine zv h fun t44 w h=>?_
     refine zv h fun t45 w h=>?_
     refine zc h c25 fun t46 w h=>?_
     refine zm<|zn<|zk<|zs<|zs<|zr<|zm<|zn<|zk<|sim_block ?_
     obtain ⟨I,μ,h0,hr⟩:=h
     refine sim_loop [7,10,47,48,49,50,51,52,53,54,55,56,57,58,59,60,61,62,63,64,65] (by kernel_rfl) (fun ρ w=>I (ρ 7) (ρ 10) w) (fun ρ w=>μ (ρ 7) (ρ 10) w) h0 (fun σ w hI=>?_)
     have h:=hr _ _ _ hI
     clear hr h0 hI
     refine zs<|zs<|zr<|zm<|zm ?_
     refine zx h fun t49 w h=>?_
     refine zb h fun t50 w h=>?_
     refine zn<|zk ?_
     refine sim_cond h rfl (fun h=>?_) (fun h=>?_)
     · refine sim_skip<|zk<|zs<|sim_block ?_
       obtain ⟨C5,hC,h⟩:=h
       refine sim_draw [7,53,54,55,56,57,58,59,60,61,62,63,64,65] (by kernel_rfl) (by kernel_rfl) C5 ?_
       refine zw 0 hC ?_
       refine zw 1 hC ?_
       refine joinK_elim h (fun K6 hK h=>?_)
       refine sim_djoin 2 [11,10,9,8,7,6,5,4,3,2,1,0] [55,56,57,58,59,60,61,62,63,64] (fun ρ w=>K6 (ρ 64) w) (fun _ hT=>?_) (fun σ w hC h=>?_)
       · rcases Sw.guardP_cases h with ⟨hb,h⟩ | ⟨hb,h⟩
         · refine sim_dsilent 2 hC rfl (by kernel_rfl) (by kernel_rfl) (fun _ _=>Sw.guardP_true hb) rfl (Sw.move_run rfl) ?_
           obtain ⟨t56,hv,h⟩:=h
           refine sim_dsilent 3 hC rfl (by kernel_rfl) (by kernel_rfl) (fun _ _=>Sw.guardP_true hb) rfl (Sw.qV_run rfl hv) ?_
           refine sim_dsilent 4 hC rfl (by kernel_rfl) (by kernel_rfl) (fun _ _=>Sw.guardP_true hb) rfl (Sw.move_run rfl) ?_
           refine sim_dsilent 5 hC rfl (by kernel_rfl) (by kernel_rfl) (fun _ _=>Sw.guardP_true hb) rfl (Sw.move_run rfl) ?_
           obtain ⟨t59,hv,h⟩:=h
           refine sim_dsilent 6 hC rfl (by kernel_rfl) (by kernel_rfl) (fun _ _=>Sw.guardP_true hb) rfl (Sw.qV_run rfl hv) ?_
           obtain ⟨t60,hv,h⟩:=h
           refine sim_dsilent 7 hC rfl (by kernel_rfl) (by kernel_rfl) (fun _ _=>Sw.guardP_true hb) rfl (Sw.qV_run rfl hv) ?_
           refine sim_dsilent 8 hC rfl (by kernel_rfl) (by kernel_rfl) (fun _ _=>Sw.guardP_true hb) rfl (Sw.move_run rfl) ?_
           refine sim_dloud 9 rfl (by kernel_rfl) (fun _ _=>Sw.guardP_true hb) ?_
           refine sim_call h c26 rfl (fun _ _ h _ _=>⟨rfl,h⟩) ?_;intro t62 w h
           refine zn ?_
           obtain ⟨hC,h⟩:=h
           refine ⟨hC,?_⟩
           obtain ⟨t63,hv,h⟩:=h
           refine sim_dsilent 10 hC rfl (by kernel_rfl) (by kernel_rfl) (fun _ _=>Sw.guardP_true hb) rfl (Sw.qV_run rfl hv) ?_
           obtain ⟨t64,hv,h⟩:=h
           refine sim_dsilent 11 hC rfl (by kernel_rfl) (by kernel_rfl) (fun _ _=>Sw.guardP_true hb) rfl (Sw.qV_run rfl hv) ?_
           exact hT _ _ (by repeat (first | exact Sw.Fr.refl _ _ | refine Sw.Fr.put rfl ?_ | refine Sw.Fr.put_none ?_ | refine Sw.Fr.mix rfl ?_ | refine Sw.Fr.skipAll rfl ?_)) hC h
         · refine sim_dskip 2 hC rfl (by kernel_rfl) (by kernel_rfl) (fun _ _=>Sw.guardP_false hb) ?_
           refine sim_dskip 3 hC rfl (by kernel_rfl) (by kernel_rfl) (fun _ _=>Sw.guardP_false hb) ?_
           refine sim_dskip 4 hC rfl (by kernel_rfl) (by kernel_rfl) (fun _ _=>Sw.guardP_false hb) ?_
           refine sim_dskip 5 hC rfl (by kernel_rfl) (by kernel_rfl) (fun _ _=>Sw.guardP_false hb) ?_
           refine sim_dskip 6 hC rfl (by kernel_rfl) (by kernel_rfl) (fun _ _=>Sw.guardP_false hb) ?_
           refine sim_dskip 7 hC rfl (by kernel_rfl) (by kernel_rfl) (fun _ _=>Sw.guardP_false hb) ?_
           refine sim_dskip 8 hC rfl (by kernel_rfl) (by kernel_rfl) (fun _ _=>Sw.guardP_false hb) ?_
           refine sim_dskip 9 hC rfl (by kernel_rfl) (by kernel_rfl) (fun _ _=>Sw.guardP_false hb) ?_
           refine sim_dskip 10 hC rfl (by kernel_rfl) (by kernel_rfl) (fun _ _=>Sw.guardP_false hb) ?_
           refine sim_dskip 11 hC rfl (by kernel_rfl) (by kernel_rfl) (fun _ _=>Sw.guardP_false hb) ?_
           exact hT _ _ (by repeat (first | exact Sw.Fr.refl _ _ | refine Sw.Fr.put rfl ?_ | refine Sw.Fr.put_none ?_ | refine Sw.Fr.mix rfl ?_ | refine Sw.Fr.skipAll rfl ?_)) hC h
       subst hK
       obtain ⟨b65,hb65,h⟩:=Sw.pickK_elim h
       refine sim_dsilent 12 hC rfl (by kernel_rfl) (by kernel_rfl) (fun _ _=>rfl) rfl (Sw.pick_run hb65 rfl rfl) ?_
       refine zw 13 hC ?_
       refine sim_dend (by kernel_rfl) ?_
       refine sim_block_normal<|zk<|zr<|zm ?_
       refine zb h fun t52 w h=>?_
       refine zm<|zn<|zk ?_
       exact ⟨rfl,h⟩
     · refine sim_exit<|sim_then_exit<|sim_then_exit<|sim_block_hit<|zk<|zr<|zm<|zm ?_
       refine sim_buildSlice h rfl (fun _ _ h=>⟨rfl,h⟩) ?_;intro t68 w h
       refine zx h fun t69 w h=>?_
       refine zm<|zn<|sim_block_normal<|zk<|zr<|zm ?_
       refine zb h fun t15 w h=>?_
       refine zm<|zn<|zk ?_
       exact ⟨rfl,h⟩
 · refine sim_exit<|sim_then_exit<|sim_then_exit<|sim_block_hit<|zk<|zs<|zr<|zm<|zm<|zn<|zk<|sim_ret ?_
   exact body_ret1 rfl rfl h
def n38c1 (t34 t42 t55:Value) (C4:World→Prop) (next2:KV) (R:RT) (w:World):Prop :=
 qN Pg C4 (nilN t42) fun t59 =>
 qV Pg C4 (Instr.fieldAt 52 t59 11) fun t60 =>
 opU Pg (Instr.storeAt 50 t60 t55) (panK R) w fun w =>
 turnK w fun C5 w =>
 B0 .add 3 true t34 (.int .i64 1) R w fun t61 w =>
 next2 t61 w
def n38c2 (t34 t42 t50 t55:Value) (C3:World→Prop) (next2:KV) (R:RT) (w:World):Prop :=
 qN Pg C3 (nilN t42) fun t56 =>
 qV Pg C3 (Instr.fieldAt 52 t56 7) fun t57 =>
 qV Pg C3 (Instr.fieldAt 49 t57 1) fun t58 =>
 opU Pg (Instr.storeAt 47 t58 t50) (panK R) w fun w =>
 turnK w fun C4 w =>
 n38c1 t34 t42 t55 C4 next2 R w
def n38c3 (t34 t42:Value) (C3:World→Prop) (next2:KV) (R:RT) (w:World):Prop :=
 qN Pg C3 (nilN t42) fun t46 =>
 qV Pg C3 (Instr.fieldAt 52 t46 7) fun t47 =>
 qV Pg C3 (Instr.fieldAt 49 t47 1) fun t48 =>
 qV Pg C3 (Instr.loadAt 47 t48) fun t49 =>
 qN Pg C3 (nilN t42) fun t52 =>
 qV Pg C3 (Instr.fieldAt 52 t52 11) fun t53 =>
 qV Pg C3 (Instr.loadAt 50 t53) fun t54 =>
 C0 29 #[t49] R w fun t50 w =>
 C3 w∧(
 C0 30 #[t54] R w fun t55 w =>
 C3 w∧(
 n38c2 t34 t42 t50 t55 C3 next2 R w))
def n38c4 (t20 t34:Value) (next2:KV) (R:RT) (w:World):Prop :=
 opN Pg (nilN t20) (panK R) w fun t38 w =>
 F0 45 t38 1 R w fun t39 w =>
 L0 43 t39 R w fun t40 w =>
 X0 43 t40 t34 R w fun t42 w =>
 drawK w fun C3 w =>
 n38c3 t34 t42 C3 next2 R w
def n38c5 (t14 t20 t33 t34:Value) (next1:KV) (next2:KV) (R:RT) (w:World):Prop :=
 B0 .lss 3 false t34 t33 R w fun t35 w =>
 condP t35 (
 n38c4 t20 t34 next2 R w) (
 B0 .add 3 true t14 (.int .i64 1) R w fun t62 w =>
 next1 t62 w)
def n38c6 (t14 t20 t26:Value) (next1:KV) (R:RT) (w:World):Prop :=
 opN Pg (nilN t20) (panK R) w fun t27 w =>
 F0 45 t27 1 R w fun t28 w =>
 opU Pg (Instr.storeAt 43 t28 t26) (panK R) w fun w =>
 opN Pg (nilN t20) (panK R) w fun t30 w =>
 F0 45 t30 1 R w fun t31 w =>
 L0 43 t31 R w fun t32 w =>
 opV Pg (Builtin.len_ #[43] 3 #[t32]) (panK R) w fun t33 w =>
 loop1 (fun t34 w next2 =>
 n38c5 t14 t20 t33 t34 next1 next2 R w) (.int .i64 0) w
def n38c7 (t1 t14:Value) (next1:KV) (R:RT) (w:World):Prop :=
 F0 24 t1 1 R w fun t17 w =>
 L0 22 t17 R w fun t18 w =>
 X0 22 t18 t14 R w fun t20 w =>
 opN Pg (nilN t20) (panK R) w fun t23 w =>
 F0 45 t23 1 R w fun t24 w =>
 L0 43 t24 R w fun t25 w =>
 C0 28 #[t25] R w fun t26 w =>
 n38c6 t14 t20 t26 next1 R w
def n38c8 (t1 t2 t13 t14:Value) (next1:KV) (R:RT) (w:World):Prop :=
 B0 .lss 3 false t14 t13 R w fun t15 w =>
 condP t15 (
 n38c7 t1 t14 next1 R w) (
 L0 24 t1 R w fun t63 w =>
 opU Pg (Instr.storeAt 24 t2 t63) (panK R) w fun w =>
 qW Pg 24 t2 w fun r0 =>
 R (.returned r0) w)
def n38c9 (t1 t2 t9:Value) (R:RT) (w:World):Prop :=
 F0 24 t1 1 R w fun t10 w =>
 opU Pg (Instr.storeAt 22 t10 t9) (panK R) w fun w =>
 F0 24 t1 1 R w fun t11 w =>
 L0 22 t11 R w fun t12 w =>
 opV Pg (Builtin.len_ #[22] 3 #[t12]) (panK R) w fun t13 w =>
 loop1 (fun t14 w next1 =>
 n38c8 t1 t2 t13 t14 next1 R w) (.int .i64 0) w
def n38 (t0:Value) (R:RT) (w:World):Prop :=
 opV Pg (Instr.box 24 t0) (panK R) w fun t1 w =>
 opV Pg (Instr.alloc 24 true (.tuple #[])) (panK R) w fun t2 w =>
 F0 24 t1 1 R w fun t7 w =>
 L0 22 t7 R w fun t8 w =>
 C0 27 #[t8] R w fun t9 w =>
 n38c9 t1 t2 t9 R w
theorem n38s {t0:Value} {R:RT} {w:World} (h:n38 t0 R w):Calls Pg 12 #[t0] w R:=by
 refine calls_of_den (args:=[t0]) Tryz.func12 rfl (Nat.le_of_ble_eq_true rfl) ?_
 unfold n38 at h
 refine zs<|zr ?_
 refine zv h fun t1 w h=>?_
 refine zv h fun t2 w h=>?_
 refine zn<|zk<|zs<|zr ?_
 refine zv h fun t7 w h=>?_
 refine zv h fun t8 w h=>?_
 refine zc h c27 fun t9 w h=>?_
 refine zv h fun t10 w h=>?_
 refine zu h fun w h=>?_
 refine zn<|zk<|zs<|zs<|zr ?_
 refine zv h fun t11 w h=>?_
 refine zv h fun t12 w h=>?_
 refine zx h fun t13 w h=>?_
 refine zm<|zn<|zk<|sim_block ?_
 obtain ⟨I,μ,h0,hr⟩:=h
 refine sim_loop [3,4,5,6,14,15,16,17,18,19,20,21,22,23,24,25,26,27,28,29,30,31,32,33,34,35,36,37,38,39,40,41,42,43,44,45,46,47,48,49,50,51,52,53,54,55,56,57,58,59,60,61,62] (by kernel_rfl) (fun ρ w=>I (ρ 14) w) (fun ρ w=>μ (ρ 14) w) h0 (fun σ w hI=>?_)
 have h:=hr _ _ hI
 clear hr h0 hI
 refine zs<|zr ?_
 refine zb h fun t15 w h=>?_
 refine zn<|zk<|zs ?_
 refine sim_cond h rfl (fun h=>?_) (fun h=>?_)
 · refine sim_skip<|zk<|zs<|sim_block<|zs<|zr<|zm<|zm<|zn<|zk<|zs<|zr ?_
   refine zv h fun t17 w h=>?_
   refine zv h fun t18 w h=>?_
   refine zm ?_
   refine zv h fun t20 w h=>?_
   refine zm<|zn<|zk<|zs<|zr<|zm<|zm ?_
   refine sim_next h rfl rfl (fun _ _ h=>⟨rfl,h⟩) ?_;intro t23 w h
   refine zv h fun t24 w h=>?_
   refine zv h fun t25 w h=>?_
   refine zc h c28 fun t26 w h=>?_
   refine sim_next h rfl rfl (fun _ _ h=>⟨rfl,h⟩) ?_;intro t27 w h
   refine zv h fun t28 w h=>?_
   refine zu h fun w h=>?_
   refine zn<|zk<|zs<|zr<|zm ?_
   refine sim_next h rfl rfl (fun _ _ h=>⟨rfl,h⟩) ?_;intro t30 w h
   refine zv h fun t31 w h=>?_
   refine zv h fun t32 w h=>?_
   refine zx h fun t33 w h=>?_
   refine zm<|zn<|zk<|sim_block ?_
   obtain ⟨I,μ,h0,hr⟩:=h
   refine sim_loop [5,6,34,35,36,37,38,39,40,41,42,43,44,45,46,47,48,49,50,51,52,53,54,55,56,57,58,59,60,61] (by kernel_rfl) (fun ρ w=>I (ρ 34) w) (fun ρ w=>μ (ρ 34) w) h0 (fun σ w hI=>?_)
   have h:=hr _ _ hI
   clear hr h0 hI
   refine zs<|zr ?_
   refine zb h fun t35 w h=>?_
   refine zn<|zk<|zs ?_
   refine sim_cond h rfl (fun h=>?_) (fun h=>?_)
   · refine sim_skip<|zk<|zs<|sim_block<|zs<|zr<|zm<|zm<|zn<|zk<|zs<|zr<|zm ?_
     refine sim_next h rfl rfl (fun _ _ h=>⟨rfl,h⟩) ?_;intro t38 w h
     refine zv h fun t39 w h=>?_
     refine zv h fun t40 w h=>?_
     refine zm ?_
     refine zv h fun t42 w h=>?_
     refine zm<|zn<|zk ?_
     obtain ⟨C3,hC,h⟩:=h
     refine sim_draw [43,44,45,46,47,48,49,50,51,52,53,54,55,56,57,58,59,60] (by kernel_rfl) (by kernel_rfl) C3 ?_
     refine zw 0 hC ?_
     refine zw 1 hC ?_
     refine zw 2 hC ?_
     obtain ⟨t46,hv,h⟩:=h
     refine sim_dsilent 3 hC rfl (by kernel_rfl) (by kernel_rfl) (fun _ _=>rfl) rfl (Sw.qN_run rfl hv) ?_
     refine ze 4 hC h fun t47 h=>?_
     refine ze 5 hC h fun t48 h=>?_
     refine ze 6 hC h fun t49 h=>?_
     refine zw 8 hC ?_
     obtain ⟨t52,hv,h⟩:=h
     refine sim_dsilent 9 hC rfl (by kernel_rfl) (by kernel_rfl) (fun _ _=>rfl) rfl (Sw.qN_run rfl hv) ?_
     refine ze 10 hC h fun t53 h=>?_
     refine ze 11 hC h fun t54 h=>?_
     refine sim_dloud 7 rfl (by kernel_rfl) (fun _ _=>rfl) ?_
     refine sim_call h c29 rfl (fun _ _ h _ _=>⟨rfl,h⟩) ?_;intro t50 w h
     refine zn ?_
     obtain ⟨hC,h⟩:=h
     refine ⟨hC,?_⟩
     refine sim_dloud 12 rfl (by kernel_rfl) (fun _ _=>rfl) ?_
     refine sim_call h c30 rfl (fun _ _ h _ _=>⟨rfl,h⟩) ?_;intro t55 w h
     refine zn ?_
     obtain ⟨hC,h⟩:=h
     refine ⟨hC,?_⟩
     obtain ⟨t56,hv,h⟩:=h
     refine sim_dsilent 13 hC rfl (by kernel_rfl) (by kernel_rfl) (fun _ _=>rfl) rfl (Sw.qN_run rfl hv) ?_
     refine ze 14 hC h fun t57 h=>?_
     refine ze 15 hC h fun t58 h=>?_
     refine sim_dturn 16 3 rfl (by kernel_rfl) (by kernel_rfl) (fun _ _=>rfl) ?_
     refine sim_unit h rfl rfl (fun _ _ h _ _=>⟨rfl,h⟩) ?_;intro w h
     refine zn ?_
     obtain ⟨C4,hC,h⟩:=h
     refine ⟨C4,hC,?_⟩
     obtain ⟨t59,hv,h⟩:=h
     refine sim_dsilent 17 hC rfl (by kernel_rfl) (by kernel_rfl) (fun _ _=>rfl) rfl (Sw.qN_run rfl hv) ?_
     refine ze 18 hC h fun t60 h=>?_
     refine sim_dturn 19 2 rfl (by kernel_rfl) (by kernel_rfl) (fun _ _=>rfl) ?_
     refine sim_unit h rfl rfl (fun _ _ h _ _=>⟨rfl,h⟩) ?_;intro w h
     refine zn ?_
     obtain ⟨C5,hC,h⟩:=h
     refine ⟨C5,hC,?_⟩
     refine sim_dend (by kernel_rfl) ?_
     refine sim_block_normal<|zk<|zr ?_
     refine zb h fun t61 w h=>?_
     refine zm<|zn<|zk ?_
     exact ⟨rfl,h⟩
   · refine sim_exit<|sim_then_exit<|sim_then_exit<|sim_block_hit<|sim_block_normal<|zk<|zr ?_
     refine zb h fun t62 w h=>?_
     refine zm<|zn<|zk ?_
     exact ⟨rfl,h⟩
 · refine sim_exit<|sim_then_exit<|sim_then_exit<|sim_block_hit<|zk<|zs<|zr ?_
   refine zv h fun t63 w h=>?_
   refine zu h fun w h=>?_
   refine zn<|zk<|sim_ret ?_
   exact body_retC rfl rfl h
def n37c1 (t2 t9:Value) (R:RT) (w:World):Prop :=
 opV Pg (Instr.extract t9 0) (panK R) w fun t10 w =>
 opV Pg (Instr.extract t9 1) (panK R) w fun t11 w =>
 opV Pg (Instr.extract t9 2) (panK R) w fun t12 w =>
 opV Pg (Instr.alloc 39 true (.tuple #[])) (panK R) w fun t5 w =>
 opU Pg (Instr.storeAt 39 t5 t11) (panK R) w fun w =>
 L0 39 t5 R w fun t13 w =>
 opU Pg (Instr.storeAt 39 t2 t13) (panK R) w fun w =>
 qW Pg 39 t2 w fun r0 =>
 R (.returned (.tuple #[r0,t12])) w
def n37 (t0:Value) (R:RT) (w:World):Prop :=
 opV Pg (Instr.box 24 t0) (panK R) w fun t1 w =>
 opV Pg (Instr.alloc 39 true (.tuple #[])) (panK R) w fun t2 w =>
 L0 24 t1 R w fun t8 w =>
 C0 31 #[t8] R w fun t9 w =>
 n37c1 t2 t9 R w
theorem n37s {t0:Value} {R:RT} {w:World} (h:n37 t0 R w):Calls Pg 13 #[t0] w R:=by
 refine calls_of_den (args:=[t0]) Tryz.func13 rfl (Nat.le_of_ble_eq_true rfl) ?_
 unfold n37 at h
 refine zs<|zr ?_
 refine zv h fun t1 w h=>?_
 refine zv h fun t2 w h=>?_
 refine zm<|zn<|zk<|zs<|zr ?_
 refine zv h fun t8 w h=>?_
 refine zc h c31 fun t9 w h=>?_
 refine zm ?_
 refine zv h fun t10 w h=>?_
 refine zv h fun t11 w h=>?_
 refine zv h fun t12 w h=>?_
 refine zv h fun t5 w h=>?_
 refine zm ?_
 refine zu h fun w h=>?_
 refine zm<|zn<|zk<|zs<|zr ?_
 refine zv h fun t13 w h=>?_
 refine zm ?_
 refine zu h fun w h=>?_
 refine zm<|zn<|zk<|sim_ret ?_
 exact body_retCT rfl rfl rfl h
end Go.Proofs.YtiajhbbmgglmlaaGreat
namespace Go.Proofs.YtiajhbbmgglmlaaGreat
open Sw
def n23c1 (t3 t6 t8 t9 t10:Value) (C9:World→Prop) (next8:KW) (R:RT) (w:World):Prop :=
 joinK (fun (t84:Value) (w:World) =>
 pickK t9 (.bool true) t84 fun t85 =>
 B0 .add 3 true t10 (.int .i64 1) R w fun t73 w =>
 next8 t85 t73 w) fun K10 =>
 guardP t9 false (
 qV Pg C9 (Instr.indexAt 69 t3 t10) fun t78 =>
 qV Pg C9 (Instr.loadAt 9 t78) fun t79 =>
 qV Pg C9 (Instr.indexAt 69 t6 t8) fun t82 =>
 qV Pg C9 (Instr.loadAt 9 t82) fun t83 =>
 qV Pg C9 (binS .eql 9 false t79 t83) fun t84 =>
 K10 t84 w) (
 K10 undef w)
def n23c2 (t3 t6 t8:Value) (K11:KV) (R:RT) (w:World):Prop :=
 X0 69 t6 t8 R w fun t91 w =>
 L0 9 t91 R w fun t92 w =>
 opV Pg (Instr.buildSlice 69 1 #[(0,t92)]) (panK R) w fun t93 w =>
 opV Pg (Builtin.append_ #[69,69] 69 #[t3,t93]) (panK R) w fun t94 w =>
 K11 t94 w
def n23c3 (t3 t6 t8 t9:Value) (next7:KW) (R:RT) (w:World):Prop :=
 opV Pg (Op.unary .not t9) (panK R) w fun t87 w =>
 joinK (fun (t3:Value) (w:World) =>
 B0 .add 3 true t8 (.int .i64 1) R w fun t67 w =>
 next7 t3 t67 w) fun K11 =>
 condP t87 (
 n23c2 t3 t6 t8 K11 R w) (
 K11 t3 w)
def n23c4 (t3 t6 t8 t9 t10:Value) (next7:KW) (next8:KW) (R:RT) (w:World):Prop :=
 opV Pg (Builtin.len_ #[69] 3 #[t3]) (panK R) w fun t70 w =>
 B0 .lss 3 false t10 t70 R w fun t71 w =>
 condP t71 (
 drawK w fun C9 w =>
 n23c1 t3 t6 t8 t9 t10 C9 next8 R w) (
 n23c3 t3 t6 t8 t9 next7 R w)
def n23c5 (t3 t4 t6 t8:Value) (next1:KW) (next7:KW) (R:RT) (w:World):Prop :=
 opV Pg (Builtin.len_ #[69] 3 #[t6]) (panK R) w fun t64 w =>
 B0 .lss 3 false t8 t64 R w fun t65 w =>
 condP t65 (
 loop2 (fun t9 t10 w next8 =>
 n23c4 t3 t6 t8 t9 t10 next7 next8 R w) (.bool false) (.int .i64 0) w) (
 B0 .add 3 true t4 (.int .i64 1) R w fun t17 w =>
 next1 t3 t17 w)
def n23c6 (t5 t6 t7:Value) (next5:KW) (R:RT) (w:World):Prop :=
 F0 52 t5 11 R w fun t54 w =>
 L0 50 t54 R w fun t55 w =>
 X0 50 t55 t7 R w fun t57 w =>
 F0 81 t57 2 R w fun t58 w =>
 L0 9 t58 R w fun t59 w =>
 opV Pg (Instr.buildSlice 69 1 #[(0,t59)]) (panK R) w fun t60 w =>
 opV Pg (Builtin.append_ #[69,69] 69 #[t6,t60]) (panK R) w fun t61 w =>
 B0 .add 3 true t7 (.int .i64 1) R w fun t52 w =>
 next5 t61 t52 w
def n23c7 (t3 t4 t5 t6 t7 t43 t49:Value) (next1:KW) (next5:KW) (R:RT) (w:World):Prop :=
 pickK t43 t49 (.bool false) fun t50 =>
 condP t50 (
 n23c6 t5 t6 t7 next5 R w) (
 loop2 (fun t3 t8 w next7 =>
 n23c5 t3 t4 t6 t8 next1 next7 R w) t3 (.int .i64 0) w)
def n23c8 (t3 t4 t5 t6 t7:Value) (next1:KW) (next5:KW) (R:RT) (w:World):Prop :=
 F0 52 t5 1 R w fun t41 w =>
 L0 46 t41 R w fun t42 w =>
 B0 .eql 46 true t42 (.int .i64 9) R w fun t43 w =>
 joinK (fun (t49:Value) (w:World) =>
 n23c7 t3 t4 t5 t6 t7 t43 t49 next1 next5 R w) fun K6 =>
 guardP t43 true (
 F0 52 t5 11 R w fun t46 w =>
 L0 50 t46 R w fun t47 w =>
 opV Pg (Builtin.len_ #[50] 3 #[t47]) (panK R) w fun t48 w =>
 B0 .lss 3 false t7 t48 R w fun t49 w =>
 K6 t49 w) (
 K6 undef w)
def n23c9 (t5:Value) (K4:KV) (R:RT) (w:World):Prop :=
 F0 52 t5 8 R w fun t37 w =>
 L0 9 t37 R w fun t38 w =>
 opV Pg (Instr.buildSlice 69 1 #[(0,t38)]) (panK R) w fun t39 w =>
 opV Pg (Builtin.append_ #[69,69] 69 #[(Value.slice none 0 0),t39]) (panK R) w fun t40 w =>
 K4 t40 w
def n23c10 (t3 t4 t5 t30 t34:Value) (next1:KW) (R:RT) (w:World):Prop :=
 pickK t30 (.bool true) t34 fun t35 =>
 joinK (fun (t6:Value) (w:World) =>
 loop2 (fun t6 t7 w next5 =>
 n23c8 t3 t4 t5 t6 t7 next1 next5 R w) t6 (.int .i64 0) w) fun K4 =>
 condP t35 (
 n23c9 t5 K4 R w) (
 K4 (Value.slice none 0 0) w)
def n23c11 (t3 t4 t5 t25 t29:Value) (next1:KW) (R:RT) (w:World):Prop :=
 pickK t25 (.bool true) t29 fun t30 =>
 joinK (fun (t34:Value) (w:World) =>
 n23c10 t3 t4 t5 t30 t34 next1 R w) fun K3 =>
 guardP t30 false (
 F0 52 t5 1 R w fun t32 w =>
 L0 46 t32 R w fun t33 w =>
 B0 .eql 46 true t33 (.int .i64 12) R w fun t34 w =>
 K3 t34 w) (
 K3 undef w)
def n23c12 (t1 t3 t4:Value) (next1:KW) (R:RT) (w:World):Prop :=
 F0 45 t1 1 R w fun t18 w =>
 L0 43 t18 R w fun t19 w =>
 X0 43 t19 t4 R w fun t21 w =>
 L0 52 t21 R w fun t22 w =>
 opV Pg (Instr.alloc 52 true (.tuple #[])) (panK R) w fun t5 w =>
 opU Pg (Instr.storeAt 52 t5 t22) (panK R) w fun w =>
 F0 52 t5 1 R w fun t23 w =>
 L0 46 t23 R w fun t24 w =>
 B0 .eql 46 true t24 (.int .i64 7) R w fun t25 w =>
 joinK (fun (t29:Value) (w:World) =>
 n23c11 t3 t4 t5 t25 t29 next1 R w) fun K2 =>
 guardP t25 false (
 F0 52 t5 1 R w fun t27 w =>
 L0 46 t27 R w fun t28 w =>
 B0 .eql 46 true t28 (.int .i64 8) R w fun t29 w =>
 K2 t29 w) (
 K2 undef w)
def n23c13 (t1 t3 t4:Value) (next1:KW) (R:RT) (w:World):Prop :=
 F0 45 t1 1 R w fun t12 w =>
 L0 43 t12 R w fun t13 w =>
 opV Pg (Builtin.len_ #[43] 3 #[t13]) (panK R) w fun t14 w =>
 B0 .lss 3 false t4 t14 R w fun t15 w =>
 condP t15 (
 n23c12 t1 t3 t4 next1 R w) (
 R (.returned t3) w)
def n23 (t0:Value) (R:RT) (w:World):Prop :=
 opV Pg (Instr.box 45 t0) (panK R) w fun t1 w =>
 loop2 (fun t3 t4 w next1 =>
 n23c13 t1 t3 t4 next1 R w) (Value.slice none 0 0) (.int .i64 0) w
theorem n23s {t0:Value} {R:RT} {w:World} (h:n23 t0 R w):Calls Pg 25 #[t0] w R:=by
 refine calls_of_den (args:=[t0]) Tryz.func25 rfl (Nat.le_of_ble_eq_true rfl) ?_
 unfold n23 at h
 refine zs<|zr ?_
 refine zv h fun t1 w h=>?_
 refine zm<|zn<|zk<|zs<|zr<|zm<|zn<|zk<|zs<|zs<|zr<|zm<|zn<|zk<|sim_block ?_
 obtain ⟨I,μ,h0,hr⟩:=h
 refine sim_loop [3,4,5,6,7,8,9,10,11,12,13,14,15,16,17,18,19,20,21,22,23,24,25,26,27,28,29,30,31,32,33,34,35,36,37,38,39,40,41,42,43,44,45,46,47,48,49,50,51,52,53,54,55,56,57,58,59,60,61,62,63,64,65,66,67,68,69,70,71,72,73,74,75,76,77,78,79,80,81,82,83,84,85,86,87,88,89,90,91,92,93,94] (by kernel_rfl) (fun ρ w=>I (ρ 3) (ρ 4) w) (fun ρ w=>μ (ρ 3) (ρ 4) w) h0 (fun σ w hI=>?_)
 have h:=hr _ _ _ hI
 clear hr h0 hI
 refine zs<|zs<|zr<|zm ?_
 refine zv h fun t12 w h=>?_
 refine zv h fun t13 w h=>?_
 refine zx h fun t14 w h=>?_
 refine zb h fun t15 w h=>?_
 refine zn<|zk ?_
 refine sim_cond h rfl (fun h=>?_) (fun h=>?_)
 · refine sim_skip<|zk<|zs<|sim_block<|zs<|zr ?_
   refine zv h fun t18 w h=>?_
   refine zv h fun t19 w h=>?_
   refine zm ?_
   refine zv h fun t21 w h=>?_
   refine zv h fun t22 w h=>?_
   refine zv h fun t5 w h=>?_
   refine zu h fun w h=>?_
   refine zn<|zk<|zs<|zr<|zm<|zn<|zk<|zs<|zs<|sim_regionG ?_
   refine sim_seg 4 rfl ?_
   refine zv h fun t23 w h=>?_
   refine zv h fun t24 w h=>?_
   refine zb h fun t25 w h=>?_
   refine zm<|zn ?_
   refine joinK_elim h (fun K2 hK h=>?_)
   refine sim_groupJ 3 3 false [27,28,29] (fun ρ w=>K2 (ρ 29) w) rfl rfl (fun T hT=>guardP_mono h (fun h=>?_) (fun h=>?_)) (fun σ w h=>?_)
   · refine zv h fun t27 w h=>?_
     refine zv h fun t28 w h=>?_
     refine zb h fun t29 w h=>?_
     refine zn ?_
     exact zt hT h
   · exact zt hT h
   subst hK
   refine sim_seg 2 rfl ?_
   refine sim_pick h rfl rfl rfl ?_;intro t30 h
   refine zm<|zn ?_
   refine joinK_elim h (fun K3 hK h=>?_)
   refine sim_groupJ 3 8 false [32,33,34] (fun ρ w=>K3 (ρ 34) w) rfl rfl (fun T hT=>guardP_mono h (fun h=>?_) (fun h=>?_)) (fun σ w h=>?_)
   · refine zv h fun t32 w h=>?_
     refine zv h fun t33 w h=>?_
     refine zb h fun t34 w h=>?_
     refine zn ?_
     exact zt hT h
   · exact zt hT h
   subst hK
   refine sim_seg 1 rfl ?_
   refine sim_pick h rfl rfl rfl ?_;intro t35 h
   refine zn<|sim_end<|zk ?_
   refine joinK_elim h (fun K4 hK h=>?_)
   refine sim_joinQ [6,36,37,38,39,40] (fun ρ w=>K4 (ρ 6) w) (fun _ hkK4=>?_) (fun σ w h=>?_)
   · refine sim_cond h rfl (fun h=>?_) (fun h=>?_)
     · refine zr<|zm ?_
       refine zv h fun t37 w h=>?_
       refine zv h fun t38 w h=>?_
       refine sim_buildSlice h rfl (fun _ _ h=>⟨rfl,h⟩) ?_;intro t39 w h
       refine zx h fun t40 w h=>?_
       refine zm<|zn<|zk ?_
       exact zt hkK4 h
     · refine sim_skip<|zk ?_
       exact zt hkK4 h
   subst hK
   refine zk<|zs<|zs<|zr<|zm<|zn<|zk<|sim_block ?_
   obtain ⟨I,μ,h0,hr⟩:=h
   refine sim_loop [6,7,41,42,43,44,45,46,47,48,49,50,51,52,53,54,55,56,57,58,59,60,61] (by kernel_rfl) (fun ρ w=>I (ρ 6) (ρ 7) w) (fun ρ w=>μ (ρ 6) (ρ 7) w) h0 (fun σ w hI=>?_)
   have h:=hr _ _ _ hI
   clear hr h0 hI
   refine zs<|zs<|sim_regionG ?_
   refine sim_seg 4 rfl ?_
   refine zv h fun t41 w h=>?_
   refine zv h fun t42 w h=>?_
   refine zb h fun t43 w h=>?_
   refine zm<|zn ?_
   refine joinK_elim h (fun K6 hK h=>?_)
   refine sim_groupJ 5 3 true [45,46,47,48,49] (fun ρ w=>K6 (ρ 49) w) rfl rfl (fun T hT=>guardP_mono h (fun h=>?_) (fun h=>?_)) (fun σ w h=>?_)
   · refine zm ?_
     refine zv h fun t46 w h=>?_
     refine zv h fun t47 w h=>?_
     refine zx h fun t48 w h=>?_
     refine zb h fun t49 w h=>?_
     refine zn ?_
     exact zt hT h
   · exact zt hT h
   subst hK
   refine sim_seg 1 rfl ?_
   refine sim_pick h rfl rfl rfl ?_;intro t50 h
   refine zn<|sim_end<|zk ?_
   refine sim_cond h rfl (fun h=>?_) (fun h=>?_)
   · refine sim_skip<|zk<|zs<|sim_block<|zr<|zm ?_
     refine zv h fun t54 w h=>?_
     refine zv h fun t55 w h=>?_
     refine zm ?_
     refine zv h fun t57 w h=>?_
     refine zv h fun t58 w h=>?_
     refine zv h fun t59 w h=>?_
     refine sim_buildSlice h rfl (fun _ _ h=>⟨rfl,h⟩) ?_;intro t60 w h
     refine zx h fun t61 w h=>?_
     refine zm<|zn<|sim_block_normal<|zk<|zr<|zm ?_
     refine zb h fun t52 w h=>?_
     refine zm<|zn<|zk ?_
     exact ⟨rfl,h⟩
   · refine sim_exit<|sim_then_exit<|sim_then_exit<|sim_block_hit<|zk<|zs<|zr<|zm<|zn<|zk<|sim_block ?_
     obtain ⟨I,μ,h0,hr⟩:=h
     refine sim_loop [3,8,9,10,62,63,64,65,66,67,68,69,70,71,72,73,74,75,76,77,78,79,80,81,82,83,84,85,86,87,88,89,90,91,92,93,94] (by kernel_rfl) (fun ρ w=>I (ρ 3) (ρ 8) w) (fun ρ w=>μ (ρ 3) (ρ 8) w) h0 (fun σ w hI=>?_)
     have h:=hr _ _ _ hI
     clear hr h0 hI
     refine zs<|zs<|zr<|zm<|zm ?_
     refine zx h fun t64 w h=>?_
     refine zb h fun t65 w h=>?_
     refine zn<|zk ?_
     refine sim_cond h rfl (fun h=>?_) (fun h=>?_)
     · refine sim_skip<|zk<|zs<|sim_block<|zs<|zr<|zm<|zn<|zk<|zs<|zs<|zr<|zm<|zn<|zk<|sim_block ?_
       obtain ⟨I,μ,h0,hr⟩:=h
       refine sim_loop [9,10,68,69,70,71,72,73,74,75,76,77,78,79,80,81,82,83,84,85] (by kernel_rfl) (fun ρ w=>I (ρ 9) (ρ 10) w) (fun ρ w=>μ (ρ 9) (ρ 10) w) h0 (fun σ w hI=>?_)
       have h:=hr _ _ _ hI
       clear hr h0 hI
       refine zs<|zs<|zr<|zm<|zm ?_
       refine zx h fun t70 w h=>?_
       refine zb h fun t71 w h=>?_
       refine zn<|zk ?_
       refine sim_cond h rfl (fun h=>?_) (fun h=>?_)
       · refine sim_skip<|zk<|zs<|sim_block ?_
         obtain ⟨C9,hC,h⟩:=h
         refine sim_draw [9,74,75,76,77,78,79,80,81,82,83,84,85] (by kernel_rfl) (by kernel_rfl) C9 ?_
         refine zw 0 hC ?_
         refine zw 1 hC ?_
         refine joinK_elim h (fun K10 hK h=>?_)
         refine sim_djoin 2 [10,9,8,7,6,5,4,3,2,1,0] [76,77,78,79,80,81,82,83,84] (fun ρ w=>K10 (ρ 84) w) (fun _ hT=>?_) (fun σ w hC h=>?_)
         · rcases Sw.guardP_cases h with ⟨hb,h⟩ | ⟨hb,h⟩
           · refine sim_dsilent 2 hC rfl (by kernel_rfl) (by kernel_rfl) (fun _ _=>Sw.guardP_true hb) rfl (Sw.move_run rfl) ?_
             refine sim_dsilent 3 hC rfl (by kernel_rfl) (by kernel_rfl) (fun _ _=>Sw.guardP_true hb) rfl (Sw.move_run rfl) ?_
             obtain ⟨t78,hv,h⟩:=h
             refine sim_dsilent 4 hC rfl (by kernel_rfl) (by kernel_rfl) (fun _ _=>Sw.guardP_true hb) rfl (Sw.qV_run rfl hv) ?_
             obtain ⟨t79,hv,h⟩:=h
             refine sim_dsilent 5 hC rfl (by kernel_rfl) (by kernel_rfl) (fun _ _=>Sw.guardP_true hb) rfl (Sw.qV_run rfl hv) ?_
             refine sim_dsilent 6 hC rfl (by kernel_rfl) (by kernel_rfl) (fun _ _=>Sw.guardP_true hb) rfl (Sw.move_run rfl) ?_
             refine sim_dsilent 7 hC rfl (by kernel_rfl) (by kernel_rfl) (fun _ _=>Sw.guardP_true hb) rfl (Sw.move_run rfl) ?_
             obtain ⟨t82,hv,h⟩:=h
             refine sim_dsilent 8 hC rfl (by kernel_rfl) (by kernel_rfl) (fun _ _=>Sw.guardP_true hb) rfl (Sw.qV_run rfl hv) ?_
             obtain ⟨t83,hv,h⟩:=h
             refine sim_dsilent 9 hC rfl (by kernel_rfl) (by kernel_rfl) (fun _ _=>Sw.guardP_true hb) rfl (Sw.qV_run rfl hv) ?_
             obtain ⟨t84,hv,h⟩:=h
             refine sim_dsilent 10 hC rfl (by kernel_rfl) (by kernel_rfl) (fun _ _=>Sw.guardP_true hb) rfl (Sw.qV_bin rfl rfl rfl hv) ?_
             exact hT _ _ (by repeat (first | exact Sw.Fr.refl _ _ | refine Sw.Fr.put rfl ?_ | refine Sw.Fr.put_none ?_ | refine Sw.Fr.mix rfl ?_ | refine Sw.Fr.skipAll rfl ?_)) hC h
           · refine sim_dskip 2 hC rfl (by kernel_rfl) (by kernel_rfl) (fun _ _=>Sw.guardP_false hb) ?_
             refine sim_dskip 3 hC rfl (by kernel_rfl) (by kernel_rfl) (fun _ _=>Sw.guardP_false hb) ?_
             refine sim_dskip 4 hC rfl (by kernel_rfl) (by kernel_rfl) (fun _ _=>Sw.guardP_false hb) ?_
             refine sim_dskip 5 hC rfl (by kernel_rfl) (by kernel_rfl) (fun _ _=>Sw.guardP_false hb) ?_
             refine sim_dskip 6 hC rfl (by kernel_rfl) (by kernel_rfl) (fun _ _=>Sw.guardP_false hb) ?_
             refine sim_dskip 7 hC rfl (by kernel_rfl) (by kernel_rfl) (fun _ _=>Sw.guardP_false hb) ?_
             refine sim_dskip 8 hC rfl (by kernel_rfl) (by kernel_rfl) (fun _ _=>Sw.guardP_false hb) ?_
             refine sim_dskip 9 hC rfl (by kernel_rfl) (by kernel_rfl) (fun _ _=>Sw.guardP_false hb) ?_
             refine sim_dskip 10 hC rfl (by kernel_rfl) (by kernel_rfl) (fun _ _=>Sw.guardP_false hb) ?_
             exact hT _ _ (by repeat (first | exact Sw.Fr.refl _ _ | refine Sw.Fr.put rfl ?_ | refine Sw.Fr.put_none ?_ | refine Sw.Fr.mix rfl ?_ | refine Sw.Fr.skipAll rfl ?_)) hC h
         subst hK
         obtain ⟨b85,hb85,h⟩:=Sw.pickK_elim h
         refine sim_dsilent 11 hC rfl (by kernel_rfl) (by kernel_rfl) (fun _ _=>rfl) rfl (Sw.pick_run hb85 rfl rfl) ?_
         refine zw 12 hC ?_
         refine sim_dend (by kernel_rfl) ?_
         refine sim_block_normal<|zk<|zr<|zm ?_
         refine zb h fun t73 w h=>?_
         refine zm<|zn<|zk ?_
         exact ⟨rfl,h⟩
       · refine sim_exit<|sim_then_exit<|sim_then_exit<|sim_block_hit<|zk<|zs<|zr<|zm ?_
         refine zv h fun t87 w h=>?_
         refine zn<|zk ?_
         refine joinK_elim h (fun K11 hK h=>?_)
         refine sim_joinQ [3,88,89,90,91,92,93,94] (fun ρ w=>K11 (ρ 3) w) (fun _ hkK11=>?_) (fun σ w h=>?_)
         · refine sim_cond h rfl (fun h=>?_) (fun h=>?_)
           · refine zr<|zm<|zm<|zm ?_
             refine zv h fun t91 w h=>?_
             refine zv h fun t92 w h=>?_
             refine sim_buildSlice h rfl (fun _ _ h=>⟨rfl,h⟩) ?_;intro t93 w h
             refine zx h fun t94 w h=>?_
             refine zm<|zn<|zk ?_
             exact zt hkK11 h
           · refine sim_skip<|zk ?_
             exact zt hkK11 h
         subst hK
         refine sim_block_normal<|zk<|zr<|zm ?_
         refine zb h fun t67 w h=>?_
         refine zm<|zn<|zk ?_
         exact ⟨rfl,h⟩
     · refine sim_exit<|sim_then_exit<|sim_then_exit<|sim_block_hit<|sim_block_normal<|zk<|zr<|zm ?_
       refine zb h fun t17 w h=>?_
       refine zm<|zn<|zk ?_
       exact ⟨rfl,h⟩
 · refine sim_exit<|sim_then_exit<|sim_then_exit<|sim_block_hit<|zk<|zs<|zr<|zm<|zm<|zn<|zk<|sim_ret ?_
   exact body_ret1 rfl rfl h
def n20c1 (t1 t3 t7:Value) (next1:KV) (R:RT) (w:World):Prop :=
 F0 24 t3 1 R w fun t13 w =>
 L0 22 t13 R w fun t14 w =>
 X0 22 t14 t7 R w fun t16 w =>
 F0 45 t16 0 R w fun t17 w =>
 L0 9 t17 R w fun t18 w =>
 B0 .eql 9 false t18 t1 R w fun t20 w =>
 condP t20 (
 R (.returned t7) w) (
 B0 .add 3 true t7 (.int .i64 1) R w fun t12 w =>
 next1 t12 w)
def n20 (t0 t1 t2:Value) (R:RT) (w:World):Prop :=
 opV Pg (Instr.box 24 t0) (panK R) w fun t3 w =>
 loop1 (fun t7 w next1 =>
 B0 .lss 3 false t7 t2 R w fun t10 w =>
 condP t10 (
 n20c1 t1 t3 t7 next1 R w) (
 R (.returned (.int .i64 (-1))) w)) (.int .i64 0) w
theorem n20s {t0 t1 t2:Value} {R:RT} {w:World} (h:n20 t0 t1 t2 R w):Calls Pg 26 #[t0,t1,t2] w R:=by
 refine calls_of_den (args:=[t0,t1,t2]) Tryz.func26 rfl (Nat.le_of_ble_eq_true rfl) ?_
 unfold n20 at h
 refine zs<|zr ?_
 refine zv h fun t3 w h=>?_
 refine zm<|zn<|zk<|zs<|zs<|zr<|zm<|zn<|zk<|sim_block ?_
 obtain ⟨I,μ,h0,hr⟩:=h
 refine sim_loop [6,7,8,9,10,11,12,13,14,15,16,17,18,19,20,21] (by kernel_rfl) (fun ρ w=>I (ρ 7) w) (fun ρ w=>μ (ρ 7) w) h0 (fun σ w hI=>?_)
 have h:=hr _ _ hI
 clear hr h0 hI
 refine zs<|zs<|zr<|zm<|zm ?_
 refine zb h fun t10 w h=>?_
 refine zn<|zk ?_
 refine sim_cond h rfl (fun h=>?_) (fun h=>?_)
 · refine sim_skip<|zk<|zs<|sim_block<|zs<|zr ?_
   refine zv h fun t13 w h=>?_
   refine zv h fun t14 w h=>?_
   refine zm ?_
   refine zv h fun t16 w h=>?_
   refine zv h fun t17 w h=>?_
   refine zv h fun t18 w h=>?_
   refine zm ?_
   refine zb h fun t20 w h=>?_
   refine zn<|zk ?_
   refine sim_cond h rfl (fun h=>?_) (fun h=>?_)
   · refine zs<|zr<|zm<|zm<|zn<|zk<|sim_ret<|sim_block_ret<|sim_then_ret<|sim_then_ret<|sim_block_ret<|sim_then_ret ?_
     exact body_ret1 rfl rfl h
   · refine sim_skip<|sim_block_normal<|zk<|zr<|zm ?_
     refine zb h fun t12 w h=>?_
     refine zm<|zn<|zk ?_
     exact ⟨rfl,h⟩
 · refine sim_exit<|sim_then_exit<|sim_then_exit<|sim_block_hit<|zk<|zs<|zr<|zm<|zn<|zk<|sim_ret ?_
   exact body_ret1 rfl rfl h
def n108 (t0:Value) (R:RT) (w:World):Prop :=
 opV Pg (binS .eql 22 true t0 (Value.slice none 0 0)) (panK R) w fun t4 w =>
 condP t4 (
 R (.returned (Value.slice none 0 0)) w) (
 opV Pg (Instr.buildSlice 22 0 #[]) (panK R) w fun t5 w =>
 opV Pg (Builtin.append_ #[22,22] 22 #[t5,t0]) (panK R) w fun t7 w =>
 R (.returned t7) w)
theorem n108s {t0:Value} {R:RT} {w:World} (h:n108 t0 R w):Calls Pg 27 #[t0] w R:=by
 refine calls_of_den (args:=[t0]) Tryz.func27 rfl (Nat.le_of_ble_eq_true rfl) ?_
 unfold n108 at h
 refine zs<|zr<|zm<|zn<|zk<|zs<|zs<|zr<|zm ?_
 refine zb h fun t4 w h=>?_
 refine zn<|zk ?_
 refine sim_cond h rfl (fun h=>?_) (fun h=>?_)
 · refine zs<|zr<|zm<|zn<|zk<|sim_ret<|sim_then_ret ?_
   exact body_ret1 rfl rfl h
 · refine sim_skip<|zk<|zs<|zr ?_
   refine sim_buildSlice h rfl (fun _ _ h=>⟨rfl,h⟩) ?_;intro t5 w h
   refine zm ?_
   refine zx h fun t7 w h=>?_
   refine zm<|zn<|zk<|sim_ret ?_
   exact body_ret1 rfl rfl h
def n107 (t0:Value) (R:RT) (w:World):Prop :=
 opV Pg (binS .eql 43 true t0 (Value.slice none 0 0)) (panK R) w fun t4 w =>
 condP t4 (
 R (.returned (Value.slice none 0 0)) w) (
 opV Pg (Instr.buildSlice 43 0 #[]) (panK R) w fun t5 w =>
 opV Pg (Builtin.append_ #[43,43] 43 #[t5,t0]) (panK R) w fun t7 w =>
 R (.returned t7) w)
theorem n107s {t0:Value} {R:RT} {w:World} (h:n107 t0 R w):Calls Pg 28 #[t0] w R:=by
 refine calls_of_den (args:=[t0]) Tryz.func28 rfl (Nat.le_of_ble_eq_true rfl) ?_
 unfold n107 at h
 refine zs<|zr<|zm<|zn<|zk<|zs<|zs<|zr<|zm ?_
 refine zb h fun t4 w h=>?_
 refine zn<|zk ?_
 refine sim_cond h rfl (fun h=>?_) (fun h=>?_)
 · refine zs<|zr<|zm<|zn<|zk<|sim_ret<|sim_then_ret ?_
   exact body_ret1 rfl rfl h
 · refine sim_skip<|zk<|zs<|zr ?_
   refine sim_buildSlice h rfl (fun _ _ h=>⟨rfl,h⟩) ?_;intro t5 w h
   refine zm ?_
   refine zx h fun t7 w h=>?_
   refine zm<|zn<|zk<|sim_ret ?_
   exact body_ret1 rfl rfl h
def n109 (t0:Value) (R:RT) (w:World):Prop :=
 opV Pg (binS .eql 47 true t0 (Value.slice none 0 0)) (panK R) w fun t4 w =>
 condP t4 (
 R (.returned (Value.slice none 0 0)) w) (
 opV Pg (Instr.buildSlice 47 0 #[]) (panK R) w fun t5 w =>
 opV Pg (Builtin.append_ #[47,47] 47 #[t5,t0]) (panK R) w fun t7 w =>
 R (.returned t7) w)
theorem n109s {t0:Value} {R:RT} {w:World} (h:n109 t0 R w):Calls Pg 29 #[t0] w R:=by
 refine calls_of_den (args:=[t0]) Tryz.func29 rfl (Nat.le_of_ble_eq_true rfl) ?_
 unfold n109 at h
 refine zs<|zr<|zm<|zn<|zk<|zs<|zs<|zr<|zm ?_
 refine zb h fun t4 w h=>?_
 refine zn<|zk ?_
 refine sim_cond h rfl (fun h=>?_) (fun h=>?_)
 · refine zs<|zr<|zm<|zn<|zk<|sim_ret<|sim_then_ret ?_
   exact body_ret1 rfl rfl h
 · refine sim_skip<|zk<|zs<|zr ?_
   refine sim_buildSlice h rfl (fun _ _ h=>⟨rfl,h⟩) ?_;intro t5 w h
   refine zm ?_
   refine zx h fun t7 w h=>?_
   refine zm<|zn<|zk<|sim_ret ?_
   exact body_ret1 rfl rfl h
def n106 (t0:Value) (R:RT) (w:World):Prop :=
 opV Pg (binS .eql 50 true t0 (Value.slice none 0 0)) (panK R) w fun t4 w =>
 condP t4 (
 R (.returned (Value.slice none 0 0)) w) (
 opV Pg (Instr.buildSlice 50 0 #[]) (panK R) w fun t5 w =>
 opV Pg (Builtin.append_ #[50,50] 50 #[t5,t0]) (panK R) w fun t7 w =>
 R (.returned t7) w)
theorem n106s {t0:Value} {R:RT} {w:World} (h:n106 t0 R w):Calls Pg 30 #[t0] w R:=by
 refine calls_of_den (args:=[t0]) Tryz.func30 rfl (Nat.le_of_ble_eq_true rfl) ?_
 unfold n106 at h
 refine zs<|zr<|zm<|zn<|zk<|zs<|zs<|zr<|zm ?_
 refine zb h fun t4 w h=>?_
 refine zn<|zk ?_
 refine sim_cond h rfl (fun h=>?_) (fun h=>?_)
 · refine zs<|zr<|zm<|zn<|zk<|sim_ret<|sim_then_ret ?_
   exact body_ret1 rfl rfl h
 · refine sim_skip<|zk<|zs<|zr ?_
   refine sim_buildSlice h rfl (fun _ _ h=>⟨rfl,h⟩) ?_;intro t5 w h
   refine zm ?_
   refine zx h fun t7 w h=>?_
   refine zm<|zn<|zk<|sim_ret ?_
   exact body_ret1 rfl rfl h
def n60c1 (t3 t4 t13:Value) (ds:List Deferred) (R:RT) (w:World):Prop :=
 opV Pg (Instr.build 39 #[]) (outQ Pg ds [(none,t13),(some 39,t3),(some 4,t4)] R) w fun t65 w =>
 opU Pg (Instr.storeAt 39 t3 t65) (outQ Pg ds [(none,t13),(some 39,t3),(some 4,t4)] R) w fun w =>
 opU Pg (Instr.storeAt 4 t4 (.bool false)) (outQ Pg ds [(none,t13),(some 39,t3),(some 4,t4)] R) w fun w =>
 outX Pg ds [(none,t13),(some 39,t3),(some 4,t4)] R w
def n60c2 (t1 t3 t4 t13:Value) (C3:World→Prop) (ds:List Deferred) (R:RT) (w:World):Prop :=
 qN Pg C3 (nilN t13) fun t53 =>
 qV Pg C3 (Instr.fieldAt 65 t53 1) fun t54 =>
 qV Pg C3 (Instr.loadAt 62 t54) fun t55 =>
 qV Pg C3 (Instr.fieldAt 24 t1 2) fun t56 =>
 qV Pg C3 (Instr.loadAt 9 t56) fun t57 =>
 qV Pg C3 (Instr.lookup 62 t55 t57 true) fun t58 =>
 qV Pg C3 (Instr.extract t58 0) fun t59 =>
 qV Pg C3 (Instr.extract t58 1) fun t60 =>
 callK Pg 37 #[t13,t60,(.int .i64 11)] (outQ Pg ds [(none,t13),(some 39,t3),(some 4,t4)] R) w fun t63 w =>
 n60c1 t3 t4 t13 ds R w
def n60c3 (t1 t3 t4 t13:Value) (ds:List Deferred) (R:RT) (w:World):Prop :=
 opN Pg (nilN t13) (outQ Pg ds [(none,t13),(some 39,t3),(some 4,t4)] R) w fun t49 w =>
 opV Pg (Instr.fieldAt 65 t49 3) (outQ Pg ds [(none,t13),(some 39,t3),(some 4,t4)] R) w fun t50 w =>
 opU Pg (Instr.storeAt 3 t50 (.int .i64 (-1))) (outQ Pg ds [(none,t13),(some 39,t3),(some 4,t4)] R) w fun w =>
 drawK w fun C3 w =>
 n60c2 t1 t3 t4 t13 C3 ds R w
def n60c4 (t3 t4 t13 t33 t35:Value) (next2:KV) (ds:List Deferred) (R:RT) (w:World):Prop :=
 opV Pg (Instr.indexAt 22 t33 t35) (outQ Pg ds [(none,t13),(some 39,t3),(some 4,t4)] R) w fun t38 w =>
 opV Pg (Instr.loadAt 45 t38) (outQ Pg ds [(none,t13),(some 39,t3),(some 4,t4)] R) w fun t39 w =>
 opV Pg (Instr.alloc 45 true (.tuple #[])) (outQ Pg ds [(none,t13),(some 39,t3),(some 4,t4)] R) w fun t6 w =>
 opU Pg (Instr.storeAt 45 t6 t39) (outQ Pg ds [(none,t13),(some 39,t3),(some 4,t4)] R) w fun w =>
 opN Pg (nilN t13) (outQ Pg ds [(none,t13),(some 39,t3),(some 4,t4)] R) w fun t42 w =>
 opV Pg (Instr.fieldAt 65 t42 3) (outQ Pg ds [(none,t13),(some 39,t3),(some 4,t4)] R) w fun t43 w =>
 opU Pg (Instr.storeAt 3 t43 t35) (outQ Pg ds [(none,t13),(some 39,t3),(some 4,t4)] R) w fun w =>
 opV Pg (Instr.loadAt 45 t6) (outQ Pg ds [(none,t13),(some 39,t3),(some 4,t4)] R) w fun t45 w =>
 callK Pg 39 #[t13,t45] (outQ Pg ds [(none,t13),(some 39,t3),(some 4,t4)] R) w fun t46 w =>
 opV Pg (binS .add 3 true t35 (.int .i64 1)) (outQ Pg ds [(none,t13),(some 39,t3),(some 4,t4)] R) w fun t47 w =>
 next2 t47 w
def n60c5 (t1 t3 t4 t13 t33 t34 t35:Value) (next2:KV) (ds:List Deferred) (R:RT) (w:World):Prop :=
 opV Pg (binS .lss 3 false t35 t34) (outQ Pg ds [(none,t13),(some 39,t3),(some 4,t4)] R) w fun t36 w =>
 condP t36 (
 n60c4 t3 t4 t13 t33 t35 next2 ds R w) (
 n60c3 t1 t3 t4 t13 ds R w)
def n60c6 (t1 t3 t4 t13:Value) (ds:List Deferred) (R:RT) (w:World):Prop :=
 opV Pg (Instr.fieldAt 24 t1 1) (outQ Pg ds [(none,t13),(some 39,t3),(some 4,t4)] R) w fun t32 w =>
 opV Pg (Instr.loadAt 22 t32) (outQ Pg ds [(none,t13),(some 39,t3),(some 4,t4)] R) w fun t33 w =>
 opV Pg (Builtin.len_ #[22] 3 #[t33]) (outQ Pg ds [(none,t13),(some 39,t3),(some 4,t4)] R) w fun t34 w =>
 loop1 (fun t35 w next2 =>
 n60c5 t1 t3 t4 t13 t33 t34 t35 next2 ds R w) (.int .i64 0) w
def n60c7 (t1 t3 t4 t13 t24 t29:Value) (ds:List Deferred) (R:RT) (w:World):Prop :=
 pickK t24 t29 (.bool false) fun t30 =>
 callK Pg 37 #[t13,t30,(.int .i64 3)] (outQ Pg ds [(none,t13),(some 39,t3),(some 4,t4)] R) w fun t31 w =>
 n60c6 t1 t3 t4 t13 ds R w
def n60c8 (t1 t3 t4 t13:Value) (K1:KV) (ds:List Deferred) (R:RT) (w:World):Prop :=
 opV Pg (Instr.fieldAt 24 t1 1) (outQ Pg ds [(none,t13),(some 39,t3),(some 4,t4)] R) w fun t26 w =>
 opV Pg (Instr.loadAt 22 t26) (outQ Pg ds [(none,t13),(some 39,t3),(some 4,t4)] R) w fun t27 w =>
 opV Pg (Builtin.len_ #[22] 3 #[t27]) (outQ Pg ds [(none,t13),(some 39,t3),(some 4,t4)] R) w fun t28 w =>
 opV Pg (binS .leq 3 true t28 (.int .i64 60)) (outQ Pg ds [(none,t13),(some 39,t3),(some 4,t4)] R) w fun t29 w =>
 K1 t29 w
def n60c9 (t1 t3 t4 t13:Value) (ds:List Deferred) (R:RT) (w:World):Prop :=
 opV Pg (Instr.fieldAt 24 t1 1) (outQ Pg ds [(none,t13),(some 39,t3),(some 4,t4)] R) w fun t21 w =>
 opV Pg (Instr.loadAt 22 t21) (outQ Pg ds [(none,t13),(some 39,t3),(some 4,t4)] R) w fun t22 w =>
 opV Pg (Builtin.len_ #[22] 3 #[t22]) (outQ Pg ds [(none,t13),(some 39,t3),(some 4,t4)] R) w fun t23 w =>
 opV Pg (binS .geq 3 true t23 (.int .i64 1)) (outQ Pg ds [(none,t13),(some 39,t3),(some 4,t4)] R) w fun t24 w =>
 joinK (fun (t29:Value) (w:World) =>
 n60c7 t1 t3 t4 t13 t24 t29 ds R w) fun K1 =>
 guardP t24 true (
 n60c8 t1 t3 t4 t13 K1 ds R w) (
 K1 undef w)
def n60 (t0:Value) (R:RT) (w:World):Prop :=
 (fun (ds:List Deferred) =>
 opV Pg (Instr.box 24 t0) (outQ Pg ds [(none,undef),(some 39,undef),(some 4,undef)] R) w fun t1 w =>
 opV Pg (Instr.alloc 39 true (.tuple #[])) (outQ Pg ds [(none,(Value.pointer none)),(some 39,undef),(some 4,undef)] R) w fun t3 w =>
 opV Pg (Instr.alloc 4 true (.tuple #[])) (outQ Pg ds [(none,(Value.pointer none)),(some 39,t3),(some 4,undef)] R) w fun t4 w =>
 opV Pg (Instr.loadAt 24 t1) (outQ Pg ds [(none,(Value.pointer none)),(some 39,t3),(some 4,t4)] R) w fun t9 w =>
 opV Pg (Instr.makeMap 62 none) (outQ Pg ds [(none,(Value.pointer none)),(some 39,t3),(some 4,t4)] R) w fun t10 w =>
 opV Pg (Instr.makeMap 63 none) (outQ Pg ds [(none,(Value.pointer none)),(some 39,t3),(some 4,t4)] R) w fun t11 w =>
 opV Pg (Instr.build 65 #[(0,t9),(1,t10),(2,t11),(3,(.int .i64 (-1))),(4,(.int .i64 (-1)))]) (outQ Pg ds [(none,(Value.pointer none)),(some 39,t3),(some 4,t4)] R) w fun t12 w =>
 opV Pg (Instr.box 65 t12) (outQ Pg ds [(none,(Value.pointer none)),(some 39,t3),(some 4,t4)] R) w fun t13 w =>
 opV Pg (Instr.makeFunc (.func 36) #[] #[t3,t4]) (outQ Pg ds [(none,t13),(some 39,t3),(some 4,t4)] R) w fun t14 w =>
 defK Pg t14 #[] ds w fun ds w =>
 opV Pg (Instr.fieldAt 24 t1 0) (outQ Pg ds [(none,t13),(some 39,t3),(some 4,t4)] R) w fun t16 w =>
 opV Pg (Instr.loadAt 9 t16) (outQ Pg ds [(none,t13),(some 39,t3),(some 4,t4)] R) w fun t17 w =>
 callK Pg 38 #[t17] (outQ Pg ds [(none,t13),(some 39,t3),(some 4,t4)] R) w fun t18 w =>
 callK Pg 37 #[t13,t18,(.int .i64 1)] (outQ Pg ds [(none,t13),(some 39,t3),(some 4,t4)] R) w fun t19 w =>
 n60c9 t1 t3 t4 t13 ds R w) []
theorem n60s {t0:Value} {R:RT} {w:World} (h:n60 t0 R w):Calls Pg 31 #[t0] w R:=by
 refine calls_of_denM (args:=[t0]) Tryz.func31 rfl (Nat.le_of_ble_eq_true rfl) ?_
 unfold n60 at h
 dsimp only at h
 refine zs<|zr ?_
 refine zq h fun t1 w h=>?_
 refine zm ?_
 refine zq h fun t3 w h=>?_
 refine zq h fun t4 w h=>?_
 refine zn<|zk<|zs<|zr ?_
 refine zq h fun t9 w h=>?_
 refine zq h fun t10 w h=>?_
 refine zq h fun t11 w h=>?_
 refine sim_build h rfl (fun _ _ h=>outQ_of rfl h) ?_;intro t12 w h
 refine zq h fun t13 w h=>?_
 refine zm<|zn<|zk<|zs<|zr ?_
 refine sim_makeFunc h rfl rfl (fun _ _ h=>outQ_of rfl h) ?_;intro t14 w h
 refine sim_defer h rfl rfl ?_;intro ds w h
 refine zn<|zk<|zs<|zr<|zm ?_
 refine zq h fun t16 w h=>?_
 refine zq h fun t17 w h=>?_
 refine sim_call h c38 rfl (fun _ _ h=>outQ_of rfl h) ?_;intro t18 w h
 refine sim_call h c37 rfl (fun _ _ h=>outQ_of rfl h) ?_;intro t19 w h
 refine zn<|zk<|zs<|sim_regionG ?_
 refine sim_seg 6 rfl ?_
 refine zm ?_
 refine zq h fun t21 w h=>?_
 refine zq h fun t22 w h=>?_
 refine sim_builtin h rfl (fun _ _ h=>outQ_of rfl h) ?_;intro t23 w h
 refine sim_bin h rfl rfl rfl (fun _ _ h=>outQ_of rfl h) ?_;intro t24 w h
 refine zm<|zn ?_
 refine joinK_elim h (fun K1 hK h=>?_)
 refine sim_groupJ 4 5 true [26,27,28,29] (fun ρ w=>K1 (ρ 29) w) rfl rfl (fun T hT=>guardP_mono h (fun h=>?_) (fun h=>?_)) (fun σ w h=>?_)
 · refine zq h fun t26 w h=>?_
   refine zq h fun t27 w h=>?_
   refine sim_builtin h rfl (fun _ _ h=>outQ_of rfl h) ?_;intro t28 w h
   refine sim_bin h rfl rfl rfl (fun _ _ h=>outQ_of rfl h) ?_;intro t29 w h
   refine zn ?_
   exact zt hT h
 · exact zt hT h
 subst hK
 refine sim_seg 2 rfl ?_
 refine sim_pick h rfl rfl rfl ?_;intro t30 h
 refine sim_call h c37 rfl (fun _ _ h=>outQ_of rfl h) ?_;intro t31 w h
 refine zn<|sim_end<|zk<|zs<|zs<|zr ?_
 refine zq h fun t32 w h=>?_
 refine zq h fun t33 w h=>?_
 refine sim_builtin h rfl (fun _ _ h=>outQ_of rfl h) ?_;intro t34 w h
 refine zm<|zn<|zk<|sim_block ?_
 obtain ⟨I,μ,h0,hr⟩:=h
 refine sim_loop [5,6,35,36,37,38,39,40,41,42,43,44,45,46,47] (by kernel_rfl) (fun ρ w=>I (ρ 35) w) (fun ρ w=>μ (ρ 35) w) h0 (fun σ w hI=>?_)
 have h:=hr _ _ hI
 clear hr h0 hI
 refine zs<|zr ?_
 refine sim_bin h rfl rfl rfl (fun _ _ h=>outQ_of rfl h) ?_;intro t36 w h
 refine zn<|zk<|zs ?_
 refine sim_cond h rfl (fun h=>?_) (fun h=>?_)
 · refine sim_skip<|zk<|zs<|sim_block<|zs<|zr<|zm ?_
   refine zq h fun t38 w h=>?_
   refine zq h fun t39 w h=>?_
   refine zq h fun t6 w h=>?_
   refine zm ?_
   refine sim_unit h rfl rfl (fun _ _ h=>outQ_of rfl h) ?_;intro w h
   refine zn<|zk<|zs<|zr<|zm<|zm ?_
   refine sim_next h rfl rfl (fun _ _ h=>outQ_of rfl h) ?_;intro t42 w h
   refine zq h fun t43 w h=>?_
   refine sim_unit h rfl rfl (fun _ _ h=>outQ_of rfl h) ?_;intro w h
   refine zn<|zk<|zr<|zm ?_
   refine zq h fun t45 w h=>?_
   refine sim_call h c39 rfl (fun _ _ h=>outQ_of rfl h) ?_;intro t46 w h
   refine zn<|sim_block_normal<|zk<|zr ?_
   refine sim_bin h rfl rfl rfl (fun _ _ h=>outQ_of rfl h) ?_;intro t47 w h
   refine zm<|zn<|zk ?_
   exact ⟨rfl,h⟩
 · refine sim_exit<|sim_then_exit<|sim_then_exit<|sim_block_hit<|zk<|zs<|zr<|zm ?_
   refine sim_next h rfl rfl (fun _ _ h=>outQ_of rfl h) ?_;intro t49 w h
   refine zq h fun t50 w h=>?_
   refine sim_unit h rfl rfl (fun _ _ h=>outQ_of rfl h) ?_;intro w h
   refine zn<|zk<|zs ?_
   obtain ⟨C3,hC,h⟩:=h
   refine sim_draw [7,8,51,52,53,54,55,56,57,58,59,60] (by kernel_rfl) (by kernel_rfl) C3 ?_
   refine zw 0 hC ?_
   obtain ⟨t53,hv,h⟩:=h
   refine sim_dsilent 1 hC rfl (by kernel_rfl) (by kernel_rfl) (fun _ _=>rfl) rfl (Sw.qN_run rfl hv) ?_
   refine ze 2 hC h fun t54 h=>?_
   refine ze 3 hC h fun t55 h=>?_
   refine ze 4 hC h fun t56 h=>?_
   refine ze 5 hC h fun t57 h=>?_
   refine ze 6 hC h fun t58 h=>?_
   refine zw 7 hC ?_
   refine ze 8 hC h fun t59 h=>?_
   refine ze 9 hC h fun t60 h=>?_
   refine zw 10 hC ?_
   refine zw 11 hC ?_
   refine sim_dend (by kernel_rfl) ?_
   refine zk<|zs<|zr<|zm<|zm ?_
   refine sim_call h c37 rfl (fun _ _ h=>outQ_of rfl h) ?_;intro t63 w h
   refine zn<|zk<|zs<|zr<|zm ?_
   refine sim_build h rfl (fun _ _ h=>outQ_of rfl h) ?_;intro t65 w h
   refine zm ?_
   refine sim_unit h rfl rfl (fun _ _ h=>outQ_of rfl h) ?_;intro w h
   refine sim_unit h rfl rfl (fun _ _ h=>outQ_of rfl h) ?_;intro w h
   refine zn<|zk<|sim_ret ?_
   exact Sw.bodyM_ret rfl h
end Go.Proofs.YtiajhbbmgglmlaaGreat
namespace Go.Proofs.YtiajhbbmgglmlaaGreat
open Sw
open Go.RowKit (intOf Below)
theorem Clone_Term_ret (w0:World) (v:Value) (css:List (Cs 2)) (hs:SliceOf w0 2 (fun _ cs x=>cs=x.1) v css) (h1:∀ x∈css,∀ u∈x.1,u.oneCell'=true) (hb:css.length≤1048576) :
 Ret Pg 29 #[v] w0 fun r w'=>OwnE w' w0.heap.size 78 2 Subtype.val r css∧Ext w0 w':=by
 obtain ⟨A,c,rfl,hlc,hcm,hlm,hel⟩:=SliceOf.open hs
 refine n109s (R:=retR _) ?_;unfold n109
 simp (disch:=try exact DI) only [↓PR,QR,Int.reduceBEq,Int.reduceBNe,Int.reduceLT,Int.reduceLE,Int.reduceGT,Int.reduceGE,Int.reduceNeg]
 cases A with
 | none =>
  have:css=[]:=by
   cases css with
   | nil=>rfl
   | cons x l=>obtain ⟨_,_,_,h,_⟩:=hel 0 x rfl;cases h
  subst this
  simp only [Option.isNone_none]
  simp (disch:=try exact DI) only [↓PR,QR,Int.reduceBEq,Int.reduceBNe,Int.reduceLT,Int.reduceLE,Int.reduceGT,Int.reduceGE,Int.reduceNeg]
  exact ⟨OwnE.nil _ _ _ _ _,ee⟩
 | some a =>
  simp only [Option.isNone_some]
  simp (disch:=try exact DI) only [↓PR,QR,Int.reduceBEq,Int.reduceBNe,Int.reduceLT,Int.reduceLE,Int.reduceGT,Int.reduceGE,Int.reduceNeg]
  have hO:=OwnE.new w0 78 2 (Subtype.val:Cs 2→List Value) [] (fun x=>x.2) (by simp)
  simp only [List.flatMap_nil,List.length_nil] at hO
  have eW:Ext w0 (w0.alloc (.cells #[] 78)):=ee
  have hsz:w0.heap.size≤(w0.alloc (.cells #[] 78)).heap.size:=eW.size
  generalize w0.alloc (.cells #[] 78)=W at hO eW hsz ⊢
  cases hcs:css with
  | nil =>
   subst hcs
   simp only [List.length_nil]
   rw [op_append0 Tryz.underlying47 ty78 _ _ _ _ _ (Nat.le_refl 0)]
   simp (disch:=try exact DI) only [↓PR,QR,Int.reduceBEq,Int.reduceBNe,Int.reduceLT,Int.reduceLE,Int.reduceGT,Int.reduceGE,Int.reduceNeg]
   exact ⟨hO,eW⟩
  | cons x0 l0 =>
   obtain ⟨b,o,_,hA,_⟩:=hel 0 x0 (by rw [hcs];rfl)
   injection hA with hA
   subst hA
   rw [← hcs]
   refine op_appendE Tryz.underlying47 ty78 rfl (by decide) (fun x=>x.2) h1 hO (fun j x hx=>?_) hsz ?_ (by simp;omega) ?_
   · obtain ⟨b',o',cs,hA',hl',hE,rfl⟩:=hel j x hx
     injection hA' with hA'
     injection hA' with h3 h4
     subst h3 h4
     exact hE.ext eW
   · have:=by78
     rw [List.length_nil,Nat.zero_add]
     exact Nat.le_trans (Nat.mul_le_mul hb this) (by decide)
   · intro v' w' ho hg
     simp (disch:=try exact DI) only [↓PR,QR,Int.reduceBEq,Int.reduceBNe,Int.reduceLT,Int.reduceLE,Int.reduceGT,Int.reduceGE,Int.reduceNeg]
     refine ⟨ho,eW.grown hg ?_⟩
     intro k hk
     have h:=hO.lt k hk
     exact h.1
theorem Clone_Case_ret (w0:World) (v:Value) (css:List (Cs 3)) (hs:SliceOf w0 3 (fun _ cs x=>cs=x.1) v css) (h1:∀ x∈css,∀ u∈x.1,u.oneCell'=true) (hb:css.length≤1048576) :
 Ret Pg 30 #[v] w0 fun r w'=>OwnE w' w0.heap.size 81 3 Subtype.val r css∧Ext w0 w':=by
 obtain ⟨A,c,rfl,hlc,hcm,hlm,hel⟩:=SliceOf.open hs
 refine n106s (R:=retR _) ?_;unfold n106
 simp (disch:=try exact DI) only [↓PR,QR,Int.reduceBEq,Int.reduceBNe,Int.reduceLT,Int.reduceLE,Int.reduceGT,Int.reduceGE,Int.reduceNeg]
 cases A with
 | none =>
  have:css=[]:=by
   cases css with
   | nil=>rfl
   | cons x l=>obtain ⟨_,_,_,h,_⟩:=hel 0 x rfl;cases h
  subst this
  simp only [Option.isNone_none]
  simp (disch:=try exact DI) only [↓PR,QR,Int.reduceBEq,Int.reduceBNe,Int.reduceLT,Int.reduceLE,Int.reduceGT,Int.reduceGE,Int.reduceNeg]
  exact ⟨OwnE.nil _ _ _ _ _,ee⟩
 | some a =>
  simp only [Option.isNone_some]
  simp (disch:=try exact DI) only [↓PR,QR,Int.reduceBEq,Int.reduceBNe,Int.reduceLT,Int.reduceLE,Int.reduceGT,Int.reduceGE,Int.reduceNeg]
  have hO:=OwnE.new w0 81 3 (Subtype.val:Cs 3→List Value) [] (fun x=>x.2) (by simp)
  simp only [List.flatMap_nil,List.length_nil] at hO
  have eW:Ext w0 (w0.alloc (.cells #[] 81)):=ee
  have hsz:w0.heap.size≤(w0.alloc (.cells #[] 81)).heap.size:=eW.size
  generalize w0.alloc (.cells #[] 81)=W at hO eW hsz ⊢
  cases hcs:css with
  | nil =>
   subst hcs
   simp only [List.length_nil]
   rw [op_append0 Tryz.underlying50 ty81 _ _ _ _ _ (Nat.le_refl 0)]
   simp (disch:=try exact DI) only [↓PR,QR,Int.reduceBEq,Int.reduceBNe,Int.reduceLT,Int.reduceLE,Int.reduceGT,Int.reduceGE,Int.reduceNeg]
   exact ⟨hO,eW⟩
  | cons x0 l0 =>
   obtain ⟨b,o,_,hA,_⟩:=hel 0 x0 (by rw [hcs];rfl)
   injection hA with hA
   subst hA
   rw [← hcs]
   refine op_appendE Tryz.underlying50 ty81 rfl (by decide) (fun x=>x.2) h1 hO (fun j x hx=>?_) hsz ?_ (by simp;omega) ?_
   · obtain ⟨b',o',cs,hA',hl',hE,rfl⟩:=hel j x hx
     injection hA' with hA'
     injection hA' with h3 h4
     subst h3 h4
     exact hE.ext eW
   · have:=by81
     rw [List.length_nil,Nat.zero_add]
     exact Nat.le_trans (Nat.mul_le_mul hb this) (by decide)
   · intro v' w' ho hg
     simp (disch:=try exact DI) only [↓PR,QR,Int.reduceBEq,Int.reduceBNe,Int.reduceLT,Int.reduceLE,Int.reduceGT,Int.reduceGE,Int.reduceNeg]
     refine ⟨ho,eW.grown hg ?_⟩
     intro k hk
     have h:=hO.lt k hk
     exact h.1
theorem Clone_Field_ret (w0:World) (v:Value) (css:List (Cs 15)) (hs:SliceOf w0 15 (fun _ cs x=>cs=x.1) v css) (h1:∀ x∈css,∀ u∈x.1,u.oneCell'=true) (hb:css.length≤1048576) :
 Ret Pg 28 #[v] w0 fun r w'=>OwnE w' w0.heap.size 52 15 Subtype.val r css∧Ext w0 w':=by
 obtain ⟨A,c,rfl,hlc,hcm,hlm,hel⟩:=SliceOf.open hs
 refine n107s (R:=retR _) ?_;unfold n107
 simp (disch:=try exact DI) only [↓PR,QR,Int.reduceBEq,Int.reduceBNe,Int.reduceLT,Int.reduceLE,Int.reduceGT,Int.reduceGE,Int.reduceNeg]
 cases A with
 | none =>
  have:css=[]:=by
   cases css with
   | nil=>rfl
   | cons x l=>obtain ⟨_,_,_,h,_⟩:=hel 0 x rfl;cases h
  subst this
  simp only [Option.isNone_none]
  simp (disch:=try exact DI) only [↓PR,QR,Int.reduceBEq,Int.reduceBNe,Int.reduceLT,Int.reduceLE,Int.reduceGT,Int.reduceGE,Int.reduceNeg]
  exact ⟨OwnE.nil _ _ _ _ _,ee⟩
 | some a =>
  simp only [Option.isNone_some]
  simp (disch:=try exact DI) only [↓PR,QR,Int.reduceBEq,Int.reduceBNe,Int.reduceLT,Int.reduceLE,Int.reduceGT,Int.reduceGE,Int.reduceNeg]
  have hO:=OwnE.new w0 52 15 (Subtype.val:Cs 15→List Value) [] (fun x=>x.2) (by simp)
  simp only [List.flatMap_nil,List.length_nil] at hO
  have eW:Ext w0 (w0.alloc (.cells #[] 52)):=ee
  have hsz:w0.heap.size≤(w0.alloc (.cells #[] 52)).heap.size:=eW.size
  generalize w0.alloc (.cells #[] 52)=W at hO eW hsz ⊢
  cases hcs:css with
  | nil =>
   subst hcs
   simp only [List.length_nil]
   rw [op_append0 Tryz.underlying43 ty52 _ _ _ _ _ (Nat.le_refl 0)]
   simp (disch:=try exact DI) only [↓PR,QR,Int.reduceBEq,Int.reduceBNe,Int.reduceLT,Int.reduceLE,Int.reduceGT,Int.reduceGE,Int.reduceNeg]
   exact ⟨hO,eW⟩
  | cons x0 l0 =>
   obtain ⟨b,o,_,hA,_⟩:=hel 0 x0 (by rw [hcs];rfl)
   injection hA with hA
   subst hA
   rw [← hcs]
   refine op_appendE Tryz.underlying43 ty52 rfl (by decide) (fun x=>x.2) h1 hO (fun j x hx=>?_) hsz ?_ (by simp;omega) ?_
   · obtain ⟨b',o',cs,hA',hl',hE,rfl⟩:=hel j x hx
     injection hA' with hA'
     injection hA' with h3 h4
     subst h3 h4
     exact hE.ext eW
   · have:=by52
     rw [List.length_nil,Nat.zero_add]
     exact Nat.le_trans (Nat.mul_le_mul hb this) (by decide)
   · intro v' w' ho hg
     simp (disch:=try exact DI) only [↓PR,QR,Int.reduceBEq,Int.reduceBNe,Int.reduceLT,Int.reduceLE,Int.reduceGT,Int.reduceGE,Int.reduceNeg]
     refine ⟨ho,eW.grown hg ?_⟩
     intro k hk
     have h:=hO.lt k hk
     exact h.1
theorem Clone_Message_ret (w0:World) (v:Value) (css:List (Cs 2)) (hs:SliceOf w0 2 (fun _ cs x=>cs=x.1) v css) (h1:∀ x∈css,∀ u∈x.1,u.oneCell'=true) (hb:css.length≤1048576) :
 Ret Pg 27 #[v] w0 fun r w'=>OwnE w' w0.heap.size 45 2 Subtype.val r css∧Ext w0 w':=by
 obtain ⟨A,c,rfl,hlc,hcm,hlm,hel⟩:=SliceOf.open hs
 refine n108s (R:=retR _) ?_;unfold n108
 simp (disch:=try exact DI) only [↓PR,QR,Int.reduceBEq,Int.reduceBNe,Int.reduceLT,Int.reduceLE,Int.reduceGT,Int.reduceGE,Int.reduceNeg]
 cases A with
 | none =>
  have:css=[]:=by
   cases css with
   | nil=>rfl
   | cons x l=>obtain ⟨_,_,_,h,_⟩:=hel 0 x rfl;cases h
  subst this
  simp only [Option.isNone_none]
  simp (disch:=try exact DI) only [↓PR,QR,Int.reduceBEq,Int.reduceBNe,Int.reduceLT,Int.reduceLE,Int.reduceGT,Int.reduceGE,Int.reduceNeg]
  exact ⟨OwnE.nil _ _ _ _ _,ee⟩
 | some a =>
  simp only [Option.isNone_some]
  simp (disch:=try exact DI) only [↓PR,QR,Int.reduceBEq,Int.reduceBNe,Int.reduceLT,Int.reduceLE,Int.reduceGT,Int.reduceGE,Int.reduceNeg]
  have hO:=OwnE.new w0 45 2 (Subtype.val:Cs 2→List Value) [] (fun x=>x.2) (by simp)
  simp only [List.flatMap_nil,List.length_nil] at hO
  have eW:Ext w0 (w0.alloc (.cells #[] 45)):=ee
  have hsz:w0.heap.size≤(w0.alloc (.cells #[] 45)).heap.size:=eW.size
  generalize w0.alloc (.cells #[] 45)=W at hO eW hsz ⊢
  cases hcs:css with
  | nil =>
   subst hcs
   simp only [List.length_nil]
   rw [op_append0 Tryz.underlying22 ty45 _ _ _ _ _ (Nat.le_refl 0)]
   simp (disch:=try exact DI) only [↓PR,QR,Int.reduceBEq,Int.reduceBNe,Int.reduceLT,Int.reduceLE,Int.reduceGT,Int.reduceGE,Int.reduceNeg]
   exact ⟨hO,eW⟩
  | cons x0 l0 =>
   obtain ⟨b,o,_,hA,_⟩:=hel 0 x0 (by rw [hcs];rfl)
   injection hA with hA
   subst hA
   rw [← hcs]
   refine op_appendE Tryz.underlying22 ty45 rfl (by decide) (fun x=>x.2) h1 hO (fun j x hx=>?_) hsz ?_ (by simp;omega) ?_
   · obtain ⟨b',o',cs,hA',hl',hE,rfl⟩:=hel j x hx
     injection hA' with hA'
     injection hA' with h3 h4
     subst h3 h4
     exact hE.ext eW
   · have:=by45
     rw [List.length_nil,Nat.zero_add]
     exact Nat.le_trans (Nat.mul_le_mul hb this) (by decide)
   · intro v' w' ho hg
     simp (disch:=try exact DI) only [↓PR,QR,Int.reduceBEq,Int.reduceBNe,Int.reduceLT,Int.reduceLE,Int.reduceGT,Int.reduceGE,Int.reduceNeg]
     refine ⟨ho,eW.grown hg ?_⟩
     intro k hk
     have h:=hO.lt k hk
     exact h.1
abbrev TT:TypeId:=78
abbrev TC:TypeId:=81
abbrev TF:TypeId:=52
abbrev TM:TypeId:=45
def EFieldN (w:World) (lo hi:Nat) (cs:List Value) (f:FieldD):Prop:=∃ tv cv,cs=fieldCells f tv cv∧OwnR w lo hi TT 2 (fun t:TermD=>termCells t) tv f.terms∧OwnR w lo hi TC 3 (fun c:CaseD=>caseCells c) cv f.cases
def FieldsN (w:World) (lo hi:Nat) (v:Value) (l:List FieldD):Prop:=∃ css:List (Cs 15),OwnR w lo hi TF 15 Subtype.val v css∧Mates 15 (EFieldN w lo hi) css l
def EMsgN (w:World) (lo hi:Nat) (cs:List Value) (m:MsgD):Prop:=∃ fv,cs=msgCells m fv∧FieldsN w lo hi fv m.fields
def MsgsN (w:World) (lo hi:Nat) (v:Value) (l:List MsgD):Prop:=∃ css:List (Cs 2),OwnR w lo hi TM 2 Subtype.val v css∧Mates 2 (EMsgN w lo hi) css l
def DefN (w:World) (lo hi:Nat) (v:Value) (d:DefD):Prop:=∃ mv,v = .agg (defCells d mv).toArray∧MsgsN w lo hi mv d.msgs
section
variable {w w':World} {lo hi lo' hi':Nat}
theorem EFieldN.ext {cs:List Value} {f:FieldD} (h:EFieldN w lo hi cs f) (e:Ext w w'):EFieldN w' lo hi cs f:=by obtain ⟨tv,cv,h1,h2,h3⟩:=h;exact ⟨tv,cv,h1,h2.ext e,h3.ext e⟩
theorem FieldsN.ext {v:Value} {l:List FieldD} (h:FieldsN w lo hi v l) (e:Ext w w'):FieldsN w' lo hi v l:=by obtain ⟨css,h1,h2⟩:=h;exact ⟨css,h1.ext e,h2.imp fun _ _ h=>h.ext e⟩
theorem EMsgN.ext {cs:List Value} {m:MsgD} (h:EMsgN w lo hi cs m) (e:Ext w w'):EMsgN w' lo hi cs m:=by obtain ⟨fv,h1,h2⟩:=h;exact ⟨fv,h1,h2.ext e⟩
theorem MsgsN.ext {v:Value} {l:List MsgD} (h:MsgsN w lo hi v l) (e:Ext w w'):MsgsN w' lo hi v l:=by obtain ⟨css,h1,h2⟩:=h;exact ⟨css,h1.ext e,h2.imp fun _ _ h=>h.ext e⟩
theorem DefN.ext {v:Value} {d:DefD} (h:DefN w lo hi v d) (e:Ext w w'):DefN w' lo hi v d:=by obtain ⟨mv,h1,h2⟩:=h;exact ⟨mv,h1,h2.ext e⟩
theorem EFieldN.mono {cs:List Value} {f:FieldD} (h:EFieldN w lo hi cs f) (h1:lo'≤lo) (h2:hi≤hi'):EFieldN w lo' hi' cs f:=by obtain ⟨tv,cv,a,b,c⟩:=h;exact ⟨tv,cv,a,b.mono h1 h2,c.mono h1 h2⟩
theorem FieldsN.mono {v:Value} {l:List FieldD} (h:FieldsN w lo hi v l) (h1:lo'≤lo) (h2:hi≤hi'):FieldsN w lo' hi' v l:=by obtain ⟨css,a,b⟩:=h;exact ⟨css,a.mono h1 h2,b.imp fun _ _ h=>h.mono h1 h2⟩
theorem EMsgN.mono {cs:List Value} {m:MsgD} (h:EMsgN w lo hi cs m) (h1:lo'≤lo) (h2:hi≤hi'):EMsgN w lo' hi' cs m:=by obtain ⟨fv,a,b⟩:=h;exact ⟨fv,a,b.mono h1 h2⟩
theorem MsgsN.mono {v:Value} {l:List MsgD} (h:MsgsN w lo hi v l) (h1:lo'≤lo) (h2:hi≤hi'):MsgsN w lo' hi' v l:=by obtain ⟨css,a,b⟩:=h;exact ⟨css,a.mono h1 h2,b.imp fun _ _ h=>h.mono h1 h2⟩
def Harmless (w:World) (lo hi b:Nat) (Ts:List TypeId):Prop:=hi≤b∨b < lo∨∃ T',TypeAt w b T'∧∀ T∈Ts,T'≠T
theorem Harmless.one {b:Nat} {Ts:List TypeId} (h:Harmless w lo hi b Ts) {T:TypeId} (hT:T∈Ts):hi≤b∨b < lo∨∃ T',TypeAt w b T'∧T'≠T:=by
 rcases h with h | h | ⟨T',h1,h2⟩
 · exact .inl h
 · exact .inr (.inl h)
 · exact .inr (.inr ⟨T',h1,h2 T hT⟩)
theorem Harmless.sub {b:Nat} {Ts Ts':List TypeId} (h:Harmless w lo hi b Ts) (hs:∀ T∈Ts',T∈Ts):Harmless w lo hi b Ts':=by
 rcases h with h | h | ⟨T',h1,h2⟩
 · exact .inl h
 · exact .inr (.inl h)
 · exact .inr (.inr ⟨T',h1,fun T hT=>h2 T (hs T hT)⟩)
theorem EFieldN.only {b:Nat} {cs:List Value} {f:FieldD} (h:EFieldN w lo hi cs f) (ho:Only b w w') (hb:Harmless w lo hi b [TT,TC]):EFieldN w' lo hi cs f:=by
 obtain ⟨tv,cv,h1,h2,h3⟩:=h
 exact ⟨tv,cv,h1,h2.only ho (hb.one (by simp)),h3.only ho (hb.one (by simp))⟩
theorem FieldsN.only {b:Nat} {v:Value} {l:List FieldD} (h:FieldsN w lo hi v l) (ho:Only b w w') (hb:Harmless w lo hi b [TT,TC,TF]):FieldsN w' lo hi v l:=by
 obtain ⟨css,h1,h2⟩:=h
 exact ⟨css,h1.only ho (hb.one (by simp)),h2.imp fun _ _ h=>h.only ho (hb.sub (by simp))⟩
theorem EMsgN.only {b:Nat} {cs:List Value} {m:MsgD} (h:EMsgN w lo hi cs m) (ho:Only b w w') (hb:Harmless w lo hi b [TT,TC,TF]):EMsgN w' lo hi cs m:=by
 obtain ⟨fv,h1,h2⟩:=h;exact ⟨fv,h1,h2.only ho hb⟩
theorem EFieldN.plain {cs:List Value} {f:FieldD} (h:EFieldN w lo hi cs f):EField w cs f:=by
 obtain ⟨tv,cv,h1,h2,h3⟩:=h
 exact ⟨tv,cv,h1,h2.1.slice (fun _=>rfl) (fun _ _=>rfl),h3.1.slice (fun _=>rfl) (fun _ _=>rfl)⟩
theorem FieldsN.plain {v:Value} {l:List FieldD} (h:FieldsN w lo hi v l):FieldsOf w v l:=by
 obtain ⟨css,h1,h2⟩:=h;exact h1.1.reads (h2.imp fun _ _ h=>h.plain)
theorem EMsgN.plain {cs:List Value} {m:MsgD} (h:EMsgN w lo hi cs m):EMsg w cs m:=by
 obtain ⟨fv,h1,h2⟩:=h;exact ⟨fv,h1,h2.plain⟩
theorem MsgsN.plain {v:Value} {l:List MsgD} (h:MsgsN w lo hi v l):MsgsOf w v l:=by
 obtain ⟨css,h1,h2⟩:=h;exact h1.1.reads (h2.imp fun _ _ h=>h.plain)
theorem DefN.plain {v:Value} {d:DefD} (h:DefN w lo hi v d):DefVal w v d:=by
 obtain ⟨mv,h1,h2⟩:=h;exact ⟨mv,h1,h2.plain⟩
end
def tameF (f:FieldD):Prop:=f.terms.length≤1048576∧f.cases.length≤1048576
def tameM (m:MsgD):Prop:=m.fields.length≤1048576∧∀ f∈m.fields,tameF f
def tame (d:DefD):Prop:=d.msgs.length≤1048576∧∀ m∈d.msgs,tameM m
theorem MsgsN.only {w w':World} {lo hi b:Nat} {v:Value} {l:List MsgD} (h:MsgsN w lo hi v l) (ho:Only b w w') (hb:Harmless w lo hi b [TT,TC,TF,TM]):MsgsN w' lo hi v l:=by
 obtain ⟨css,h1,h2⟩:=h
 exact ⟨css,h1.only ho (hb.one (by simp)),h2.imp fun _ _ h=>h.only ho (hb.sub (by simp))⟩
theorem EMsg.one {w:World} {cs:List Value} {m:MsgD} (h:EMsg w cs m):∀ u∈cs,u.oneCell'=true:=by
 obtain ⟨fv,rfl,h1⟩:=h
 have:=h1.oneCell
 intro u hu
 simp only [List.mem_cons,List.not_mem_nil,or_false] at hu
 rcases hu with rfl | rfl
 · rfl
 · exact this
theorem EField.one {w:World} {cs:List Value} {f:FieldD} (h:EField w cs f):∀ u∈cs,u.oneCell'=true:=by
 obtain ⟨tv,cv,rfl,h1,h2⟩:=h
 have h1:=h1.oneCell
 have h2:=h2.oneCell
 intro u hu
 simp only [List.mem_cons,List.not_mem_nil,or_false] at hu
 rcases hu with rfl | rfl | rfl | rfl | rfl | rfl | rfl | rfl | rfl | rfl | rfl | rfl | rfl | rfl | rfl<;>first | rfl | assumption
theorem ETerm.one {w:World} {cs:List Value} {t:TermD} (h:ETerm w cs t):∀ u∈cs,u.oneCell'=true:=by
 obtain rfl:=h
 intro u hu
 simp only [List.mem_cons,List.not_mem_nil,or_false] at hu
 rcases hu with rfl | rfl<;>rfl
theorem ECase.one {w:World} {cs:List Value} {t:CaseD} (h:ECase w cs t):∀ u∈cs,u.oneCell'=true:=by
 obtain rfl:=h
 intro u hu
 simp only [List.mem_cons,List.not_mem_nil,or_false] at hu
 rcases hu with rfl | rfl | rfl<;>rfl
theorem Copy_ret (w0:World) (v:Value) (d:DefD) (hd:DefVal w0 v d) (ht:tame d) :
 Ret Pg 12 #[v] w0 fun r w'=>DefN w' w0.heap.size w'.heap.size r d∧Ext w0 w':=by
 obtain ⟨mv,rfl,hM⟩:=hd
 refine n38s (R:=retR _) ?_;unfold n38
 simp (disch:=try exact DI) only [↓PR,QR,Int.reduceBEq,Int.reduceBNe,Int.reduceLT,Int.reduceLE,Int.reduceGT,Int.reduceGE,Int.reduceNeg]
 obtain ⟨cssM,hraw,hmates⟩:=SliceOf.raw hM
 generalize hW:(World.alloc (World.alloc w0 _) _)=W
 have eW:Ext w0 W:=by rw [← hW];exact ee
 have hsz:W.heap.size=w0.heap.size+1+1:=by rw [← hW];simp only [World.size_alloc]
 have hX:W.heap[w0.heap.size]?=some (.cells #[.string d.name,mv,.string d.start] 24 (0,0)):=by
  rw [← hW];exact ((Ext.refl _).alloc _).obj (heap_new w0 _ _)
 have hR:W.heap[w0.heap.size+1]?=some (.cells #[.string ByteArray.empty,.slice none 0 0,.string ByteArray.empty] 24 (0,0)):=by
  rw [← hW]
  have:=heap_new (w0.alloc (Obj.cells (defCells d mv).toArray 24)) #[.string ByteArray.empty,.slice none 0 0,.string ByteArray.empty] 24
  rw [World.size_alloc] at this
  exact this
 clear hW
 refine callK_ret (Clone_Message_ret W mv cssM (hraw.ext keptRaw eW) (fun x hx=>by obtain ⟨m,_,hm⟩:=hmates.mem hx;exact hm.one) (by rw [hmates.1];exact ht.1)) ?_
 rintro t9 w1 ⟨hO,e1⟩
 obtain ⟨A,c,rfl,hlc,hcm,hlm,hel⟩:=SliceOf.open (hO.slice (E:=fun _ cs x=>cs=x.1) (fun x=>x.2) (fun _ _=>rfl))
 clear hel
 have s1:=e1.size
 have hX1:=e1.obj hX
 have hX2:(w1.setCell ⟨w0.heap.size,1,none⟩ (.slice A cssM.length c)).heap[w0.heap.size]?=some (.cells #[.string d.name,.slice A cssM.length c,.string d.start] 24 (0,0)):=by
  have:=heap_set (o:=1) hX1 (.slice A cssM.length c)
  simpa using this
 have hR2:(w1.setCell ⟨w0.heap.size,1,none⟩ (.slice A cssM.length c)).heap[w0.heap.size+1]?=some (.cells #[.string ByteArray.empty,.slice none 0 0,.string ByteArray.empty] 24 (0,0)):=by
  rw [Only.setCell w1 w0.heap.size 1 _ _ (by omega)];exact e1.obj hR
 have hO2:OwnE (w1.setCell ⟨w0.heap.size,1,none⟩ (.slice A cssM.length c)) W.heap.size TM 2 Subtype.val (.slice A cssM.length c) cssM:=(hO.range.only (Only.setCell w1 w0.heap.size 1 _) (.inr (.inl (by omega)))).1
 have e02:Ext w0 (w1.setCell ⟨w0.heap.size,1,none⟩ (.slice A cssM.length c)):=(eW.trans e1).setCell (Nat.le_refl _) _
 simp (disch:=try exact DI) only [↓PR,QR,Int.reduceBEq,Int.reduceBNe,Int.reduceLT,Int.reduceLE,Int.reduceGT,Int.reduceGE,Int.reduceNeg,↓n38c1,↓n38c2,↓n38c3,↓n38c4,↓n38c5,↓n38c6,↓n38c7,↓n38c8,↓n38c9,(cells_of_heap hX1).1,(cells_of_heap hX1).2]
 generalize (World.setCell w1 ⟨w0.heap.size,1,none⟩ (.slice A cssM.length c))=w2 at hX2 hR2 hO2 e02 ⊢
 simp only [hmates.1] at *
 refine loop1_intro (fun a0 w=>∃ (k:Nat) , a0 = .int .i64 (k:Int)∧k≤d.msgs.length∧Ext w0 w∧(∃ css:List (Cs 2),OwnE w W.heap.size TM 2 Subtype.val (.slice A d.msgs.length c) css∧css.length=d.msgs.length∧(∀ (i:Nat) (m:MsgD) (cs:Cs 2),d.msgs[i]?=some m→css[i]?=some cs→if i < k then EMsgN w W.heap.size w.heap.size cs.1 m else EMsg w0 cs.1 m)∧Below W.heap.size w2 w)) (fun a0 _=>d.msgs.length - (intOf a0).toNat) ⟨0,rfl,Nat.zero_le _,ee,⟨cssM,hO2,hmates.1,fun i m cs hm hcs=>hmates.2 i m cs hm hcs,Below.refl _ _⟩⟩ ?_
 rintro _ w ⟨k,rfl,hk,e,hI⟩
 have se:=e.size
 rcases drop_cases hk with ⟨x,hx,hd,hlt,hdec⟩ | ⟨hk,hd,hdec⟩
 · obtain ⟨css,hOc,hlen,hE,hBel⟩:=hI
   obtain ⟨cs,hcs⟩:=getElem?_lt (l:=css) (k:=k) (by omega)
   have hEk:=hE k x cs hx hcs
   rw [if_neg (by omega)] at hEk
   obtain ⟨fv,hfv,hF⟩:=hEk
   obtain ⟨g,cap,hv,hglo,hglt,hTy,hfrz,hEl⟩:=hOc.row (fun x=>x.2) (by omega)
   injection hv with hv hv' hv''
   subst hv hv''
   have hEk:=hEl k cs hcs
   rw [hfv] at hEk
   have er:=Ext.refl w
   have hXw:w.heap[w0.heap.size]?=some (.cells #[.string d.name,.slice (some ⟨g,0,none⟩) d.msgs.length c,.string d.start] 24 (0,0)):=(hBel.block _ (by omega)).trans hX2
   simp (disch:=try exact DI) only [↓PR,QR,Int.reduceBEq,Int.reduceBNe,Int.reduceLT,Int.reduceLE,Int.reduceGT,Int.reduceGE,Int.reduceNeg,↓n38c1,↓n38c2,↓n38c3,↓n38c4,↓n38c5,↓n38c6,↓n38c7,↓n38c8,↓n38c9,(cells_of_heap hXw).1,hdec,hEk.c2]
   obtain ⟨cssF,hrawF,hmatesF⟩:=SliceOf.raw hF
   have htx:=ht.2 x (List.mem_of_getElem? hx)
   refine callK_ret (Clone_Field_ret w fv cssF (hrawF.ext keptRaw e) (fun y hy=>by obtain ⟨m,_,hm⟩:=hmatesF.mem hy;exact hm.one) (by rw [hmatesF.1];exact htx.1)) ?_
   rintro t26 w3 ⟨hOF,e3⟩
   obtain ⟨AF,cF,rfl,hlcF,hcmF,hlmF,helF⟩:=SliceOf.open (hOF.slice (E:=fun _ cs x=>cs=x.1) (fun x=>x.2) (fun _ _=>rfl))
   clear helF
   have s3:=e3.size
   have hO3:=hOc.ext e3
   have hcsl:k < css.length:=(List.getElem?_eq_some_iff.1 hcs).1
   simp only [hv'] at hO3
   have hO4:=hO3.set hcs (show 1 < 2 by decide) (.slice AF cssF.length cF)
   simp only [← hv'] at hO4
   have oG:=Only.setCell w3 g (k*2+1) (.slice AF cssF.length cF)
   have hF4:=(hOF.range.only oG (.inr (.inr ⟨TM,hTy.ext e3,by decide⟩))).1
   have e4:Ext w0 (w3.setCell ⟨g,k*2+1,none⟩ (.slice AF cssF.length cF)):=(e.trans e3).setCell (show w0.heap.size≤g by omega) _
   have hBel4:Below W.heap.size w2 (w3.setCell ⟨g,k*2+1,none⟩ (.slice AF cssF.length cF)):=(hBel.trans (e3.below.mono (by omega))).setCell hglo _
   have hTy4:TypeAt (w3.setCell ⟨g,k*2+1,none⟩ (.slice AF cssF.length cF)) g TM:=by
    obtain ⟨cur,fr,h⟩:=hTy.ext e3
    exact ⟨_,fr,heap_set h _⟩
   have hprev:∀ (i:Nat) (m:MsgD) (cs:Cs 2),i≠k→d.msgs[i]?=some m→css[i]?=some cs→if i < k then EMsgN (w3.setCell ⟨g,k*2+1,none⟩ (.slice AF cssF.length cF)) W.heap.size w.heap.size cs.1 m else EMsg w0 cs.1 m:=by
    intro i m cs' hik hm hcs'
    have h:=hE i m cs' hm hcs'
    by_cases hlt':i < k
    · rw [if_pos hlt'] at h ⊢
      exact (h.ext e3).only oG (.inr (.inr ⟨TM,hTy.ext e3,by decide⟩))
    · rw [if_neg hlt'] at h ⊢;exact h
   have hfrz3:∀ o,w3.frozen? ⟨g,o,none⟩=false:=fun o=>by rw [e3.frozenQ hglt];exact hfrz o
   simp (disch:=try exact DI) only [↓PR,QR,Int.reduceBEq,Int.reduceBNe,Int.reduceLT,Int.reduceLE,Int.reduceGT,Int.reduceGE,Int.reduceNeg,↓n38c1,↓n38c2,↓n38c3,↓n38c4,↓n38c5,↓n38c6,↓n38c7,↓n38c8,↓n38c9,hEk.c2,hfrz3]
   have hsz4:w.heap.size≤(w3.setCell ⟨g,k*2+1,none⟩ (.slice AF cssF.length cF)).heap.size:=by simpa using s3
   generalize (World.setCell w3 ⟨g,k*2+1,none⟩ (.slice AF cssF.length cF))=w4 at hO4 hF4 e4 hBel4 hTy4 hprev hsz4 ⊢
   simp only [hmatesF.1] at *
   refine loop1_intro (fun a0 wa=>∃ (ka:Nat) , a0 = .int .i64 (ka:Int)∧ka≤x.fields.length∧Ext w0 wa∧(∃ cF':List (Cs 15),OwnE wa w.heap.size TF 15 Subtype.val (.slice AF x.fields.length cF) cF'∧cF'.length=x.fields.length∧(∀ (i:Nat) (f:FieldD) (cs:Cs 15),x.fields[i]?=some f→cF'[i]?=some cs→if i < ka then EFieldN wa W.heap.size wa.heap.size cs.1 f else EField w0 cs.1 f)∧OwnE wa W.heap.size TM 2 Subtype.val (.slice (some ⟨g,0,none⟩) d.msgs.length c) (css.set k ⟨cs.1.set 1 (.slice AF x.fields.length cF),by simp [cs.2]⟩)∧(∀ (i:Nat) (m:MsgD) (cs:Cs 2),i≠k→d.msgs[i]?=some m→css[i]?=some cs→if i < k then EMsgN wa W.heap.size w.heap.size cs.1 m else EMsg w0 cs.1 m)∧Below W.heap.size w2 wa∧TypeAt wa g TM∧w.heap.size≤wa.heap.size)) (fun a0 _=>x.fields.length - (intOf a0).toNat) ⟨0,rfl,Nat.zero_le _,ee,⟨cssF,hF4,hmatesF.1,fun i m cs hm hcs=>hmatesF.2 i m cs hm hcs,hO4,hprev,hBel4,hTy4,hsz4⟩⟩ ?_
   rintro _ wa ⟨ka,rfl,hka,ea,hIa⟩
   have sea:=ea.size
   rcases drop_cases hka with ⟨xa,hxa,hda,hlta,hdeca⟩ | ⟨hka,hda,hdeca⟩
   · obtain ⟨cF',h1,h2,h3,h4,h5,h6,h7,h8⟩:=hIa
     obtain ⟨cf,hcf⟩:=getElem?_lt (l:=cF') (k:=ka) (by omega)
     have hEf:=h3 ka xa cf hxa hcf
     rw [if_neg (by omega)] at hEf
     obtain ⟨tv,cv,hcfv,hT,hC⟩:=hEf
     obtain ⟨gF,capF,hvF,hgFlo,hgFlt,hTyF,hfrzF,hElF⟩:=h1.row (fun x=>x.2) (by omega)
     injection hvF with hvF hvF' hvF''
     subst hvF hvF''
     have hEfk:=hElF ka cf hcf
     rw [hcfv] at hEfk
     have era:=Ext.refl wa
     obtain ⟨g',cap',hv2,_,hgltA,_,_,hElM⟩:=h4.row (fun x=>x.2) (by simp;omega)
     injection hv2 with hv2 hv2' hv2''
     injection hv2 with hv2
     injection hv2 with hv2
     subst hv2
     have hEm:=hElM k _ (List.getElem?_set_self hcsl)
     simp only [hfv,List.set_cons_succ,List.set_cons_zero] at hEm
     simp (disch:=try exact DI) only [↓PR,QR,Int.reduceBEq,Int.reduceBNe,Int.reduceLT,Int.reduceLE,Int.reduceGT,Int.reduceGE,Int.reduceNeg,↓n38c1,↓n38c2,↓n38c3,↓n38c4,↓n38c5,↓n38c6,↓n38c7,↓n38c8,↓n38c9,hdeca,hEm.c2,hEfk.c15]
     refine drawK_intro ?_
     simp (disch:=try exact DI) only [↓PR,QR,Int.reduceBEq,Int.reduceBNe,Int.reduceLT,Int.reduceLE,Int.reduceGT,Int.reduceGE,Int.reduceNeg,↓n38c1,↓n38c2,↓n38c3,↓n38c4,↓n38c5,↓n38c6,↓n38c7,↓n38c8,↓n38c9,hEfk.c15]
     obtain ⟨cssT,hrawT,hmatesT⟩:=SliceOf.raw hT
     obtain ⟨cssC,hrawC,hmatesC⟩:=SliceOf.raw hC
     have htf:=htx.2 xa (List.mem_of_getElem? hxa)
     refine callK_ret (Clone_Term_ret wa.drew tv cssT (hrawT.ext keptRaw ea.wdrew) (fun y hy=>by obtain ⟨m,_,hm⟩:=hmatesT.mem hy;exact hm.one) (by rw [hmatesT.1];exact htf.1)) ?_
     rintro t50 w5 ⟨hOT,e5⟩
     refine ⟨e5,?_⟩
     refine callK_ret (Clone_Case_ret w5 cv cssC (hrawC.ext keptRaw (ea.wdrew.trans e5)) (fun y hy=>by obtain ⟨m,_,hm⟩:=hmatesC.mem hy;exact hm.one) (by rw [hmatesC.1];exact htf.2)) ?_
     rintro t55 w6 ⟨hOC,e6⟩
     refine ⟨e5.trans e6,?_⟩
     have s5:=e5.size
     have s6:=e6.size
     simp only [World.size_drew] at s5
     have eA6:Ext wa w6:=era.wdrew.trans (e5.trans e6)
     have hTy6:=hTyF.ext eA6
     have hfrz6:∀ o,w6.frozen? ⟨gF,o,none⟩=false:=fun o=>by rw [eA6.frozenQ hgFlt];exact hfrzF o
     obtain ⟨AT,cT,rfl,_⟩:=SliceOf.open (hOT.slice (E:=fun _ cs x=>cs=x.1) (fun x=>x.2) (fun _ _=>rfl))
     obtain ⟨AC,cC,rfl,_⟩:=SliceOf.open (hOC.slice (E:=fun _ cs x=>cs=x.1) (fun x=>x.2) (fun _ _=>rfl))
     simp (disch:=try exact DI) only [↓PR,QR,Int.reduceBEq,Int.reduceBNe,Int.reduceLT,Int.reduceLE,Int.reduceGT,Int.reduceGE,Int.reduceNeg,↓n38c1,↓n38c2,↓n38c3,↓n38c4,↓n38c5,↓n38c6,↓n38c7,↓n38c8,↓n38c9,hEfk.c15,hfrz6]
     obtain ⟨w7,hw7⟩:∃ w7,w6.setCell ⟨gF,ka*15+8,none⟩ (.slice AT cssT.length cT)=w7:=⟨_,rfl⟩
     have o7:Only gF w6 w7:=by rw [← hw7];exact Only.setCell _ _ _ _
     have hE7:∀ j,w7.frozen? ⟨gF,j,none⟩=false:=fun j=>by rw [← hw7,frozen_set];exact hfrz6 j
     have hc7:w7.cell? ⟨gF,ka*15+12,none⟩=some cv:=by
      rw [← hw7,cell_set_other (by omega)];exact eA6.cell (hEfk.c15 era).2.2.2.2.2.2.2.2.2.2.2.2.1
     have hTy7:TypeAt w7 gF TF:=by
      obtain ⟨cur,fr,h⟩:=hTy6
      exact ⟨_,fr,by rw [← hw7];exact heap_set h _⟩
     have s7:w7.heap.size=w6.heap.size:=by rw [← hw7];simp
     have h16:=h1.ext eA6
     have hcfl:ka < cF'.length:=(List.getElem?_eq_some_iff.1 hcf).1
     simp only [hvF'] at h16
     have hF7:=h16.set hcf (show 8 < 15 by decide) (.slice AT cssT.length cT)
     rw [hw7] at hF7
     have e07:Ext w0 w7:=by rw [← hw7];exact (ea.trans eA6).setCell (show w0.heap.size≤gF by omega) _
     have hB7:Below W.heap.size w2 w7:=by rw [← hw7];exact (h6.trans (eA6.below.mono (by omega))).setCell (show W.heap.size≤gF by omega) _
     rw [hw7]
     refine turnK_intro ?_
     simp (disch:=try exact DI) only [↓PR,QR,Int.reduceBEq,Int.reduceBNe,Int.reduceLT,Int.reduceLE,Int.reduceGT,Int.reduceGE,Int.reduceNeg,↓n38c1,↓n38c2,↓n38c3,↓n38c4,↓n38c5,↓n38c6,↓n38c7,↓n38c8,↓n38c9,hc7,hE7]
     obtain ⟨w8,hw8⟩:∃ w8,w7.setCell ⟨gF,ka*15+12,none⟩ (.slice AC cssC.length cC)=w8:=⟨_,rfl⟩
     have o8:Only gF w7 w8:=by rw [← hw8];exact Only.setCell _ _ _ _
     have hF8:=hF7.set (List.getElem?_set_self hcfl) (show 12 < 15 by decide) (.slice AC cssC.length cC)
     rw [hw8] at hF8
     have s8:w8.heap.size=w7.heap.size:=by rw [← hw8];simp
     have hTy8:TypeAt w8 g TM:=((h7.ext eA6).only o7 (by rintro rfl;obtain ⟨_,_,a⟩:=h7;obtain ⟨_,_,b⟩:=hTyF;rw [a] at b;injection b with b;injection b with _ b _;exact absurd b (by decide))).only o8 (by rintro rfl;obtain ⟨_,_,a⟩:=h7;obtain ⟨_,_,b⟩:=hTyF;rw [a] at b;injection b with b;injection b with _ b _;exact absurd b (by decide))
     have e08:Ext w0 w8:=by rw [← hw8];exact e07.setCell (show w0.heap.size≤gF by omega) _
     have hB8:Below W.heap.size w2 w8:=by rw [← hw8];exact hB7.setCell (show W.heap.size≤gF by omega) _
     have hM8:=((((h4.ext eA6).range.only o7 (.inr (.inr ⟨TF,hTy6,by decide⟩))).1).range.only o8 (.inr (.inr ⟨TF,hTy7,by decide⟩))).1
     have hT8:OwnR w8 W.heap.size w8.heap.size TT 2 (fun t:TermD=>termCells t) (.slice AT cssT.length cT) xa.terms:=by
      have h:=(((hOT.ext e6).range.only o7 (.inr (.inr ⟨TF,hTy6,by decide⟩))).only o8 (.inr (.inr ⟨TF,hTy7,by decide⟩)))
      refine ⟨(OwnE.mates h.1 (hmatesT.imp fun _ _ h=>h)).base (by simp only [World.size_drew];omega),fun b hb=>?_⟩
      have:=h.2 b hb
      omega
     have hC8:OwnR w8 W.heap.size w8.heap.size TC 3 (fun c:CaseD=>caseCells c) (.slice AC cssC.length cC) xa.cases:=by
      have h:=((hOC.range.only o7 (.inr (.inr ⟨TF,hTy6,by decide⟩))).only o8 (.inr (.inr ⟨TF,hTy7,by decide⟩)))
      refine ⟨(OwnE.mates h.1 (hmatesC.imp fun _ _ h=>h)).base (by omega),fun b hb=>?_⟩
      have:=h.2 b hb
      omega
     rw [hw8]
     refine turnK_intro ?_
     simp (disch:=try exact DI) only [↓PR,QR,Int.reduceBEq,Int.reduceBNe,Int.reduceLT,Int.reduceLE,Int.reduceGT,Int.reduceGE,Int.reduceNeg]
     have hf8:∀ (i:Nat) (f:FieldD) (cs'':Cs 15),xa.name=xa.name→x.fields[i]?=some f→((cF'.set ka ⟨cf.1.set 8 (.slice AT cssT.length cT),by simp [cf.2]⟩).set ka ⟨(cf.1.set 8 (.slice AT cssT.length cT)).set 12 (.slice AC cssC.length cC),by simp [cf.2]⟩)[i]?=some cs''→if i < ka+1 then EFieldN w8 W.heap.size w8.heap.size cs''.1 f else EField w0 cs''.1 f:=by
      intro i f cs'' _ hf hcs''
      by_cases hik:i=ka
      · subst hik
        rw [if_pos (by omega)]
        rw [List.getElem?_set_self (by simp;omega)] at hcs''
        injection hcs'' with hcs''
        subst hcs''
        rw [hxa] at hf
        injection hf with hf
        subst hf
        exact ⟨_,_,by show (cf.1.set 8 _).set 12 _=_;rw [hcfv];rfl,hT8,hC8⟩
      · rw [List.getElem?_set_ne (Ne.symm hik),List.getElem?_set_ne (Ne.symm hik)] at hcs''
        have h:=h3 i f cs'' hf hcs''
        by_cases hlt':i < ka
        · rw [if_pos hlt'] at h
          rw [if_pos (by omega)]
          exact (((h.ext eA6).only o7 (.inr (.inr ⟨TF,hTy6,by decide⟩))).only o8 (.inr (.inr ⟨TF,hTy7,by decide⟩))).mono (Nat.le_refl _) (by omega)
        · rw [if_neg hlt'] at h
          rw [if_neg (by omega)]
          exact h
     have hm8:∀ (i:Nat) (m:MsgD) (cs:Cs 2),i≠k→d.msgs[i]?=some m→css[i]?=some cs→if i < k then EMsgN w8 W.heap.size w.heap.size cs.1 m else EMsg w0 cs.1 m:=by
      intro i m cs' hik hm hcs'
      have h:=h5 i m cs' hik hm hcs'
      by_cases hlt':i < k
      · rw [if_pos hlt'] at h ⊢
        exact (((h.ext eA6).only o7 (.inl hgFlo)).only o8 (.inl hgFlo))
      · rw [if_neg hlt'] at h ⊢;exact h
     simp only [← hvF'] at hF8
     exact ⟨⟨ka+1,rfl,by omega,ee,⟨_,hF8,by simp [h2],fun i f cs'' hf hc=>hf8 i f cs'' rfl hf hc,hM8,hm8,hB8,hTy8,by omega⟩⟩,meas_lt hlta⟩
   · subst hka
     obtain ⟨cF',h1,h2,h3,h4,h5,h6,h7,h8⟩:=hIa
     simp (disch:=try exact DI) only [↓PR,QR,Int.reduceBEq,Int.reduceBNe,Int.reduceLT,Int.reduceLE,Int.reduceGT,Int.reduceGE,Int.reduceNeg,↓n38c1,↓n38c2,↓n38c3,↓n38c4,↓n38c5,↓n38c6,↓n38c7,↓n38c8,↓n38c9,hdeca]
     have hfin:∀ (i:Nat) (m:MsgD) (cs':Cs 2),d.msgs[i]?=some m→(css.set k ⟨cs.1.set 1 (.slice AF x.fields.length cF),by simp [cs.2]⟩)[i]?=some cs'→if i < k+1 then EMsgN wa W.heap.size wa.heap.size cs'.1 m else EMsg w0 cs'.1 m:=by
      intro i m cs' hm hcs'
      by_cases hik:i=k
      · subst hik
        rw [if_pos (by omega)]
        rw [List.getElem?_set_self (by omega)] at hcs'
        injection hcs' with hcs'
        subst hcs'
        rw [hx] at hm
        injection hm with hm
        subst hm
        refine ⟨.slice AF x.fields.length cF,by show cs.1.set 1 _=_;rw [hfv];rfl,cF',⟨h1.base (by omega),h1.range.2⟩,h2,fun j f cs'' hf hcs''=>?_⟩
        have:=h3 j f cs'' hf hcs''
        rw [if_pos (List.getElem?_eq_some_iff.1 hf).1] at this
        exact this
      · rw [List.getElem?_set_ne (Ne.symm hik)] at hcs'
        have h:=h5 i m cs' hik hm hcs'
        by_cases hlt':i < k
        · rw [if_pos hlt'] at h
          rw [if_pos (by omega)]
          exact h.mono (Nat.le_refl _) h8
        · rw [if_neg hlt'] at h
          rw [if_neg (by omega)]
          exact h
     exact ⟨⟨k+1,rfl,by omega,ee,⟨_,h4,by simp [hlen],hfin,h6⟩⟩,meas_lt hlt⟩
 · subst hk
   obtain ⟨css,hOc,hlen,hE,hBel⟩:=hI
   have hXw:w.heap[w0.heap.size]?=some (.cells #[.string d.name,.slice A d.msgs.length c,.string d.start] 24 (0,0)):=(hBel.block _ (by omega)).trans hX2
   have hRw:w.heap[w0.heap.size+1]?=some (.cells #[.string ByteArray.empty,.slice none 0 0,.string ByteArray.empty] 24 (0,0)):=(hBel.block _ (by omega)).trans hR2
   have hN:MsgsN w W.heap.size w.heap.size (.slice A d.msgs.length c) d.msgs:=by
    refine ⟨css,hOc.range,hlen,fun i m cs hm hcs=>?_⟩
    have:=hE i m cs hm hcs
    rw [if_pos (List.getElem?_eq_some_iff.1 hm).1] at this
    exact this
   have ho:∀ (w':World) o v,MsgsN w' W.heap.size w.heap.size (.slice A d.msgs.length c) d.msgs→MsgsN (w'.setCell ⟨w0.heap.size+1,o,none⟩ v) W.heap.size w.heap.size (.slice A d.msgs.length c) d.msgs:=fun w' o v h=>h.only (Only.setCell w' _ o v) (.inr (.inl (by omega)))
   simp (disch:=try exact DI) only [↓PR,QR,Int.reduceBEq,Int.reduceBNe,Int.reduceLT,Int.reduceLE,Int.reduceGT,Int.reduceGE,Int.reduceNeg,↓n38c1,↓n38c2,↓n38c3,↓n38c4,↓n38c5,↓n38c6,↓n38c7,↓n38c8,↓n38c9,hdec,(cells_of_heap hXw).1,(cells_of_heap hRw).1,(cells_of_heap hRw).2]
   refine ⟨⟨_,rfl,(ho _ _ _ (ho _ _ _ (ho _ _ _ hN))).mono (by omega) (by simp)⟩,ee⟩
end Go.Proofs.YtiajhbbmgglmlaaGreat
