/-
  Lemmas for the claim.
-/
import Derived.Test.YtiajhbbmgglmlaaGreatFg4
set_option linter.all false
set_option maxHeartbeats 4000000
set_option maxRecDepth 100000
namespace Go.Proofs.YtiajhbbmgglmlaaGreat
open Sw
def n47c1 (t3 t29 t31:Value) (next4:KV) (R:RT) (w:World):Prop :=
 X0 50 t29 t31 R w fun t33 w =>
 L0 81 t33 R w fun t34 w =>
 opV Pg (Instr.alloc 81 true (.tuple #[])) (panK R) w fun t7 w =>
 opU Pg (Instr.storeAt 81 t7 t34) (panK R) w fun w =>
 L0 69 t3 R w fun t35 w =>
 F0 81 t7 2 R w fun t36 w =>
 L0 9 t36 R w fun t37 w =>
 opV Pg (Instr.buildSlice 69 1 #[(0,t37)]) (panK R) w fun t38 w =>
 opV Pg (Builtin.append_ #[69,69] 69 #[t35,t38]) (panK R) w fun t39 w =>
 opU Pg (Instr.storeAt 69 t3 t39) (panK R) w fun w =>
 B0 .add 3 true t31 (.int .i64 1) R w fun t40 w =>
 next4 t40 w
def n47c2 (t3 t5:Value) (K3:World→Prop) (R:RT) (w:World):Prop :=
 F0 52 t5 11 R w fun t28 w =>
 L0 50 t28 R w fun t29 w =>
 opV Pg (Builtin.len_ #[50] 3 #[t29]) (panK R) w fun t30 w =>
 loop1 (fun t31 w next4 =>
 B0 .lss 3 false t31 t30 R w fun t32 w =>
 condP t32 (
 n47c1 t3 t29 t31 next4 R w) (
 K3 w)) (.int .i64 0) w
def n47c3 (t3 t5:Value) (K3:World→Prop) (R:RT) (w:World):Prop :=
 L0 69 t3 R w fun t21 w =>
 F0 52 t5 8 R w fun t22 w =>
 L0 9 t22 R w fun t23 w =>
 opV Pg (Instr.buildSlice 69 1 #[(0,t23)]) (panK R) w fun t24 w =>
 opV Pg (Builtin.append_ #[69,69] 69 #[t21,t24]) (panK R) w fun t25 w =>
 opU Pg (Instr.storeAt 69 t3 t25) (panK R) w fun w =>
 K3 w
def n47c4 (t3 t5 t11 t16 t17:Value) (next1:KV) (R:RT) (w:World):Prop :=
 joinK (fun (w:World) =>
 B0 .add 3 true t11 (.int .i64 1) R w fun t41 w =>
 next1 t41 w) fun K3 =>
 condP t17 (
 n47c3 t3 t5 K3 R w) (
 B0 .eql 46 true t16 (.int .i64 9) R w fun t27 w =>
 condP t27 (
 n47c2 t3 t5 K3 R w) (
 K3 w))
def n47c5 (t16:Value) (K2:KV) (R:RT) (w:World):Prop :=
 B0 .eql 46 true t16 (.int .i64 8) R w fun t19 w =>
 condP t19 (
 K2 t19 w) (
 B0 .eql 46 true t16 (.int .i64 12) R w fun t20 w =>
 K2 t20 w)
def n47c6 (t3 t9 t11:Value) (next1:KV) (R:RT) (w:World):Prop :=
 X0 43 t9 t11 R w fun t13 w =>
 L0 52 t13 R w fun t14 w =>
 opV Pg (Instr.alloc 52 true (.tuple #[])) (panK R) w fun t5 w =>
 opU Pg (Instr.storeAt 52 t5 t14) (panK R) w fun w =>
 F0 52 t5 1 R w fun t15 w =>
 L0 46 t15 R w fun t16 w =>
 B0 .eql 46 true t16 (.int .i64 7) R w fun t18 w =>
 joinK (fun (t17:Value) (w:World) =>
 n47c4 t3 t5 t11 t16 t17 next1 R w) fun K2 =>
 condP t18 (
 K2 t18 w) (
 n47c5 t16 K2 R w)
def n47c7 (t3 t9 t10 t11:Value) (next1:KV) (R:RT) (w:World):Prop :=
 B0 .lss 3 false t11 t10 R w fun t12 w =>
 condP t12 (
 n47c6 t3 t9 t11 next1 R w) (
 opV Pg (Instr.makeFunc (.func 71) #[] #[t3]) (panK R) w fun t42 w =>
 R (.returned t42) w)
def n47 (t0:Value) (R:RT) (w:World):Prop :=
 opV Pg (Instr.box 45 t0) (panK R) w fun t1 w =>
 opV Pg (Instr.alloc 69 true (.tuple #[])) (panK R) w fun t3 w =>
 F0 45 t1 1 R w fun t8 w =>
 L0 43 t8 R w fun t9 w =>
 opV Pg (Builtin.len_ #[43] 3 #[t9]) (panK R) w fun t10 w =>
 loop1 (fun t11 w next1 =>
 n47c7 t3 t9 t10 t11 next1 R w) (.int .i64 0) w
theorem n47s {t0:Value} {R:RT} {w:World} (h:n47 t0 R w):Calls Pg 54 #[t0] w R:=by
 refine calls_of_den (args:=[t0]) Tryz.func54 rfl (Nat.le_of_ble_eq_true rfl) ?_
 unfold n47 at h
 refine zs<|zr ?_
 refine zv h fun t1 w h=>?_
 refine zm<|zn<|zk<|zs<|zr ?_
 refine zv h fun t3 w h=>?_
 refine zn<|zk<|zs<|zs<|zr ?_
 refine zv h fun t8 w h=>?_
 refine zv h fun t9 w h=>?_
 refine zx h fun t10 w h=>?_
 refine zm<|zn<|zk<|sim_block ?_
 obtain ⟨I,μ,h0,hr⟩:=h
 refine sim_loop [5,7,11,12,13,14,15,16,17,18,19,20,21,22,23,24,25,26,27,28,29,30,31,32,33,34,35,36,37,38,39,40,41] (by kernel_rfl) (fun ρ w=>I (ρ 11) w) (fun ρ w=>μ (ρ 11) w) h0 (fun σ w hI=>?_)
 have h:=hr _ _ hI
 clear hr h0 hI
 refine zs<|zr ?_
 refine zb h fun t12 w h=>?_
 refine zn<|zk<|zs ?_
 refine sim_cond h rfl (fun h=>?_) (fun h=>?_)
 · refine sim_skip<|zk<|zs<|sim_block<|zs<|zr ?_
   refine zv h fun t13 w h=>?_
   refine zv h fun t14 w h=>?_
   refine zv h fun t5 w h=>?_
   refine zu h fun w h=>?_
   refine zn<|zk<|zs<|zr ?_
   refine zv h fun t15 w h=>?_
   refine zv h fun t16 w h=>?_
   refine zn<|zk<|sim_block<|zs<|zs<|zr ?_
   refine zb h fun t18 w h=>?_
   refine zm<|zn<|zk ?_
   refine joinK_elim h (fun K2 hK h=>?_)
   refine sim_joinQ [17,19,20] (fun ρ w=>K2 (ρ 17) w) (fun _ hkK2=>?_) (fun σ w h=>?_)
   · refine sim_cond h rfl (fun h=>?_) (fun h=>?_)
     · refine sim_skip<|zk ?_
       exact zt hkK2 h
     · refine zs<|zr ?_
       refine zb h fun t19 w h=>?_
       refine zm<|zn<|zk ?_
       refine sim_cond h rfl (fun h=>?_) (fun h=>?_)
       · refine sim_skip<|zk ?_
         exact zt hkK2 h
       · refine zr ?_
         refine zb h fun t20 w h=>?_
         refine zm<|zn<|zk ?_
         exact zt hkK2 h
   subst hK
   refine zk ?_
   refine joinK_elim h (fun K3 hK h=>?_)
   refine sim_joinQ [7,21,22,23,24,25,26,27,28,29,30,31,32,33,34,35,36,37,38,39,40] (fun ρ w=>K3 w) (fun _ hkK3=>?_) (fun σ w h=>?_)
   · refine sim_cond h rfl (fun h=>?_) (fun h=>?_)
     · refine zr ?_
       refine zv h fun t21 w h=>?_
       refine zv h fun t22 w h=>?_
       refine zv h fun t23 w h=>?_
       refine sim_buildSlice h rfl (fun _ _ h=>⟨rfl,h⟩) ?_;intro t24 w h
       refine zx h fun t25 w h=>?_
       refine zu h fun w h=>?_
       refine zn<|zk ?_
       exact zt hkK3 h
     · refine zs<|zr ?_
       refine zb h fun t27 w h=>?_
       refine zm<|zn<|zk ?_
       refine sim_cond h rfl (fun h=>?_) (fun h=>?_)
       · refine zs<|zr ?_
         refine zv h fun t28 w h=>?_
         refine zv h fun t29 w h=>?_
         refine zx h fun t30 w h=>?_
         refine zm<|zn<|zk<|sim_block ?_
         obtain ⟨I,μ,h0,hr⟩:=h
         refine sim_loop [7,31,32,33,34,35,36,37,38,39,40] (by kernel_rfl) (fun ρ w=>I (ρ 31) w) (fun ρ w=>μ (ρ 31) w) h0 (fun σ w hI=>?_)
         have h:=hr _ _ hI
         clear hr h0 hI
         refine zs<|zr ?_
         refine zb h fun t32 w h=>?_
         refine zn<|zk<|zs ?_
         refine sim_cond h rfl (fun h=>?_) (fun h=>?_)
         · refine sim_skip<|zk<|zs<|sim_block<|zs<|zr ?_
           refine zv h fun t33 w h=>?_
           refine zv h fun t34 w h=>?_
           refine zv h fun t7 w h=>?_
           refine zu h fun w h=>?_
           refine zn<|zk<|zr ?_
           refine zv h fun t35 w h=>?_
           refine zv h fun t36 w h=>?_
           refine zv h fun t37 w h=>?_
           refine sim_buildSlice h rfl (fun _ _ h=>⟨rfl,h⟩) ?_;intro t38 w h
           refine zx h fun t39 w h=>?_
           refine zu h fun w h=>?_
           refine zn<|sim_block_normal<|zk<|zr ?_
           refine zb h fun t40 w h=>?_
           refine zm<|zn<|zk ?_
           exact ⟨rfl,h⟩
         · refine sim_exit<|sim_then_exit<|sim_then_exit<|sim_block_hit<|zk ?_
           exact zt hkK3 h
       · refine sim_skip<|zk ?_
         exact zt hkK3 h
   subst hK
   refine sim_block_normal<|sim_block_normal<|zk<|zr ?_
   refine zb h fun t41 w h=>?_
   refine zm<|zn<|zk ?_
   exact ⟨rfl,h⟩
 · refine sim_exit<|sim_then_exit<|sim_then_exit<|sim_block_hit<|zk<|zs<|zr ?_
   refine sim_makeFunc h rfl rfl (fun _ _ h=>⟨rfl,h⟩) ?_;intro t42 w h
   refine zm<|zn<|zk<|sim_ret ?_
   exact body_ret1 rfl rfl h
def n34 (t0:Value) (R:RT) (w:World):Prop :=
 opV Pg (Instr.buildSlice 69 13 #[(0,(.string { data := #[] })),(1,(.string { data := #[98,108,120,104] })),(2,(.string { data := #[98,108,120] })),(3,(.string { data := #[111,120,104] })),(4,(.string { data := #[115] })),(5,(.string { data := #[120,104] })),(6,(.string { data := #[111,104] })),(7,(.string { data := #[102,115] })),(8,(.string { data := #[102] })),(9,(.string { data := #[116,99] })),(10,(.string { data := #[98] })),(11,(.string { data := #[114,107] })),(12,(.string { data := #[102,115,121] }))]) (panK R) w fun t3 w =>
 X0 69 t3 t0 R w fun t5 w =>
 L0 9 t5 R w fun t6 w =>
 R (.returned t6) w
theorem n34s {t0:Value} {R:RT} {w:World} (h:n34 t0 R w):Calls Pg 55 #[t0] w R:=by
 refine calls_of_den (args:=[t0]) Tryz.func55 rfl (Nat.le_of_ble_eq_true rfl) ?_
 unfold n34 at h
 refine zs<|zr<|zm<|zn<|zk<|zs<|zr ?_
 refine sim_buildSlice h rfl (fun _ _ h=>⟨rfl,h⟩) ?_;intro t3 w h
 refine zm ?_
 refine zv h fun t5 w h=>?_
 refine zv h fun t6 w h=>?_
 refine zm<|zn<|zk<|sim_ret ?_
 exact body_ret1 rfl rfl h
def n28c1 (t0 t1 t5:Value) (next1:KV) (R:RT) (w:World):Prop :=
 opV Pg (Instr.index 9 t0 t5) (panK R) w fun t14 w =>
 B0 .eql 5 false t14 t1 R w fun t16 w =>
 condP t16 (
 R (.returned (.bool true)) w) (
 B0 .add 3 true t5 (.int .i64 1) R w fun t11 w =>
 next1 t11 w)
def n28c2 (t0 t1 t5:Value) (next1:KV) (R:RT) (w:World):Prop :=
 opV Pg (Builtin.len_ #[9] 3 #[t0]) (panK R) w fun t8 w =>
 B0 .lss 3 false t5 t8 R w fun t9 w =>
 condP t9 (
 n28c1 t0 t1 t5 next1 R w) (
 R (.returned (.bool false)) w)
def n28 (t0 t1:Value) (R:RT) (w:World):Prop :=
 loop1 (fun t5 w next1 =>
 n28c2 t0 t1 t5 next1 R w) (.int .i64 0) w
theorem n28s {t0 t1:Value} {R:RT} {w:World} (h:n28 t0 t1 R w):Calls Pg 56 #[t0,t1] w R:=by
 refine calls_of_den (args:=[t0,t1]) Tryz.func56 rfl (Nat.le_of_ble_eq_true rfl) ?_
 unfold n28 at h
 refine zs<|zr<|zm<|zn<|zk<|zs<|zs<|zr<|zm<|zn<|zk<|sim_block ?_
 obtain ⟨I,μ,h0,hr⟩:=h
 refine sim_loop [4,5,6,7,8,9,10,11,12,13,14,15,16] (by kernel_rfl) (fun ρ w=>I (ρ 5) w) (fun ρ w=>μ (ρ 5) w) h0 (fun σ w hI=>?_)
 have h:=hr _ _ hI
 clear hr h0 hI
 refine zs<|zs<|zr<|zm<|zm ?_
 refine zx h fun t8 w h=>?_
 refine zb h fun t9 w h=>?_
 refine zn<|zk ?_
 refine sim_cond h rfl (fun h=>?_) (fun h=>?_)
 · refine sim_skip<|zk<|zs<|sim_block<|zs<|zr<|zm<|zm ?_
   refine zv h fun t14 w h=>?_
   refine zm ?_
   refine zb h fun t16 w h=>?_
   refine zn<|zk ?_
   refine sim_cond h rfl (fun h=>?_) (fun h=>?_)
   · refine zs<|zr<|zm<|zn<|zk<|sim_ret<|sim_block_ret<|sim_then_ret<|sim_then_ret<|sim_block_ret<|sim_then_ret ?_
     exact body_ret1 rfl rfl h
   · refine sim_skip<|sim_block_normal<|zk<|zr<|zm ?_
     refine zb h fun t11 w h=>?_
     refine zm<|zn<|zk ?_
     exact ⟨rfl,h⟩
 · refine sim_exit<|sim_then_exit<|sim_then_exit<|sim_block_hit<|zk<|zs<|zr<|zm<|zn<|zk<|sim_ret ?_
   exact body_ret1 rfl rfl h
def n30c1 (t1 t3 t40 t45:Value) (R:RT) (w:World):Prop :=
 pickK t40 (.bool true) t45 fun t46 =>
 joinK (fun (t52:Value) (w:World) =>
 pickK t46 (.bool true) t52 fun t53 =>
 condP t53 (
 R (.returned (.int .i64 7)) w) (
 R (.returned (.int .i64 0)) w)) fun K11 =>
 guardP t46 false (
 F0 52 t1 2 R w fun t49 w =>
 L0 3 t49 R w fun t50 w =>
 B0 .shl 3 true (.int .i64 1) t50 R w fun t51 w =>
 B0 .geq 3 false t3 t51 R w fun t52 w =>
 K11 t52 w) (
 K11 undef w)
def n30c2 (t1 t3:Value) (R:RT) (w:World):Prop :=
 F0 52 t1 5 R w fun t38 w =>
 L0 3 t38 R w fun t39 w =>
 B0 .lss 3 true t39 (.int .i64 0) R w fun t40 w =>
 joinK (fun (t45:Value) (w:World) =>
 n30c1 t1 t3 t40 t45 R w) fun K10 =>
 guardP t40 false (
 F0 52 t1 5 R w fun t42 w =>
 L0 3 t42 R w fun t43 w =>
 B0 .gtr 3 false t43 t3 R w fun t45 w =>
 K10 t45 w) (
 K10 undef w)
def n30c3 (t1:Value) (R:RT) (w:World):Prop :=
 F0 52 t1 6 R w fun t31 w =>
 L0 3 t31 R w fun t32 w =>
 F0 52 t1 1 R w fun t33 w =>
 L0 46 t33 R w fun t34 w =>
 B0 .eql 46 true t34 (.int .i64 2) R w fun t35 w =>
 joinK (fun (t3:Value) (w:World) =>
 n30c2 t1 t3 R w) fun K9 =>
 condP t35 (
 F0 52 t1 5 R w fun t36 w =>
 L0 3 t36 R w fun t37 w =>
 K9 t37 w) (
 K9 t32 w)
def n30c4 (t1 t11 t25 t28:Value) (R:RT) (w:World):Prop :=
 joinK (fun (t29:Value) (w:World) =>
 pickK t11 (.bool true) t29 fun t30 =>
 condP t30 (
 R (.returned (.int .i64 6)) w) (
 n30c3 t1 R w)) fun K8 =>
 guardP t11 false (
 pickK t25 t28 (.bool false) fun t29 =>
 K8 t29 w) (
 K8 undef w)
def n30c5 (t1 t11 t25:Value) (R:RT) (w:World):Prop :=
 joinK (fun (t28:Value) (w:World) =>
 n30c4 t1 t11 t25 t28 R w) fun K7 =>
 guardP t25 true (
 F0 52 t1 2 R w fun t26 w =>
 L0 3 t26 R w fun t27 w =>
 B0 .neq 3 true t27 (.int .i64 32) R w fun t28 w =>
 K7 t28 w) (
 K7 undef w)
def n30c6 (t1 t11 t20:Value) (R:RT) (w:World):Prop :=
 joinK (fun (t23:Value) (w:World) =>
 joinK (fun (t25:Value) (w:World) =>
 n30c5 t1 t11 t25 R w) fun K6 =>
 guardP t11 false (
 pickK t20 t23 (.bool false) fun t24 =>
 K6 t24 w) (
 K6 undef w)) fun K5 =>
 guardP t20 true (
 F0 52 t1 2 R w fun t21 w =>
 L0 3 t21 R w fun t22 w =>
 B0 .neq 3 true t22 (.int .i64 24) R w fun t23 w =>
 K5 t23 w) (
 K5 undef w)
def n30c7 (t1 t11 t15:Value) (R:RT) (w:World):Prop :=
 joinK (fun (t18:Value) (w:World) =>
 joinK (fun (t20:Value) (w:World) =>
 n30c6 t1 t11 t20 R w) fun K4 =>
 guardP t11 false (
 pickK t15 t18 (.bool false) fun t19 =>
 K4 t19 w) (
 K4 undef w)) fun K3 =>
 guardP t15 true (
 F0 52 t1 2 R w fun t16 w =>
 L0 3 t16 R w fun t17 w =>
 B0 .neq 3 true t17 (.int .i64 16) R w fun t18 w =>
 K3 t18 w) (
 K3 undef w)
def n30c8 (t1 t6 t10:Value) (R:RT) (w:World):Prop :=
 pickK t6 (.bool true) t10 fun t11 =>
 joinK (fun (t15:Value) (w:World) =>
 n30c7 t1 t11 t15 R w) fun K2 =>
 guardP t11 false (
 F0 52 t1 3 R w fun t13 w =>
 L0 4 t13 R w fun t14 w =>
 K2 t14 w) (
 K2 undef w)
def n30 (t0:Value) (R:RT) (w:World):Prop :=
 opV Pg (Instr.box 52 t0) (panK R) w fun t1 w =>
 F0 52 t1 2 R w fun t4 w =>
 L0 3 t4 R w fun t5 w =>
 B0 .lss 3 true t5 (.int .i64 1) R w fun t6 w =>
 joinK (fun (t10:Value) (w:World) =>
 n30c8 t1 t6 t10 R w) fun K1 =>
 guardP t6 false (
 F0 52 t1 2 R w fun t8 w =>
 L0 3 t8 R w fun t9 w =>
 B0 .gtr 3 true t9 (.int .i64 32) R w fun t10 w =>
 K1 t10 w) (
 K1 undef w)
theorem n30s {t0:Value} {R:RT} {w:World} (h:n30 t0 R w):Calls Pg 57 #[t0] w R:=by
 refine calls_of_den (args:=[t0]) Tryz.func57 rfl (Nat.le_of_ble_eq_true rfl) ?_
 unfold n30 at h
 refine zs<|zr ?_
 refine zv h fun t1 w h=>?_
 refine zm<|zn<|zk<|zs<|zs<|sim_regionG ?_
 refine sim_seg 4 rfl ?_
 refine zv h fun t4 w h=>?_
 refine zv h fun t5 w h=>?_
 refine zb h fun t6 w h=>?_
 refine zm<|zn ?_
 refine joinK_elim h (fun K1 hK h=>?_)
 refine sim_groupJ 3 3 false [8,9,10] (fun ρ w=>K1 (ρ 10) w) rfl rfl (fun T hT=>guardP_mono h (fun h=>?_) (fun h=>?_)) (fun σ w h=>?_)
 · refine zv h fun t8 w h=>?_
   refine zv h fun t9 w h=>?_
   refine zb h fun t10 w h=>?_
   refine zn ?_
   exact zt hT h
 · exact zt hT h
 subst hK
 refine sim_seg 2 rfl ?_
 refine sim_pick h rfl rfl rfl ?_;intro t11 h
 refine zm<|zn ?_
 refine joinK_elim h (fun K2 hK h=>?_)
 refine sim_groupJ 3 8 false [13,14,15] (fun ρ w=>K2 (ρ 15) w) rfl rfl (fun T hT=>guardP_mono h (fun h=>?_) (fun h=>?_)) (fun σ w h=>?_)
 · refine zv h fun t13 w h=>?_
   refine zv h fun t14 w h=>?_
   refine zm<|zn ?_
   exact zt hT h
 · exact zt hT h
 subst hK
 refine joinK_elim h (fun K3 hK h=>?_)
 refine sim_groupJ 3 11 true [16,17,18] (fun ρ w=>K3 (ρ 18) w) rfl rfl (fun T hT=>guardP_mono h (fun h=>?_) (fun h=>?_)) (fun σ w h=>?_)
 · refine zv h fun t16 w h=>?_
   refine zv h fun t17 w h=>?_
   refine zb h fun t18 w h=>?_
   refine zn ?_
   exact zt hT h
 · exact zt hT h
 subst hK
 refine joinK_elim h (fun K4 hK h=>?_)
 refine sim_groupJ 2 8 false [19,20] (fun ρ w=>K4 (ρ 20) w) rfl rfl (fun T hT=>guardP_mono h (fun h=>?_) (fun h=>?_)) (fun σ w h=>?_)
 · refine sim_pick h rfl rfl rfl ?_;intro t19 h
   refine zm<|zn ?_
   exact zt hT h
 · exact zt hT h
 subst hK
 refine joinK_elim h (fun K5 hK h=>?_)
 refine sim_groupJ 3 16 true [21,22,23] (fun ρ w=>K5 (ρ 23) w) rfl rfl (fun T hT=>guardP_mono h (fun h=>?_) (fun h=>?_)) (fun σ w h=>?_)
 · refine zv h fun t21 w h=>?_
   refine zv h fun t22 w h=>?_
   refine zb h fun t23 w h=>?_
   refine zn ?_
   exact zt hT h
 · exact zt hT h
 subst hK
 refine joinK_elim h (fun K6 hK h=>?_)
 refine sim_groupJ 2 8 false [24,25] (fun ρ w=>K6 (ρ 25) w) rfl rfl (fun T hT=>guardP_mono h (fun h=>?_) (fun h=>?_)) (fun σ w h=>?_)
 · refine sim_pick h rfl rfl rfl ?_;intro t24 h
   refine zm<|zn ?_
   exact zt hT h
 · exact zt hT h
 subst hK
 refine joinK_elim h (fun K7 hK h=>?_)
 refine sim_groupJ 3 21 true [26,27,28] (fun ρ w=>K7 (ρ 28) w) rfl rfl (fun T hT=>guardP_mono h (fun h=>?_) (fun h=>?_)) (fun σ w h=>?_)
 · refine zv h fun t26 w h=>?_
   refine zv h fun t27 w h=>?_
   refine zb h fun t28 w h=>?_
   refine zn ?_
   exact zt hT h
 · exact zt hT h
 subst hK
 refine joinK_elim h (fun K8 hK h=>?_)
 refine sim_groupJ 1 8 false [29] (fun ρ w=>K8 (ρ 29) w) rfl rfl (fun T hT=>guardP_mono h (fun h=>?_) (fun h=>?_)) (fun σ w h=>?_)
 · refine sim_pick h rfl rfl rfl ?_;intro t29 h
   refine zn ?_
   exact zt hT h
 · exact zt hT h
 subst hK
 refine sim_seg 1 rfl ?_
 refine sim_pick h rfl rfl rfl ?_;intro t30 h
 refine zn<|sim_end<|zk ?_
 refine sim_cond h rfl (fun h=>?_) (fun h=>?_)
 · refine zs<|zr<|zm<|zn<|zk<|sim_ret<|sim_then_ret ?_
   exact body_ret1 rfl rfl h
 · refine sim_skip<|zk<|zs<|zr ?_
   refine zv h fun t31 w h=>?_
   refine zv h fun t32 w h=>?_
   refine zm<|zn<|zk<|zs<|zs<|zr ?_
   refine zv h fun t33 w h=>?_
   refine zv h fun t34 w h=>?_
   refine zb h fun t35 w h=>?_
   refine zn<|zk ?_
   refine joinK_elim h (fun K9 hK h=>?_)
   refine sim_joinQ [3,36,37] (fun ρ w=>K9 (ρ 3) w) (fun _ hkK9=>?_) (fun σ w h=>?_)
   · refine sim_cond h rfl (fun h=>?_) (fun h=>?_)
     · refine zr ?_
       refine zv h fun t36 w h=>?_
       refine zv h fun t37 w h=>?_
       refine zm<|zn<|zk ?_
       exact zt hkK9 h
     · refine sim_skip<|zk ?_
       exact zt hkK9 h
   subst hK
   refine zk<|zs<|zs<|sim_regionG ?_
   refine sim_seg 4 rfl ?_
   refine zv h fun t38 w h=>?_
   refine zv h fun t39 w h=>?_
   refine zb h fun t40 w h=>?_
   refine zm<|zn ?_
   refine joinK_elim h (fun K10 hK h=>?_)
   refine sim_groupJ 4 3 false [42,43,44,45] (fun ρ w=>K10 (ρ 45) w) rfl rfl (fun T hT=>guardP_mono h (fun h=>?_) (fun h=>?_)) (fun σ w h=>?_)
   · refine zv h fun t42 w h=>?_
     refine zv h fun t43 w h=>?_
     refine zm ?_
     refine zb h fun t45 w h=>?_
     refine zn ?_
     exact zt hT h
   · exact zt hT h
   subst hK
   refine sim_seg 2 rfl ?_
   refine sim_pick h rfl rfl rfl ?_;intro t46 h
   refine zm<|zn ?_
   refine joinK_elim h (fun K11 hK h=>?_)
   refine sim_groupJ 5 9 false [48,49,50,51,52] (fun ρ w=>K11 (ρ 52) w) rfl rfl (fun T hT=>guardP_mono h (fun h=>?_) (fun h=>?_)) (fun σ w h=>?_)
   · refine zm ?_
     refine zv h fun t49 w h=>?_
     refine zv h fun t50 w h=>?_
     refine zb h fun t51 w h=>?_
     refine zb h fun t52 w h=>?_
     refine zn ?_
     exact zt hT h
   · exact zt hT h
   subst hK
   refine sim_seg 1 rfl ?_
   refine sim_pick h rfl rfl rfl ?_;intro t53 h
   refine zn<|sim_end<|zk ?_
   refine sim_cond h rfl (fun h=>?_) (fun h=>?_)
   · refine zs<|zr<|zm<|zn<|zk<|sim_ret<|sim_then_ret ?_
     exact body_ret1 rfl rfl h
   · refine sim_skip<|zk<|zs<|zr<|zm<|zn<|zk<|sim_ret ?_
     exact body_ret1 rfl rfl h
def n35c1 (t1 t6 t10:Value) (R:RT) (w:World):Prop :=
 pickK t6 t10 (.bool false) fun t11 =>
 joinK (fun (t14:Value) (w:World) =>
 pickK t11 t14 (.bool false) fun t15 =>
 R (.returned t15) w) fun K2 =>
 guardP t11 true (
 B0 .lss 3 true t1 (.int .i64 34359738368) R w fun t14 w =>
 K2 t14 w) (
 K2 undef w)
def n35 (t0 t1:Value) (R:RT) (w:World):Prop :=
 B0 .geq 3 true t0 (.int .i64 0) R w fun t6 w =>
 joinK (fun (t10:Value) (w:World) =>
 n35c1 t1 t6 t10 R w) fun K1 =>
 guardP t6 true (
 B0 .leq 3 false t0 t1 R w fun t10 w =>
 K1 t10 w) (
 K1 undef w)
theorem n35s {t0 t1:Value} {R:RT} {w:World} (h:n35 t0 t1 R w):Calls Pg 58 #[t0,t1] w R:=by
 refine calls_of_den (args:=[t0,t1]) Tryz.func58 rfl (Nat.le_of_ble_eq_true rfl) ?_
 unfold n35 at h
 refine zs<|zr<|zm<|zn<|zk<|zs<|sim_regionG ?_
 refine sim_seg 3 rfl ?_
 refine zm ?_
 refine zb h fun t6 w h=>?_
 refine zm<|zn ?_
 refine joinK_elim h (fun K1 hK h=>?_)
 refine sim_groupJ 3 2 true [8,9,10] (fun ρ w=>K1 (ρ 10) w) rfl rfl (fun T hT=>guardP_mono h (fun h=>?_) (fun h=>?_)) (fun σ w h=>?_)
 · refine zm<|zm ?_
   refine zb h fun t10 w h=>?_
   refine zn ?_
   exact zt hT h
 · exact zt hT h
 subst hK
 refine sim_seg 2 rfl ?_
 refine sim_pick h rfl rfl rfl ?_;intro t11 h
 refine zm<|zn ?_
 refine joinK_elim h (fun K2 hK h=>?_)
 refine sim_groupJ 2 7 true [13,14] (fun ρ w=>K2 (ρ 14) w) rfl rfl (fun T hT=>guardP_mono h (fun h=>?_) (fun h=>?_)) (fun σ w h=>?_)
 · refine zm ?_
   refine zb h fun t14 w h=>?_
   refine zn ?_
   exact zt hT h
 · exact zt hT h
 subst hK
 refine sim_seg 2 rfl ?_
 refine sim_pick h rfl rfl rfl ?_;intro t15 h
 refine zm<|zn<|sim_end<|zk<|sim_ret ?_
 exact body_ret1 rfl rfl h
def n32c1 (t5 t6 t7 t56:Value) (next1:KW) (R:RT) (w:World):Prop :=
 opV Pg (Instr.extract t56 0) (panK R) w fun t57 w =>
 opV Pg (Instr.extract t56 1) (panK R) w fun t58 w =>
 F0 49 t5 1 R w fun t60 w =>
 L0 47 t60 R w fun t61 w =>
 X0 47 t61 t7 R w fun t63 w =>
 F0 78 t63 0 R w fun t64 w =>
 L0 9 t64 R w fun t65 w =>
 opV Pg (Instr.build 129 #[(0,t65),(1,t57),(2,t58)]) (panK R) w fun t68 w =>
 opV Pg (Instr.buildSlice 127 1 #[(0,t68)]) (panK R) w fun t69 w =>
 opV Pg (Builtin.append_ #[127,127] 127 #[t6,t69]) (panK R) w fun t70 w =>
 B0 .add 3 true t7 (.int .i64 1) R w fun t29 w =>
 next1 t70 t29 w
def n32c2 (t2 t5 t6 t7 t38:Value) (next1:KW) (R:RT) (w:World):Prop :=
 F0 45 t2 1 R w fun t51 w =>
 L0 43 t51 R w fun t52 w =>
 X0 43 t52 t38 R w fun t54 w =>
 L0 52 t54 R w fun t55 w =>
 C0 62 #[t55] R w fun t56 w =>
 n32c1 t5 t6 t7 t56 next1 R w
def n32c3 (t2 t5 t6 t7 t38:Value) (next1:KW) (R:RT) (w:World):Prop :=
 B0 .lss 3 true t38 (.int .i64 0) R w fun t40 w =>
 joinK (fun (t48:Value) (w:World) =>
 pickK t40 (.bool true) t48 fun t49 =>
 condP t49 (
 R (.returned (.int .i64 8)) w) (
 n32c2 t2 t5 t6 t7 t38 next1 R w)) fun K3 =>
 guardP t40 false (
 F0 45 t2 1 R w fun t42 w =>
 L0 43 t42 R w fun t43 w =>
 X0 43 t43 t38 R w fun t45 w =>
 L0 52 t45 R w fun t46 w =>
 C0 60 #[t46] R w fun t47 w =>
 opV Pg (Op.unary .not t47) (panK R) w fun t48 w =>
 K3 t48 w) (
 K3 undef w)
def n32c4 (t1 t2 t5 t6 t7:Value) (C2:World→Prop) (next1:KW) (R:RT) (w:World):Prop :=
 qV Pg C2 (Instr.loadAt 45 t2) fun t30 =>
 qV Pg C2 (Instr.fieldAt 49 t5 1) fun t31 =>
 qV Pg C2 (Instr.loadAt 47 t31) fun t32 =>
 qV Pg C2 (Instr.indexAt 47 t32 t7) fun t34 =>
 qV Pg C2 (Instr.fieldAt 78 t34 0) fun t35 =>
 qV Pg C2 (Instr.loadAt 9 t35) fun t36 =>
 C0 42 #[t30,t36,t1] R w fun t38 w =>
 C2 w∧(
 n32c3 t2 t5 t6 t7 t38 next1 R w)
def n32c5 (t76 t79 t82:Value) (R:RT) (w:World):Prop :=
 pickK t79 (.bool true) t82 fun t83 =>
 joinK (fun (t86:Value) (w:World) =>
 pickK t83 (.bool true) t86 fun t87 =>
 condP t87 (
 R (.returned (.int .i64 9)) w) (
 R (.returned (.int .i64 0)) w)) fun K5 =>
 guardP t83 false (
 B0 .gtr 3 true t76 (.int .i64 1048576) R w fun t86 w =>
 K5 t86 w) (
 K5 undef w)
def n32c6 (t74:Value) (R:RT) (w:World):Prop :=
 opV Pg (Instr.extract t74 0) (panK R) w fun t75 w =>
 opV Pg (Instr.extract t74 1) (panK R) w fun t76 w =>
 opV Pg (Instr.extract t74 2) (panK R) w fun t77 w =>
 B0 .neq 3 true t77 (.int .i64 0) R w fun t79 w =>
 joinK (fun (t82:Value) (w:World) =>
 n32c5 t76 t79 t82 R w) fun K4 =>
 guardP t79 false (
 B0 .lss 3 true t75 (.int .i64 0) R w fun t82 w =>
 K4 t82 w) (
 K4 undef w)
def n32c7 (t1 t2 t5 t6 t7:Value) (next1:KW) (R:RT) (w:World):Prop :=
 F0 49 t5 1 R w fun t24 w =>
 L0 47 t24 R w fun t25 w =>
 opV Pg (Builtin.len_ #[47] 3 #[t25]) (panK R) w fun t26 w =>
 B0 .lss 3 false t7 t26 R w fun t27 w =>
 condP t27 (
 drawK w fun C2 w =>
 n32c4 t1 t2 t5 t6 t7 C2 next1 R w) (
 L0 49 t5 R w fun t72 w =>
 C0 74 #[t72,t6] R w fun t74 w =>
 n32c6 t74 R w)
def n32c8 (t1 t2 t5 t21:Value) (R:RT) (w:World):Prop :=
 opV Pg (Op.unary .not t21) (panK R) w fun t22 w =>
 condP t22 (
 R (.returned (.int .i64 9)) w) (
 loop2 (fun t6 t7 w next1 =>
 n32c7 t1 t2 t5 t6 t7 next1 R w) (Value.slice none 0 0) (.int .i64 0) w)
def n32 (t0 t1:Value) (R:RT) (w:World):Prop :=
 opV Pg (Instr.box 45 t0) (panK R) w fun t2 w =>
 F0 45 t2 1 R w fun t14 w =>
 L0 43 t14 R w fun t15 w =>
 X0 43 t15 t1 R w fun t17 w =>
 F0 52 t17 7 R w fun t18 w =>
 L0 49 t18 R w fun t19 w =>
 opV Pg (Instr.alloc 49 true (.tuple #[])) (panK R) w fun t5 w =>
 opU Pg (Instr.storeAt 49 t5 t19) (panK R) w fun w =>
 L0 49 t5 R w fun t20 w =>
 C0 73 #[t20] R w fun t21 w =>
 n32c8 t1 t2 t5 t21 R w
theorem n32s {t0 t1:Value} {R:RT} {w:World} (h:n32 t0 t1 R w):Calls Pg 59 #[t0,t1] w R:=by
 refine calls_of_den (args:=[t0,t1]) Tryz.func59 rfl (Nat.le_of_ble_eq_true rfl) ?_
 unfold n32 at h
 refine zs<|zr ?_
 refine zv h fun t2 w h=>?_
 refine zm<|zn<|zk<|zs<|zr ?_
 refine zv h fun t14 w h=>?_
 refine zv h fun t15 w h=>?_
 refine zm ?_
 refine zv h fun t17 w h=>?_
 refine zv h fun t18 w h=>?_
 refine zv h fun t19 w h=>?_
 refine zv h fun t5 w h=>?_
 refine zu h fun w h=>?_
 refine zn<|zk<|zs<|zs<|zr ?_
 refine zv h fun t20 w h=>?_
 refine zc h c73 fun t21 w h=>?_
 refine zv h fun t22 w h=>?_
 refine zn<|zk ?_
 refine sim_cond h rfl (fun h=>?_) (fun h=>?_)
 · refine zs<|zr<|zm<|zn<|zk<|sim_ret<|sim_then_ret ?_
   exact body_ret1 rfl rfl h
 · refine sim_skip<|zk<|zs<|zr<|zm<|zn<|zk<|zs<|zs<|zr<|zm<|zn<|zk<|sim_block ?_
   obtain ⟨I,μ,h0,hr⟩:=h
   refine sim_loop [4,6,7,8,9,10,23,24,25,26,27,28,29,30,31,32,33,34,35,36,37,38,39,40,41,42,43,44,45,46,47,48,49,50,51,52,53,54,55,56,57,58,59,60,61,62,63,64,65,66,67,68,69,70] (by kernel_rfl) (fun ρ w=>I (ρ 6) (ρ 7) w) (fun ρ w=>μ (ρ 6) (ρ 7) w) h0 (fun σ w hI=>?_)
   have h:=hr _ _ _ hI
   clear hr h0 hI
   refine zs<|zs<|zr<|zm ?_
   refine zv h fun t24 w h=>?_
   refine zv h fun t25 w h=>?_
   refine zx h fun t26 w h=>?_
   refine zb h fun t27 w h=>?_
   refine zn<|zk ?_
   refine sim_cond h rfl (fun h=>?_) (fun h=>?_)
   · refine sim_skip<|zk<|zs<|sim_block<|zs ?_
     obtain ⟨C2,hC,h⟩:=h
     refine sim_draw [8,30,31,32,33,34,35,36,37,38] (by kernel_rfl) (by kernel_rfl) C2 ?_
     refine ze 0 hC h fun t30 h=>?_
     refine ze 1 hC h fun t31 h=>?_
     refine ze 2 hC h fun t32 h=>?_
     refine zw 3 hC ?_
     refine ze 4 hC h fun t34 h=>?_
     refine ze 5 hC h fun t35 h=>?_
     refine ze 6 hC h fun t36 h=>?_
     refine zw 7 hC ?_
     refine sim_dloud 8 rfl (by kernel_rfl) (fun _ _=>rfl) ?_
     refine sim_call h c42 rfl (fun _ _ h _ _=>⟨rfl,h⟩) ?_;intro t38 w h
     refine zn ?_
     obtain ⟨hC,h⟩:=h
     refine ⟨hC,?_⟩
     refine zw 9 hC ?_
     refine sim_dend (by kernel_rfl) ?_
     refine zk<|zs<|zs<|sim_regionG ?_
     refine sim_seg 3 rfl ?_
     refine zm ?_
     refine zb h fun t40 w h=>?_
     refine zm<|zn ?_
     refine joinK_elim h (fun K3 hK h=>?_)
     refine sim_groupJ 7 2 false [42,43,44,45,46,47,48] (fun ρ w=>K3 (ρ 48) w) rfl rfl (fun T hT=>guardP_mono h (fun h=>?_) (fun h=>?_)) (fun σ w h=>?_)
     · refine zv h fun t42 w h=>?_
       refine zv h fun t43 w h=>?_
       refine zm ?_
       refine zv h fun t45 w h=>?_
       refine zv h fun t46 w h=>?_
       refine zc h c60 fun t47 w h=>?_
       refine zv h fun t48 w h=>?_
       refine zn ?_
       exact zt hT h
     · exact zt hT h
     subst hK
     refine sim_seg 1 rfl ?_
     refine sim_pick h rfl rfl rfl ?_;intro t49 h
     refine zn<|sim_end<|zk ?_
     refine sim_cond h rfl (fun h=>?_) (fun h=>?_)
     · refine zs<|zr<|zm<|zn<|zk<|sim_ret<|sim_then_ret<|sim_block_ret<|sim_then_ret<|sim_then_ret<|sim_block_ret<|sim_then_ret ?_
       exact body_ret1 rfl rfl h
     · refine sim_skip<|zk<|zs<|zr ?_
       refine zv h fun t51 w h=>?_
       refine zv h fun t52 w h=>?_
       refine zm ?_
       refine zv h fun t54 w h=>?_
       refine zv h fun t55 w h=>?_
       refine zc h c62 fun t56 w h=>?_
       refine zm ?_
       refine zv h fun t57 w h=>?_
       refine zv h fun t58 w h=>?_
       refine zm<|zm<|zn<|zk<|zr<|zm ?_
       refine zv h fun t60 w h=>?_
       refine zv h fun t61 w h=>?_
       refine zm ?_
       refine zv h fun t63 w h=>?_
       refine zv h fun t64 w h=>?_
       refine zv h fun t65 w h=>?_
       refine zm<|zm ?_
       refine sim_build h rfl (fun _ _ h=>⟨rfl,h⟩) ?_;intro t68 w h
       refine sim_buildSlice h rfl (fun _ _ h=>⟨rfl,h⟩) ?_;intro t69 w h
       refine zx h fun t70 w h=>?_
       refine zm<|zn<|sim_block_normal<|zk<|zr<|zm ?_
       refine zb h fun t29 w h=>?_
       refine zm<|zn<|zk ?_
       exact ⟨rfl,h⟩
   · refine sim_exit<|sim_then_exit<|sim_then_exit<|sim_block_hit<|zk<|zs<|zr ?_
     refine zv h fun t72 w h=>?_
     refine zm ?_
     refine zc h c74 fun t74 w h=>?_
     refine zm ?_
     refine zv h fun t75 w h=>?_
     refine zv h fun t76 w h=>?_
     refine zv h fun t77 w h=>?_
     refine zm<|zm<|zm<|zn<|zk<|zs<|zs<|sim_regionG ?_
     refine sim_seg 3 rfl ?_
     refine zm ?_
     refine zb h fun t79 w h=>?_
     refine zm<|zn ?_
     refine joinK_elim h (fun K4 hK h=>?_)
     refine sim_groupJ 2 2 false [81,82] (fun ρ w=>K4 (ρ 82) w) rfl rfl (fun T hT=>guardP_mono h (fun h=>?_) (fun h=>?_)) (fun σ w h=>?_)
     · refine zm ?_
       refine zb h fun t82 w h=>?_
       refine zn ?_
       exact zt hT h
     · exact zt hT h
     subst hK
     refine sim_seg 2 rfl ?_
     refine sim_pick h rfl rfl rfl ?_;intro t83 h
     refine zm<|zn ?_
     refine joinK_elim h (fun K5 hK h=>?_)
     refine sim_groupJ 2 6 false [85,86] (fun ρ w=>K5 (ρ 86) w) rfl rfl (fun T hT=>guardP_mono h (fun h=>?_) (fun h=>?_)) (fun σ w h=>?_)
     · refine zm ?_
       refine zb h fun t86 w h=>?_
       refine zn ?_
       exact zt hT h
     · exact zt hT h
     subst hK
     refine sim_seg 1 rfl ?_
     refine sim_pick h rfl rfl rfl ?_;intro t87 h
     refine zn<|sim_end<|zk ?_
     refine sim_cond h rfl (fun h=>?_) (fun h=>?_)
     · refine zs<|zr<|zm<|zn<|zk<|sim_ret<|sim_then_ret ?_
       exact body_ret1 rfl rfl h
     · refine sim_skip<|zk<|zs<|zr<|zm<|zn<|zk<|sim_ret ?_
       exact body_ret1 rfl rfl h
end Go.Proofs.YtiajhbbmgglmlaaGreat
namespace Go.Proofs.YtiajhbbmgglmlaaGreat
open Sw
open Go.RowKit (intOf Below)
def refsF (f:FieldD):List ByteArray:=if f.kind=7∨f.kind=8∨f.kind=12 then [f.of] else if f.kind=9 then f.cases.map (·.of) else []
def allRefs (l:List FieldD):List ByteArray:=l.flatMap refsF
abbrev strEnc (s:ByteArray):List Value:=[.string s]
theorem append_str {w:World} {QP:List PanicEntry→World→Prop} {k:Value→World→Prop} {base:Nat} {v:Value} {l:List ByteArray} (s:ByteArray) {b:Nat} (hown:OwnE w base 9 1 strEnc v l) (hc:w.cell? ⟨b,0,none⟩=some (.string s)) (hbase:base≤w.heap.size) (hl:l.length≤1048576)
 (hk:∀ v' w',OwnE w' base 9 1 strEnc v' (l++[s])→w.grownBy w' v.ownBlock→k v' w') :
 opV Pg (Builtin.append_ #[69,69] 69 #[v,.slice (some ⟨b,0,none⟩) 1 1]) QP w k:=by
 have hby:=by9
 refine op_appendE (l':=[s]) Tryz.underlying69 ty9 rfl (by decide) (fun _=>rfl) (fun x _ u hu=>by simp at hu;subst hu;rfl) hown (fun j x hx=>?_) hbase ?_ (by simp;omega) hk
 · cases j with
   | zero =>
    simp at hx;subst hx
    intro j v hv
    cases j with
    | zero=>simp at hv;subst hv;simpa using hc
    | succ j=>simp at hv
   | succ j=>simp at hx
 · simp only [List.length_cons,List.length_nil]
   exact Nat.le_trans (Nat.mul_le_mul (Nat.add_le_add_right hl 1) hby) (by decide)
def StrsAt (w:World) (pb:Nat) (sv:Value) (l:List ByteArray):Prop:=w.cell? ⟨pb,0,none⟩=some sv∧SliceOf w 1 EStr sv l∧∀ A m c,sv = .slice (some A) m c→pb < A.block
theorem StrsAt.ext {w w':World} {pb:Nat} {sv:Value} {l:List ByteArray} (h:StrsAt w pb sv l) (e:Ext w w'):StrsAt w' pb sv l:=⟨e.cell h.1,h.2.1.ext keptStr e,h.2.2⟩
theorem append_cell {w0 w:World} {QP:List PanicEntry→World→Prop} {ku:World→Prop} {pb lo p:Nat} {sv:Value} {l:List ByteArray} (s:ByteArray) {T T':TypeId} (hp:p=w.heap.size) (e:Ext w0 w) (h0:w0.heap.size≤pb) (hlo:pb < lo) (o3:w.heap[pb]?=some (.cells #[sv] T (0,0))) (hO:OwnE w lo 9 1 strEnc sv l) (hs:lo≤w.heap.size) (hl:l.length≤1048576)
 (hk:∀ w' sv',Ext w0 w'→w'.heap[pb]?=some (.cells #[sv'] T (0,0))→OwnE w' lo 9 1 strEnc sv' (l++[s])→lo≤w'.heap.size→ku w') :
 opV Pg (Builtin.append_ #[69,69] 69 #[sv,.slice (some ⟨p,0,none⟩) 1 1]) QP (w.alloc (.cells #[.string s] T')) (fun t w=>opU Pg (Instr.storeAt 69 (.pointer (some ⟨pb,0,none⟩)) t) QP w ku):=by
 subst hp
 have l3:pb < w.heap.size:=(Array.getElem?_eq_some_iff.1 o3).1
 have o3':=((Ext.refl w).alloc (.cells #[.string s] T')).obj o3
 refine append_str s (hO.ext ((Ext.refl w).alloc _)) (by rw [cell_new];rfl) (Nat.le_trans hs (by simp)) hl ?_
 intro v' w' hO' hg
 have hne:some pb≠sv.ownBlock:=by
  intro h
  have:=hO.lt pb h.symm
  omega
 have o3w:w'.heap[pb]?=some (.cells #[sv] T (0,0)):=by rw [hg.block pb (by simp;omega) hne];exact o3'
 have eg:Ext w0 w':=(e.alloc _).grown hg (fun k hk=>by have:=hO.lt k hk;omega)
 have hv:=(hO'.slice (E:=EStr) (fun _=>rfl) (fun _ _=>rfl)).oneCell
 rw [op_store1 ty69 hv ((cells_of_heap o3w).1 0) ((cells_of_heap o3w).2 0)]
 refine hk _ v' (eg.setCell h0 _) ?_ ((hO'.range.only (Only.setCell w' pb 0 v') (.inr (.inl hlo))).1) ?_
 · have:=heap_set (o:=0) o3w v'
   simpa using this
 · have:=hg.size
   simp at this ⊢
   omega
theorem Refers_ret (w0:World) (v:Value) (m:MsgD) (hm:MsgVal w0 v m) (hb:(allRefs m.fields).length≤1048576) :
 Ret Pg 54 #[v] w0 fun r w'=>∃ pb sv,r = .func (.func 71) #[] #[.pointer (some ⟨pb,0,none⟩)]∧StrsAt w' pb sv (allRefs m.fields)∧w0.heap.size≤pb∧Ext w0 w':=by
 obtain ⟨fv,rfl,hF⟩:=hm
 obtain ⟨A,c,rfl,hlc,hcm,hlm,hel⟩:=SliceOf.open hF
 refine n47s (R:=retR _) ?_;unfold n47
 simp (disch:=try exact DI) only [↓PR,QR,Int.reduceBEq,Int.reduceBNe,Int.reduceLT,Int.reduceLE,Int.reduceGT,Int.reduceGE,Int.reduceNeg]
 generalize hW:World.alloc (World.alloc w0 _) _=W
 have e0:Ext w0 W:=by rw [← hW];exact ee
 have hsz:W.heap.size=w0.heap.size+1+1:=by rw [← hW];simp only [World.size_alloc]
 have o3:W.heap[w0.heap.size+1]?=some (.cells #[.slice none 0 0] 69 (0,0)):=by rw [← hW];simp (disch:=try exact DI) only [↓PR,QR,Int.reduceBEq,Int.reduceBNe,Int.reduceLT,Int.reduceLE,Int.reduceGT,Int.reduceGE,Int.reduceNeg]
 clear hW
 refine loop1_intro (fun a0 w=>∃ (k:Nat) , a0 = .int .i64 (k:Int)∧k≤m.fields.length∧Ext w0 w∧(∃ sv,w.heap[w0.heap.size+1]?=some (.cells #[sv] 69 (0,0))∧OwnE w W.heap.size 9 1 strEnc sv (allRefs (m.fields.take k))∧W.heap.size≤w.heap.size)) (fun a0 _=>m.fields.length - (intOf a0).toNat) ⟨0,rfl,Nat.zero_le _,ee,⟨_,o3,OwnE.nil _ _ _ _ _,Nat.le_refl _⟩⟩ ?_
 rintro _ w ⟨k,rfl,hk,e,hI⟩
 have se:=e.size
 rcases drop_cases hk with ⟨x,hx,hd,hlt,hdec⟩ | ⟨hk,hd,hdec⟩
 · obtain ⟨sv,o3,hO,hsW⟩:=hI
   obtain ⟨b,o,cs,rfl,hl,hA,hE⟩:=hel k x hx
   obtain ⟨tv,cv,rfl,hT,hC,ht1,hc1⟩:=hE.op
   have hpre:(allRefs (m.fields.take (k+1)))=allRefs (m.fields.take k)++refsF x:=by unfold allRefs;rw [take_snoc hx,List.flatMap_append];simp
   have hle:(allRefs (m.fields.take (k+1))).length≤1048576:=by
    refine Nat.le_trans ?_ hb
    have:m.fields=m.fields.take (k+1)++m.fields.drop (k+1):=(List.take_append_drop _ _).symm
    conv=>rhs;rw [this]
    unfold allRefs
    rw [List.flatMap_append,List.length_append]
    omega
   rw [hpre,List.length_append] at hle
   have hsv:=(hO.slice (E:=EStr) (fun _=>rfl) (fun _ _=>rfl)).oneCell
   simp (disch:=try exact DI) only [↓PR,QR,Int.reduceBEq,Int.reduceBNe,Int.reduceLT,Int.reduceLE,Int.reduceGT,Int.reduceGE,Int.reduceNeg,↓n47c1,↓n47c2,↓n47c3,↓n47c4,↓n47c5,↓n47c6,↓n47c7,hdec,hA.c15]
   generalize hW1:World.alloc w _=w1
   have e1:Ext w w1:=by rw [← hW1];exact ee
   have o5:w1.heap[w.heap.size]?=some (.cells (fieldCells x tv cv).toArray 52 (0,0)):=by rw [← hW1];simp (disch:=try exact DI) only [↓PR,QR,Int.reduceBEq,Int.reduceBNe,Int.reduceLT,Int.reduceLE,Int.reduceGT,Int.reduceGE,Int.reduceNeg]
   clear hW1
   have s1:=e1.size
   have e01:=e.trans e1
   have o31:=e1.obj o3
   have hO1:=hO.ext e1
   have l5:w.heap.size < w1.heap.size:=(Array.getElem?_eq_some_iff.1 o5).1
   have l3:w0.heap.size+1 < w1.heap.size:=(Array.getElem?_eq_some_iff.1 o31).1
   by_cases hr:x.kind=7∨x.kind=8∨x.kind=12
   · have hrf:refsF x=[x.of]:=by unfold refsF;rw [if_pos hr]
     rw [hrf] at hpre hle
     have key:∀ b,b=true→n47c4 (.pointer (some ⟨w0.heap.size+1,0,none⟩)) (.pointer (some ⟨w.heap.size,0,none⟩)) (.int .i64 (k:Int)) (.int .i64 x.kind) (.bool b) (fun a0' w'=>(∃ k:Nat,a0'=Value.int IntKind.i64 (k:Int)∧k≤m.fields.length∧Ext w0 w'∧∃ sv,w'.heap[w0.heap.size+1]?=some (.cells #[sv] 69 (0,0))∧OwnE w' W.heap.size 9 1 strEnc sv (allRefs (m.fields.take k))∧W.heap.size≤w'.heap.size)∧m.fields.length - (intOf a0').toNat < m.fields.length - (intOf (Value.int IntKind.i64 (k:Int))).toNat)
      (retR fun r w'=>∃ pb sv,r = .func (.func 71) #[] #[.pointer (some ⟨pb,0,none⟩)]∧StrsAt w' pb sv (allRefs m.fields)∧w0.heap.size≤pb∧Ext w0 w') w1:=by
      rintro b rfl
      simp (disch:=try exact DI) only [↓PR,QR,Int.reduceBEq,Int.reduceBNe,Int.reduceLT,Int.reduceLE,Int.reduceGT,Int.reduceGE,Int.reduceNeg,↓n47c1,↓n47c2,↓n47c3,↓n47c4,↓n47c5,↓n47c6,↓n47c7,(cells_of_heap o31).1,(cells_of_heap o5).1]
      refine append_cell x.of rfl e01 (by omega) (by omega) o31 hO1 (by omega) (by simp at hle;omega) ?_
      intro w2 sv2 e2 o32 hO2 hs2
      rw [← hpre] at hO2
      simp (disch:=try exact DI) only [↓PR,QR,Int.reduceBEq,Int.reduceBNe,Int.reduceLT,Int.reduceLE,Int.reduceGT,Int.reduceGE,Int.reduceNeg]
      exact ⟨⟨k+1,rfl,by omega,ee,⟨sv2,o32,hO2,hs2⟩⟩,meas_lt hlt⟩
     simp only [World.size_alloc]
     rcases hr with h | h | h
     · rw [h] at key ⊢
       simp (disch:=try exact DI) only [↓PR,QR,Int.reduceBEq,Int.reduceBNe,Int.reduceLT,Int.reduceLE,Int.reduceGT,Int.reduceGE,Int.reduceNeg]
       exact key true rfl
     · rw [h] at key ⊢
       simp (disch:=try exact DI) only [↓PR,QR,Int.reduceBEq,Int.reduceBNe,Int.reduceLT,Int.reduceLE,Int.reduceGT,Int.reduceGE,Int.reduceNeg,↓n47c5]
       exact key true rfl
     · rw [h] at key ⊢
       simp (disch:=try exact DI) only [↓PR,QR,Int.reduceBEq,Int.reduceBNe,Int.reduceLT,Int.reduceLE,Int.reduceGT,Int.reduceGE,Int.reduceNeg,↓n47c5]
       exact key true rfl
   · have h7:(x.kind == 7)=false:=by simp;omega
     have h8:(x.kind == 8)=false:=by simp;omega
     have h12:(x.kind == 12)=false:=by simp;omega
     simp only [World.size_alloc]
     by_cases h9:x.kind=9
     · have h9':(x.kind == 9)=true:=by simp [h9]
       have hrf:refsF x=x.cases.map (·.of):=by unfold refsF;rw [if_neg hr,if_pos h9]
       rw [hrf] at hpre hle
       obtain ⟨A',c',rfl,hlc',hcm',hlm',hel'⟩:=SliceOf.open hC
       simp (disch:=try exact DI) only [↓PR,QR,Int.reduceBEq,Int.reduceBNe,Int.reduceLT,Int.reduceLE,Int.reduceGT,Int.reduceGE,Int.reduceNeg,↓n47c1,↓n47c2,↓n47c3,↓n47c4,↓n47c5,↓n47c6,↓n47c7,h7,h8,h12,h9',(cells_of_heap o5).1]
       refine loop1_intro (fun a0 wa=>∃ (ka:Nat) , a0 = .int .i64 (ka:Int)∧ka≤x.cases.length∧Ext w0 wa∧(∃ sv,wa.heap[w0.heap.size+1]?=some (.cells #[sv] 69 (0,0))∧OwnE wa W.heap.size 9 1 strEnc sv (allRefs (m.fields.take k)++(x.cases.take ka).map (·.of))∧W.heap.size≤wa.heap.size)) (fun a0 _=>x.cases.length - (intOf a0).toNat) ⟨0,rfl,Nat.zero_le _,ee,⟨sv,o31,by simpa using hO1,by omega⟩⟩ ?_
       rintro _ wa ⟨ka,rfl,hka,ea,hIa⟩
       have sea:=ea.size
       rcases drop_cases hka with ⟨xa,hxa,hda,hlta,hdeca⟩ | ⟨hka,hda,hdeca⟩
       · obtain ⟨sva,oa,hOa,hsa⟩:=hIa
         obtain ⟨b',o',cs',rfl,_,hA',rfl⟩:=hel' ka xa hxa
         have la:w0.heap.size+1 < wa.heap.size:=(Array.getElem?_eq_some_iff.1 oa).1
         have oa':=((Ext.refl wa).alloc (.cells #[.int .i64 xa.low,.int .i64 xa.high,.string xa.of] 81)).obj oa
         have hla:(x.cases.take ka).length≤x.cases.length:=by rw [List.length_take];omega
         simp (disch:=try exact DI) only [↓PR,QR,Int.reduceBEq,Int.reduceBNe,Int.reduceLT,Int.reduceLE,Int.reduceGT,Int.reduceGE,Int.reduceNeg,↓n47c1,↓n47c2,↓n47c3,↓n47c4,↓n47c5,↓n47c6,↓n47c7,hdeca,hA'.c3,(cells_of_heap oa').1,(cells_of_heap oa).1]
         refine append_cell xa.of (by simp only [World.size_alloc]) (ea.alloc _) (by omega) (by omega) oa' (hOa.ext ((Ext.refl wa).alloc _)) (by simp;omega) (by simp at hle hla ⊢;omega) ?_
         intro w2 sv2 e2 o32 hO2 hs2
         simp (disch:=try exact DI) only [↓PR,QR,Int.reduceBEq,Int.reduceBNe,Int.reduceLT,Int.reduceLE,Int.reduceGT,Int.reduceGE,Int.reduceNeg]
         have hO3:OwnE w2 W.heap.size 9 1 strEnc sv2 (allRefs (m.fields.take k)++(x.cases.take (ka+1)).map (·.of)):=by
          rw [take_snoc hxa,List.map_append,← List.append_assoc];exact hO2
         exact ⟨⟨ka+1,rfl,by omega,ee,⟨sv2,o32,hO3,hs2⟩⟩,meas_lt hlta⟩
       · subst hka
         obtain ⟨sva,oa,hOa,hsa⟩:=hIa
         rw [List.take_length,← hpre] at hOa
         simp (disch:=try exact DI) only [↓PR,QR,Int.reduceBEq,Int.reduceBNe,Int.reduceLT,Int.reduceLE,Int.reduceGT,Int.reduceGE,Int.reduceNeg,↓n47c1,↓n47c2,↓n47c3,↓n47c4,↓n47c5,↓n47c6,↓n47c7,hdeca]
         exact ⟨⟨k+1,rfl,by omega,ee,⟨sva,oa,hOa,hsa⟩⟩,meas_lt hlt⟩
     · have h9':(x.kind == 9)=false:=by simp;omega
       have hrf:refsF x=[]:=by unfold refsF;rw [if_neg hr,if_neg h9]
       rw [hrf,List.append_nil] at hpre
       rw [← hpre] at hO1
       simp (disch:=try exact DI) only [↓PR,QR,Int.reduceBEq,Int.reduceBNe,Int.reduceLT,Int.reduceLE,Int.reduceGT,Int.reduceGE,Int.reduceNeg,↓n47c1,↓n47c2,↓n47c3,↓n47c4,↓n47c5,↓n47c6,↓n47c7,h7,h8,h12,h9',(cells_of_heap o5).1]
       exact ⟨⟨k+1,rfl,by omega,ee,⟨sv,o31,hO1,by omega⟩⟩,meas_lt hlt⟩
 · subst hk
   obtain ⟨sv,o3,hO,hsW⟩:=hI
   rw [List.take_length] at hO
   simp (disch:=try exact DI) only [↓PR,QR,Int.reduceBEq,Int.reduceBNe,Int.reduceLT,Int.reduceLE,Int.reduceGT,Int.reduceGE,Int.reduceNeg,↓n47c1,↓n47c2,↓n47c3,↓n47c4,↓n47c5,↓n47c6,↓n47c7,hdec]
   have hS:=hO.slice (E:=EStr) (fun _=>rfl) (fun _ _=>rfl)
   exact ⟨_,sv,rfl,⟨(cells_of_heap o3).1 0,hS,fun A m c e=>by subst e;have:=hO.lt A.block rfl;omega⟩,by omega,e⟩
theorem Index_string_ret (w0:World) (v:Value) (l:List ByteArray) (s:ByteArray) (hs:SliceOf w0 1 EStr v l) :
 Ret Pg 108 #[v,.string s] w0 fun r w'=>r = .int .i64 (idx (fun y=>decide (s=y)) l)∧Ext w0 w':=by
 obtain ⟨A,c,rfl,hlc,hcm,hlm,hel⟩:=SliceOf.open hs
 refine n121s (R:=retR _) ?_;unfold n121
 simp (disch:=try exact DI) only [↓PR,QR,Int.reduceBEq,Int.reduceBNe,Int.reduceLT,Int.reduceLE,Int.reduceGT,Int.reduceGE,Int.reduceNeg]
 refine loop1_intro (fun a0 w=>∃ (k:Nat) , a0 = .int .i64 (k:Int)∧k≤l.length∧Ext w0 w∧∀ (j:Nat) y,j < k→l[j]?=some y→decide (s=y)=false) (fun a0 _=>l.length - (intOf a0).toNat) ⟨0,rfl,Nat.zero_le _,ee,fun j y h=>by omega⟩ ?_
 rintro _ w ⟨k,rfl,hk,e,hI⟩
 have se:=e.size
 rcases drop_cases hk with ⟨x,hx,hd,hlt,hdec⟩ | ⟨hk,hd,hdec⟩
 · obtain ⟨b,o,cs,rfl,hl,hA,rfl⟩:=hel k x hx
   simp (disch:=try exact DI) only [↓PR,QR,Int.reduceBEq,Int.reduceBNe,Int.reduceLT,Int.reduceLE,Int.reduceGT,Int.reduceGE,Int.reduceNeg,hdec,hA.c1,↓n121c1]
   cases hp:decide (s=x) with
   | true =>
    simp (disch:=try exact DI) only [↓PR,QR,Int.reduceBEq,Int.reduceBNe,Int.reduceLT,Int.reduceLE,Int.reduceGT,Int.reduceGE,Int.reduceNeg]
    exact ⟨by rw [idx_here hx hp hI],e⟩
   | false =>
    simp (disch:=try exact DI) only [↓PR,QR,Int.reduceBEq,Int.reduceBNe,Int.reduceLT,Int.reduceLE,Int.reduceGT,Int.reduceGE,Int.reduceNeg]
    exact ⟨⟨k+1,rfl,by omega,ee,before_succ hI hx hp⟩,meas_lt hlt⟩
 · subst hk
   simp (disch:=try exact DI) only [↓PR,QR,Int.reduceBEq,Int.reduceBNe,Int.reduceLT,Int.reduceLE,Int.reduceGT,Int.reduceGE,Int.reduceNeg,hdec,↓n121c1]
   exact ⟨by rw [idx_none fun j y hy=>hI j y (List.getElem?_eq_some_iff.1 hy).1 hy],e⟩
theorem Contains_string_ret (w0:World) (v:Value) (l:List ByteArray) (s:ByteArray) (hs:SliceOf w0 1 EStr v l) :
 Ret Pg 72 #[v,.string s] w0 fun r w'=>r = .bool (l.any fun y=>decide (s=y))∧Ext w0 w':=by
 refine n114s (R:=retR _) ?_;unfold n114
 refine callK_ret (Index_string_ret _ _ l s hs) ?_
 rintro r w' ⟨rfl,e⟩
 simp (disch:=try exact DI) only [↓PR,QR,Int.reduceBEq,Int.reduceBNe,Int.reduceLT,Int.reduceLE,Int.reduceGT,Int.reduceGE,Int.reduceNeg,Sw.joinK_eq]
 exact ⟨by rw [idx_neg],e⟩
def dedupA:List ByteArray→List ByteArray→List ByteArray
 | _,[]=>[]
 | seen,s::l=>if seen.any (fun y=>decide (s=y)) then dedupA (seen++[s]) l else s::dedupA (seen++[s]) l
def strX (l:List ByteArray) (k:Nat):Value:=match l[k]? with
 | some s => .string s
 | none=>undef
theorem Refers_seq (pb:Nat) (sv:Value) (l:List ByteArray):SeqIt Pg 71 #[.pointer (some ⟨pb,0,none⟩)] (dedupA [] l).length (strX (dedupA [] l)) (fun w=>StrsAt w pb sv l):=by
 intro yv J Jx Jp w hFP hJe hJx hstep h0
 obtain ⟨hc,hT,_⟩:=hFP 0 w h0
 obtain ⟨A,c,rfl,hlc,hcm,hlm,hel⟩:=SliceOf.open hT
 refine n48s (t0:=yv) (t1 := .pointer (some ⟨pb,0,none⟩)) ?_
 unfold n48
 simp (disch:=try exact DI) only [↓PR,QR,Int.reduceBEq,Int.reduceBNe,Int.reduceLT,Int.reduceLE,Int.reduceGT,Int.reduceGE,Int.reduceNeg,hc]
 refine loop1_intro (fun i w=>∃ k j:Nat,i = .int .i64 k∧k≤l.length∧J j w∧j≤(dedupA [] l).length∧(dedupA [] l).drop j=dedupA (l.take k) (l.drop k)) (fun i _=>l.length - (intOf i).toNat) ⟨0,0,rfl,by omega,h0,by omega,rfl⟩ ?_
 rintro i w' ⟨k,j,rfl,hk,hJ,hj,hD⟩
 rcases drop_cases hk with ⟨x,hx,hd,hlt,hdec⟩ | ⟨hk,hd,hdec⟩
 · obtain ⟨hc',hT',_⟩:=hFP j w' hJ
   obtain ⟨A',c',hv,_,hcm',_,hel'⟩:=SliceOf.open hT'
   injection hv with hv _ hv'
   subst hv hv'
   obtain ⟨b,o,cs,rfl,hl,hA,rfl⟩:=hel' k x hx
   have er:=Ext.refl w'
   rw [hd] at hD
   simp only [dedupA] at hD
   simp (disch:=try exact DI) only [↓PR,QR,Int.reduceBEq,Int.reduceBNe,Int.reduceLT,Int.reduceLE,Int.reduceGT,Int.reduceGE,Int.reduceNeg,↓n48c1,↓n48c2,hdec,hA.c1,hc']
   rw [op_sliceTo Tryz.underlying69 ty9 b o l.length c .i64 k (by omega)]
   have hlen:(l.take k).length=k:=by rw [List.length_take];omega
   have hpre:SliceOf w' 1 EStr (.slice (some ⟨b,o,none⟩) k c) (l.take k):=by
    refine ⟨_,c,by rw [hlen],by rw [hlen];omega,hcm,fun _=>⟨b,o,rfl,fun i y hy=>?_⟩⟩
    rw [List.getElem?_take] at hy
    split at hy
    · obtain ⟨b',o',cs,hA',h1,h2,h3⟩:=hel' i y hy
      injection hA' with hA'
      injection hA' with h5 h6
      subst h5 h6
      exact ⟨cs,h1,h2,h3⟩
    · cases hy
   refine zcr (Contains_string_ret w' _ _ x hpre) fun w2 e2=>?_
   have hJ2:=hJe j w' w2 hJ e2
   have htk:l.take (k+1)=l.take k++[x]:=take_snoc hx
   cases hany:(l.take k).any (fun y=>decide (x=y)) with
   | true =>
    rw [hany,if_pos rfl,← htk] at hD
    simp (disch:=try exact DI) only [↓PR,QR,Int.reduceBEq,Int.reduceBNe,Int.reduceLT,Int.reduceLE,Int.reduceGT,Int.reduceGE,Int.reduceNeg,↓n48c1,↓n48c2]
    exact ⟨⟨k+1,j,rfl,by omega,hJ2,hj,hD⟩,meas_lt hlt⟩
   | false =>
    rw [hany,if_neg (by simp),← htk] at hD
    have hjl:j < (dedupA [] l).length:=by
     have:=congrArg List.length hD
     simp at this
     omega
    have hxj:(dedupA [] l)[j]?=some x:=by
     have:=congrArg (fun l=>l[0]?) hD
     simpa using this
    have hD2:(dedupA [] l).drop (j+1)=dedupA (l.take (k+1)) (l.drop (k+1)):=by
     rw [← List.tail_drop,hD];rfl
    have hs:=hstep j hjl w2 hJ2
    rw [show strX (dedupA [] l) j = .string x by unfold strX;rw [hxj]] at hs
    simp (disch:=try exact DI) only [↓PR,QR,Int.reduceBEq,Int.reduceBNe,Int.reduceLT,Int.reduceLE,Int.reduceGT,Int.reduceGE,Int.reduceNeg,↓n48c1,↓n48c2]
    refine callV_mono hs (fun ch w h=>h) ?_
    rintro v w3 (⟨rfl,h2⟩ | ⟨rfl,h2⟩)
    · simp (disch:=try exact DI) only [↓PR,QR,Int.reduceBEq,Int.reduceBNe,Int.reduceLT,Int.reduceLE,Int.reduceGT,Int.reduceGE,Int.reduceNeg,↓n48c1,↓n48c2]
      exact ⟨⟨k+1,j+1,rfl,by omega,h2,hjl,hD2⟩,meas_lt hlt⟩
    · simp (disch:=try exact DI) only [↓PR,QR,Int.reduceBEq,Int.reduceBNe,Int.reduceLT,Int.reduceLE,Int.reduceGT,Int.reduceGE,Int.reduceNeg,↓n48c1,↓n48c2]
      exact .inr h2
 · subst hk
   simp (disch:=try exact DI) only [↓PR,QR,Int.reduceBEq,Int.reduceBNe,Int.reduceLT,Int.reduceLE,Int.reduceGT,Int.reduceGE,Int.reduceNeg,↓n48c1,↓n48c2,hdec]
   rw [hd] at hD
   have hjl:j=(dedupA [] l).length:=by
    have:=congrArg List.length hD
    simp [dedupA] at this
    omega
   rw [← hjl]
   exact .inl hJ
end Go.Proofs.YtiajhbbmgglmlaaGreat
namespace Go.Proofs.YtiajhbbmgglmlaaGreat
open Sw
open Go.RowKit (intOf Below)
def lastP {β:Type} (l:List (ByteArray×β)) (s:ByteArray):Option β:=(l.reverse.find? (fun p=>decide (p.1=s))).map (·.2)
theorem lastP_snoc {β:Type} (ps:List (ByteArray×β)) (p:ByteArray×β) (s:ByteArray):lastP (ps++[p]) s=if p.1=s then some p.2 else lastP ps s:=by
 unfold lastP
 rw [List.reverse_append,List.reverse_singleton,List.singleton_append,List.find?_cons]
 by_cases h:p.1=s<;>simp [h]
theorem lastP_mem {β:Type} {ps:List (ByteArray×β)} {s:ByteArray} {v:β} (h:lastP ps s=some v):(s,v)∈ps:=by
 unfold lastP at h
 obtain ⟨q,hq,rfl⟩:=Option.map_eq_some_iff.1 h
 have h1:=List.find?_some hq
 have h2:=List.mem_of_find?_eq_some hq
 simp only [decide_eq_true_eq] at h1
 subst h1
 exact List.mem_reverse.1 h2
def vI (l:List (ByteArray×Int)):List (ByteArray×Value):=l.map fun p=>(p.1,.int .i64 p.2)
def vB (l:List (ByteArray×Bool)):List (ByteArray×Value):=l.map fun p=>(p.1,.bool p.2)
theorem lastOf_map {β:Type} (g:β→Value) (l:List (ByteArray×β)) (s:ByteArray):lastOf (l.map fun p=>(p.1,g p.2)) s=(lastP l s).map g:=by
 unfold lastOf lastP
 rw [← List.map_reverse,List.find?_map]
 simp only [Option.map_map]
 rfl
theorem lastOf_vI (l:List (ByteArray×Int)) (s:ByteArray):lastOf (vI l) s=(lastP l s).map fun n => .int .i64 n:=lastOf_map _ l s
theorem lastOf_vB (l:List (ByteArray×Bool)) (s:ByteArray):lastOf (vB l) s=(lastP l s).map Value.bool:=lastOf_map _ l s
theorem strB_vB (l:List (ByteArray×Bool)) (s:ByteArray):strB (vB l) s=(lastP l s).getD false:=by
 unfold strB;rw [lastOf_vB];cases lastP l s<;>rfl
structure CkO (a0 w:World) (cb md ms:Nat) (deps:List (ByteArray×Int)) (strs:List (ByteArray×Bool)) (at_ fld:Int) (fs:List FieldD):Prop where
 ext:Ext a0 w
 obj:∃ dn mv ds mn fv,w.heap[cb]?=some (.cells #[.string dn,mv,.string ds,.map (some md),.map (some ms),.int .i64 at_,.int .i64 fld,.string mn,fv] 65 (0,0))∧FieldsOf a0 fv fs
 mdeps:MapOf w md (vI deps)
 mstrs:MapOf w ms (vB strs)
 lcb:a0.heap.size≤cb
 lmd:a0.heap.size≤md
 lms:a0.heap.size≤ms
 ne:md≠ms
section
variable {a0 w w':World} {cb md ms:Nat} {deps:List (ByteArray×Int)} {strs:List (ByteArray×Bool)} {at_ fld:Int} {fs:List FieldD}
theorem CkO.chk (h:CkO a0 w cb md ms deps strs at_ fld fs):Chk w cb md ms (vI deps) (vB strs) at_ fld fs:=by
 obtain ⟨dn,mv,ds,mn,fv,h1,h2⟩:=h.obj
 refine ⟨⟨dn,mv,ds,mn,fv,h1,h2.ext h.ext⟩,h.mdeps,h.mstrs,fun k v hv=>?_,fun k v hv=>?_⟩
 · rw [lastOf_vI] at hv;obtain ⟨n,_,rfl⟩:=Option.map_eq_some_iff.1 hv;exact ⟨n,rfl⟩
 · rw [lastOf_vB] at hv;obtain ⟨n,_,rfl⟩:=Option.map_eq_some_iff.1 hv;exact ⟨n,rfl⟩
theorem CkO.nd (h:CkO a0 w cb md ms deps strs at_ fld fs):cb≠md∧cb≠ms∧cb < w.heap.size∧md < w.heap.size∧ms < w.heap.size:=by
 obtain ⟨dn,mv,ds,mn,fv,h1,h2⟩:=h.obj
 refine ⟨?_,?_,(Array.getElem?_eq_some_iff.1 h1).1,h.mdeps.lt,h.mstrs.lt⟩
 · rintro rfl;have:=h.mdeps.obj;rw [h1] at this;cases this
 · rintro rfl;have:=h.mstrs.obj;rw [h1] at this;cases this
theorem CkO.go (h:CkO a0 w cb md ms deps strs at_ fld fs) (e:Ext w w'):CkO a0 w' cb md ms deps strs at_ fld fs:=by
 obtain ⟨dn,mv,ds,mn,fv,h1,h2⟩:=h.obj
 exact ⟨h.ext.trans e,⟨dn,mv,ds,mn,fv,e.obj h1,h2⟩,h.mdeps.ext e,h.mstrs.ext e,h.lcb,h.lmd,h.lms,h.ne⟩
theorem CkO.other (h:CkO a0 w cb md ms deps strs at_ fld fs) {b o:Nat} (hb:a0.heap.size≤b) (hn:b≠cb) (v:Value):CkO a0 (w.setCell ⟨b,o,none⟩ v) cb md ms deps strs at_ fld fs:=by
 obtain ⟨dn,mv,ds,mn,fv,h1,h2⟩:=h.obj
 refine ⟨h.ext.setCell hb v,⟨dn,mv,ds,mn,fv,?_,h2⟩,h.mdeps.setCell _ _,h.mstrs.setCell _ _,h.lcb,h.lmd,h.lms,h.ne⟩
 rw [Only.setCell w b o v cb (fun e=>hn e.symm)];exact h1
theorem CkO.setFld (h:CkO a0 w cb md ms deps strs at_ fld fs) (n:Int):CkO a0 (w.setCell ⟨cb,6,none⟩ (.int .i64 n)) cb md ms deps strs at_ n fs:=by
 obtain ⟨dn,mv,ds,mn,fv,h1,h2⟩:=h.obj
 exact ⟨h.ext.setCell h.lcb _,⟨dn,mv,ds,mn,fv,heap_set h1 _,h2⟩,h.mdeps.setCell _ _,h.mstrs.setCell _ _,h.lcb,h.lmd,h.lms,h.ne⟩
theorem CkO.setAt (h:CkO a0 w cb md ms deps strs at_ fld fs) (n:Int):CkO a0 (w.setCell ⟨cb,5,none⟩ (.int .i64 n)) cb md ms deps strs n fld fs:=by
 obtain ⟨dn,mv,ds,mn,fv,h1,h2⟩:=h.obj
 exact ⟨h.ext.setCell h.lcb _,⟨dn,mv,ds,mn,fv,heap_set h1 _,h2⟩,h.mdeps.setCell _ _,h.mstrs.setCell _ _,h.lcb,h.lmd,h.lms,h.ne⟩
theorem CkO.setMsg (h:CkO a0 w cb md ms deps strs at_ fld fs) (s:ByteArray) (fv':Value) (fs':List FieldD) (hf:FieldsOf a0 fv' fs'):CkO a0 ((w.setCell ⟨cb,7,none⟩ (.string s)).setCell ⟨cb,8,none⟩ fv') cb md ms deps strs at_ fld fs':=by
 obtain ⟨dn,mv,ds,mn,fv,h1,h2⟩:=h.obj
 exact ⟨(h.ext.setCell h.lcb _).setCell h.lcb _,⟨dn,mv,ds,s,fv',heap_set (heap_set h1 _) _,hf⟩,(h.mdeps.setCell _ _).setCell _ _,(h.mstrs.setCell _ _).setCell _ _,h.lcb,h.lmd,h.lms,h.ne⟩
theorem CkO.putOther (h:CkO a0 w cb md ms deps strs at_ fld fs) {B:Nat} (o:Obj) (hB:a0.heap.size≤B) (h1:B≠cb) (h2:B≠md) (h3:B≠ms):CkO a0 (w.putObj B o) cb md ms deps strs at_ fld fs:=by
 obtain ⟨dn,mv,ds,mn,fv,h4,h5⟩:=h.obj
 exact ⟨h.ext.putObj hB o,⟨dn,mv,ds,mn,fv,(World.putObj_heap_other (fun e=>h1 e.symm)).trans h4,h5⟩,MapB.putOther h.mdeps (fun e=>h2 e.symm) o,MapB.putOther h.mstrs (fun e=>h3 e.symm) o,h.lcb,h.lmd,h.lms,h.ne⟩
theorem CkO.unmark (h:CkO a0 w cb md ms deps strs at_ fld fs) {B:Nat} (hm:MarkAt B w) (hB:a0.heap.size≤B):CkO a0 (w.putObj B (.deferred none)) cb md ms deps strs at_ fld fs:=by
 obtain ⟨dn,mv,ds,mn,fv,h4,h5⟩:=h.obj
 refine h.putOther _ hB ?_ ?_ ?_
 · rintro rfl;unfold MarkAt at hm;rw [h4] at hm;cases hm
 · rintro rfl;unfold MarkAt at hm;have:=h.mdeps.obj;rw [hm] at this;cases this
 · rintro rfl;unfold MarkAt at hm;have:=h.mstrs.obj;rw [hm] at this;cases this
theorem CkO.lasts {B:Nat} (hB:a0.heap.size≤B):Lasts B (fun w=>CkO a0 w cb md ms deps strs at_ fld fs):=by
 refine ⟨fun w w' h e=>h.go e,fun w l r r' hl h hr=>?_⟩
 obtain ⟨dn,mv,ds,mn,fv,h4,h5⟩:=h.obj
 refine h.putOther _ (by omega) ?_ ?_ ?_
 · rintro rfl;rw [h4] at hr;cases hr
 · rintro rfl;have:=h.mdeps.obj;rw [hr] at this;cases this
 · rintro rfl;have:=h.mstrs.obj;rw [hr] at this;cases this
theorem CkO.turn (h:CkO a0 w cb md ms deps strs at_ fld fs) {o:Obj} {r:Nat} (hr:r=md∨r=ms):CkO a0 w cb md ms deps strs at_ fld fs:=h
theorem StrsAt.lasts (B pb:Nat) (sv:Value) (l:List ByteArray):Lasts B (fun w=>StrsAt w pb sv l) :=
 Lasts.and (Lasts.cell B) (Lasts.and ⟨fun _ _ h e=>h.ext keptStr e,fun _ _ _ _ _ h hl=>SliceOf.putLoop (fun _ _ h=>h) hl h⟩ (Lasts.const _ _))
theorem StrsAt.set {w:World} {pb:Nat} {sv:Value} {l:List ByteArray} (h:StrsAt w pb sv l) {b o:Nat} (hb:b < pb) (u:Value):StrsAt (w.setCell ⟨b,o,none⟩ u) pb sv l :=
 ⟨by rw [cell_set_other (by omega)];exact h.1,SliceOf.setOther h.2.1 u (fun A m c e=>by have:=h.2.2 A m c e;omega) (fun _ _ h=>h),h.2.2⟩
end
def refsM (m:MsgD):List ByteArray:=dedupA [] (allRefs m.fields)
def fieldsP (deps:List (ByteArray×Int)) (strs:List (ByteArray×Bool)) (bef:List FieldD):List FieldD→Int×Int
 | []=>(-1,0)
 | f::l=>if examineC bef (vI deps) (vB strs) f=0 then fieldsP deps strs (bef++[f]) l else (bef.length,examineC bef (vI deps) (vB strs) f)
def maxI (a b:Int):Int:=if b > a then b else a
def depthM (deps:List (ByteArray×Int)) (m:MsgD):Int:=(refsM m).foldl (fun d s=>maxI d ((lastP deps s).getD 0)) 0
def strictM (strs:List (ByteArray×Bool)) (m:MsgD):Bool:=(m.fields.all fun f=>!f.loose)&&(refsM m).all fun s=>(lastP strs s).getD false
def tailP (deps:List (ByteArray×Int)) (m:MsgD) (r:Int×Int):Int×Int:=if r.2=0 then (if depthM deps m < 16 then (-1,0) else (-1,10)) else r
def nextP (deps:List (ByteArray×Int)) (strs:List (ByteArray×Bool)) (m:MsgD):Int×Int :=
 if nameB m.name then (if (lastP deps m.name).isSome then (-1,2) else (if 1≤m.fields.length∧m.fields.length≤40 then tailP deps m (fieldsP deps strs [] m.fields) else (-1,3))) else (-1,1)
def nxtR (a0:World) (at_:Int) (r:Int×Int) (K:World→Prop):Ending→World→Prop:=fun e w'=>Ext a0 w'∧(r.2=0∧e = .returned (.tuple #[])∧K w'∨r.2≠0∧e = .panicked [flawEntry at_ r.1 r.2])
theorem nxtR_ret {a0 w':World} {at_:Int} {r:Int×Int} {K:World→Prop} (e:Ext a0 w') (h:r.2=0) (hK:K w'):nxtR a0 at_ r K (.returned (.tuple #[])) w':=⟨e,.inl ⟨h,rfl,hK⟩⟩
theorem nxtR_pan {a0 w':World} {at_ a b:Int} {r:Int×Int} {K:World→Prop} (e:Ext a0 w') (h:r=(a,b)) (h0:b≠0):nxtR a0 at_ r K (.panicked [flawEntry at_ a b]) w':=by subst h;exact ⟨e,.inr ⟨h0,rfl⟩⟩
theorem qV_loadG {P:Program} {C:World→Prop} [ClassNe C] {T:TypeId} {a:Addr} {v:Value} {k:Value→Prop} (h:∀ w',C w'→Loads P w' T a v):qV P C (Instr.loadAt T (.pointer (some a))) k=k v :=
 qV_eqC fun w' e=>run_of_op fun QP k=>op_load (h w' e)
section
variable {a0 w:World} {cb md ms:Nat} {deps:List (ByteArray×Int)} {strs:List (ByteArray×Bool)} {at_ fld:Int} {fs:List FieldD}
theorem nxt_end (h:CkO a0 w cb md ms deps strs at_ (-1) fs) (p2 p3 p6 p9 B:Nat) (m:MsgD) (fv:Value) (st:Bool) (dp:Int) (hd0:0≤dp) (hd1:dp≤1000)
 (o2:w.heap[p2]?=some (.cells #[.pointer (some ⟨cb,0,none⟩)] 61 (0,0))) (o3:w.heap[p3]?=some (.cells (msgCells m fv).toArray 45 (0,0))) (o6:w.heap[p6]?=some (.cells #[.bool st] 4 (0,0))) (o9:w.heap[p9]?=some (.cells #[.int .i64 dp] 3 (0,0)))
 (hmk:MarkAt B w) (hB:a0.heap.size≤B) (r:Int×Int) (hr:r=if dp < 16 then (-1,0) else (-1,10)) (K:World→Prop)
 (hK:∀ w',CkO a0 w' cb md ms (deps++[(m.name,dp+1)]) (strs++[(m.name,st)]) at_ (-1) fs→K w') :
 drawK w fun C12 w=>n56c8 (.pointer (some ⟨p2,0,none⟩)) (.pointer (some ⟨p3,0,none⟩)) (.pointer (some ⟨p6,0,none⟩)) (.pointer (some ⟨p9,0,none⟩)) C12 [Sw.mark B] (nxtR a0 at_ r K) w:=by
 obtain ⟨n1,n2,l1,l2,l3⟩:=h.nd
 have hne:=h.ne
 obtain ⟨dn,mv,ds,mn,fv',h1,h2⟩:=h.obj
 have m2:p2≠md:=by rintro rfl;have:=h.mdeps.obj;rw [o2] at this;cases this
 have m3:p3≠md:=by rintro rfl;have:=h.mdeps.obj;rw [o3] at this;cases this
 have m6:p6≠md:=by rintro rfl;have:=h.mdeps.obj;rw [o6] at this;cases this
 have m9:p9≠md:=by rintro rfl;have:=h.mdeps.obj;rw [o9] at this;cases this
 have q2:p2≠ms:=by rintro rfl;have:=h.mstrs.obj;rw [o2] at this;cases this
 have q3:p3≠ms:=by rintro rfl;have:=h.mstrs.obj;rw [o3] at this;cases this
 have q6:p6≠ms:=by rintro rfl;have:=h.mstrs.obj;rw [o6] at this;cases this
 have q9:p9≠ms:=by rintro rfl;have:=h.mstrs.obj;rw [o9] at this;cases this
 refine drawK_introB (w1:=w) md ms (fun _ _ _ _=>rfl) ?_
 unfold n56c8
 simp (disch:=try exact DI) only [↓PR,QR,Int.reduceBEq,Int.reduceBNe,Int.reduceLT,Int.reduceLE,Int.reduceGT,Int.reduceGE,Int.reduceNeg,(cells_of_heap h1).1,(cells_of_heap o2).1,(cells_of_heap o3).1,(cells_of_heap o6).1,(cells_of_heap o9).1]
 have eD:Ext w w.drew:=(Ext.refl w).drew
 have hmd:MapOf w.drew md (vI deps):=h.mdeps.ext eD
 rw [op_mapEntryS Tryz.underlying62 Tryz.underlying9 ty3 hmd m.name]
 refine ⟨fun b hb b1 b2=>(World.putObj_heap_other b1),?_⟩
 unfold n56c7
 simp (disch:=try exact DI) only [↓PR,QR,Int.reduceBEq,Int.reduceBNe,Int.reduceLT,Int.reduceLE,Int.reduceGT,Int.reduceGE,Int.reduceNeg]
 rw [op_entryStore (MapB.ent hmd m.name _) (hasK_ent _ _),ent_put,putObj_putObj]
 have hw1:w.drew.putObj md (mapObj (fun s:ByteArray=>Value.string s) (putL (bld (vI deps)).1 (bld (vI deps)).2 m.name (.int .i64 (IntKind.i64.wrap (dp+1)))) (putC (bld (vI deps)).1 (bld (vI deps)).2 m.name))=putW w.drew md (vI deps) m.name (.int .i64 (IntKind.i64.wrap (dp+1))):=by
  unfold putW;rw [bld_snoc]
 rw [hw1]
 have hms:MapOf (putW w.drew md (vI deps) m.name (.int .i64 (IntKind.i64.wrap (dp+1)))) ms (vB strs):=MapB.putOther (h.mstrs.ext eD) (fun e=>hne e.symm) _
 refine ⟨fun b hb b1 b2=>(World.putObj_heap_other b1),?_⟩
 rw [op_mapEntryS Tryz.underlying63 Tryz.underlying9 ty4 hms m.name]
 refine ⟨fun b hb b1 b2=>(World.putObj_heap_other b2).trans (World.putObj_heap_other b1),?_⟩
 unfold n56c6
 simp (disch:=try exact DI) only [↓PR,QR,Int.reduceBEq,Int.reduceBNe,Int.reduceLT,Int.reduceLE,Int.reduceGT,Int.reduceGE,Int.reduceNeg]
 rw [op_entryStore (MapB.ent hms m.name _) (hasK_ent _ _),ent_put,putObj_putObj]
 have hw2:(putW w.drew md (vI deps) m.name (.int .i64 (IntKind.i64.wrap (dp+1)))).putObj ms (mapObj (fun s:ByteArray=>Value.string s) (putL (bld (vB strs)).1 (bld (vB strs)).2 m.name (.bool st)) (putC (bld (vB strs)).1 (bld (vB strs)).2 m.name))=putW (putW w.drew md (vI deps) m.name (.int .i64 (IntKind.i64.wrap (dp+1)))) ms (vB strs) m.name (.bool st):=by
  unfold putW;rw [bld_snoc,bld_snoc]
 rw [hw2]
 have hwr:IntKind.i64.wrap (dp+1)=dp+1:=wrap_ok (by omega) (by omega)
 rw [hwr]
 have hC2:CkO a0 (putW (putW w.drew md (vI deps) m.name (.int .i64 (dp+1))) ms (vB strs) m.name (.bool st)) cb md ms (deps++[(m.name,dp+1)]) (strs++[(m.name,st)]) at_ (-1) fs:=by
  refine ⟨(h.ext.drew.putObj h.lmd _).putObj h.lms _,⟨dn,mv,ds,mn,fv',((World.putObj_heap_other n2).trans (World.putObj_heap_other n1)).trans h1,h2⟩,?_,?_,h.lcb,h.lmd,h.lms,hne⟩
  · have:=MapB.putOther (hmd.put m.name (.int .i64 (dp+1))) hne (mapObjS (bld (vB strs++[(m.name,.bool st)])).1 (bld (vB strs++[(m.name,.bool st)])).2)
    unfold vI at this ⊢
    rw [List.map_append]
    exact this
  · rw [hwr] at hms
    have:=hms.put m.name (.bool st)
    unfold vB at this ⊢
    rw [List.map_append]
    exact this
 have hk2:MarkAt B (putW (putW w.drew md (vI deps) m.name (.int .i64 (dp+1))) ms (vB strs) m.name (.bool st)):=by
  have b1:B≠md:=by rintro rfl;have:=h.mdeps.obj;unfold MarkAt at hmk;rw [hmk] at this;cases this
  have b2:B≠ms:=by rintro rfl;have:=h.mstrs.obj;unfold MarkAt at hmk;rw [hmk] at this;cases this
  exact ((World.putObj_heap_other b2).trans (World.putObj_heap_other b1)).trans hmk
 have o2':(putW (putW w.drew md (vI deps) m.name (.int .i64 (dp+1))) ms (vB strs) m.name (.bool st)).heap[p2]?=some (.cells #[.pointer (some ⟨cb,0,none⟩)] 61 (0,0)):=((World.putObj_heap_other q2).trans (World.putObj_heap_other m2)).trans o2
 have o9':(putW (putW w.drew md (vI deps) m.name (.int .i64 (dp+1))) ms (vB strs) m.name (.bool st)).heap[p9]?=some (.cells #[.int .i64 dp] 3 (0,0)):=((World.putObj_heap_other q9).trans (World.putObj_heap_other m9)).trans o9
 generalize putW (putW w.drew md (vI deps) m.name (.int .i64 (dp+1))) ms (vB strs) m.name (.bool st)=W at hC2 hk2 o2' o9' ⊢
 refine turnK_intro ?_
 unfold n56c5
 simp (disch:=try exact DI) only [↓PR,QR,Int.reduceBEq,Int.reduceBNe,Int.reduceLT,Int.reduceLE,Int.reduceGT,Int.reduceGE,Int.reduceNeg,(cells_of_heap o2').1,(cells_of_heap o9').1]
 refine callK_flw (need_flw hC2.chk _ 10 (by decide)) (fun w' e h0=>?_) (fun w' e h0=>?_)
 · refine outX_mark (hk2.ext e) ?_
   rw [outX_nil]
   have hC3:=(hC2.go e).unmark (hk2.ext e) hB
   refine nxtR_ret hC3.ext ?_ (hK _ hC3)
   rw [hr]
   by_cases hdp:dp < 16
   · rw [if_pos hdp]
   · rw [decide_eq_false hdp] at h0;exact absurd h0 (by decide)
 · refine outQ_mark (hk2.ext e) ?_
   rw [outQ_nil]
   have hC3:=(hC2.go e).unmark (hk2.ext e) hB
   by_cases hdp:dp < 16
   · rw [decide_eq_true hdp] at h0;exact absurd rfl h0
   · rw [decide_eq_false hdp]
     rw [if_neg hdp] at hr
     exact nxtR_pan hC3.ext hr (by decide)
theorem maxI_le {a b c:Int} (h1:a≤c) (h2:b≤c):maxI a b≤c:=by unfold maxI;split<;>assumption
theorem le_maxI (a b:Int):a≤maxI a b:=by unfold maxI;split<;>omega
theorem foldl_maxI (g:ByteArray→Int):∀ (l:List ByteArray) (d:Int),0≤d→(∀ s∈l,0≤g s∧g s≤16)→d≤16→0≤l.foldl (fun d s=>maxI d (g s)) d∧l.foldl (fun d s=>maxI d (g s)) d≤16
 | [],d,h0,_,h1=>⟨h0,h1⟩
 | s::l,d,h0,h,h1=>foldl_maxI g l _ (Int.le_trans h0 (le_maxI _ _)) (fun u hu=>h u (List.mem_cons_of_mem _ hu)) (maxI_le h1 (h s (List.mem_cons_self ..)).2)
def Low (deps:List (ByteArray×Int)):Prop:=∀ p∈deps,0≤p.2∧p.2≤16
theorem Low.get {deps:List (ByteArray×Int)} (h:Low deps) (s:ByteArray):0≤(lastP deps s).getD 0∧(lastP deps s).getD 0≤16:=by
 cases hl:lastP deps s with
 | none=>exact ⟨by decide,by decide⟩
 | some n=>exact h _ (lastP_mem hl)
theorem nxt_range (hlow:Low deps) (h:CkO a0 w cb md ms deps strs at_ fld fs) (p2 p3 p6:Nat) (m:MsgD) (fv:Value) (st:Bool) (hst:st=m.fields.all fun f=>!f.loose) (hF:FieldsOf a0 fv m.fields) (hb:(allRefs m.fields).length≤1048576) (hp2:a0.heap.size≤p2) (hp3:a0.heap.size≤p3) (hp6:a0.heap.size≤p6) (h26:p2 < p6) (h36:p3 < p6)
 (o2:w.heap[p2]?=some (.cells #[.pointer (some ⟨cb,0,none⟩)] 61 (0,0))) (o3:w.heap[p3]?=some (.cells (msgCells m fv).toArray 45 (0,0))) (o6:w.heap[p6]?=some (.cells #[.bool st] 4 (0,0)))
 (r:Int×Int) (hr:r=if depthM deps m < 16 then (-1,0) else (-1,10)) (K:World→Prop)
 (hK:∀ w',CkO a0 w' cb md ms (deps++[(m.name,depthM deps m+1)]) (strs++[(m.name,strictM strs m)]) at_ (-1) fs→K w') :
 n56c10 (.pointer (some ⟨p2,0,none⟩)) (.pointer (some ⟨p3,0,none⟩)) (.pointer (some ⟨p6,0,none⟩)) [] (nxtR a0 at_ r K) w:=by
 obtain ⟨n1,n2,l1,l2,l3⟩:=h.nd
 obtain ⟨dn,mv,ds,mn,fv',h1,h2⟩:=h.obj
 have c2:p2≠cb:=by rintro rfl;rw [o2] at h1;cases h1
 have c3:p3≠cb:=by rintro rfl;rw [o3] at h1;cases h1
 have c6:p6≠cb:=by rintro rfl;rw [o6] at h1;cases h1
 have lp6:p6 < w.heap.size:=(Array.getElem?_eq_some_iff.1 o6).1
 have lp3:p3 < w.heap.size:=(Array.getElem?_eq_some_iff.1 o3).1
 unfold n56c10
 simp (disch:=try exact DI) only [↓PR,QR,Int.reduceBEq,Int.reduceBNe,Int.reduceLT,Int.reduceLE,Int.reduceGT,Int.reduceGE,Int.reduceNeg,(cells_of_heap h1).1,(cells_of_heap h1).2,(cells_of_heap o2).1,(cells_of_heap o3).1]
 have hC1:=h.setFld (-1)
 have o2':(w.setCell ⟨cb,6,none⟩ (.int .i64 (-1))).heap[p2]?=some (.cells #[.pointer (some ⟨cb,0,none⟩)] 61 (0,0)):=by rw [Only.setCell w cb 6 _ p2 c2];exact o2
 have o3':(w.setCell ⟨cb,6,none⟩ (.int .i64 (-1))).heap[p3]?=some (.cells (msgCells m fv).toArray 45 (0,0)):=by rw [Only.setCell w cb 6 _ p3 c3];exact o3
 have o6':(w.setCell ⟨cb,6,none⟩ (.int .i64 (-1))).heap[p6]?=some (.cells #[.bool st] 4 (0,0)):=by rw [Only.setCell w cb 6 _ p6 c6];exact o6
 simp only [World.size_setCell]
 have eW:=hC1.go ((Ext.refl (w.setCell ⟨cb,6,none⟩ (.int .i64 (-1)))).alloc (Obj.cells #[.int .i64 0] 3))
 have x2:=((Ext.refl (w.setCell ⟨cb,6,none⟩ (.int .i64 (-1)))).alloc (Obj.cells #[.int .i64 0] 3)).obj o2'
 have x3:=((Ext.refl (w.setCell ⟨cb,6,none⟩ (.int .i64 (-1)))).alloc (Obj.cells #[.int .i64 0] 3)).obj o3'
 have x6:=((Ext.refl (w.setCell ⟨cb,6,none⟩ (.int .i64 (-1)))).alloc (Obj.cells #[.int .i64 0] 3)).obj o6'
 have x9:=heap_new (w.setCell ⟨cb,6,none⟩ (.int .i64 (-1))) #[.int .i64 0] 3
 rw [World.size_setCell] at x9
 generalize hW:World.alloc (w.setCell ⟨cb,6,none⟩ (.int .i64 (-1))) _=W at eW x2 x3 x6 x9
 have hsz:W.heap.size=w.heap.size+1:=by rw [← hW];simp only [World.size_alloc,World.size_setCell]
 clear hW hC1 o2 o3 o6 o2' o3' o6' h
 have lW:a0.heap.size≤W.heap.size:=eW.ext.size
 refine callK_ret (Refers_ret W _ m ⟨fv,rfl,hF.ext eW.ext⟩ hb) ?_
 rintro _ w7 ⟨pb,sv,rfl,hS,hpb,e7⟩
 have s7:=e7.size
 unfold n56c9
 let rs:=refsM m
 let I:Nat→World→Prop:=fun k w'=>CkO a0 w' cb md ms deps strs at_ (-1) fs∧StrsAt w' pb sv (allRefs m.fields)∧w'.heap[p2]?=some (.cells #[.pointer (some ⟨cb,0,none⟩)] 61 (0,0))∧w'.heap[p3]?=some (.cells (msgCells m fv).toArray 45 (0,0)) ∧
  w'.heap[p6]?=some (.cells #[.bool (st&&(rs.take k).all fun s=>(lastP strs s).getD false)] 4 (0,0))∧w'.heap[w.heap.size]?=some (.cells #[.int .i64 ((rs.take k).foldl (fun d s=>maxI d ((lastP deps s).getD 0)) 0)] 3 (0,0))
 have hLI:∀ k,Lasts w7.heap.size (I k):=fun k=>Lasts.and (CkO.lasts (by omega)) (Lasts.and (StrsAt.lasts _ _ _ _) (Lasts.and (Lasts.has _ (by simp)) (Lasts.and (Lasts.has _ (by simp)) (Lasts.and (Lasts.has _ (by simp)) (Lasts.has _ (by simp))))))
 refine ⟨_,_,rs.length,strX rs,fun w=>StrsAt w pb sv (allRefs m.fields),I,fun _ _=>False,fun _ _=>False,rfl,c71,Refers_seq pb sv _,⟨eW.go e7,hS,e7.obj x2,e7.obj x3,?_,e7.obj x9⟩,fun k w h=>h.2.1,hLI,fun _=>Lasts.const _ _,?_,?_,?_,?_⟩
 · have:=e7.obj x6
   rw [this];simp
 · intro rec j w3 hj hI3 hrec hready
   refine ⟨hready,fun w4 hbz=>?_⟩
   have hrec4:=hrec.busied hbz
   have hI4:=(hLI j).busied hbz (Nat.le_succ _) hI3
   clear hI3 hrec hready hbz
   obtain ⟨hC4,hS4,y2,y3,y6,y9⟩:=hI4
   obtain ⟨s,hx⟩:=getElem?_lt hj
   have hrs:rs[j]?=some s:=hx
   rw [show strX rs j = .string s by unfold strX;rw [hrs]]
   obtain ⟨dn,mv,ds,mn,fv',h1,h2⟩:=hC4.obj
   have l9:w.heap.size < w4.heap.size:=(Array.getElem?_eq_some_iff.1 y9).1
   have hstep:rs.take (j+1)=rs.take j++[s]:=take_snoc hrs
   refine drawK_intro ?_
   unfold n56c4
   simp (disch:=try exact DI) only [↓PR,QR,Int.reduceBEq,Int.reduceBNe,Int.reduceLT,Int.reduceLE,Int.reduceGT,Int.reduceGE,Int.reduceNeg,(cells_of_heap y9).1,(cells_of_heap y2).1,(cells_of_heap h1).1]
   rw [qV_lookup1E Tryz.underlying62 Tryz.underlying9 ty3 (hC4.mdeps.ext ((Ext.refl w4).wdrew)) s]
   have hg:(lastOf (vI deps) s).getD (.int .i64 0) = .int .i64 ((lastP deps s).getD 0):=by rw [lastOf_vI];cases lastP deps s<;>rfl
   rw [hg]
   simp (disch:=try exact DI) only [↓PR,QR,Int.reduceBEq,Int.reduceBNe,Int.reduceLT,Int.reduceLE,Int.reduceGT,Int.reduceGE,Int.reduceNeg,(cells_of_heap y9).1,(cells_of_heap y9).2]
   refine turnK_intro ?_
   have e4:Ext w4 w4.drew:=(Ext.refl w4).wdrew
   have hC5:=(hC4.go e4).other (b:=w.heap.size) (o:=0) (by omega) (by omega) (.int .i64 (if (lastP deps s).getD 0 > (rs.take j).foldl (fun d s=>maxI d ((lastP deps s).getD 0)) 0 then (lastP deps s).getD 0 else (rs.take j).foldl (fun d s=>maxI d ((lastP deps s).getD 0)) 0))
   have hS5:StrsAt (w4.drew.setCell ⟨w.heap.size,0,none⟩ (.int .i64 (if (lastP deps s).getD 0 > (rs.take j).foldl (fun d s=>maxI d ((lastP deps s).getD 0)) 0 then (lastP deps s).getD 0 else (rs.take j).foldl (fun d s=>maxI d ((lastP deps s).getD 0)) 0))) pb sv (allRefs m.fields):=(hS4.ext e4).set (by omega) _
   have hrec5:RecAt rec w7.heap.size (w4.drew.setCell ⟨w.heap.size,0,none⟩ (.int .i64 (if (lastP deps s).getD 0 > (rs.take j).foldl (fun d s=>maxI d ((lastP deps s).getD 0)) 0 then (lastP deps s).getD 0 else (rs.take j).foldl (fun d s=>maxI d ((lastP deps s).getD 0)) 0))):=hrec4.drew.setCell _ _
   have z2:=(Only.setCell w4.drew w.heap.size 0 (.int .i64 (if (lastP deps s).getD 0 > (rs.take j).foldl (fun d s=>maxI d ((lastP deps s).getD 0)) 0 then (lastP deps s).getD 0 else (rs.take j).foldl (fun d s=>maxI d ((lastP deps s).getD 0)) 0)) p2 (by omega)).trans y2
   have z3:=(Only.setCell w4.drew w.heap.size 0 (.int .i64 (if (lastP deps s).getD 0 > (rs.take j).foldl (fun d s=>maxI d ((lastP deps s).getD 0)) 0 then (lastP deps s).getD 0 else (rs.take j).foldl (fun d s=>maxI d ((lastP deps s).getD 0)) 0)) p3 (by omega)).trans y3
   have z6:=(Only.setCell w4.drew w.heap.size 0 (.int .i64 (if (lastP deps s).getD 0 > (rs.take j).foldl (fun d s=>maxI d ((lastP deps s).getD 0)) 0 then (lastP deps s).getD 0 else (rs.take j).foldl (fun d s=>maxI d ((lastP deps s).getD 0)) 0)) p6 (by omega)).trans y6
   have z9:=heap_set (w:=w4.drew) (o:=0) y9 (.int .i64 (if (lastP deps s).getD 0 > (rs.take j).foldl (fun d s=>maxI d ((lastP deps s).getD 0)) 0 then (lastP deps s).getD 0 else (rs.take j).foldl (fun d s=>maxI d ((lastP deps s).getD 0)) 0))
   rw [show (#[Value.int .i64 ((rs.take j).foldl (fun d s=>maxI d ((lastP deps s).getD 0)) 0)]:Array Value).setIfInBounds 0 (.int .i64 (if (lastP deps s).getD 0 > (rs.take j).foldl (fun d s=>maxI d ((lastP deps s).getD 0)) 0 then (lastP deps s).getD 0 else (rs.take j).foldl (fun d s=>maxI d ((lastP deps s).getD 0)) 0)) = #[.int .i64 ((rs.take (j+1)).foldl (fun d s=>maxI d ((lastP deps s).getD 0)) 0)] from by rw [hstep,List.foldl_append];rfl] at z9
   generalize w4.drew.setCell ⟨w.heap.size,0,none⟩ _=w5 at hC5 hS5 hrec5 z2 z3 z6 z9 ⊢
   clear hC4 hS4 hrec4 y2 y3 y6 y9 h1 hg
   obtain ⟨dn,mv,ds,mn,fv',h1,h2⟩:=hC5.obj
   have hall:(st&&(rs.take (j+1)).all fun s=>(lastP strs s).getD false)=((st&&(rs.take j).all fun s=>(lastP strs s).getD false)&&(lastP strs s).getD false):=by
    rw [hstep,List.all_append,Bool.and_assoc];simp
   have fin:∀ b,b=(st&&(rs.take (j+1)).all fun s=>(lastP strs s).getD false)→RecAt rec w7.heap.size (w5.setCell ⟨p6,0,none⟩ (.bool b))∧I (j+1) (w5.setCell ⟨p6,0,none⟩ (.bool b)):=by
    rintro b rfl
    refine ⟨hrec5.setCell _ _,hC5.other hp6 c6 _,hS5.set (by omega) _,(Only.setCell w5 p6 0 _ p2 (by omega)).trans z2,(Only.setCell w5 p6 0 _ p3 (by omega)).trans z3,?_,(Only.setCell w5 p6 0 _ w.heap.size (by omega)).trans z9⟩
    have:=heap_set (o:=0) z6 (.bool (st&&(rs.take (j+1)).all fun s=>(lastP strs s).getD false))
    simpa using this
   rw [hall] at fin
   generalize (st&&(rs.take j).all fun s=>(lastP strs s).getD false)=sj at z6 fin
   unfold n56c3
   have hg:(lastOf (vB strs) s).getD (.bool false) = .bool ((lastP strs s).getD false):=by rw [lastOf_vB];cases lastP strs s<;>rfl
   cases sj with
   | false =>
    simp (disch:=try exact DI) only [↓PR,QR,Int.reduceBEq,Int.reduceBNe,Int.reduceLT,Int.reduceLE,Int.reduceGT,Int.reduceGE,Int.reduceNeg,(cells_of_heap z6).1,(cells_of_heap z6).2,↓n56c1,↓n56c2,↓n56c3,↓n56c4,↓n56c5,↓n56c6,↓n56c7,↓n56c8,↓n56c9,↓n56c10,↓n56c11,↓n56c12,↓n56c13,↓n56c14,↓n56c15,↓n56c16,↓n56c17,↓n56c18]
    exact fin false rfl
   | true =>
    simp (disch:=try exact DI) only [↓PR,QR,Int.reduceBEq,Int.reduceBNe,Int.reduceLT,Int.reduceLE,Int.reduceGT,Int.reduceGE,Int.reduceNeg,(cells_of_heap z6).1,(cells_of_heap z6).2,(cells_of_heap z2).1,(cells_of_heap h1).1]
    rw [op_lookup1O Tryz.underlying63 Tryz.underlying9 ty4 hC5.mstrs s,hg]
    generalize (lastP strs s).getD false=b at fin
    simp (disch:=try exact DI) only [↓PR,QR,Int.reduceBEq,Int.reduceBNe,Int.reduceLT,Int.reduceLE,Int.reduceGT,Int.reduceGE,Int.reduceNeg,(cells_of_heap z6).1,(cells_of_heap z6).2,n56c1]
    exact fin b (by cases b<;>rfl)
 · rintro w3 hI3 hmk
   obtain ⟨hC3,hS3,y2,y3,y6,y9⟩:=hI3
   rw [List.take_length] at y6 y9
   have hfold:=foldl_maxI (fun s=>(lastP deps s).getD 0) rs 0 (by decide) (fun s _=>hlow.get s) (by decide)
   refine nxt_end hC3 p2 p3 p6 w.heap.size w7.heap.size m fv _ _ hfold.1 (by have:=hfold.2;omega) y2 y3 y6 y9 hmk (by omega) r hr K ?_
   rw [hst]
   exact hK
 · rintro c w3 h
   exact h.elim
 · rintro ch w3 h
   exact h.elim
end
section
variable {a0 w:World} {cb md ms:Nat} {deps:List (ByteArray×Int)} {strs:List (ByteArray×Bool)} {at_ fld:Int} {m:MsgD}
theorem nxt_loop (hlow:Low deps) (h:CkO a0 w cb md ms deps strs at_ fld m.fields) (p2 p3:Nat) (fv:Value) (hF:FieldsOf a0 fv m.fields) (hb:(allRefs m.fields).length≤1048576) (ht:∀ f∈m.fields,f.terms.length≤1048576) (hp2:a0.heap.size≤p2) (hp3:a0.heap.size≤p3)
 (o2:w.heap[p2]?=some (.cells #[.pointer (some ⟨cb,0,none⟩)] 61 (0,0))) (o3:w.heap[p3]?=some (.cells (msgCells m fv).toArray 45 (0,0)))
 (r:Int×Int) (hr:r=tailP deps m (fieldsP deps strs [] m.fields)) (K:World→Prop)
 (hK:∀ w',CkO a0 w' cb md ms (deps++[(m.name,depthM deps m+1)]) (strs++[(m.name,strictM strs m)]) at_ (-1) m.fields→K w') :
 n56c13 (.pointer (some ⟨p2,0,none⟩)) (.pointer (some ⟨p3,0,none⟩)) [] (nxtR a0 at_ r K) w:=by
 obtain ⟨n1,n2,l1,l2,l3⟩:=h.nd
 have lp2:p2 < w.heap.size:=(Array.getElem?_eq_some_iff.1 o2).1
 have lp3:p3 < w.heap.size:=(Array.getElem?_eq_some_iff.1 o3).1
 have lw:=h.ext.size
 obtain ⟨A,c,rfl,hlc,hcm,hlm,hel⟩:=SliceOf.open hF
 unfold n56c13
 simp (disch:=try exact DI) only [↓PR,QR,Int.reduceBEq,Int.reduceBNe,Int.reduceLT,Int.reduceLE,Int.reduceGT,Int.reduceGE,Int.reduceNeg,(cells_of_heap o3).1]
 refine loop1_intro (fun i w'=>∃ (k:Nat) (fld':Int),i = .int .i64 k∧k≤m.fields.length∧CkO a0 w' cb md ms deps strs at_ fld' m.fields∧w'.heap[p2]?=some (.cells #[.pointer (some ⟨cb,0,none⟩)] 61 (0,0))∧w'.heap[p3]?=some (.cells (msgCells m (.slice A m.fields.length c)).toArray 45 (0,0)) ∧
  w'.heap[w.heap.size]?=some (.cells #[.bool ((m.fields.take k).all fun f=>!f.loose)] 4 (0,0))∧r=tailP deps m (fieldsP deps strs (m.fields.take k) (m.fields.drop k))) (fun i _=>m.fields.length - (intOf i).toNat) ⟨0,fld,rfl,by omega,h.go ((Ext.refl _).alloc _),((Ext.refl _).alloc _).obj o2,((Ext.refl _).alloc _).obj o3,heap_new w #[.bool true] 4,hr⟩ ?_
 rintro i w' ⟨k,fld',rfl,hk,hC,y2,y3,y6,hrk⟩
 have l6:w.heap.size < w'.heap.size:=(Array.getElem?_eq_some_iff.1 y6).1
 have lw':=hC.ext.size
 obtain ⟨dn,mv,ds,mn,fv',h1,h2⟩:=hC.obj
 have c2:p2≠cb:=by rintro rfl;rw [y2] at h1;cases h1
 have c3:p3≠cb:=by rintro rfl;rw [y3] at h1;cases h1
 rcases drop_cases hk with ⟨x,hx,hd,hlt,hdec⟩ | ⟨hk,hd,hdec⟩
 · obtain ⟨b,o,cs,rfl,hl,hA,hE⟩:=hel k x hx
   obtain ⟨tv,cv,rfl,hT,hCa,ht1,hc1⟩:=hE.op
   have hA':=hA.ext hC.ext
   rw [hd] at hrk
   simp only [fieldsP] at hrk
   unfold n56c12
   simp (disch:=try exact DI) only [↓PR,QR,Int.reduceBEq,Int.reduceBNe,Int.reduceLT,Int.reduceLE,Int.reduceGT,Int.reduceGE,Int.reduceNeg,hdec]
   unfold n56c11
   rw [op_indexN Tryz.underlying43 ty52 _ _ _ _ _ k hlt,op_load (hA'.loads ty52 rfl)]
   simp (disch:=try exact DI) only [↓PR,QR,Int.reduceBEq,Int.reduceBNe,Int.reduceLT,Int.reduceLE,Int.reduceGT,Int.reduceGE,Int.reduceNeg,(cells_of_heap y2).1,(cells_of_heap h1).1,(cells_of_heap h1).2]
   have hCw:=(hC.setFld (k:Int)).go ((Ext.refl _).alloc (Obj.cells (fieldCells x tv cv).toArray 52))
   have z2:=((Ext.refl _).alloc (Obj.cells (fieldCells x tv cv).toArray 52)).obj ((Only.setCell w' cb 6 (.int .i64 (k:Int)) p2 c2).trans y2)
   have z3:=((Ext.refl _).alloc (Obj.cells (fieldCells x tv cv).toArray 52)).obj ((Only.setCell w' cb 6 (.int .i64 (k:Int)) p3 c3).trans y3)
   have z6:=((Ext.refl _).alloc (Obj.cells (fieldCells x tv cv).toArray 52)).obj ((Only.setCell w' cb 6 (.int .i64 (k:Int)) w.heap.size (by omega)).trans y6)
   have z8:=heap_new (w'.setCell ⟨cb,6,none⟩ (.int .i64 (k:Int))) (fieldCells x tv cv).toArray 52
   rw [World.size_setCell] at z8
   generalize (World.alloc (w'.setCell ⟨cb,6,none⟩ (.int .i64 (k:Int))) (Obj.cells (fieldCells x tv cv).toArray 52))=W at hCw z2 z3 z6 z8 ⊢
   have hkt:(m.fields.take k).length=k:=by rw [List.length_take];omega
   refine callK_flw (examine_flw hCw.chk k rfl hlt _ x ⟨tv,cv,rfl,TermsOf.ext hT hCw.ext,CasesOf.ext hCa hCw.ext⟩ (ht x (List.mem_of_getElem? hx))) (fun w5 e5 h0=>?_) (fun w5 e5 h0=>?_)
   · rw [if_pos h0] at hrk
     have q6:=e5.obj z6
     have q8:=e5.obj z8
     have hC5:=hCw.go e5
     have l5:w'.heap.size < w5.heap.size:=(Array.getElem?_eq_some_iff.1 q8).1
     have htk:=take_snoc hx
     rw [← htk] at hrk
     have hall:((m.fields.take (k+1)).all fun f=>!f.loose)=(((m.fields.take k).all fun f=>!f.loose)&&!x.loose):=by rw [htk,List.all_append];simp
     have fin:∀ b' w6,Ext w5 w6→b'=((m.fields.take (k+1)).all fun f=>!f.loose)→(∃ (k':Nat) (fld':Int),Value.int .i64 ((k+1:Nat):Int) = .int .i64 k'∧k'≤m.fields.length∧CkO a0 (w6.setCell ⟨w.heap.size,0,none⟩ (.bool b')) cb md ms deps strs at_ fld' m.fields∧w6.heap[p2]?=some (.cells #[.pointer (some ⟨cb,0,none⟩)] 61 (0,0))∧w6.heap[p3]?=some (.cells (msgCells m (.slice (some ⟨b,o,none⟩) m.fields.length c)).toArray 45 (0,0)) ∧
      (w6.setCell ⟨w.heap.size,0,none⟩ (.bool b')).heap[w.heap.size]?=some (.cells #[.bool ((m.fields.take k').all fun f=>!f.loose)] 4 (0,0))∧r=tailP deps m (fieldsP deps strs (m.fields.take k') (m.fields.drop k')))∧m.fields.length - (intOf (Value.int .i64 ((k+1:Nat):Int))).toNat < m.fields.length - (intOf (Value.int IntKind.i64 k)).toNat:=by
      rintro b' w6 e6 rfl
      refine ⟨⟨k+1,k,rfl,by omega,(hC5.go e6).other (by omega) (by omega) _,e6.obj (e5.obj z2),e6.obj (e5.obj z3),?_,hrk⟩,meas_lt hlt⟩
      have:=heap_set (o:=0) (e6.obj q6) (.bool ((m.fields.take (k+1)).all fun f=>!f.loose))
      simpa using this
     unfold n56c2
     rw [hall] at fin
     generalize ((m.fields.take k).all fun f=>!f.loose)=sj at q6 fin
     cases sj with
     | true =>
      generalize hxl:x.loose=xl at fin
      simp (disch:=try exact DI) only [↓PR,QR,Int.reduceBEq,Int.reduceBNe,Int.reduceLT,Int.reduceLE,Int.reduceGT,Int.reduceGE,Int.reduceNeg,(cells_of_heap q6).1,(cells_of_heap q6).2,(cells_of_heap q8).1,n56c1,hxl]
      simp only [Bool.true_and] at fin
      exact fin _ w5 (Ext.refl _) rfl
     | false =>
      simp (disch:=try exact DI) only [↓PR,QR,Int.reduceBEq,Int.reduceBNe,Int.reduceLT,Int.reduceLE,Int.reduceGT,Int.reduceGE,Int.reduceNeg,(cells_of_heap q6).1,(cells_of_heap q6).2,(cells_of_heap q8).1,n56c1]
      simp only [Bool.false_and] at fin
      exact fin _ w5 (Ext.refl _) rfl
   · rw [if_neg h0] at hrk
     have hr2:r=((k:Int),examineC (m.fields.take k) (vI deps) (vB strs) x):=by
      rw [hrk,hkt];unfold tailP;rw [if_neg h0]
     show outQ _ _ _ _ _ _
     rw [outQ_nil]
     exact nxtR_pan (hCw.ext.trans e5) hr2 h0
 · subst hk
   rw [hd] at hrk
   rw [List.take_length] at y6
   unfold n56c12
   simp (disch:=try exact DI) only [↓PR,QR,Int.reduceBEq,Int.reduceBNe,Int.reduceLT,Int.reduceLE,Int.reduceGT,Int.reduceGE,Int.reduceNeg,hdec]
   refine nxt_range hlow hC p2 p3 w.heap.size m _ _ rfl hF hb hp2 hp3 lw lp2 lp3 y2 y3 y6 r ?_ K hK
   rw [hrk]
   rfl
theorem next_flw {w0:World} {fs0:List FieldD} (hlow:Low deps) (h:CkO a0 w0 cb md ms deps strs at_ fld fs0) (v:Value) (hm:MsgVal a0 v m) (hb:(allRefs m.fields).length≤1048576) (ht:∀ f∈m.fields,f.terms.length≤1048576) (K:World→Prop)
 (hK:∀ w',CkO a0 w' cb md ms (deps++[(m.name,depthM deps m+1)]) (strs++[(m.name,strictM strs m)]) at_ (-1) m.fields→K w') :
 Calls Pg 39 #[.pointer (some ⟨cb,0,none⟩),v] w0 (nxtR a0 at_ (nextP deps strs m) K):=by
 obtain ⟨fv,rfl,hF⟩:=hm
 obtain ⟨n1,n2,l1,l2,l3⟩:=h.nd
 have lw:=h.ext.size
 have hf1:=SliceOf.oneCell hF
 refine n56s ?_;unfold n56
 simp (disch:=try exact DI) only [↓PR,QR,Int.reduceBEq,Int.reduceBNe,Int.reduceLT,Int.reduceLE,Int.reduceGT,Int.reduceGE,Int.reduceNeg]
 have hC:=h.go (((Ext.refl w0).alloc (Obj.cells #[.pointer (some ⟨cb,0,none⟩)] 61)).alloc (Obj.cells (msgCells m fv).toArray 45))
 have z3:=heap_new (w0.alloc (Obj.cells #[.pointer (some ⟨cb,0,none⟩)] 61)) (msgCells m fv).toArray 45
 have z2:=((Ext.refl (w0.alloc (Obj.cells #[.pointer (some ⟨cb,0,none⟩)] 61))).alloc (Obj.cells (msgCells m fv).toArray 45)).obj (heap_new w0 _ _)
 simp only [World.size_alloc] at z3 ⊢
 generalize (World.alloc (World.alloc w0 _) _)=W at hC z2 z3 ⊢
 clear h
 obtain ⟨dn,mv,ds,mn,fv',h1,h2⟩:=hC.obj
 refine drawK_introB (w1:=W) cb cb (fun _ _ _ _=>rfl) ?_
 unfold n56c18
 simp (disch:=try exact DI) only [↓PR,QR,Int.reduceBEq,Int.reduceBNe,Int.reduceLT,Int.reduceLE,Int.reduceGT,Int.reduceGE,Int.reduceNeg,(cells_of_heap z2).1]
 have L3:∀ w',KB W cb cb w'→Loads Pg w' 45 ⟨w0.heap.size+1,0,none⟩ (.agg (msgCells m fv).toArray):=fun w' hw'=>Loads.many ty45 rfl (fun j u hu=>by
  rw [Addr.add_lit]
  exact KB.cell (b:=w0.heap.size+1) hw' (by omega) (by omega) (by rw [(cells_of_heap z3).1];simpa using hu))
 rw [qV_loadG L3]
 simp (disch:=try exact DI) only [↓PR,QR,Int.reduceBEq,Int.reduceBNe,Int.reduceLT,Int.reduceLE,Int.reduceGT,Int.reduceGE,Int.reduceNeg,(cells_of_heap h1).1,(cells_of_heap h1).2]
 have eD:Ext W W.drew:=(Ext.refl W).wdrew
 have hC1:=(hC.go eD).setMsg m.name fv m.fields hF
 have y2:=(Only.setCell (W.drew.setCell ⟨cb,7,none⟩ (.string m.name)) cb 8 fv w0.heap.size (by omega)).trans ((Only.setCell W.drew cb 7 (.string m.name) w0.heap.size (by omega)).trans (eD.obj z2))
 have y3:=(Only.setCell (W.drew.setCell ⟨cb,7,none⟩ (.string m.name)) cb 8 fv (w0.heap.size+1) (by omega)).trans ((Only.setCell W.drew cb 7 (.string m.name) (w0.heap.size+1) (by omega)).trans (eD.obj z3))
 refine ⟨fun b hb b1 _=>(Only.setCell _ cb 8 fv b b1).trans (Only.setCell W.drew cb 7 (.string m.name) b b1),?_⟩
 show n56c17 _ _ _ _ _ _ ((W.drew.setCell ⟨cb,7,none⟩ (.string m.name)).setCell ⟨cb,8,none⟩ fv)
 generalize ((W.drew.setCell ⟨cb,7,none⟩ (.string m.name)).setCell ⟨cb,8,none⟩ fv)=W1 at hC1 y2 y3 ⊢
 clear hC z2 z3 h1
 obtain ⟨dn,mv,ds,mn,fv',h1,h2'⟩:=hC1.obj
 unfold n56c17
 simp (disch:=try exact DI) only [↓PR,QR,Int.reduceBEq,Int.reduceBNe,Int.reduceLT,Int.reduceLE,Int.reduceGT,Int.reduceGE,Int.reduceNeg,(cells_of_heap h1).1,(cells_of_heap h1).2]
 have hC2:=hC1.setFld (-1)
 have x2:=(Only.setCell W1 cb 6 (.int .i64 (-1)) w0.heap.size (by omega)).trans y2
 have x3:=(Only.setCell W1 cb 6 (.int .i64 (-1)) (w0.heap.size+1) (by omega)).trans y3
 generalize (W1.setCell ⟨cb,6,none⟩ (.int .i64 (-1)))=W2 at hC2 x2 x3 ⊢
 clear hC1 y2 y3 h1
 refine turnK_intro ?_
 refine drawK_intro ?_
 unfold n56c16
 simp (disch:=try exact DI) only [↓PR,QR,Int.reduceBEq,Int.reduceBNe,Int.reduceLT,Int.reduceLE,Int.reduceGT,Int.reduceGE,Int.reduceNeg,(cells_of_heap x2).1,(cells_of_heap x3).1]
 refine zcr (Name_ret _ m.name) fun w3 e3=>?_
 have e3':Ext W2 w3:=(Ext.refl W2).wdrew.trans e3
 refine ⟨e3,?_⟩
 generalize hr:nextP deps strs m=r
 unfold nextP at hr
 refine callK_flw (need_flw (hC2.go e3').chk _ 1 (by decide)) (fun w4 e4 h0=>?_) (fun w4 e4 h0=>?_)
 · have e4':=e3'.trans e4
   have hn:nameB m.name=true:=needC_zero (by decide) h0
   rw [if_pos hn] at hr
   refine ⟨e3.trans e4,?_⟩
   have hC4:=hC2.go e4'
   have x2':=e4'.obj x2
   have x3':=e4'.obj x3
   obtain ⟨dn,mv,ds,mn,fv',h1,h2'⟩:=hC4.obj
   refine drawK_intro ?_
   unfold n56c15
   simp (disch:=try exact DI) only [↓PR,QR,Int.reduceBEq,Int.reduceBNe,Int.reduceLT,Int.reduceLE,Int.reduceGT,Int.reduceGE,Int.reduceNeg,(cells_of_heap x2').1,(cells_of_heap x3').1,(cells_of_heap h1).1]
   have eD4:Ext w4 w4.drew:=(Ext.refl w4).wdrew
   rw [qV_lookupE Tryz.underlying62 Tryz.underlying9 ty3 (hC4.mdeps.ext eD4) m.name]
   have hsome:(lastOf (vI deps) m.name).isSome=(lastP deps m.name).isSome:=by rw [lastOf_vI,Option.isSome_map]
   rw [hsome]
   simp (disch:=try exact DI) only [↓PR,QR,Int.reduceBEq,Int.reduceBNe,Int.reduceLT,Int.reduceLE,Int.reduceGT,Int.reduceGE,Int.reduceNeg,(cells_of_heap x2').1]
   refine callK_flw (need_flw (hC4.go eD4).chk _ 2 (by decide)) (fun w5 e5 h0=>?_) (fun w5 e5 h0=>?_)
   · have hs:(lastP deps m.name).isSome=false:=by have:=needC_zero (by decide) h0;simpa using this
     rw [hs,if_neg (by simp)] at hr
     have hC5:=hC4.go (eD4.trans e5)
     have x2'':=(eD4.trans e5).obj x2'
     have x3'':=(eD4.trans e5).obj x3'
     have fin:∀ b,b=decide (1≤m.fields.length∧m.fields.length≤40)→callK Pg 37 #[.pointer (some ⟨cb,0,none⟩),.bool b,.int .i64 3] (outQ Pg [] [] (nxtR a0 at_ r K)) w5 (fun _ w=>n56c13 (.pointer (some ⟨w0.heap.size,0,none⟩)) (.pointer (some ⟨w0.heap.size+1,0,none⟩)) [] (nxtR a0 at_ r K) w):=by
      rintro b rfl
      refine callK_flw (need_flw hC5.chk _ 3 (by decide)) (fun w6 e6 h0=>?_) (fun w6 e6 h0=>?_)
      · have hl:=needC_zero (by decide) h0
        simp only [decide_eq_true_eq] at hl
        rw [if_pos hl] at hr
        exact nxt_loop hlow (hC5.go e6) w0.heap.size (w0.heap.size+1) fv hF hb ht (by omega) (by omega) (e6.obj x2'') (e6.obj x3'') r hr.symm K hK
      · by_cases hl:1≤m.fields.length∧m.fields.length≤40
        · rw [decide_eq_true hl] at h0;exact absurd rfl h0
        · rw [if_neg hl] at hr
          rw [decide_eq_false hl]
          show outQ _ _ _ _ _ _
          rw [outQ_nil]
          exact nxtR_pan (hC5.ext.trans e6) hr.symm (by decide)
     obtain ⟨A,c,rfl,hlc,hcm,hlm,hel⟩:=SliceOf.open hF
     unfold n56c14
     by_cases h1l:1≤m.fields.length
     · have d1:decide ((m.fields.length:Int)≥1)=true:=by simp;omega
       by_cases h2l:m.fields.length≤40
       · have d2:decide ((m.fields.length:Int)≤40)=true:=by simp;omega
         simp (disch:=try exact DI) only [↓PR,QR,Int.reduceBEq,Int.reduceBNe,Int.reduceLT,Int.reduceLE,Int.reduceGT,Int.reduceGE,Int.reduceNeg,(cells_of_heap x2'').1,(cells_of_heap x3'').1,d1,d2]
         exact fin _ (by simp [h1l,h2l])
       · have d2:decide ((m.fields.length:Int)≤40)=false:=by simp;omega
         simp (disch:=try exact DI) only [↓PR,QR,Int.reduceBEq,Int.reduceBNe,Int.reduceLT,Int.reduceLE,Int.reduceGT,Int.reduceGE,Int.reduceNeg,(cells_of_heap x2'').1,(cells_of_heap x3'').1,d1,d2]
         exact fin _ (by simp [h2l])
     · have d1:decide ((m.fields.length:Int)≥1)=false:=by simp;omega
       simp (disch:=try exact DI) only [↓PR,QR,Int.reduceBEq,Int.reduceBNe,Int.reduceLT,Int.reduceLE,Int.reduceGT,Int.reduceGE,Int.reduceNeg,(cells_of_heap x2'').1,(cells_of_heap x3'').1,d1]
       exact fin _ (by simp [h1l])
   · have hs:(lastP deps m.name).isSome=true:=by
      cases hq:(lastP deps m.name).isSome with
      | true=>rfl
      | false=>rw [hq] at h0;exact absurd rfl h0
     rw [hs,if_pos rfl] at hr
     rw [hs]
     show outQ _ _ _ _ _ _
     rw [outQ_nil]
     exact nxtR_pan (hC4.ext.trans (eD4.trans e5)) hr.symm (by decide)
 · have hn:nameB m.name=false:=by
    cases hq:nameB m.name with
    | false=>rfl
    | true=>rw [hq] at h0;exact absurd rfl h0
   rw [hn,if_neg (by simp)] at hr
   rw [hn]
   show outQ _ _ _ _ _ _
   rw [outQ_nil]
   exact nxtR_pan (hC2.ext.trans (e3'.trans e4)) hr.symm (by decide)
end
end Go.Proofs.YtiajhbbmgglmlaaGreat
namespace Go.Proofs.YtiajhbbmgglmlaaGreat
open Sw
open Go.RowKit (intOf Below)
def stepD (deps:List (ByteArray×Int)) (m:MsgD):List (ByteArray×Int):=deps++[(m.name,depthM deps m+1)]
def stepS (strs:List (ByteArray×Bool)) (m:MsgD):List (ByteArray×Bool):=strs++[(m.name,strictM strs m)]
def depsOf (l:List MsgD):List (ByteArray×Int):=l.foldl stepD []
def strsOf (l:List MsgD):List (ByteArray×Bool):=l.foldl stepS []
def msgsP (deps:List (ByteArray×Int)) (strs:List (ByteArray×Bool)) (at_:Nat):List MsgD→Int×Int×Int
 | []=>(0,0,0)
 | m::l=>if (nextP deps strs m).2=0 then msgsP (stepD deps m) (stepS strs m) (at_+1) l else (at_,nextP deps strs m)
def endP (d:DefD) (r:Int×Int×Int):Int×Int×Int:=if r.2.2=0 then (if (lastP (depsOf d.msgs) d.start).isSome then (0,0,0) else (-1,-1,11)) else r
def checkP (d:DefD):Int×Int×Int :=
 if nameB d.name then (if 1≤d.msgs.length∧d.msgs.length≤60 then endP d (msgsP [] [] 0 d.msgs) else (-1,-1,3)) else (-1,-1,1)
theorem tailP_low {deps:List (ByteArray×Int)} {m:MsgD} {r:Int×Int} (h:(tailP deps m r).2=0):depthM deps m < 16:=by
 unfold tailP at h
 split at h
 · split at h
   · assumption
   · exact absurd h (by decide)
 · contradiction
theorem nextP_low {deps:List (ByteArray×Int)} {strs:List (ByteArray×Bool)} {m:MsgD} (h:(nextP deps strs m).2=0):depthM deps m < 16:=by
 unfold nextP at h
 split at h
 · split at h
   · exact absurd h (by decide)
   · split at h
     · exact tailP_low h
     · exact absurd h (by decide)
 · exact absurd h (by decide)
theorem Low.step {deps:List (ByteArray×Int)} {strs:List (ByteArray×Bool)} {m:MsgD} (hl:Low deps) (h:(nextP deps strs m).2=0):Low (stepD deps m):=by
 intro p hp
 rcases List.mem_append.1 hp with hp | hp
 · exact hl p hp
 · simp only [List.mem_singleton] at hp
   subst hp
   have h1:=nextP_low h
   have h2:=(foldl_maxI (fun s=>(lastP deps s).getD 0) (refsM m) 0 (by decide) (fun s _=>hl.get s) (by decide)).1
   exact ⟨by show 0≤depthM deps m+1;unfold depthM;omega,by show depthM deps m+1≤16;omega⟩
def calm (d:DefD):Prop:=∀ m∈d.msgs,(allRefs m.fields).length≤1048576∧∀ f∈m.fields,f.terms.length≤1048576
abbrev catchD (p3 p4:Nat):Deferred:={ target := .fn (.func 36) #[.pointer (some ⟨p3,0,none⟩),.pointer (some ⟨p4,0,none⟩)],args := #[] }
theorem catch_ret {p3 p4:Nat} {w:World} {k:FrameMode→World→Prop} (h:k .returning w):outM Pg [catchD p3 p4] .returning w k:=by
 refine ⟨by simp,.inr ⟨.func 36,_,36,#[.pointer (some ⟨p3,0,none⟩),.pointer (some ⟨p4,0,none⟩)],rfl,?_,?_⟩⟩
 · exact callFunc_run c36 _ w
 · refine n61s ?_
   unfold n61
   show opV _ (binS .neq _ true .nilIface .nilIface) _ _ _
   rw [op_neqNil_none Tryz.underlying20]
   simp (disch:=try exact DI) only [↓PR,QR,Int.reduceBEq,Int.reduceBNe,Int.reduceLT,Int.reduceLE,Int.reduceGT,Int.reduceGE,Int.reduceNeg]
   exact h
theorem catch_pan {p3 p4:Nat} {w:World} {k:FrameMode→World→Prop} {a f c:Int} {x0 x1 x2 y:Value} (o3:w.heap[p3]?=some (.cells #[x0,x1,x2] 39 (0,0))) (o4:w.heap[p4]?=some (.cells #[y] 4 (0,0)))
 (h:k .returning ((((w.setCell ⟨p3,0,none⟩ (.int .i64 a)).setCell ⟨p3,1,none⟩ (.int .i64 f)).setCell ⟨p3,2,none⟩ (.int .i64 c)).setCell ⟨p4,0,none⟩ (.bool true))):outM Pg [catchD p3 p4] (.panicking [flawEntry a f c]) w k:=by
 have hne:p3≠p4:=by rintro rfl;rw [o3] at o4;cases o4
 refine ⟨by simp,.inr ⟨.func 36,_,36,#[.pointer (some ⟨p3,0,none⟩),.pointer (some ⟨p4,0,none⟩)],rfl,?_,?_⟩⟩
 · exact callFunc_run c36 _ w
 · refine n61s ?_
   rw [show recM (.panicking [flawEntry a f c])=(.iface 39 (flawVal a f c),.panicking [{ v := .iface 39 (flawVal a f c),recovered:=true }]) from rfl]
   unfold n61
   rw [op_neqNil_some Tryz.underlying20]
   simp (disch:=try exact DI) only [↓PR,QR,Int.reduceBEq,Int.reduceBNe,Int.reduceLT,Int.reduceLE,Int.reduceGT,Int.reduceGE,Int.reduceNeg]
   unfold n61c1
   rw [op_assert_ok Tryz.underlying39 rfl]
   simp (disch:=try exact DI) only [↓PR,QR,Int.reduceBEq,Int.reduceBNe,Int.reduceLT,Int.reduceLE,Int.reduceGT,Int.reduceGE,Int.reduceNeg,(cells_of_heap o3).1,(cells_of_heap o3).2,(cells_of_heap o4).1,(cells_of_heap o4).2]
   exact h
section
variable {w0:World}
def CkE (w:World) (cb:Nat) (deps:List (ByteArray×Int)) (strs:List (ByteArray×Bool)):Prop:=∃ md ms dn mv ds at_ fld mn fv,w.heap[cb]?=some (.cells #[.string dn,mv,.string ds,.map (some md),.map (some ms),.int .i64 at_,.int .i64 fld,.string mn,fv] 65 (0,0))∧MapOf w md (vI deps)∧MapOf w ms (vB strs)
theorem CkE.other {w:World} {cb b o:Nat} {deps:List (ByteArray×Int)} {strs:List (ByteArray×Bool)} (h:CkE w cb deps strs) (hn:b≠cb) (v:Value):CkE (w.setCell ⟨b,o,none⟩ v) cb deps strs:=by
 obtain ⟨md,ms,dn,mv,ds,at_,fld,mn,fv,h1,h2,h3⟩:=h
 exact ⟨md,ms,dn,mv,ds,at_,fld,mn,fv,(Only.setCell w b o v cb (fun e=>hn e.symm)).trans h1,h2.setCell _ _,h3.setCell _ _⟩
theorem CkE.go {w w':World} {cb:Nat} {deps:List (ByteArray×Int)} {strs:List (ByteArray×Bool)} (h:CkE w cb deps strs) (e:Ext w w'):CkE w' cb deps strs:=by
 obtain ⟨md,ms,dn,mv,ds,at_,fld,mn,fv,h1,h2,h3⟩:=h
 exact ⟨md,ms,dn,mv,ds,at_,fld,mn,fv,e.obj h1,h2.ext e,h3.ext e⟩
theorem CkO.left {a0 w:World} {cb md ms:Nat} {deps:List (ByteArray×Int)} {strs:List (ByteArray×Bool)} {at_ fld:Int} {fs:List FieldD} (h:CkO a0 w cb md ms deps strs at_ fld fs):CkE w cb deps strs:=by
 obtain ⟨dn,mv,ds,mn,fv,h1,_⟩:=h.obj
 exact ⟨md,ms,dn,mv,ds,at_,fld,mn,fv,h1,h.mdeps,h.mstrs⟩
def examK (w0:World) (d:DefD) (r:Value) (w':World):Prop:=Ext w0 w'∧∃ cb,r = .tuple #[.pointer (some ⟨cb,0,none⟩),flawVal (checkP d).1 (checkP d).2.1 (checkP d).2.2,.bool (decide ((checkP d).2.2≠0))] ∧
 ((checkP d).2.2=0→CkE w' cb (depsOf d.msgs) (strsOf d.msgs))
abbrev resL (cb p3 p4:Nat):List (Option TypeId×Value):=[(none,.pointer (some ⟨cb,0,none⟩)),(some 39,.pointer (some ⟨p3,0,none⟩)),(some 4,.pointer (some ⟨p4,0,none⟩))]
theorem exm_pan {w:World} {d:DefD} {cb p3 p4:Nat} {a f c:Int} {x0 x1 x2 y:Value} (e:Ext w0 w) (h3:w0.heap.size≤p3) (h4:w0.heap.size≤p4) (o3:w.heap[p3]?=some (.cells #[x0,x1,x2] 39 (0,0))) (o4:w.heap[p4]?=some (.cells #[y] 4 (0,0)))
 (h:checkP d=(a,f,c)) (hc:c≠0):outQ Pg [catchD p3 p4] (resL cb p3 p4) (retR (examK w0 d)) [flawEntry a f c] w:=by
 have hne:p3≠p4:=by rintro rfl;rw [o3] at o4;cases o4
 unfold outQ
 refine catch_pan o3 o4 ?_
 have q3:=heap_set (o:=2) (heap_set (o:=1) (heap_set (o:=0) o3 (.int .i64 a)) (.int .i64 f)) (.int .i64 c)
 have e1:Ext w0 ((((w.setCell ⟨p3,0,none⟩ (.int .i64 a)).setCell ⟨p3,1,none⟩ (.int .i64 f)).setCell ⟨p3,2,none⟩ (.int .i64 c)).setCell ⟨p4,0,none⟩ (.bool true)):=(((e.setCell h3 _).setCell h3 _).setCell h3 _).setCell h4 _
 have q4:=heap_set (o:=0) ((Only.setCell ((w.setCell ⟨p3,0,none⟩ (.int .i64 a)).setCell ⟨p3,1,none⟩ (.int .i64 f)) p3 2 (.int .i64 c) p4 (by omega)).trans ((Only.setCell (w.setCell ⟨p3,0,none⟩ (.int .i64 a)) p3 1 (.int .i64 f) p4 (by omega)).trans ((Only.setCell w p3 0 (.int .i64 a) p4 (by omega)).trans o4))) (.bool true)
 have q3':=(Only.setCell _ p4 0 (.bool true) p3 hne).trans q3
 simp only [List.setIfInBounds_toArray,List.set_cons_zero,List.set_cons_succ] at q3' q4
 generalize ((((w.setCell ⟨p3,0,none⟩ (.int .i64 a)).setCell ⟨p3,1,none⟩ (.int .i64 f)).setCell ⟨p3,2,none⟩ (.int .i64 c)).setCell ⟨p4,0,none⟩ (.bool true))=W at e1 q3' q4 ⊢
 unfold endM retV resOne resL
 simp only
 simp (disch:=try exact DI) only [↓PR,QR,Int.reduceBEq,Int.reduceBNe,Int.reduceLT,Int.reduceLE,Int.reduceGT,Int.reduceGE,Int.reduceNeg,(cells_of_heap q3').1,(cells_of_heap q4).1]
 refine ⟨e1,cb,?_,fun h0=>?_⟩
 · rw [h];simp [hc]
 · rw [h] at h0;exact absurd h0 hc
theorem exm_fine {w:World} {d:DefD} {cb p3 p4:Nat} (e:Ext w0 w) (hC:CkE w cb (depsOf d.msgs) (strsOf d.msgs)) (o3:w.heap[p3]?=some (.cells #[.int .i64 0,.int .i64 0,.int .i64 0] 39 (0,0))) (o4:w.heap[p4]?=some (.cells #[.bool false] 4 (0,0)))
 (h:checkP d=(0,0,0)):outX Pg [catchD p3 p4] (resL cb p3 p4) (retR (examK w0 d)) w:=by
 unfold outX
 refine catch_ret ?_
 unfold endM retV resOne resL
 simp only
 simp (disch:=try exact DI) only [↓PR,QR,Int.reduceBEq,Int.reduceBNe,Int.reduceLT,Int.reduceLE,Int.reduceGT,Int.reduceGE,Int.reduceNeg,(cells_of_heap o3).1,(cells_of_heap o4).1]
 refine ⟨e,cb,?_,fun h0=>hC⟩
 rw [h];simp
theorem callK_nxt {f:FuncId} {args:Array Value} {QP:List PanicEntry→World→Prop} {a0 w:World} {k:Value→World→Prop} {at_:Int} {r:Int×Int} {K:World→Prop} (h:Calls Pg f args w (nxtR a0 at_ r K)) (hk:∀ w',r.2=0→K w'→k (.tuple #[]) w') (hp:∀ w',Ext a0 w'→r.2≠0→QP [flawEntry at_ r.1 r.2] w'):callK Pg f args QP w k :=
 callK_calls h (fun v w' h=>by rcases h with ⟨e,⟨h1,h2,h3⟩ | ⟨_,h2⟩⟩<;>cases h2;exact hk w' h1 h3) (fun ch w' h=>by rcases h with ⟨e,⟨_,h2,_⟩ | ⟨h1,h2⟩⟩<;>cases h2;exact hp w' e h1) (fun w' h=>by rcases h with ⟨_,⟨_,h2,_⟩ | ⟨_,h2⟩⟩<;>cases h2)
theorem foldl_take {α β:Type} (g:β→α→β) {l:List α} {k:Nat} {x:α} (b:β) (hx:l[k]?=some x):(l.take (k+1)).foldl g b=g ((l.take k).foldl g b) x:=by rw [take_snoc hx,List.foldl_append];rfl
theorem exm_loop {A0 w:World} {d:DefD} {cb p1 p3 p4 md ms:Nat} {fs:List FieldD} {mv:Value} (ea:Ext w0 A0) (hM:MsgsOf A0 mv d.msgs) (ht:calm d) (hC:CkO A0 w cb md ms [] [] (-1) (-1) fs) (o1:A0.heap[p1]?=some (.cells (defCells d mv).toArray 24 (0,0)))
 (o3:A0.heap[p3]?=some (.cells #[.int .i64 0,.int .i64 0,.int .i64 0] 39 (0,0))) (o4:A0.heap[p4]?=some (.cells #[.bool false] 4 (0,0))) (h3:w0.heap.size≤p3) (h4:w0.heap.size≤p4) (hr:checkP d=endP d (msgsP [] [] 0 d.msgs)) :
 n60c6 (.pointer (some ⟨p1,0,none⟩)) (.pointer (some ⟨p3,0,none⟩)) (.pointer (some ⟨p4,0,none⟩)) (.pointer (some ⟨cb,0,none⟩)) [catchD p3 p4] (retR (examK w0 d)) w:=by
 have pan:∀ w' a f c,Ext A0 w'→checkP d=(a,f,c)→c≠0→outQ Pg [catchD p3 p4] (resL cb p3 p4) (retR (examK w0 d)) [flawEntry a f c] w':=fun w' a f c e h h0=>exm_pan (ea.trans e) h3 h4 (e.obj o3) (e.obj o4) h h0
 obtain ⟨A,c,rfl,hlc,hcm,hlm,hel⟩:=SliceOf.open hM
 unfold n60c6
 simp (disch:=try exact DI) only [↓PR,QR,Int.reduceBEq,Int.reduceBNe,Int.reduceLT,Int.reduceLE,Int.reduceGT,Int.reduceGE,Int.reduceNeg,(cells_of_heap (hC.ext.obj o1)).1]
 refine loop1_intro (fun i w'=>∃ (k:Nat) (at':Int) (fs':List FieldD),i = .int .i64 k∧k≤d.msgs.length∧CkO A0 w' cb md ms (depsOf (d.msgs.take k)) (strsOf (d.msgs.take k)) at' (-1) fs'∧Low (depsOf (d.msgs.take k))∧checkP d=endP d (msgsP (depsOf (d.msgs.take k)) (strsOf (d.msgs.take k)) k (d.msgs.drop k))) (fun i _=>d.msgs.length - (intOf i).toNat) ⟨0,-1,fs,rfl,by omega,hC,(fun _ h=>by cases h),hr⟩ ?_
 rintro i w' ⟨k,at',fs',rfl,hk,hC',hlow,hrk⟩
 have lw':=hC'.ext.size
 obtain ⟨dn,mv,ds,mn,fv',x1,x2⟩:=hC'.obj
 obtain ⟨n1,n2,l1,l2,l3⟩:=hC'.nd
 rcases drop_cases hk with ⟨x,hx,hd,hlt,hdec⟩ | ⟨hk,hd,hdec⟩
 · obtain ⟨b,o,cs,rfl,hl,hA,fv,rfl,hF⟩:=hel k x hx
   have hf1:=SliceOf.oneCell hF
   rw [hd] at hrk
   simp only [msgsP] at hrk
   unfold n60c5
   simp (disch:=try exact DI) only [↓PR,QR,Int.reduceBEq,Int.reduceBNe,Int.reduceLT,Int.reduceLE,Int.reduceGT,Int.reduceGE,Int.reduceNeg,hdec]
   unfold n60c4
   simp (disch:=try exact DI) only [↓PR,QR,Int.reduceBEq,Int.reduceBNe,Int.reduceLT,Int.reduceLE,Int.reduceGT,Int.reduceGE,Int.reduceNeg,(hA.c2 hC'.ext).1,(hA.c2 hC'.ext).2,(cells_of_heap x1).1,(cells_of_heap x1).2]
   have hCw:=(hC'.setAt (k:Int)).go ((Ext.refl _).alloc (Obj.cells (msgCells x fv).toArray 45))
   refine callK_nxt (next_flw (m:=x) hlow hCw _ ⟨fv,rfl,hF⟩ (ht x (List.mem_of_getElem? hx)).1 (ht x (List.mem_of_getElem? hx)).2 (fun w'=>CkO A0 w' cb md ms (stepD (depsOf (d.msgs.take k)) x) (stepS (strsOf (d.msgs.take k)) x) k (-1) x.fields) (fun w' h=>h)) (fun w5 h0 hC5=>?_) (fun w5 e5 h0=>?_)
   · rw [if_pos h0] at hrk
     have hd1:depsOf (d.msgs.take (k+1))=stepD (depsOf (d.msgs.take k)) x:=foldl_take stepD [] hx
     have hs1:strsOf (d.msgs.take (k+1))=stepS (strsOf (d.msgs.take k)) x:=foldl_take stepS [] hx
     rw [← hd1,← hs1] at hrk hC5
     have hlow':Low (depsOf (d.msgs.take (k+1))):=by rw [hd1];exact hlow.step h0
     simp (disch:=try exact DI) only [↓PR,QR,Int.reduceBEq,Int.reduceBNe,Int.reduceLT,Int.reduceLE,Int.reduceGT,Int.reduceGE,Int.reduceNeg]
     exact ⟨⟨k+1,k,x.fields,rfl,by omega,hC5,hlow',hrk⟩,meas_lt hlt⟩
   · rw [if_neg h0] at hrk
     refine pan _ _ _ _ e5 ?_ h0
     rw [hrk]
     unfold endP
     rw [if_neg h0]
 · subst hk
   rw [hd] at hrk
   rw [List.take_length] at hC' hrk
   unfold n60c5
   simp (disch:=try exact DI) only [↓PR,QR,Int.reduceBEq,Int.reduceBNe,Int.reduceLT,Int.reduceLE,Int.reduceGT,Int.reduceGE,Int.reduceNeg,hdec]
   unfold n60c3
   simp (disch:=try exact DI) only [↓PR,QR,Int.reduceBEq,Int.reduceBNe,Int.reduceLT,Int.reduceLE,Int.reduceGT,Int.reduceGE,Int.reduceNeg,(cells_of_heap x1).1,(cells_of_heap x1).2]
   have hC2:=hC'.setAt (-1)
   generalize (w'.setCell ⟨cb,5,none⟩ (.int .i64 (-1)))=W at hC2 ⊢
   clear x1 x2 hC'
   obtain ⟨dn,mv,ds,mn,fv',x1,x2⟩:=hC2.obj
   refine drawK_intro ?_
   have eD:Ext W W.drew:=(Ext.refl W).wdrew
   unfold n60c2
   simp (disch:=try exact DI) only [↓PR,QR,Int.reduceBEq,Int.reduceBNe,Int.reduceLT,Int.reduceLE,Int.reduceGT,Int.reduceGE,Int.reduceNeg,(cells_of_heap x1).1,(cells_of_heap (hC2.ext.obj o1)).1]
   rw [qV_lookupE Tryz.underlying62 Tryz.underlying9 ty3 (hC2.mdeps.ext eD) d.start]
   have hsome:(lastOf (vI (depsOf d.msgs)) d.start).isSome=(lastP (depsOf d.msgs) d.start).isSome:=by rw [lastOf_vI,Option.isSome_map]
   rw [hsome]
   simp only [msgsP,endP,if_true] at hrk
   simp (disch:=try exact DI) only [↓PR,QR,Int.reduceBEq,Int.reduceBNe,Int.reduceLT,Int.reduceLE,Int.reduceGT,Int.reduceGE,Int.reduceNeg]
   refine callK_flw (need_flw (hC2.go eD).chk _ 11 (by decide)) (fun w5 e5 h0=>?_) (fun w5 e5 h0=>?_)
   · have hs:=needC_zero (by decide) h0
     rw [hs,if_pos rfl] at hrk
     have hC5:=hC2.go (eD.trans e5)
     have y3:=hC5.ext.obj o3
     have y4:=hC5.ext.obj o4
     have ne34:p3≠p4:=by rintro rfl;rw [o3] at o4;cases o4
     unfold n60c1
     simp (disch:=try exact DI) only [↓PR,QR,Int.reduceBEq,Int.reduceBNe,Int.reduceLT,Int.reduceLE,Int.reduceGT,Int.reduceGE,Int.reduceNeg,(cells_of_heap y3).1,(cells_of_heap y3).2,(cells_of_heap y4).1,(cells_of_heap y4).2]
     have c3:p3≠cb:=by have:=hC5.lcb;have:=(Array.getElem?_eq_some_iff.1 o3).1;omega
     have c4:p4≠cb:=by have:=hC5.lcb;have:=(Array.getElem?_eq_some_iff.1 o4).1;omega
     have q3:=heap_set (o:=2) (heap_set (o:=1) (heap_set (o:=0) y3 (.int .i64 0)) (.int .i64 0)) (.int .i64 0)
     have q4:=heap_set (o:=0) ((Only.setCell ((w5.setCell ⟨p3,0,none⟩ (.int .i64 0)).setCell ⟨p3,1,none⟩ (.int .i64 0)) p3 2 (.int .i64 0) p4 (by omega)).trans ((Only.setCell (w5.setCell ⟨p3,0,none⟩ (.int .i64 0)) p3 1 (.int .i64 0) p4 (by omega)).trans ((Only.setCell w5 p3 0 (.int .i64 0) p4 (by omega)).trans y4))) (.bool false)
     have q3':=(Only.setCell _ p4 0 (.bool false) p3 ne34).trans q3
     exact exm_fine (((((ea.trans hC5.ext).setCell h3 _).setCell h3 _).setCell h3 _).setCell h4 _) ((((hC5.left.other c3 _).other c3 _).other c3 _).other c4 _) (by simpa using q3') (by simpa using q4) hrk
   · have hs:(lastP (depsOf d.msgs) d.start).isSome=false:=by
      cases hq:(lastP (depsOf d.msgs) d.start).isSome with
      | false=>rfl
      | true=>rw [hq] at h0;exact absurd rfl h0
     rw [hs,if_neg (by simp)] at hrk
     rw [hs]
     exact pan _ _ _ _ (hC2.ext.trans (eD.trans e5)) hrk (by decide)
theorem examined_ret (v:Value) (d:DefD) (hd:DefVal w0 v d) (ht:calm d):Ret Pg 31 #[v] w0 (examK w0 d):=by
 obtain ⟨mv,rfl,hM⟩:=hd
 have hm1:=SliceOf.oneCell hM
 refine n60s (R:=retR _) ?_;unfold n60
 simp (disch:=try exact DI) only [↓PR,QR,Int.reduceBEq,Int.reduceBNe,Int.reduceLT,Int.reduceLE,Int.reduceGT,Int.reduceGE,Int.reduceNeg]
 refine ⟨catchD (w0.heap.size+1) (w0.heap.size+1+1),_,rfl,?_⟩
 simp only [World.size_alloc]
 generalize hA0:((w0.alloc (Obj.cells (defCells d mv).toArray 24)).alloc (Obj.cells #[.int .i64 0,.int .i64 0,.int .i64 0] 39)).alloc (Obj.cells #[.bool false] 4)=A0
 have ea:Ext w0 A0:=by rw [← hA0];exact ee
 have o1:A0.heap[w0.heap.size]?=some (.cells (defCells d mv).toArray 24 (0,0)):=by rw [← hA0];simp (disch:=try exact DI) only [↓PR,QR,Int.reduceBEq,Int.reduceBNe,Int.reduceLT,Int.reduceLE,Int.reduceGT,Int.reduceGE,Int.reduceNeg]
 have o3:A0.heap[w0.heap.size+1]?=some (.cells #[.int .i64 0,.int .i64 0,.int .i64 0] 39 (0,0)):=by rw [← hA0];simp (disch:=try exact DI) only [↓PR,QR,Int.reduceBEq,Int.reduceBNe,Int.reduceLT,Int.reduceLE,Int.reduceGT,Int.reduceGE,Int.reduceNeg]
 have o4:A0.heap[w0.heap.size+1+1]?=some (.cells #[.bool false] 4 (0,0)):=by rw [← hA0];simp (disch:=try exact DI) only [↓PR,QR,Int.reduceBEq,Int.reduceBNe,Int.reduceLT,Int.reduceLE,Int.reduceGT,Int.reduceGE,Int.reduceNeg]
 have hsz:A0.heap.size=w0.heap.size+1+1+1:=by rw [← hA0];simp only [World.size_alloc]
 clear hA0
 have hC:CkO A0 (((A0.alloc (Obj.map #[] 0)).alloc (Obj.map #[] 0)).alloc (Obj.cells #[.string d.name,mv,.string d.start,.map (some (w0.heap.size+1+1+1)),.map (some (w0.heap.size+1+1+1+1)),.int .i64 (-1),.int .i64 (-1),.string ByteArray.empty,.slice none 0 0] 65)) (w0.heap.size+1+1+1+1+1) (w0.heap.size+1+1+1) (w0.heap.size+1+1+1+1) [] [] (-1) (-1) []:=by
  refine ⟨ee,⟨d.name,mv,d.start,ByteArray.empty,.slice none 0 0,?_,SliceOf.nil _ _ _⟩,?_,?_,by omega,by omega,by omega,by omega⟩
  · have:=heap_new ((A0.alloc (Obj.map #[] 0)).alloc (Obj.map #[] 0)) #[.string d.name,mv,.string d.start,.map (some (w0.heap.size+1+1+1)),.map (some (w0.heap.size+1+1+1+1)),.int .i64 (-1),.int .i64 (-1),.string ByteArray.empty,.slice none 0 0] 65
    simp only [World.size_alloc,hsz] at this
    exact this
  · have:=(MapOf.new A0).ext (((Ext.refl _).alloc (Obj.map #[] 0)).alloc (Obj.cells #[.string d.name,mv,.string d.start,.map (some (w0.heap.size+1+1+1)),.map (some (w0.heap.size+1+1+1+1)),.int .i64 (-1),.int .i64 (-1),.string ByteArray.empty,.slice none 0 0] 65))
    simp only [World.size_alloc,hsz] at this
    exact this
  · have:=(MapOf.new (A0.alloc (Obj.map #[] 0))).ext ((Ext.refl _).alloc (Obj.cells #[.string d.name,mv,.string d.start,.map (some (w0.heap.size+1+1+1)),.map (some (w0.heap.size+1+1+1+1)),.int .i64 (-1),.int .i64 (-1),.string ByteArray.empty,.slice none 0 0] 65))
    simp only [World.size_alloc,hsz] at this
    exact this
 generalize (((A0.alloc (Obj.map #[] 0)).alloc (Obj.map #[] 0)).alloc (Obj.cells #[.string d.name,mv,.string d.start,.map (some (w0.heap.size+1+1+1)),.map (some (w0.heap.size+1+1+1+1)),.int .i64 (-1),.int .i64 (-1),.string ByteArray.empty,.slice none 0 0] 65))=W at hC ⊢
 generalize hcb:w0.heap.size+1+1+1+1+1=cb at hC ⊢
 generalize hmd:w0.heap.size+1+1+1=md at hC hsz
 generalize hms:w0.heap.size+1+1+1+1=ms at hC
 generalize hp3:w0.heap.size+1+1=p4 at o4 ⊢
 generalize hp4:w0.heap.size+1=p3 at o3 ⊢
 have l3:w0.heap.size≤p3:=by omega
 have l4:w0.heap.size≤p4:=by omega
 simp (disch:=try exact DI) only [↓PR,QR,Int.reduceBEq,Int.reduceBNe,Int.reduceLT,Int.reduceLE,Int.reduceGT,Int.reduceGE,Int.reduceNeg,(cells_of_heap (hC.ext.obj o1)).1]
 refine zcr (Name_ret _ d.name) fun w1 e1=>?_
 have hC1:=hC.go e1
 have pan:∀ w' a f c,Ext A0 w'→checkP d=(a,f,c)→c≠0→outQ Pg [catchD p3 p4] (resL cb p3 p4) (retR (examK w0 d)) [flawEntry a f c] w':=fun w' a f c e h h0=>exm_pan (ea.trans e) l3 l4 (e.obj o3) (e.obj o4) h h0
 generalize hr:checkP d=r
 have hr':=hr
 unfold checkP at hr
 refine callK_flw (need_flw hC1.chk _ 1 (by decide)) (fun w2 e2 h0=>?_) (fun w2 e2 h0=>?_)
 · have hn:nameB d.name=true:=needC_zero (by decide) h0
   rw [if_pos hn] at hr
   have hC2:=hC1.go e2
   have fin:∀ b,b=decide (1≤d.msgs.length∧d.msgs.length≤60)→callK Pg 37 #[.pointer (some ⟨cb,0,none⟩),.bool b,.int .i64 3] (outQ Pg [catchD p3 p4] (resL cb p3 p4) (retR (examK w0 d))) w2 (fun _ w=>n60c6 (.pointer (some ⟨w0.heap.size,0,none⟩)) (.pointer (some ⟨p3,0,none⟩)) (.pointer (some ⟨p4,0,none⟩)) (.pointer (some ⟨cb,0,none⟩)) [catchD p3 p4] (retR (examK w0 d)) w):=by
    rintro b rfl
    refine callK_flw (need_flw hC2.chk _ 3 (by decide)) (fun w3 e3 h0=>?_) (fun w3 e3 h0=>?_)
    · have hl:=needC_zero (by decide) h0
      simp only [decide_eq_true_eq] at hl
      rw [if_pos hl] at hr
      exact exm_loop ea (hM.ext ea) ht (hC2.go e3) o1 o3 o4 l3 l4 (hr'.trans hr.symm)
    · by_cases hl:1≤d.msgs.length∧d.msgs.length≤60
      · rw [decide_eq_true hl] at h0;exact absurd rfl h0
      · rw [if_neg hl] at hr
        rw [decide_eq_false hl]
        exact pan _ _ _ _ (hC2.ext.trans e3) (hr'.trans hr.symm) (by decide)
   obtain ⟨A,c,rfl,hlc,hcm,hlm,hel⟩:=SliceOf.open hM
   have x1:=hC2.ext.obj o1
   unfold n60c9
   by_cases h1l:1≤d.msgs.length
   · have d1:decide ((d.msgs.length:Int)≥1)=true:=by simp;omega
     by_cases h2l:d.msgs.length≤60
     · have d2:decide ((d.msgs.length:Int)≤60)=true:=by simp;omega
       simp (disch:=try exact DI) only [↓PR,QR,Int.reduceBEq,Int.reduceBNe,Int.reduceLT,Int.reduceLE,Int.reduceGT,Int.reduceGE,Int.reduceNeg,(cells_of_heap x1).1,d1,d2,↓n60c1,↓n60c2,↓n60c3,↓n60c4,↓n60c5,↓n60c6,↓n60c7,↓n60c8,↓n60c9]
       exact fin _ (by simp [h1l,h2l])
     · have d2:decide ((d.msgs.length:Int)≤60)=false:=by simp;omega
       simp (disch:=try exact DI) only [↓PR,QR,Int.reduceBEq,Int.reduceBNe,Int.reduceLT,Int.reduceLE,Int.reduceGT,Int.reduceGE,Int.reduceNeg,(cells_of_heap x1).1,d1,d2,↓n60c1,↓n60c2,↓n60c3,↓n60c4,↓n60c5,↓n60c6,↓n60c7,↓n60c8,↓n60c9]
       exact fin _ (by simp [h2l])
   · have d1:decide ((d.msgs.length:Int)≥1)=false:=by simp;omega
     simp (disch:=try exact DI) only [↓PR,QR,Int.reduceBEq,Int.reduceBNe,Int.reduceLT,Int.reduceLE,Int.reduceGT,Int.reduceGE,Int.reduceNeg,(cells_of_heap x1).1,d1,↓n60c1,↓n60c2,↓n60c3,↓n60c4,↓n60c5,↓n60c6,↓n60c7,↓n60c8,↓n60c9]
     exact fin _ (by simp [h1l])
 · have hn:nameB d.name=false:=by
    cases hq:nameB d.name with
    | false=>rfl
    | true=>rw [hq] at h0;exact absurd rfl h0
   rw [hn,if_neg (by simp)] at hr
   rw [hn]
   exact pan _ _ _ _ (hC1.ext.trans e2) (hr'.trans hr.symm) (by decide)
end
end Go.Proofs.YtiajhbbmgglmlaaGreat
namespace Go.Proofs.YtiajhbbmgglmlaaGreat
open Sw
def n7c1 (t122 t127:Value) (R:RT) (w:World):Prop :=
 pickK t122 t127 (.bool false) fun t128 =>
 joinK (fun (t132:Value) (w:World) =>
 pickK t128 t132 (.bool false) fun t133 =>
 R (.returned t133) w) fun K13 =>
 guardP t128 true (
 opV Pg (Instr.build 52 #[(1,(.int .i64 10))]) (panK R) w fun t130 w =>
 C0 20 #[t130] R w fun t131 w =>
 opV Pg (Op.unary .not t131) (panK R) w fun t132 w =>
 K13 t132 w) (
 K13 undef w)
def n7c2 (t107 t117 t121:Value) (R:RT) (w:World):Prop :=
 pickK t117 t121 (.bool false) fun t122 =>
 joinK (fun (t127:Value) (w:World) =>
 n7c1 t122 t127 R w) fun K12 =>
 guardP t122 true (
 opV Pg (Instr.lookup 55 t107 (.string { data := #[110] }) false) (panK R) w fun t125 w =>
 opV Pg (Instr.build 58 #[(1,(.int .i64 255))]) (panK R) w fun t126 w =>
 B0 .eql 58 false t125 t126 R w fun t127 w =>
 K12 t127 w) (
 K12 undef w)
def n7c3 (t107 t113 t116:Value) (R:RT) (w:World):Prop :=
 pickK t113 t116 (.bool false) fun t117 =>
 joinK (fun (t121:Value) (w:World) =>
 n7c2 t107 t117 t121 R w) fun K11 =>
 guardP t117 true (
 opV Pg (Builtin.len_ #[55] 3 #[t107]) (panK R) w fun t120 w =>
 B0 .eql 3 true t120 (.int .i64 1) R w fun t121 w =>
 K11 t121 w) (
 K11 undef w)
def n7c4 (t102 t107 t109 t112:Value) (R:RT) (w:World):Prop :=
 pickK t109 t112 (.bool false) fun t113 =>
 joinK (fun (t116:Value) (w:World) =>
 n7c3 t107 t113 t116 R w) fun K10 =>
 guardP t113 true (
 B0 .eql 27 true t102 (.int .i64 3) R w fun t116 w =>
 K10 t116 w) (
 K10 undef w)
def n7c5 (t96 t97 t102 t107:Value) (R:RT) (w:World):Prop :=
 B0 .eql 3 true t96 (.int .i64 1) R w fun t109 w =>
 joinK (fun (t112:Value) (w:World) =>
 n7c4 t102 t107 t109 t112 R w) fun K9 =>
 guardP t109 true (
 B0 .eql 27 true t97 (.int .i64 0) R w fun t112 w =>
 K9 t112 w) (
 K9 undef w)
def n7c6 (t96 t97 t102 t103:Value) (R:RT) (w:World):Prop :=
 opV Pg (Instr.field 24 t103 1) (panK R) w fun t104 w =>
 opV Pg (Instr.indexAt 22 t104 (.int .i64 0)) (panK R) w fun t105 w =>
 L0 45 t105 R w fun t106 w =>
 C0 19 #[t106] R w fun t107 w =>
 n7c5 t96 t97 t102 t107 R w
def n7c7 (t96 t97 t100:Value) (R:RT) (w:World):Prop :=
 opV Pg (Instr.extract t100 0) (panK R) w fun t101 w =>
 opV Pg (Instr.extract t100 1) (panK R) w fun t102 w =>
 C0 17 #[] R w fun t103 w =>
 n7c6 t96 t97 t102 t103 R w
def n7c8 (t95:Value) (R:RT) (w:World):Prop :=
 opV Pg (Instr.extract t95 0) (panK R) w fun t96 w =>
 opV Pg (Instr.extract t95 1) (panK R) w fun t97 w =>
 C0 17 #[] R w fun t99 w =>
 C0 7 #[t99,(.int .i64 1)] R w fun t100 w =>
 n7c7 t96 t97 t100 R w
def n7c9 (t87 t91:Value) (R:RT) (w:World):Prop :=
 pickK t87 (.bool true) t91 fun t92 =>
 condP t92 (
 R (.returned (.bool false)) w) (
 C0 17 #[] R w fun t94 w =>
 C0 7 #[t94,(.int .i64 0)] R w fun t95 w =>
 n7c8 t95 R w)
def n7c10 (t6 t82 t86:Value) (R:RT) (w:World):Prop :=
 pickK t82 (.bool true) t86 fun t87 =>
 joinK (fun (t91:Value) (w:World) =>
 n7c9 t87 t91 R w) fun K8 =>
 guardP t87 false (
 L0 24 t6 R w fun t89 w =>
 C0 18 #[t89,(.int .i64 0),(.int .i64 2),(.int .i64 8)] R w fun t90 w =>
 opV Pg (Op.unary .not t90) (panK R) w fun t91 w =>
 K8 t91 w) (
 K8 undef w)
def n7c11 (t5 t6 t77 t81:Value) (R:RT) (w:World):Prop :=
 pickK t77 (.bool true) t81 fun t82 =>
 joinK (fun (t86:Value) (w:World) =>
 n7c10 t6 t82 t86 R w) fun K7 =>
 guardP t82 false (
 L0 24 t5 R w fun t84 w =>
 C0 18 #[t84,(.int .i64 0),(.int .i64 1),(.int .i64 5)] R w fun t85 w =>
 opV Pg (Op.unary .not t85) (panK R) w fun t86 w =>
 K7 t86 w) (
 K7 undef w)
def n7c12 (t4 t5 t6 t72 t76:Value) (R:RT) (w:World):Prop :=
 pickK t72 (.bool true) t76 fun t77 =>
 joinK (fun (t81:Value) (w:World) =>
 n7c11 t5 t6 t77 t81 R w) fun K6 =>
 guardP t77 false (
 L0 24 t4 R w fun t79 w =>
 C0 18 #[t79,(.int .i64 0),(.int .i64 1),(.int .i64 2)] R w fun t80 w =>
 opV Pg (Op.unary .not t80) (panK R) w fun t81 w =>
 K6 t81 w) (
 K6 undef w)
def n7c13 (t3 t4 t5 t6 t67 t71:Value) (R:RT) (w:World):Prop :=
 pickK t67 (.bool true) t71 fun t72 =>
 joinK (fun (t76:Value) (w:World) =>
 n7c12 t4 t5 t6 t72 t76 R w) fun K5 =>
 guardP t72 false (
 L0 24 t3 R w fun t74 w =>
 C0 18 #[t74,(.int .i64 0),(.int .i64 1),(.int .i64 9)] R w fun t75 w =>
 opV Pg (Op.unary .not t75) (panK R) w fun t76 w =>
 K5 t76 w) (
 K5 undef w)
def n7c14 (t2 t3 t4 t5 t6 t62 t66:Value) (R:RT) (w:World):Prop :=
 pickK t62 (.bool true) t66 fun t67 =>
 joinK (fun (t71:Value) (w:World) =>
 n7c13 t3 t4 t5 t6 t67 t71 R w) fun K4 =>
 guardP t67 false (
 L0 24 t2 R w fun t69 w =>
 C0 18 #[t69,(.int .i64 0),(.int .i64 0),(.int .i64 7)] R w fun t70 w =>
 opV Pg (Op.unary .not t70) (panK R) w fun t71 w =>
 K4 t71 w) (
 K4 undef w)
def n7c15 (t1 t2 t3 t4 t5 t6 t61:Value) (R:RT) (w:World):Prop :=
 opV Pg (Op.unary .not t61) (panK R) w fun t62 w =>
 joinK (fun (t66:Value) (w:World) =>
 n7c14 t2 t3 t4 t5 t6 t62 t66 R w) fun K3 =>
 guardP t62 false (
 L0 24 t1 R w fun t64 w =>
 C0 18 #[t64,(.int .i64 (-1)),(.int .i64 (-1)),(.int .i64 11)] R w fun t65 w =>
 opV Pg (Op.unary .not t65) (panK R) w fun t66 w =>
 K3 t66 w) (
 K3 undef w)
def n7c16 (t1 t2 t3 t4 t5 t6 t49 t57:Value) (C1:World→Prop) (R:RT) (w:World):Prop :=
 qV Pg C1 (Instr.indexAt 22 t49 (.int .i64 0)) fun t58 =>
 qV Pg C1 (Instr.fieldAt 45 t58 1) fun t59 =>
 opU Pg (Instr.storeAt 43 t59 t57) (panK R) w fun w =>
 turnK w fun C2 w =>
 C0 17 #[] R w fun t60 w =>
 C0 15 #[t60] R w fun t61 w =>
 n7c15 t1 t2 t3 t4 t5 t6 t61 R w
def n7c17 (t1 t2 t3 t4 t5 t6:Value) (C1:World→Prop) (R:RT) (w:World):Prop :=
 qV Pg C1 (Instr.fieldAt 24 t6 1) fun t48 =>
 qV Pg C1 (Instr.loadAt 22 t48) fun t49 =>
 qV Pg C1 (Instr.fieldAt 24 t6 1) fun t50 =>
 qV Pg C1 (Instr.loadAt 22 t50) fun t51 =>
 qV Pg C1 (Instr.indexAt 22 t51 (.int .i64 0)) fun t52 =>
 qV Pg C1 (Instr.fieldAt 45 t52 1) fun t53 =>
 qV Pg C1 (Instr.loadAt 43 t53) fun t54 =>
 qV Pg C1 (Instr.build 52 #[(0,(.string { data := #[108] })),(1,(.int .i64 7)),(8,(.string { data := #[109] }))]) fun t55 =>
 opV Pg (Instr.buildSlice 43 1 #[(0,t55)]) (panK R) w fun t56 w =>
 C1 w∧(
 opV Pg (Builtin.append_ #[43,43] 43 #[t54,t56]) (panK R) w fun t57 w =>
 C1 w∧(
 n7c16 t1 t2 t3 t4 t5 t6 t49 t57 C1 R w))
def n7c18 (t12 t13 t14 t15 t16 t17:Value) (R:RT) (w:World):Prop :=
 opV Pg (Instr.alloc 24 true (.tuple #[])) (panK R) w fun t1 w =>
 opV Pg (Instr.alloc 24 true (.tuple #[])) (panK R) w fun t2 w =>
 opV Pg (Instr.alloc 24 true (.tuple #[])) (panK R) w fun t3 w =>
 opV Pg (Instr.alloc 24 true (.tuple #[])) (panK R) w fun t4 w =>
 opV Pg (Instr.alloc 24 true (.tuple #[])) (panK R) w fun t5 w =>
 opV Pg (Instr.alloc 24 true (.tuple #[])) (panK R) w fun t6 w =>
 opU Pg (Instr.storeAt 24 t1 t12) (panK R) w fun w =>
 opU Pg (Instr.storeAt 24 t2 t13) (panK R) w fun w =>
 opU Pg (Instr.storeAt 24 t3 t14) (panK R) w fun w =>
 opU Pg (Instr.storeAt 24 t4 t15) (panK R) w fun w =>
 opU Pg (Instr.storeAt 24 t5 t16) (panK R) w fun w =>
 opU Pg (Instr.storeAt 24 t6 t17) (panK R) w fun w =>
 F0 24 t1 2 R w fun t18 w =>
 opU Pg (Instr.storeAt 9 t18 (.string { data := #[120] })) (panK R) w fun w =>
 F0 24 t2 1 R w fun t19 w =>
 L0 22 t19 R w fun t20 w =>
 opV Pg (Instr.indexAt 22 t20 (.int .i64 0)) (panK R) w fun t21 w =>
 F0 45 t21 1 R w fun t22 w =>
 L0 43 t22 R w fun t23 w =>
 opV Pg (Instr.indexAt 43 t23 (.int .i64 0)) (panK R) w fun t24 w =>
 F0 52 t24 6 R w fun t25 w =>
 opU Pg (Instr.storeAt 3 t25 (.int .i64 256)) (panK R) w fun w =>
 F0 24 t3 1 R w fun t26 w =>
 L0 22 t26 R w fun t27 w =>
 opV Pg (Instr.indexAt 22 t27 (.int .i64 0)) (panK R) w fun t28 w =>
 F0 45 t28 1 R w fun t29 w =>
 L0 43 t29 R w fun t30 w =>
 opV Pg (Instr.indexAt 43 t30 (.int .i64 1)) (panK R) w fun t31 w =>
 F0 52 t31 7 R w fun t32 w =>
 F0 49 t32 0 R w fun t33 w =>
 opU Pg (Instr.storeAt 3 t33 (.int .i64 (-1))) (panK R) w fun w =>
 F0 24 t4 1 R w fun t34 w =>
 L0 22 t34 R w fun t35 w =>
 opV Pg (Instr.indexAt 22 t35 (.int .i64 0)) (panK R) w fun t36 w =>
 F0 45 t36 1 R w fun t37 w =>
 L0 43 t37 R w fun t38 w =>
 opV Pg (Instr.indexAt 43 t38 (.int .i64 1)) (panK R) w fun t39 w =>
 F0 52 t39 0 R w fun t40 w =>
 opU Pg (Instr.storeAt 9 t40 (.string { data := #[110] })) (panK R) w fun w =>
 F0 24 t5 1 R w fun t41 w =>
 L0 22 t41 R w fun t42 w =>
 opV Pg (Instr.indexAt 22 t42 (.int .i64 0)) (panK R) w fun t43 w =>
 F0 45 t43 1 R w fun t44 w =>
 L0 43 t44 R w fun t45 w =>
 opV Pg (Instr.indexAt 43 t45 (.int .i64 1)) (panK R) w fun t46 w =>
 F0 52 t46 2 R w fun t47 w =>
 opU Pg (Instr.storeAt 3 t47 (.int .i64 8)) (panK R) w fun w =>
 drawK w fun C1 w =>
 n7c17 t1 t2 t3 t4 t5 t6 C1 R w
def n7c19 (t12 t13 t14:Value) (R:RT) (w:World):Prop :=
 C0 17 #[] R w fun t15 w =>
 C0 17 #[] R w fun t16 w =>
 C0 17 #[] R w fun t17 w =>
 n7c18 t12 t13 t14 t15 t16 t17 R w
def n7 (R:RT) (w:World):Prop :=
 C0 17 #[] R w fun t12 w =>
 C0 17 #[] R w fun t13 w =>
 C0 17 #[] R w fun t14 w =>
 n7c19 t12 t13 t14 R w
theorem n7s {R:RT} {w:World} (h:n7 R w):Calls Pg 6 #[] w R:=by
 refine calls_of_den (args:=[]) Tryz.func6 rfl (Nat.le_of_ble_eq_true rfl) ?_
 unfold n7 at h
 refine zs<|zr<|zm<|zn<|zk<|zs<|zr ?_
 refine zc h c17 fun t12 w h=>?_
 refine zc h c17 fun t13 w h=>?_
 refine zc h c17 fun t14 w h=>?_
 refine zc h c17 fun t15 w h=>?_
 refine zc h c17 fun t16 w h=>?_
 refine zc h c17 fun t17 w h=>?_
 refine zv h fun t1 w h=>?_
 refine zv h fun t2 w h=>?_
 refine zv h fun t3 w h=>?_
 refine zv h fun t4 w h=>?_
 refine zv h fun t5 w h=>?_
 refine zv h fun t6 w h=>?_
 refine zu h fun w h=>?_
 refine zu h fun w h=>?_
 refine zu h fun w h=>?_
 refine zu h fun w h=>?_
 refine zu h fun w h=>?_
 refine zu h fun w h=>?_
 refine zn<|zk<|zs<|zr ?_
 refine zv h fun t18 w h=>?_
 refine zu h fun w h=>?_
 refine zn<|zk<|zs<|zr ?_
 refine zv h fun t19 w h=>?_
 refine zv h fun t20 w h=>?_
 refine zv h fun t21 w h=>?_
 refine zv h fun t22 w h=>?_
 refine zv h fun t23 w h=>?_
 refine zv h fun t24 w h=>?_
 refine zv h fun t25 w h=>?_
 refine zu h fun w h=>?_
 refine zn<|zk<|zs<|zr ?_
 refine zv h fun t26 w h=>?_
 refine zv h fun t27 w h=>?_
 refine zv h fun t28 w h=>?_
 refine zv h fun t29 w h=>?_
 refine zv h fun t30 w h=>?_
 refine zv h fun t31 w h=>?_
 refine zv h fun t32 w h=>?_
 refine zv h fun t33 w h=>?_
 refine zu h fun w h=>?_
 refine zn<|zk<|zs<|zr ?_
 refine zv h fun t34 w h=>?_
 refine zv h fun t35 w h=>?_
 refine zv h fun t36 w h=>?_
 refine zv h fun t37 w h=>?_
 refine zv h fun t38 w h=>?_
 refine zv h fun t39 w h=>?_
 refine zv h fun t40 w h=>?_
 refine zu h fun w h=>?_
 refine zn<|zk<|zs<|zr ?_
 refine zv h fun t41 w h=>?_
 refine zv h fun t42 w h=>?_
 refine zv h fun t43 w h=>?_
 refine zv h fun t44 w h=>?_
 refine zv h fun t45 w h=>?_
 refine zv h fun t46 w h=>?_
 refine zv h fun t47 w h=>?_
 refine zu h fun w h=>?_
 refine zn<|zk<|zs ?_
 obtain ⟨C1,hC,h⟩:=h
 refine sim_draw [48,49,50,51,52,53,54,55,56,57,58,59] (by kernel_rfl) (by kernel_rfl) C1 ?_
 refine ze 0 hC h fun t48 h=>?_
 refine ze 1 hC h fun t49 h=>?_
 refine ze 2 hC h fun t50 h=>?_
 refine ze 3 hC h fun t51 h=>?_
 refine ze 4 hC h fun t52 h=>?_
 refine ze 5 hC h fun t53 h=>?_
 refine ze 6 hC h fun t54 h=>?_
 obtain ⟨t55,hv,h⟩:=h
 refine sim_dsilent 7 hC rfl (by kernel_rfl) (by kernel_rfl) (fun _ _=>rfl) rfl (Sw.qV_build rfl hv) ?_
 refine sim_dloud 8 rfl (by kernel_rfl) (fun _ _=>rfl) ?_
 refine sim_buildSlice h rfl (fun _ _ h _ _=>⟨rfl,h⟩) ?_;intro t56 w h
 refine zn ?_
 obtain ⟨hC,h⟩:=h
 refine ⟨hC,?_⟩
 refine sim_dloud 9 rfl (by kernel_rfl) (fun _ _=>rfl) ?_
 refine sim_builtin h rfl (fun _ _ h _ _=>⟨rfl,h⟩) ?_;intro t57 w h
 refine zn ?_
 obtain ⟨hC,h⟩:=h
 refine ⟨hC,?_⟩
 refine ze 10 hC h fun t58 h=>?_
 refine ze 11 hC h fun t59 h=>?_
 refine sim_dturn 12 2 rfl (by kernel_rfl) (by kernel_rfl) (fun _ _=>rfl) ?_
 refine sim_unit h rfl rfl (fun _ _ h _ _=>⟨rfl,h⟩) ?_;intro w h
 refine zn ?_
 obtain ⟨C2,hC,h⟩:=h
 refine ⟨C2,hC,?_⟩
 refine sim_dend (by kernel_rfl) ?_
 refine zk<|zs<|zs<|sim_regionG ?_
 refine sim_seg 4 rfl ?_
 refine zc h c17 fun t60 w h=>?_
 refine zc h c15 fun t61 w h=>?_
 refine zv h fun t62 w h=>?_
 refine zm<|zn ?_
 refine joinK_elim h (fun K3 hK h=>?_)
 refine sim_groupJ 3 3 false [64,65,66] (fun ρ w=>K3 (ρ 66) w) rfl rfl (fun T hT=>guardP_mono h (fun h=>?_) (fun h=>?_)) (fun σ w h=>?_)
 · refine zv h fun t64 w h=>?_
   refine zc h c18 fun t65 w h=>?_
   refine zv h fun t66 w h=>?_
   refine zn ?_
   exact zt hT h
 · exact zt hT h
 subst hK
 refine sim_seg 2 rfl ?_
 refine sim_pick h rfl rfl rfl ?_;intro t67 h
 refine zm<|zn ?_
 refine joinK_elim h (fun K4 hK h=>?_)
 refine sim_groupJ 3 8 false [69,70,71] (fun ρ w=>K4 (ρ 71) w) rfl rfl (fun T hT=>guardP_mono h (fun h=>?_) (fun h=>?_)) (fun σ w h=>?_)
 · refine zv h fun t69 w h=>?_
   refine zc h c18 fun t70 w h=>?_
   refine zv h fun t71 w h=>?_
   refine zn ?_
   exact zt hT h
 · exact zt hT h
 subst hK
 refine sim_seg 2 rfl ?_
 refine sim_pick h rfl rfl rfl ?_;intro t72 h
 refine zm<|zn ?_
 refine joinK_elim h (fun K5 hK h=>?_)
 refine sim_groupJ 3 13 false [74,75,76] (fun ρ w=>K5 (ρ 76) w) rfl rfl (fun T hT=>guardP_mono h (fun h=>?_) (fun h=>?_)) (fun σ w h=>?_)
 · refine zv h fun t74 w h=>?_
   refine zc h c18 fun t75 w h=>?_
   refine zv h fun t76 w h=>?_
   refine zn ?_
   exact zt hT h
 · exact zt hT h
 subst hK
 refine sim_seg 2 rfl ?_
 refine sim_pick h rfl rfl rfl ?_;intro t77 h
 refine zm<|zn ?_
 refine joinK_elim h (fun K6 hK h=>?_)
 refine sim_groupJ 3 18 false [79,80,81] (fun ρ w=>K6 (ρ 81) w) rfl rfl (fun T hT=>guardP_mono h (fun h=>?_) (fun h=>?_)) (fun σ w h=>?_)
 · refine zv h fun t79 w h=>?_
   refine zc h c18 fun t80 w h=>?_
   refine zv h fun t81 w h=>?_
   refine zn ?_
   exact zt hT h
 · exact zt hT h
 subst hK
 refine sim_seg 2 rfl ?_
 refine sim_pick h rfl rfl rfl ?_;intro t82 h
 refine zm<|zn ?_
 refine joinK_elim h (fun K7 hK h=>?_)
 refine sim_groupJ 3 23 false [84,85,86] (fun ρ w=>K7 (ρ 86) w) rfl rfl (fun T hT=>guardP_mono h (fun h=>?_) (fun h=>?_)) (fun σ w h=>?_)
 · refine zv h fun t84 w h=>?_
   refine zc h c18 fun t85 w h=>?_
   refine zv h fun t86 w h=>?_
   refine zn ?_
   exact zt hT h
 · exact zt hT h
 subst hK
 refine sim_seg 2 rfl ?_
 refine sim_pick h rfl rfl rfl ?_;intro t87 h
 refine zm<|zn ?_
 refine joinK_elim h (fun K8 hK h=>?_)
 refine sim_groupJ 3 28 false [89,90,91] (fun ρ w=>K8 (ρ 91) w) rfl rfl (fun T hT=>guardP_mono h (fun h=>?_) (fun h=>?_)) (fun σ w h=>?_)
 · refine zv h fun t89 w h=>?_
   refine zc h c18 fun t90 w h=>?_
   refine zv h fun t91 w h=>?_
   refine zn ?_
   exact zt hT h
 · exact zt hT h
 subst hK
 refine sim_seg 1 rfl ?_
 refine sim_pick h rfl rfl rfl ?_;intro t92 h
 refine zn<|sim_end<|zk ?_
 refine sim_cond h rfl (fun h=>?_) (fun h=>?_)
 · refine zs<|zr<|zm<|zn<|zk<|sim_ret<|sim_then_ret ?_
   exact body_ret1 rfl rfl h
 · refine sim_skip<|zk<|zs<|zr ?_
   refine zc h c17 fun t94 w h=>?_
   refine zc h c7 fun t95 w h=>?_
   refine zm ?_
   refine zv h fun t96 w h=>?_
   refine zv h fun t97 w h=>?_
   refine zm<|zm<|zn<|zk<|zs<|zr ?_
   refine zc h c17 fun t99 w h=>?_
   refine zc h c7 fun t100 w h=>?_
   refine zm ?_
   refine zv h fun t101 w h=>?_
   refine zv h fun t102 w h=>?_
   refine zm<|zm<|zn<|zk<|zs<|zr ?_
   refine zc h c17 fun t103 w h=>?_
   refine zv h fun t104 w h=>?_
   refine zv h fun t105 w h=>?_
   refine zv h fun t106 w h=>?_
   refine zc h c19 fun t107 w h=>?_
   refine zm<|zn<|zk<|zs<|sim_regionG ?_
   refine sim_seg 3 rfl ?_
   refine zm ?_
   refine zb h fun t109 w h=>?_
   refine zm<|zn ?_
   refine joinK_elim h (fun K9 hK h=>?_)
   refine sim_groupJ 2 2 true [111,112] (fun ρ w=>K9 (ρ 112) w) rfl rfl (fun T hT=>guardP_mono h (fun h=>?_) (fun h=>?_)) (fun σ w h=>?_)
   · refine zm ?_
     refine zb h fun t112 w h=>?_
     refine zn ?_
     exact zt hT h
   · exact zt hT h
   subst hK
   refine sim_seg 2 rfl ?_
   refine sim_pick h rfl rfl rfl ?_;intro t113 h
   refine zm<|zn ?_
   refine joinK_elim h (fun K10 hK h=>?_)
   refine sim_groupJ 2 6 true [115,116] (fun ρ w=>K10 (ρ 116) w) rfl rfl (fun T hT=>guardP_mono h (fun h=>?_) (fun h=>?_)) (fun σ w h=>?_)
   · refine zm ?_
     refine zb h fun t116 w h=>?_
     refine zn ?_
     exact zt hT h
   · exact zt hT h
   subst hK
   refine sim_seg 2 rfl ?_
   refine sim_pick h rfl rfl rfl ?_;intro t117 h
   refine zm<|zn ?_
   refine joinK_elim h (fun K11 hK h=>?_)
   refine sim_groupJ 3 10 true [119,120,121] (fun ρ w=>K11 (ρ 121) w) rfl rfl (fun T hT=>guardP_mono h (fun h=>?_) (fun h=>?_)) (fun σ w h=>?_)
   · refine zm ?_
     refine zx h fun t120 w h=>?_
     refine zb h fun t121 w h=>?_
     refine zn ?_
     exact zt hT h
   · exact zt hT h
   subst hK
   refine sim_seg 2 rfl ?_
   refine sim_pick h rfl rfl rfl ?_;intro t122 h
   refine zm<|zn ?_
   refine joinK_elim h (fun K12 hK h=>?_)
   refine sim_groupJ 4 15 true [124,125,126,127] (fun ρ w=>K12 (ρ 127) w) rfl rfl (fun T hT=>guardP_mono h (fun h=>?_) (fun h=>?_)) (fun σ w h=>?_)
   · refine zm ?_
     refine zv h fun t125 w h=>?_
     refine sim_build h rfl (fun _ _ h=>⟨rfl,h⟩) ?_;intro t126 w h
     refine zb h fun t127 w h=>?_
     refine zn ?_
     exact zt hT h
   · exact zt hT h
   subst hK
   refine sim_seg 2 rfl ?_
   refine sim_pick h rfl rfl rfl ?_;intro t128 h
   refine zm<|zn ?_
   refine joinK_elim h (fun K13 hK h=>?_)
   refine sim_groupJ 3 21 true [130,131,132] (fun ρ w=>K13 (ρ 132) w) rfl rfl (fun T hT=>guardP_mono h (fun h=>?_) (fun h=>?_)) (fun σ w h=>?_)
   · refine sim_build h rfl (fun _ _ h=>⟨rfl,h⟩) ?_;intro t130 w h
     refine zc h c20 fun t131 w h=>?_
     refine zv h fun t132 w h=>?_
     refine zn ?_
     exact zt hT h
   · exact zt hT h
   subst hK
   refine sim_seg 2 rfl ?_
   refine sim_pick h rfl rfl rfl ?_;intro t133 h
   refine zm<|zn<|sim_end<|zk<|sim_ret ?_
   exact body_ret1 rfl rfl h
def n39 (t0 t1:Value) (R:RT) (w:World):Prop :=
 opV Pg (Instr.box 24 t0) (panK R) w fun t2 w =>
 L0 24 t2 R w fun t6 w =>
 callK Pg 21 #[t6,t1,(.func (.func 22) #[] #[])] (panK R) w fun t8 w =>
 opV Pg (Instr.extract t8 0) (panK R) w fun t9 w =>
 opV Pg (Instr.extract t8 1) (panK R) w fun t10 w =>
 R (.returned (.tuple #[t9,t10])) w
theorem n39s {t0 t1:Value} {R:RT} {w:World} (h:n39 t0 t1 R w):Calls Pg 7 #[t0,t1] w R:=by
 refine calls_of_den (args:=[t0,t1]) Tryz.func7 rfl (Nat.le_of_ble_eq_true rfl) ?_
 unfold n39 at h
 refine zs<|zr ?_
 refine zv h fun t2 w h=>?_
 refine zm<|zm<|zn<|zk<|zs<|zr ?_
 refine zv h fun t6 w h=>?_
 refine zm ?_
 refine zc h c21 fun t8 w h=>?_
 refine zv h fun t9 w h=>?_
 refine zv h fun t10 w h=>?_
 refine zm<|zm<|zn<|zk<|sim_ret ?_
 exact body_ret2 rfl rfl rfl h
end Go.Proofs.YtiajhbbmgglmlaaGreat
namespace Go.Proofs.YtiajhbbmgglmlaaGreat
open Sw
def n17c1 (t2 t5 t7 t79:Value) (R:RT) (w:World):Prop :=
 opV Pg (Instr.build 39 #[(0,t5),(1,t7),(2,t79)]) (panK R) w fun t85 w =>
 opU Pg (Instr.storeAt 39 t2 t85) (panK R) w fun w =>
 qW Pg 39 t2 w fun r0 =>
 R (.returned (.tuple #[r0,(.bool true)])) w
def n17c2 (t2 t5 t7 t79:Value) (next4:KV) (R:RT) (w:World):Prop :=
 B0 .neq 3 true t79 (.int .i64 0) R w fun t81 w =>
 condP t81 (
 n17c1 t2 t5 t7 t79 R w) (
 B0 .add 3 true t7 (.int .i64 1) R w fun t75 w =>
 next4 t75 w)
def n17c3 (t5 t10 t30 t99 t107:Value) (C7:World→Prop) (next5:KV) (R:RT) (w:World):Prop :=
 qV Pg C7 (Instr.indexAt 85 t30 t107) fun t108 =>
 qV Pg C7 (Instr.loadAt 3 t108) fun t109 =>
 qV Pg C7 (Builtin.max_ #[3,3] 3 #[t99,t109]) fun t110 =>
 qV Pg C7 (Instr.indexAt 85 t30 t5) fun t111 =>
 opU Pg (Instr.storeAt 3 t111 t110) (panK R) w fun w =>
 turnK w fun C8 w =>
 B0 .add 3 true t10 (.int .i64 1) R w fun t93 w =>
 next5 t93 w
def n17c4 (t1 t5 t10 t30 t87:Value) (C6:World→Prop) (next5:KV) (R:RT) (w:World):Prop :=
 qV Pg C6 (Instr.indexAt 85 t30 t5) fun t98 =>
 qV Pg C6 (Instr.loadAt 3 t98) fun t99 =>
 qV Pg C6 (Instr.loadAt 24 t1) fun t101 =>
 qV Pg C6 (Instr.indexAt 69 t87 t10) fun t104 =>
 qV Pg C6 (Instr.loadAt 9 t104) fun t105 =>
 C0 26 #[t101,t105,t5] R w fun t107 w =>
 narrowK C6 w fun C7 w =>
 n17c3 t5 t10 t30 t99 t107 C7 next5 R w
def n17c5 (t2 t5:Value) (R:RT) (w:World):Prop :=
 opV Pg (Instr.build 39 #[(0,t5),(1,(.int .i64 (-1))),(2,(.int .i64 10))]) (panK R) w fun t124 w =>
 opU Pg (Instr.storeAt 39 t2 t124) (panK R) w fun w =>
 qW Pg 39 t2 w fun r0 =>
 R (.returned (.tuple #[r0,(.bool true)])) w
def n17c6 (t2 t5 t30:Value) (next2:KV) (R:RT) (w:World):Prop :=
 X0 85 t30 t5 R w fun t114 w =>
 L0 3 t114 R w fun t115 w =>
 B0 .add 3 true t115 (.int .i64 1) R w fun t116 w =>
 X0 85 t30 t5 R w fun t117 w =>
 opU Pg (Instr.storeAt 3 t117 t116) (panK R) w fun w =>
 X0 85 t30 t5 R w fun t120 w =>
 L0 3 t120 R w fun t121 w =>
 B0 .gtr 3 true t121 (.int .i64 16) R w fun t122 w =>
 condP t122 (
 n17c5 t2 t5 R w) (
 B0 .add 3 true t5 (.int .i64 1) R w fun t37 w =>
 next2 t37 w)
def n17c7 (t1 t2 t5 t10 t30 t87:Value) (next2:KV) (next5:KV) (R:RT) (w:World):Prop :=
 opV Pg (Builtin.len_ #[69] 3 #[t87]) (panK R) w fun t90 w =>
 B0 .lss 3 false t10 t90 R w fun t91 w =>
 condP t91 (
 drawK w fun C6 w =>
 n17c4 t1 t5 t10 t30 t87 C6 next5 R w) (
 n17c6 t2 t5 t30 next2 R w)
def n17c8 (t1 t2 t5 t6 t30:Value) (next2:KV) (R:RT) (w:World):Prop :=
 L0 45 t6 R w fun t86 w =>
 C0 25 #[t86] R w fun t87 w =>
 loop1 (fun t10 w next5 =>
 n17c7 t1 t2 t5 t10 t30 t87 next2 next5 R w) (.int .i64 0) w
def n17c9 (t1 t2 t5 t6 t7 t30:Value) (next2:KV) (next4:KV) (R:RT) (w:World):Prop :=
 F0 45 t6 1 R w fun t70 w =>
 L0 43 t70 R w fun t71 w =>
 opV Pg (Builtin.len_ #[43] 3 #[t71]) (panK R) w fun t72 w =>
 B0 .lss 3 false t7 t72 R w fun t73 w =>
 condP t73 (
 L0 24 t1 R w fun t76 w =>
 C0 33 #[t76,t5,t7] R w fun t79 w =>
 n17c2 t2 t5 t7 t79 next4 R w) (
 n17c8 t1 t2 t5 t6 t30 next2 R w)
def n17c10 (t2 t5:Value) (R:RT) (w:World):Prop :=
 opV Pg (Instr.build 39 #[(0,t5),(1,(.int .i64 (-1))),(2,(.int .i64 3))]) (panK R) w fun t68 w =>
 opU Pg (Instr.storeAt 39 t2 t68) (panK R) w fun w =>
 qW Pg 39 t2 w fun r0 =>
 R (.returned (.tuple #[r0,(.bool true)])) w
def n17c11 (t1 t2 t5 t6 t30 t60 t65:Value) (next2:KV) (R:RT) (w:World):Prop :=
 pickK t60 (.bool true) t65 fun t66 =>
 condP t66 (
 n17c10 t2 t5 R w) (
 loop1 (fun t7 w next4 =>
 n17c9 t1 t2 t5 t6 t7 t30 next2 next4 R w) (.int .i64 0) w)
def n17c12 (t2 t5:Value) (R:RT) (w:World):Prop :=
 opV Pg (Instr.build 39 #[(0,t5),(1,(.int .i64 (-1))),(2,(.int .i64 2))]) (panK R) w fun t56 w =>
 opU Pg (Instr.storeAt 39 t2 t56) (panK R) w fun w =>
 qW Pg 39 t2 w fun r0 =>
 R (.returned (.tuple #[r0,(.bool true)])) w
def n17c13 (t1 t2 t5 t6 t30:Value) (next2:KV) (R:RT) (w:World):Prop :=
 F0 45 t6 1 R w fun t57 w =>
 L0 43 t57 R w fun t58 w =>
 opV Pg (Builtin.len_ #[43] 3 #[t58]) (panK R) w fun t59 w =>
 B0 .lss 3 true t59 (.int .i64 1) R w fun t60 w =>
 joinK (fun (t65:Value) (w:World) =>
 n17c11 t1 t2 t5 t6 t30 t60 t65 next2 R w) fun K3 =>
 guardP t60 false (
 F0 45 t6 1 R w fun t62 w =>
 L0 43 t62 R w fun t63 w =>
 opV Pg (Builtin.len_ #[43] 3 #[t63]) (panK R) w fun t64 w =>
 B0 .gtr 3 true t64 (.int .i64 40) R w fun t65 w =>
 K3 t65 w) (
 K3 undef w)
def n17c14 (t2 t5:Value) (R:RT) (w:World):Prop :=
 opV Pg (Instr.build 39 #[(0,t5),(1,(.int .i64 (-1))),(2,(.int .i64 1))]) (panK R) w fun t48 w =>
 opU Pg (Instr.storeAt 39 t2 t48) (panK R) w fun w =>
 qW Pg 39 t2 w fun r0 =>
 R (.returned (.tuple #[r0,(.bool true)])) w
def n17c15 (t1 t2 t5 t6 t30:Value) (next2:KV) (R:RT) (w:World):Prop :=
 L0 24 t1 R w fun t49 w =>
 F0 45 t6 0 R w fun t50 w =>
 L0 9 t50 R w fun t51 w =>
 C0 26 #[t49,t51,t5] R w fun t53 w =>
 B0 .geq 3 true t53 (.int .i64 0) R w fun t54 w =>
 condP t54 (
 n17c12 t2 t5 R w) (
 n17c13 t1 t2 t5 t6 t30 next2 R w)
def n17c16 (t2:Value) (R:RT) (w:World):Prop :=
 opV Pg (Instr.build 39 #[(0,(.int .i64 (-1))),(1,(.int .i64 (-1))),(2,(.int .i64 11))]) (panK R) w fun t133 w =>
 opU Pg (Instr.storeAt 39 t2 t133) (panK R) w fun w =>
 qW Pg 39 t2 w fun r0 =>
 R (.returned (.tuple #[r0,(.bool true)])) w
def n17c17 (t2:Value) (R:RT) (w:World):Prop :=
 opV Pg (Instr.build 39 #[]) (panK R) w fun t134 w =>
 opU Pg (Instr.storeAt 39 t2 t134) (panK R) w fun w =>
 qW Pg 39 t2 w fun r0 =>
 R (.returned (.tuple #[r0,(.bool false)])) w
def n17c18 (t1 t2:Value) (R:RT) (w:World):Prop :=
 L0 24 t1 R w fun t125 w =>
 F0 24 t1 2 R w fun t126 w =>
 L0 9 t126 R w fun t127 w =>
 F0 24 t1 1 R w fun t128 w =>
 L0 22 t128 R w fun t129 w =>
 opV Pg (Builtin.len_ #[22] 3 #[t129]) (panK R) w fun t130 w =>
 C0 26 #[t125,t127,t130] R w fun t131 w =>
 B0 .lss 3 true t131 (.int .i64 0) R w fun t132 w =>
 condP t132 (
 n17c16 t2 R w) (
 n17c17 t2 R w)
def n17c19 (t1 t2 t5 t30:Value) (next2:KV) (R:RT) (w:World):Prop :=
 F0 24 t1 1 R w fun t38 w =>
 L0 22 t38 R w fun t39 w =>
 X0 22 t39 t5 R w fun t41 w =>
 L0 45 t41 R w fun t42 w =>
 opV Pg (Instr.alloc 45 true (.tuple #[])) (panK R) w fun t6 w =>
 opU Pg (Instr.storeAt 45 t6 t42) (panK R) w fun w =>
 F0 45 t6 0 R w fun t43 w =>
 L0 9 t43 R w fun t44 w =>
 C0 32 #[t44] R w fun t45 w =>
 opV Pg (Op.unary .not t45) (panK R) w fun t46 w =>
 condP t46 (
 n17c14 t2 t5 R w) (
 n17c15 t1 t2 t5 t6 t30 next2 R w)
def n17c20 (t1 t2 t5 t30:Value) (next2:KV) (R:RT) (w:World):Prop :=
 F0 24 t1 1 R w fun t32 w =>
 L0 22 t32 R w fun t33 w =>
 opV Pg (Builtin.len_ #[22] 3 #[t33]) (panK R) w fun t34 w =>
 B0 .lss 3 false t5 t34 R w fun t35 w =>
 condP t35 (
 n17c19 t1 t2 t5 t30 next2 R w) (
 n17c18 t1 t2 R w)
def n17c21 (t2:Value) (R:RT) (w:World):Prop :=
 opV Pg (Instr.build 39 #[(0,(.int .i64 (-1))),(1,(.int .i64 (-1))),(2,(.int .i64 3))]) (panK R) w fun t26 w =>
 opU Pg (Instr.storeAt 39 t2 t26) (panK R) w fun w =>
 qW Pg 39 t2 w fun r0 =>
 R (.returned (.tuple #[r0,(.bool true)])) w
def n17c22 (t1 t2:Value) (R:RT) (w:World):Prop :=
 F0 24 t1 1 R w fun t27 w =>
 L0 22 t27 R w fun t28 w =>
 opV Pg (Builtin.len_ #[22] 3 #[t28]) (panK R) w fun t29 w =>
 opV Pg (Instr.makeSlice 85 t29 t29) (panK R) w fun t30 w =>
 loop1 (fun t5 w next2 =>
 n17c20 t1 t2 t5 t30 next2 R w) (.int .i64 0) w
def n17c23 (t2:Value) (R:RT) (w:World):Prop :=
 opV Pg (Instr.build 39 #[(0,(.int .i64 (-1))),(1,(.int .i64 (-1))),(2,(.int .i64 1))]) (panK R) w fun t15 w =>
 opU Pg (Instr.storeAt 39 t2 t15) (panK R) w fun w =>
 qW Pg 39 t2 w fun r0 =>
 R (.returned (.tuple #[r0,(.bool true)])) w
def n17c24 (t1 t2:Value) (R:RT) (w:World):Prop :=
 F0 24 t1 1 R w fun t16 w =>
 L0 22 t16 R w fun t17 w =>
 opV Pg (Builtin.len_ #[22] 3 #[t17]) (panK R) w fun t18 w =>
 B0 .lss 3 true t18 (.int .i64 1) R w fun t19 w =>
 joinK (fun (t24:Value) (w:World) =>
 pickK t19 (.bool true) t24 fun t25 =>
 condP t25 (
 n17c21 t2 R w) (
 n17c22 t1 t2 R w)) fun K1 =>
 guardP t19 false (
 F0 24 t1 1 R w fun t21 w =>
 L0 22 t21 R w fun t22 w =>
 opV Pg (Builtin.len_ #[22] 3 #[t22]) (panK R) w fun t23 w =>
 B0 .gtr 3 true t23 (.int .i64 60) R w fun t24 w =>
 K1 t24 w) (
 K1 undef w)
def n17 (t0:Value) (R:RT) (w:World):Prop :=
 opV Pg (Instr.box 24 t0) (panK R) w fun t1 w =>
 opV Pg (Instr.alloc 39 true (.tuple #[])) (panK R) w fun t2 w =>
 F0 24 t1 0 R w fun t11 w =>
 L0 9 t11 R w fun t12 w =>
 C0 32 #[t12] R w fun t13 w =>
 opV Pg (Op.unary .not t13) (panK R) w fun t14 w =>
 condP t14 (
 n17c23 t2 R w) (
 n17c24 t1 t2 R w)
theorem n17s {t0:Value} {R:RT} {w:World} (h:n17 t0 R w):Calls Pg 14 #[t0] w R:=by
 refine calls_of_den (args:=[t0]) Tryz.func14 rfl (Nat.le_of_ble_eq_true rfl) ?_
 unfold n17 at h
 refine zs<|zr ?_
 refine zv h fun t1 w h=>?_
 refine zv h fun t2 w h=>?_
 refine zm<|zn<|zk<|zs<|zs<|zr ?_
 refine zv h fun t11 w h=>?_
 refine zv h fun t12 w h=>?_
 refine zc h c32 fun t13 w h=>?_
 refine zv h fun t14 w h=>?_
 refine zn<|zk ?_
 refine sim_cond h rfl (fun h=>?_) (fun h=>?_)
 · refine zs<|zr ?_
   refine sim_build h rfl (fun _ _ h=>⟨rfl,h⟩) ?_;intro t15 w h
   refine zu h fun w h=>?_
   refine zm<|zn<|zk<|sim_ret<|sim_then_ret ?_
   exact body_retCT rfl rfl rfl h
 · refine sim_skip<|zk<|zs<|zs<|sim_regionG ?_
   refine sim_seg 5 rfl ?_
   refine zv h fun t16 w h=>?_
   refine zv h fun t17 w h=>?_
   refine zx h fun t18 w h=>?_
   refine zb h fun t19 w h=>?_
   refine zm<|zn ?_
   refine joinK_elim h (fun K1 hK h=>?_)
   refine sim_groupJ 4 4 false [21,22,23,24] (fun ρ w=>K1 (ρ 24) w) rfl rfl (fun T hT=>guardP_mono h (fun h=>?_) (fun h=>?_)) (fun σ w h=>?_)
   · refine zv h fun t21 w h=>?_
     refine zv h fun t22 w h=>?_
     refine zx h fun t23 w h=>?_
     refine zb h fun t24 w h=>?_
     refine zn ?_
     exact zt hT h
   · exact zt hT h
   subst hK
   refine sim_seg 1 rfl ?_
   refine sim_pick h rfl rfl rfl ?_;intro t25 h
   refine zn<|sim_end<|zk ?_
   refine sim_cond h rfl (fun h=>?_) (fun h=>?_)
   · refine zs<|zr ?_
     refine sim_build h rfl (fun _ _ h=>⟨rfl,h⟩) ?_;intro t26 w h
     refine zu h fun w h=>?_
     refine zm<|zn<|zk<|sim_ret<|sim_then_ret ?_
     exact body_retCT rfl rfl rfl h
   · refine sim_skip<|zk<|zs<|zr ?_
     refine zv h fun t27 w h=>?_
     refine zv h fun t28 w h=>?_
     refine zx h fun t29 w h=>?_
     refine zv h fun t30 w h=>?_
     refine zm<|zn<|zk<|zs<|zs<|zr<|zm<|zn<|zk<|sim_block ?_
     obtain ⟨I,μ,h0,hr⟩:=h
     refine sim_loop [3,5,6,7,8,9,10,31,32,33,34,35,36,37,38,39,40,41,42,43,44,45,46,47,48,49,50,51,52,53,54,55,56,57,58,59,60,61,62,63,64,65,66,67,68,69,70,71,72,73,74,75,76,77,78,79,80,81,82,83,84,85,86,87,88,89,90,91,92,93,94,95,96,97,98,99,100,101,102,103,104,105,106,107,108,109,110,111,112,113,114,115,116,117,118,119,120,121,122,123,124] (by kernel_rfl) (fun ρ w=>I (ρ 5) w) (fun ρ w=>μ (ρ 5) w) h0 (fun σ w hI=>?_)
     have h:=hr _ _ hI
     clear hr h0 hI
     refine zs<|zs<|zr<|zm ?_
     refine zv h fun t32 w h=>?_
     refine zv h fun t33 w h=>?_
     refine zx h fun t34 w h=>?_
     refine zb h fun t35 w h=>?_
     refine zn<|zk ?_
     refine sim_cond h rfl (fun h=>?_) (fun h=>?_)
     · refine sim_skip<|zk<|zs<|sim_block<|zs<|zr ?_
       refine zv h fun t38 w h=>?_
       refine zv h fun t39 w h=>?_
       refine zm ?_
       refine zv h fun t41 w h=>?_
       refine zv h fun t42 w h=>?_
       refine zv h fun t6 w h=>?_
       refine zu h fun w h=>?_
       refine zn<|zk<|zs<|zs<|zr ?_
       refine zv h fun t43 w h=>?_
       refine zv h fun t44 w h=>?_
       refine zc h c32 fun t45 w h=>?_
       refine zv h fun t46 w h=>?_
       refine zn<|zk ?_
       refine sim_cond h rfl (fun h=>?_) (fun h=>?_)
       · refine zs<|zr<|zm ?_
         refine sim_build h rfl (fun _ _ h=>⟨rfl,h⟩) ?_;intro t48 w h
         refine zu h fun w h=>?_
         refine zm<|zn<|zk<|sim_ret<|sim_then_ret<|sim_block_ret<|sim_then_ret<|sim_then_ret<|sim_block_ret<|sim_then_ret ?_
         exact body_retCT rfl rfl rfl h
       · refine sim_skip<|zk<|zs<|zs<|zr ?_
         refine zv h fun t49 w h=>?_
         refine zv h fun t50 w h=>?_
         refine zv h fun t51 w h=>?_
         refine zm ?_
         refine zc h c26 fun t53 w h=>?_
         refine zb h fun t54 w h=>?_
         refine zn<|zk ?_
         refine sim_cond h rfl (fun h=>?_) (fun h=>?_)
         · refine zs<|zr<|zm ?_
           refine sim_build h rfl (fun _ _ h=>⟨rfl,h⟩) ?_;intro t56 w h
           refine zu h fun w h=>?_
           refine zm<|zn<|zk<|sim_ret<|sim_then_ret<|sim_block_ret<|sim_then_ret<|sim_then_ret<|sim_block_ret<|sim_then_ret ?_
           exact body_retCT rfl rfl rfl h
         · refine sim_skip<|zk<|zs<|zs<|sim_regionG ?_
           refine sim_seg 5 rfl ?_
           refine zv h fun t57 w h=>?_
           refine zv h fun t58 w h=>?_
           refine zx h fun t59 w h=>?_
           refine zb h fun t60 w h=>?_
           refine zm<|zn ?_
           refine joinK_elim h (fun K3 hK h=>?_)
           refine sim_groupJ 4 4 false [62,63,64,65] (fun ρ w=>K3 (ρ 65) w) rfl rfl (fun T hT=>guardP_mono h (fun h=>?_) (fun h=>?_)) (fun σ w h=>?_)
           · refine zv h fun t62 w h=>?_
             refine zv h fun t63 w h=>?_
             refine zx h fun t64 w h=>?_
             refine zb h fun t65 w h=>?_
             refine zn ?_
             exact zt hT h
           · exact zt hT h
           subst hK
           refine sim_seg 1 rfl ?_
           refine sim_pick h rfl rfl rfl ?_;intro t66 h
           refine zn<|sim_end<|zk ?_
           refine sim_cond h rfl (fun h=>?_) (fun h=>?_)
           · refine zs<|zr<|zm ?_
             refine sim_build h rfl (fun _ _ h=>⟨rfl,h⟩) ?_;intro t68 w h
             refine zu h fun w h=>?_
             refine zm<|zn<|zk<|sim_ret<|sim_then_ret<|sim_block_ret<|sim_then_ret<|sim_then_ret<|sim_block_ret<|sim_then_ret ?_
             exact body_retCT rfl rfl rfl h
           · refine sim_skip<|zk<|zs<|zs<|zr<|zm<|zn<|zk<|sim_block ?_
             obtain ⟨I,μ,h0,hr⟩:=h
             refine sim_loop [3,7,8,69,70,71,72,73,74,75,76,77,78,79,80,81,82,83,84,85] (by kernel_rfl) (fun ρ w=>I (ρ 7) w) (fun ρ w=>μ (ρ 7) w) h0 (fun σ w hI=>?_)
             have h:=hr _ _ hI
             clear hr h0 hI
             refine zs<|zs<|zr<|zm ?_
             refine zv h fun t70 w h=>?_
             refine zv h fun t71 w h=>?_
             refine zx h fun t72 w h=>?_
             refine zb h fun t73 w h=>?_
             refine zn<|zk ?_
             refine sim_cond h rfl (fun h=>?_) (fun h=>?_)
             · refine sim_skip<|zk<|zs<|sim_block<|zs<|zr ?_
               refine zv h fun t76 w h=>?_
               refine zm<|zm ?_
               refine zc h c33 fun t79 w h=>?_
               refine zm<|zn<|zk<|zs<|zr<|zm ?_
               refine zb h fun t81 w h=>?_
               refine zn<|zk ?_
               refine sim_cond h rfl (fun h=>?_) (fun h=>?_)
               · refine zs<|zr<|zm<|zm<|zm ?_
                 refine sim_build h rfl (fun _ _ h=>⟨rfl,h⟩) ?_;intro t85 w h
                 refine zu h fun w h=>?_
                 refine zm<|zn<|zk<|sim_ret<|sim_block_ret<|sim_then_ret<|sim_then_ret<|sim_block_ret<|sim_then_ret<|sim_block_ret<|sim_then_ret<|sim_then_ret<|sim_block_ret<|sim_then_ret ?_
                 exact body_retCT rfl rfl rfl h
               · refine sim_skip<|sim_block_normal<|zk<|zr<|zm ?_
                 refine zb h fun t75 w h=>?_
                 refine zm<|zn<|zk ?_
                 exact ⟨rfl,h⟩
             · refine sim_exit<|sim_then_exit<|sim_then_exit<|sim_block_hit<|zk<|zs<|zr ?_
               refine zv h fun t86 w h=>?_
               refine zc h c25 fun t87 w h=>?_
               refine zm<|zn<|zk<|zs<|zs<|zr<|zm<|zn<|zk<|sim_block ?_
               obtain ⟨I,μ,h0,hr⟩:=h
               refine sim_loop [10,88,89,90,91,92,93,94,95,96,97,98,99,100,101,102,103,104,105,106,107,108,109,110,111] (by kernel_rfl) (fun ρ w=>I (ρ 10) w) (fun ρ w=>μ (ρ 10) w) h0 (fun σ w hI=>?_)
               have h:=hr _ _ hI
               clear hr h0 hI
               refine zs<|zs<|zr<|zm<|zm ?_
               refine zx h fun t90 w h=>?_
               refine zb h fun t91 w h=>?_
               refine zn<|zk ?_
               refine sim_cond h rfl (fun h=>?_) (fun h=>?_)
               · refine sim_skip<|zk<|zs<|sim_block ?_
                 obtain ⟨C6,hC,h⟩:=h
                 refine sim_draw [94,95,96,97,98,99,100,101,102,103,104,105,106,107,108,109,110,111] (by kernel_rfl) (by kernel_rfl) C6 ?_
                 refine zw 0 hC ?_
                 refine zw 1 hC ?_
                 refine zw 2 hC ?_
                 refine zw 3 hC ?_
                 refine ze 4 hC h fun t98 h=>?_
                 refine ze 5 hC h fun t99 h=>?_
                 refine zw 6 hC ?_
                 refine ze 7 hC h fun t101 h=>?_
                 refine zw 8 hC ?_
                 refine zw 9 hC ?_
                 refine ze 10 hC h fun t104 h=>?_
                 refine ze 11 hC h fun t105 h=>?_
                 refine zw 12 hC ?_
                 refine sim_dnarrow 13 rfl (by kernel_rfl) (fun _ _=>rfl) ?_
                 refine sim_call h c26 rfl (fun _ _ h _ _=>⟨rfl,h⟩) ?_;intro t107 w h
                 refine zn ?_
                 obtain ⟨C7,hs,hC,h⟩:=h
                 refine ⟨C7,hs,hC,?_⟩
                 refine ze 14 hC h fun t108 h=>?_
                 refine ze 15 hC h fun t109 h=>?_
                 obtain ⟨t110,hv,h⟩:=h
                 refine sim_dsilent 16 hC rfl (by kernel_rfl) (by kernel_rfl) (fun _ _=>rfl) rfl (Sw.qV_builtin rfl hv) ?_
                 refine ze 17 hC h fun t111 h=>?_
                 refine sim_dturn 18 1 rfl (by kernel_rfl) (by kernel_rfl) (fun _ _=>rfl) ?_
                 refine sim_unit h rfl rfl (fun _ _ h _ _=>⟨rfl,h⟩) ?_;intro w h
                 refine zn ?_
                 obtain ⟨C8,hC,h⟩:=h
                 refine ⟨C8,hC,?_⟩
                 refine sim_dend (by kernel_rfl) ?_
                 refine sim_block_normal<|zk<|zr<|zm ?_
                 refine zb h fun t93 w h=>?_
                 refine zm<|zn<|zk ?_
                 exact ⟨rfl,h⟩
               · refine sim_exit<|sim_then_exit<|sim_then_exit<|sim_block_hit<|zk<|zs<|zr<|zm<|zm ?_
                 refine zv h fun t114 w h=>?_
                 refine zv h fun t115 w h=>?_
                 refine zb h fun t116 w h=>?_
                 refine zv h fun t117 w h=>?_
                 refine zu h fun w h=>?_
                 refine zn<|zk<|zs<|zr<|zm<|zm ?_
                 refine zv h fun t120 w h=>?_
                 refine zv h fun t121 w h=>?_
                 refine zb h fun t122 w h=>?_
                 refine zn<|zk ?_
                 refine sim_cond h rfl (fun h=>?_) (fun h=>?_)
                 · refine zs<|zr<|zm ?_
                   refine sim_build h rfl (fun _ _ h=>⟨rfl,h⟩) ?_;intro t124 w h
                   refine zu h fun w h=>?_
                   refine zm<|zn<|zk<|sim_ret<|sim_block_ret<|sim_then_ret<|sim_then_ret<|sim_block_ret<|sim_then_ret ?_
                   exact body_retCT rfl rfl rfl h
                 · refine sim_skip<|sim_block_normal<|zk<|zr<|zm ?_
                   refine zb h fun t37 w h=>?_
                   refine zm<|zn<|zk ?_
                   exact ⟨rfl,h⟩
     · refine sim_exit<|sim_then_exit<|sim_then_exit<|sim_block_hit<|zk<|zs<|zs<|zr ?_
       refine zv h fun t125 w h=>?_
       refine zv h fun t126 w h=>?_
       refine zv h fun t127 w h=>?_
       refine zv h fun t128 w h=>?_
       refine zv h fun t129 w h=>?_
       refine zx h fun t130 w h=>?_
       refine zc h c26 fun t131 w h=>?_
       refine zb h fun t132 w h=>?_
       refine zn<|zk ?_
       refine sim_cond h rfl (fun h=>?_) (fun h=>?_)
       · refine zs<|zr ?_
         refine sim_build h rfl (fun _ _ h=>⟨rfl,h⟩) ?_;intro t133 w h
         refine zu h fun w h=>?_
         refine zm<|zn<|zk<|sim_ret<|sim_then_ret ?_
         exact body_retCT rfl rfl rfl h
       · refine sim_skip<|zk<|zs<|zr ?_
         refine sim_build h rfl (fun _ _ h=>⟨rfl,h⟩) ?_;intro t134 w h
         refine zu h fun w h=>?_
         refine zm<|zn<|zk<|sim_ret ?_
         exact body_retCT rfl rfl rfl h
def n49c1 (t7:Value) (R:RT) (w:World):Prop :=
 opV Pg (Instr.extract t7 0) (panK R) w fun t8 w =>
 opV Pg (Instr.extract t7 1) (panK R) w fun t9 w =>
 opV Pg (Instr.alloc 39 true (.tuple #[])) (panK R) w fun t3 w =>
 opU Pg (Instr.storeAt 39 t3 t8) (panK R) w fun w =>
 opV Pg (Op.unary .not t9) (panK R) w fun t11 w =>
 R (.returned t11) w
def n49 (t0:Value) (R:RT) (w:World):Prop :=
 opV Pg (Instr.box 24 t0) (panK R) w fun t1 w =>
 L0 24 t1 R w fun t6 w =>
 C0 13 #[t6] R w fun t7 w =>
 n49c1 t7 R w
theorem n49s {t0:Value} {R:RT} {w:World} (h:n49 t0 R w):Calls Pg 15 #[t0] w R:=by
 refine calls_of_den (args:=[t0]) Tryz.func15 rfl (Nat.le_of_ble_eq_true rfl) ?_
 unfold n49 at h
 refine zs<|zr ?_
 refine zv h fun t1 w h=>?_
 refine zm<|zn<|zk<|zs<|zr ?_
 refine zv h fun t6 w h=>?_
 refine zc h c13 fun t7 w h=>?_
 refine zm ?_
 refine zv h fun t8 w h=>?_
 refine zv h fun t9 w h=>?_
 refine zv h fun t3 w h=>?_
 refine zu h fun w h=>?_
 refine zm<|zn<|zk<|zs<|zr<|zm ?_
 refine zv h fun t11 w h=>?_
 refine zm<|zn<|zk<|sim_ret ?_
 exact body_ret1 rfl rfl h
end Go.Proofs.YtiajhbbmgglmlaaGreat
namespace Go.Proofs.YtiajhbbmgglmlaaGreat
open Sw
open Go.RowKit (intOf Below)
section
variable {w0:World}
abbrev flawOf (r:Int×Int×Int):Value:=flawVal r.1 r.2.1 r.2.2
abbrev flawedB (d:DefD):Bool:=decide ((checkP d).2.2≠0)
theorem Check_ret (v:Value) (d:DefD) (hd:DefVal w0 v d) (ht:calm d):Ret Pg 13 #[v] w0 fun r w'=>r = .tuple #[flawOf (checkP d),.bool (flawedB d)]∧Ext w0 w':=by
 obtain ⟨mv,rfl,hM⟩:=hd
 have hm1:=SliceOf.oneCell hM
 refine n37s (R:=retR _) ?_;unfold n37
 simp (disch:=try exact DI) only [↓PR,QR,Int.reduceBEq,Int.reduceBNe,Int.reduceLT,Int.reduceLE,Int.reduceGT,Int.reduceGE,Int.reduceNeg]
 refine callK_ret (examined_ret _ d ⟨mv,rfl,MsgsOf.ext hM ee⟩ ht) ?_
 rintro _ w1 ⟨e1,cb,rfl,_⟩
 have s1:=e1.size
 simp only [World.size_alloc] at s1
 have o2:=e1.obj (heap_new (w0.alloc (Obj.cells (defCells d mv).toArray 24)) #[.int .i64 0,.int .i64 0,.int .i64 0] 39)
 rw [World.size_alloc] at o2
 simp (disch:=try exact DI) only [↓PR,QR,Int.reduceBEq,Int.reduceBNe,Int.reduceLT,Int.reduceLE,Int.reduceGT,Int.reduceGE,Int.reduceNeg,↓n37c1,(cells_of_heap o2).1,(cells_of_heap o2).2]
 exact ⟨by first | trivial | rfl,ee⟩
theorem Valid_ret' (v:Value) (d:DefD) (hd:DefVal w0 v d) (ht:calm d):Ret Pg 15 #[v] w0 fun r w'=>r = .bool (!flawedB d)∧Ext w0 w':=by
 obtain ⟨mv,rfl,hM⟩:=hd
 have hm1:=SliceOf.oneCell hM
 refine n49s (R:=retR _) ?_;unfold n49
 simp (disch:=try exact DI) only [↓PR,QR,Int.reduceBEq,Int.reduceBNe,Int.reduceLT,Int.reduceLE,Int.reduceGT,Int.reduceGE,Int.reduceNeg]
 refine zcr (Check_ret _ d ⟨mv,rfl,MsgsOf.ext hM ee⟩ ht) fun w1 e1=>?_
 simp (disch:=try exact DI) only [↓PR,QR,Int.reduceBEq,Int.reduceBNe,Int.reduceLT,Int.reduceLE,Int.reduceGT,Int.reduceGE,Int.reduceNeg,↓n49c1]
 exact ⟨by first | trivial | rfl,ee⟩
theorem Depth1_ret {cb:Nat} {deps:List (ByteArray×Int)} {strs:List (ByteArray×Bool)} (h:CkE w0 cb deps strs):Ret Pg 22 #[.pointer (some ⟨cb,0,none⟩)] w0 fun r w'=>∃ md,r = .map (some md)∧MapOf w' md (vI deps)∧Ext w0 w':=by
 obtain ⟨md,ms,dn,mv,ds,at_,fld,mn,fv,h1,h2,h3⟩:=h
 refine n40s (R:=retR _) ?_;unfold n40
 simp (disch:=try exact DI) only [↓PR,QR,Int.reduceBEq,Int.reduceBNe,Int.reduceLT,Int.reduceLE,Int.reduceGT,Int.reduceGE,Int.reduceNeg,(cells_of_heap h1).1]
 exact ⟨md,rfl,h2,Ext.refl _⟩
def nameAt (d:DefD) (i:Int):ByteArray:=match d.msgs[i.toNat]? with
 | some m=>m.name
 | none=>ByteArray.empty
def depthP (d:DefD) (i:Int):Int×Int:=if (checkP d).2.2≠0 then (0,2) else if i < 0∨d.msgs.length≤i then (0,3) else ((lastP (depsOf d.msgs) (nameAt d i)).getD 0,0)
theorem of_int_ret (v:Value) (d:DefD) (i:Int) (hd:DefVal w0 v d) (ht:calm d):Ret Pg 21 #[v,.int .i64 i,.func (.func 22) #[] #[]] w0 fun r w'=>r = .tuple #[.int .i64 (depthP d i).1,.int .i64 (depthP d i).2]∧Ext w0 w':=by
 obtain ⟨mv,rfl,hM⟩:=hd
 have hm1:=SliceOf.oneCell hM
 refine n86s (R:=retR _) ?_;unfold n86
 simp (disch:=try exact DI) only [↓PR,QR,Int.reduceBEq,Int.reduceBNe,Int.reduceLT,Int.reduceLE,Int.reduceGT,Int.reduceGE,Int.reduceNeg]
 refine callK_ret (examined_ret _ d ⟨mv,rfl,MsgsOf.ext hM ee⟩ ht) ?_
 rintro _ w1 ⟨e1,cb,rfl,hck⟩
 have s1:=e1.size
 simp only [World.size_alloc] at s1
 have o1:=e1.obj (heap_new w0 (defCells d mv).toArray 24)
 unfold n86c3 depthP
 by_cases hf:(checkP d).2.2≠0
 · rw [if_pos hf,decide_eq_true hf]
   simp (disch:=try exact DI) only [↓PR,QR,Int.reduceBEq,Int.reduceBNe,Int.reduceLT,Int.reduceLE,Int.reduceGT,Int.reduceGE,Int.reduceNeg]
   exact ⟨by first | trivial | rfl,ee⟩
 · have h0:(checkP d).2.2=0:=Decidable.not_not.1 hf
   rw [if_neg hf,decide_eq_false hf]
   replace hck:=hck h0
   obtain ⟨A,c,rfl,hlc,hcm,hlm,hel⟩:=SliceOf.open hM
   have eA:Ext w0 w1:=ee
   have eB:Ext w1 (w1.alloc (Obj.cells #[.int .i64 (checkP d).1,.int .i64 (checkP d).2.1,.int .i64 (checkP d).2.2] 39)):=ee
   simp (disch:=try exact DI) only [↓PR,QR,Int.reduceBEq,Int.reduceBNe,Int.reduceLT,Int.reduceLE,Int.reduceGT,Int.reduceGE,Int.reduceNeg]
   have o1':=eB.obj o1
   have hck':=hck.go eB
   have eC:=eA.trans eB
   generalize (w1.alloc (Obj.cells #[.int .i64 (checkP d).1,.int .i64 (checkP d).2.1,.int .i64 (checkP d).2.2] 39))=w2 at o1' hck' eC ⊢
   unfold n86c2
   by_cases hi:i < 0
   · rw [if_pos (.inl hi)]
     have d1:decide (i < 0)=true:=decide_eq_true hi
     simp (disch:=try exact DI) only [↓PR,QR,Int.reduceBEq,Int.reduceBNe,Int.reduceLT,Int.reduceLE,Int.reduceGT,Int.reduceGE,Int.reduceNeg,d1]
     exact ⟨by first | trivial | rfl,ee⟩
   · have d1:decide (i < 0)=false:=decide_eq_false hi
     by_cases hj:(d.msgs.length:Int)≤i
     · rw [if_pos (.inr hj)]
       have d2:decide (i≥(d.msgs.length:Int))=true:=decide_eq_true hj
       simp (disch:=try exact DI) only [↓PR,QR,Int.reduceBEq,Int.reduceBNe,Int.reduceLT,Int.reduceLE,Int.reduceGT,Int.reduceGE,Int.reduceNeg,d1,d2,(cells_of_heap o1').1]
       exact ⟨by first | trivial | rfl,ee⟩
     · rw [if_neg (by omega)]
       have d2:decide (i≥(d.msgs.length:Int))=false:=decide_eq_false hj
       simp (disch:=try exact DI) only [↓PR,QR,Int.reduceBEq,Int.reduceBNe,Int.reduceLT,Int.reduceLE,Int.reduceGT,Int.reduceGE,Int.reduceNeg,d1,d2,(cells_of_heap o1').1]
       obtain ⟨k,rfl⟩:∃ k:Nat,i=k:=⟨i.toNat,by omega⟩
       have hk:k < d.msgs.length:=by omega
       obtain ⟨m,hm⟩:=getElem?_lt hk
       obtain ⟨b,o,cs,rfl,hl,hA,fv,rfl,hF⟩:=hel k m hm
       have hnm:nameAt d k=m.name:=by unfold nameAt;rw [Int.toNat_natCast,hm]
       rw [hnm]
       refine drawK_intro ?_
       have eD:Ext w2 w2.drew:=(Ext.refl w2).wdrew
       unfold n86c1
       simp (disch:=try exact DI) only [↓PR,QR,Int.reduceBEq,Int.reduceBNe,Int.reduceLT,Int.reduceLE,Int.reduceGT,Int.reduceGE,Int.reduceNeg,(cells_of_heap o1').1,(hA.c2 eC).1]
       rw [callV_func c22]
       simp only [Array.empty_append,Array.append_empty]
       refine callK_ret (Depth1_ret (hck'.go eD)) ?_
       rintro _ w4 ⟨md,rfl,hmd,e4⟩
       refine narrowK_EC e4 ?_
       rw [qV_lookup1E Tryz.underlying62 Tryz.underlying9 ty3 hmd m.name]
       have hg:(lastOf (vI (depsOf d.msgs)) m.name).getD (.int .i64 0) = .int .i64 ((lastP (depsOf d.msgs) m.name).getD 0):=by rw [lastOf_vI];cases lastP (depsOf d.msgs) m.name<;>rfl
       rw [hg]
       simp (disch:=try exact DI) only [↓PR,QR,Int.reduceBEq,Int.reduceBNe,Int.reduceLT,Int.reduceLE,Int.reduceGT,Int.reduceGE,Int.reduceNeg]
       exact ⟨by first | trivial | rfl,ee⟩
theorem Depth_ret (v:Value) (d:DefD) (i:Int) (hd:DefVal w0 v d) (ht:calm d):Ret Pg 7 #[v,.int .i64 i] w0 fun r w'=>r = .tuple #[.int .i64 (depthP d i).1,.int .i64 (depthP d i).2]∧Ext w0 w':=by
 obtain ⟨mv,rfl,hM⟩:=hd
 have hm1:=SliceOf.oneCell hM
 refine n39s (R:=retR _) ?_;unfold n39
 simp (disch:=try exact DI) only [↓PR,QR,Int.reduceBEq,Int.reduceBNe,Int.reduceLT,Int.reduceLE,Int.reduceGT,Int.reduceGE,Int.reduceNeg]
 refine zcr (of_int_ret _ d i ⟨mv,rfl,MsgsOf.ext hM ee⟩ ht) fun w1 e1=>?_
 simp (disch:=try exact DI) only [↓PR,QR,Int.reduceBEq,Int.reduceBNe,Int.reduceLT,Int.reduceLE,Int.reduceGT,Int.reduceGE,Int.reduceNeg]
 exact ⟨by first | trivial | rfl,ee⟩
end
end Go.Proofs.YtiajhbbmgglmlaaGreat
namespace Go.Proofs.YtiajhbbmgglmlaaGreat
open Sw
open Go.RowKit (intOf Below)
def twoF0:FieldD:={ name:=⟨#[110]⟩,kind:=1,bits:=8,little:=false,loose:=false,low:=0,high:=255,base:=0,terms:=[],of:=ByteArray.empty,tag:=ByteArray.empty,fr:=ByteArray.empty,cases:=[],check:=0,key:=0 }
def twoF1:FieldD:={ name:=⟨#[98]⟩,kind:=4,bits:=0,little:=false,loose:=false,low:=0,high:=0,base:=0,terms:=[⟨⟨#[110]⟩,1⟩],of:=ByteArray.empty,tag:=ByteArray.empty,fr:=ByteArray.empty,cases:=[],check:=0,key:=0 }
def twoF2:FieldD:={ name:=⟨#[108]⟩,kind:=7,bits:=0,little:=false,loose:=false,low:=0,high:=0,base:=0,terms:=[],of:=⟨#[109]⟩,tag:=ByteArray.empty,fr:=ByteArray.empty,cases:=[],check:=0,key:=0 }
def twoD (start:ByteArray) (l:List FieldD):DefD:=⟨⟨#[100]⟩,[⟨⟨#[109]⟩,l⟩],start⟩
theorem chk_a:checkP (twoD ⟨#[120]⟩ [twoF0,twoF1])=(-1,-1,11):=by decide
theorem chk_b:checkP (twoD ⟨#[109]⟩ [{ twoF0 with high:=256 },twoF1])=(0,0,7):=by decide
theorem chk_c:checkP (twoD ⟨#[109]⟩ [twoF0,{ twoF1 with base := -1 }])=(0,1,9):=by decide
theorem chk_e:checkP (twoD ⟨#[109]⟩ [twoF0,{ twoF1 with name:=⟨#[110]⟩ }])=(0,1,2):=by decide
theorem chk_f:checkP (twoD ⟨#[109]⟩ [twoF0,{ twoF1 with bits:=8 }])=(0,1,5):=by decide
theorem chk_g:checkP (twoD ⟨#[109]⟩ [twoF0,twoF1,twoF2])=(0,2,8):=by decide
def TwoAt (w:World) (bt bf bm:Nat) (f0 f1:FieldD):Prop :=
 w.heap[bm]?=some (.cells #[.string ⟨#[109]⟩,.slice (some ⟨bf,0,none⟩) 2 2] 45 (0,0)) ∧
 w.heap[bf]?=some (.cells (fieldCells f0 (.slice none 0 0) (.slice none 0 0)++fieldCells f1 (.slice (some ⟨bt,0,none⟩) 1 1) (.slice none 0 0)).toArray 52 (0,0)) ∧
 w.heap[bt]?=some (.cells #[.string ⟨#[110]⟩,.int .i64 1] 78 (0,0))
abbrev twoVal (start:ByteArray) (bm:Nat):Value := .agg #[.string ⟨#[100]⟩,.slice (some ⟨bm,0,none⟩) 1 1,.string start]
theorem TwoAt.go {w w':World} {bt bf bm:Nat} {f0 f1:FieldD} (h:TwoAt w bt bf bm f0 f1) (e:Ext w w'):TwoAt w' bt bf bm f0 f1:=⟨e.obj h.1,e.obj h.2.1,e.obj h.2.2⟩
theorem TwoAt.same {w w':World} {bt bf bm:Nat} {f0 f1:FieldD} (h:TwoAt w bt bf bm f0 f1) (e:∀ b,b=bt∨b=bf∨b=bm→w'.heap[b]?=w.heap[b]?):TwoAt w' bt bf bm f0 f1:=⟨(e bm (by simp)).trans h.1,(e bf (by simp)).trans h.2.1,(e bt (by simp)).trans h.2.2⟩
theorem TwoAt.other {w:World} {bt bf bm b o:Nat} {f0 f1:FieldD} (h:TwoAt w bt bf bm f0 f1) (h1:b≠bt) (h2:b≠bf) (h3:b≠bm) (v:Value):TwoAt (w.setCell ⟨b,o,none⟩ v) bt bf bm f0 f1 :=
 h.same fun b' hb'=>Only.setCell w b o v b' (by rcases hb' with rfl | rfl | rfl<;>exact fun e=>by omega)
theorem TwoAt.turn {w:World} {bt bf bm o:Nat} {f0 f1 g0 g1:FieldD} (h:TwoAt w bt bf bm f0 f1) (h1:bf≠bt) (h2:bf≠bm) (v:Value)
 (hv:(fieldCells f0 (.slice none 0 0) (.slice none 0 0)++fieldCells f1 (.slice (some ⟨bt,0,none⟩) 1 1) (.slice none 0 0)).set o v=fieldCells g0 (.slice none 0 0) (.slice none 0 0)++fieldCells g1 (.slice (some ⟨bt,0,none⟩) 1 1) (.slice none 0 0)):TwoAt (w.setCell ⟨bf,o,none⟩ v) bt bf bm g0 g1:=by
 refine ⟨(Only.setCell w bf o v bm (fun e=>h2 e.symm)).trans h.1,?_,(Only.setCell w bf o v bt (fun e=>h1 e.symm)).trans h.2.2⟩
 rw [heap_set h.2.1,List.setIfInBounds_toArray,hv]
theorem TwoAt.msgs {w:World} {bt bf bm:Nat} {f0 f1:FieldD} (h:TwoAt w bt bf bm f0 f1) (h0:f0.terms=[]∧f0.cases=[]) (h1:f1.terms=[⟨⟨#[110]⟩,1⟩]∧f1.cases=[]):MsgsOf w (.slice (some ⟨bm,0,none⟩) 1 1) [⟨⟨#[109]⟩,[f0,f1]⟩]:=by
 obtain ⟨a1,a2,a3⟩:=h
 refine ⟨_,1,rfl,by simp,by simp,fun _=>⟨bm,0,rfl,fun k x hx=>?_⟩⟩
 cases k with
 | succ k=>simp at hx
 | zero =>
  simp at hx;subst hx
  refine ⟨[.string ⟨#[109]⟩,.slice (some ⟨bf,0,none⟩) 2 2],rfl,fun j v hv=>?_,_,rfl,?_⟩
  · rw [(cells_of_heap a1).1];simpa using hv
  · refine ⟨_,2,rfl,by simp,by simp,fun _=>⟨bf,0,rfl,fun k x hx=>?_⟩⟩
    cases k with
    | zero =>
     simp at hx;subst hx
     refine ⟨fieldCells f0 (.slice none 0 0) (.slice none 0 0),rfl,fun j v hv=>?_,_,_,rfl,?_,?_⟩
     · rw [(cells_of_heap a2).1]
       have:j < 15:=(List.getElem?_eq_some_iff.1 hv).1
       rw [List.getElem?_toArray,show 0+0*15+j=j by omega,List.getElem?_append_left (by simpa using this)];exact hv
     · rw [h0.1];exact SliceOf.nil _ _ _
     · rw [h0.2];exact SliceOf.nil _ _ _
    | succ k =>
     cases k with
     | succ k=>simp at hx
     | zero =>
      simp at hx;subst hx
      refine ⟨fieldCells f1 (.slice (some ⟨bt,0,none⟩) 1 1) (.slice none 0 0),rfl,fun j v hv=>?_,_,_,rfl,?_,?_⟩
      · rw [(cells_of_heap a2).1]
        rw [List.getElem?_toArray,show 0+(0+1)*15+j=15+j by omega,List.getElem?_append_right (by simp),List.length_cons];simpa using hv
      · rw [h1.1]
        refine ⟨_,1,rfl,by decide,by decide,fun _=>⟨bt,0,rfl,fun k x hx=>?_⟩⟩
        cases k with
        | succ k=>simp at hx
        | zero =>
         simp at hx;subst hx
         exact ⟨[.string ⟨#[110]⟩,.int .i64 1],rfl,fun j v hv=>by rw [(cells_of_heap a3).1];simpa using hv,rfl⟩
      · rw [h1.2];exact SliceOf.nil _ _ _
theorem TwoAt.val {w:World} {bt bf bm:Nat} {f0 f1:FieldD} (h:TwoAt w bt bf bm f0 f1) (h0:f0.terms=[]∧f0.cases=[]) (h1:f1.terms=[⟨⟨#[110]⟩,1⟩]∧f1.cases=[]) (start:ByteArray):DefVal w (twoVal start bm) (twoD start [f0,f1]):=⟨_,rfl,h.msgs h0 h1⟩
theorem two_ret (w0:World):Ret Pg 17 #[] w0 fun r w'=>∃ bt bf bm,r=twoVal ⟨#[109]⟩ bm∧w0.heap.size≤bt∧bt < bf∧bf < bm∧bm < w'.heap.size∧TwoAt w' bt bf bm twoF0 twoF1∧Ext w0 w':=by
 refine n8s (R:=retR _) ?_;unfold n8
 simp (disch:=try exact DI) only [↓PR,QR,Int.reduceBEq,Int.reduceBNe,Int.reduceLT,Int.reduceLE,Int.reduceGT,Int.reduceGE,Int.reduceNeg]
 refine ⟨w0.heap.size+1,w0.heap.size+1+1,w0.heap.size+1+1+1,rfl,by omega,by omega,by omega,by omega,⟨?_,?_,?_⟩,ee⟩
 · simp (disch:=try exact DI) only [↓PR,QR,Int.reduceBEq,Int.reduceBNe,Int.reduceLT,Int.reduceLE,Int.reduceGT,Int.reduceGE,Int.reduceNeg]
 · simp (disch:=try exact DI) only [↓PR,QR,Int.reduceBEq,Int.reduceBNe,Int.reduceLT,Int.reduceLE,Int.reduceGT,Int.reduceGE,Int.reduceNeg]
   rfl
 · simp (disch:=try exact DI) only [↓PR,QR,Int.reduceBEq,Int.reduceBNe,Int.reduceLT,Int.reduceLE,Int.reduceGT,Int.reduceGE,Int.reduceNeg]
theorem flawed_ret {w0:World} (v:Value) (d:DefD) (a f c:Int) (hd:DefVal w0 v d) (ht:calm d):Ret Pg 18 #[v,.int .i64 a,.int .i64 f,.int .i64 c] w0 fun r w'=>r = .bool (flawedB d&&(decide ((checkP d).1=a)&&(decide ((checkP d).2.1=f)&&decide ((checkP d).2.2=c))))∧Ext w0 w':=by
 obtain ⟨mv,rfl,hM⟩:=hd
 have hm1:=SliceOf.oneCell hM
 refine n6s (R:=retR _) ?_;unfold n6
 simp (disch:=try exact DI) only [↓PR,QR,Int.reduceBEq,Int.reduceBNe,Int.reduceLT,Int.reduceLE,Int.reduceGT,Int.reduceGE,Int.reduceNeg]
 refine zcr (Check_ret _ d ⟨mv,rfl,MsgsOf.ext hM ee⟩ ht) fun w1 e1=>?_
 generalize flawedB d=b
 unfold n6c1
 cases b with
 | false =>
  simp (disch:=try exact DI) only [↓PR,QR,Int.reduceBEq,Int.reduceBNe,Int.reduceLT,Int.reduceLE,Int.reduceGT,Int.reduceGE,Int.reduceNeg]
  exact ⟨by first | trivial | rfl,ee⟩
 | true =>
  simp (disch:=try exact DI) only [↓PR,QR,Int.reduceBEq,Int.reduceBNe,Int.reduceLT,Int.reduceLE,Int.reduceGT,Int.reduceGE,Int.reduceNeg]
  exact ⟨by first | trivial | rfl,ee⟩
end Go.Proofs.YtiajhbbmgglmlaaGreat
namespace Go.Proofs.YtiajhbbmgglmlaaGreat
open Sw
open Go.RowKit (intOf Below)
theorem known_head (w0:World) (R:RT) (h:∀ (w:World) (bt1 bf1 bm1 bt2 bf2 bm2 bt3 bf3 bm3 bt4 bf4 bm4 bt5 bf5 bm5 bt6 bf6 bm6:Nat),
 w0.heap.size≤bt1→bt1 < bf1→bf1 < bm1→bm1 < bt2→bt2 < bf2→bf2 < bm2→bm2 < bt3→bt3 < bf3→bf3 < bm3→bm3 < bt4→bt4 < bf4→bf4 < bm4→bm4 < bt5→bt5 < bf5→bf5 < bm5→bm5 < bt6→bt6 < bf6→bf6 < bm6→bm6 < w.heap.size→Ext w0 w →
 TwoAt w bt1 bf1 bm1 twoF0 twoF1→TwoAt w bt2 bf2 bm2 twoF0 twoF1→TwoAt w bt3 bf3 bm3 twoF0 twoF1→TwoAt w bt4 bf4 bm4 twoF0 twoF1→TwoAt w bt5 bf5 bm5 twoF0 twoF1→TwoAt w bt6 bf6 bm6 twoF0 twoF1 →
 n7c18 (twoVal ⟨#[109]⟩ bm1) (twoVal ⟨#[109]⟩ bm2) (twoVal ⟨#[109]⟩ bm3) (twoVal ⟨#[109]⟩ bm4) (twoVal ⟨#[109]⟩ bm5) (twoVal ⟨#[109]⟩ bm6) R w):n7 R w0:=by
 unfold n7
 refine callK_ret (two_ret _) ?_
 rintro _ w1 ⟨bt1,bf1,bm1,rfl,a1,b1,c1,d1,h1,e1⟩
 refine callK_ret (two_ret _) ?_
 rintro _ w2 ⟨bt2,bf2,bm2,rfl,a2,b2,c2,d2,h2,e2⟩
 refine callK_ret (two_ret _) ?_
 rintro _ w3 ⟨bt3,bf3,bm3,rfl,a3,b3,c3,d3,h3,e3⟩
 unfold n7c19
 refine callK_ret (two_ret _) ?_
 rintro _ w4 ⟨bt4,bf4,bm4,rfl,a4,b4,c4,d4,h4,e4⟩
 refine callK_ret (two_ret _) ?_
 rintro _ w5 ⟨bt5,bf5,bm5,rfl,a5,b5,c5,d5,h5,e5⟩
 refine callK_ret (two_ret _) ?_
 rintro _ w6 ⟨bt6,bf6,bm6,rfl,a6,b6,c6,d6,h6,e6⟩
 have e56:=e6
 have e46:=e5.trans e56
 have e36:=e4.trans e46
 have e26:=e3.trans e36
 have e16:=e2.trans e26
 exact h w6 bt1 bf1 bm1 bt2 bf2 bm2 bt3 bf3 bm3 bt4 bf4 bm4 bt5 bf5 bm5 bt6 bf6 bm6 a1 b1 c1 (by omega) b2 c2 (by omega) b3 c3 (by omega) b4 c4 (by omega) b5 c5 (by omega) b6 c6 d6 (e1.trans e16) (h1.go e16) (h2.go e26) (h3.go e36) (h4.go e46) (h5.go e56) h6
theorem idxM {w:World} {QP:List PanicEntry→World→Prop} {k:Value→World→Prop} (b:Nat):opV Pg (Instr.indexAt 22 (.slice (some ⟨b,0,none⟩) 1 1) (.int .i64 0)) QP w k=k (.pointer (some ⟨b,0,none⟩)) w:=op_indexN Tryz.underlying22 ty45 b 0 1 1 .i64 0 (by decide)
theorem idxF0 {w:World} {QP:List PanicEntry→World→Prop} {k:Value→World→Prop} (b:Nat):opV Pg (Instr.indexAt 43 (.slice (some ⟨b,0,none⟩) 2 2) (.int .i64 0)) QP w k=k (.pointer (some ⟨b,0,none⟩)) w:=op_indexN Tryz.underlying43 ty52 b 0 2 2 .i64 0 (by decide)
theorem idxF1 {w:World} {QP:List PanicEntry→World→Prop} {k:Value→World→Prop} (b:Nat):opV Pg (Instr.indexAt 43 (.slice (some ⟨b,0,none⟩) 2 2) (.int .i64 1)) QP w k=k (.pointer (some ⟨b,15,none⟩)) w:=by
 rw [op_indexAt Tryz.underlying43 ty52 b 0 2 2 .i64 1 (by decide) (by decide)]
 rfl
theorem qidxM {C:World→Prop} [ClassNe C] {k:Value→Prop} (b:Nat):qV Pg C (Instr.indexAt 22 (.slice (some ⟨b,0,none⟩) 1 1) (.int .i64 0)) k=k (.pointer (some ⟨b,0,none⟩)):=qV_of fun _ _ _=>idxM b
def twoB:FieldD:={ twoF0 with high:=256 }
def twoC:FieldD:={ twoF1 with base := -1 }
def twoE:FieldD:={ twoF1 with name:=⟨#[110]⟩ }
def twoG:FieldD:={ twoF1 with bits:=8 }
def DefAt (w:World) (p:Nat) (start:ByteArray) (bm:Nat):Prop:=w.heap[p]?=some (.cells #[.string ⟨#[100]⟩,.slice (some ⟨bm,0,none⟩) 1 1,.string start] 24 (0,0))
theorem flawed_true {w0:World} {v:Value} {d:DefD} {a f c:Int} (hd:DefVal w0 v d) (ht:calm d) (h:checkP d=(a,f,c)) (h0:c≠0):Ret Pg 18 #[v,.int .i64 a,.int .i64 f,.int .i64 c] w0 fun r w'=>r = .bool true∧Ext w0 w':=by
 have:=flawed_ret v d a f c hd ht
 rw [show (flawedB d&&(decide ((checkP d).1=a)&&(decide ((checkP d).2.1=f)&&decide ((checkP d).2.2=c))))=true by unfold flawedB;rw [h];simp [h0]] at this
 exact this
def padF:FieldD:={ name:=ByteArray.empty,kind:=10,bits:=0,little:=false,loose:=false,low:=0,high:=0,base:=0,terms:=[],of:=ByteArray.empty,tag:=ByteArray.empty,fr:=ByteArray.empty,cases:=[],check:=0,key:=0 }
theorem calm_two (s:ByteArray) (l:List FieldD) (hl:(allRefs l).length≤1048576∧∀ f∈l,f.terms.length≤1048576):calm (twoD s l):=by
 intro m hm
 simp only [twoD,List.mem_singleton] at hm
 subst hm
 exact hl
theorem known_end {w0 X:World} {bm1 bm2 bm3 bm4 bm5 bm6 p1 p2 p3 p4 p5 p6:Nat} (e:Ext w0 X) (v1:DefVal X (twoVal ⟨#[120]⟩ bm1) (twoD ⟨#[120]⟩ [twoF0,twoF1])) (v2:DefVal X (twoVal ⟨#[109]⟩ bm2) (twoD ⟨#[109]⟩ [twoB,twoF1])) (v3:DefVal X (twoVal ⟨#[109]⟩ bm3) (twoD ⟨#[109]⟩ [twoF0,twoC])) (v4:DefVal X (twoVal ⟨#[109]⟩ bm4) (twoD ⟨#[109]⟩ [twoF0,twoE])) (v5:DefVal X (twoVal ⟨#[109]⟩ bm5) (twoD ⟨#[109]⟩ [twoF0,twoG])) (v6:DefVal X (twoVal ⟨#[109]⟩ bm6) (twoD ⟨#[109]⟩ [twoF0,twoF1,twoF2]))
 (q1:DefAt X p1 ⟨#[120]⟩ bm1) (q2:DefAt X p2 ⟨#[109]⟩ bm2) (q3:DefAt X p3 ⟨#[109]⟩ bm3) (q4:DefAt X p4 ⟨#[109]⟩ bm4) (q5:DefAt X p5 ⟨#[109]⟩ bm5) (q6:DefAt X p6 ⟨#[109]⟩ bm6) :
 callK Pg 17 #[] (panK (retR fun r w'=>r = .bool true∧Ext w0 w')) X (fun t60 w=>callK Pg 15 #[t60] (panK (retR fun r w'=>r = .bool true∧Ext w0 w')) w (fun t61 w=>n7c15 (.pointer (some ⟨p1,0,none⟩)) (.pointer (some ⟨p2,0,none⟩)) (.pointer (some ⟨p3,0,none⟩)) (.pointer (some ⟨p4,0,none⟩)) (.pointer (some ⟨p5,0,none⟩)) (.pointer (some ⟨p6,0,none⟩)) t61 (retR fun r w'=>r = .bool true∧Ext w0 w') w)):=by
 refine callK_ret (two_ret _) ?_
 rintro _ w1 ⟨bt,bf,bm,rfl,_,_,_,_,h,e1⟩
 refine zcr (Valid_ret' _ _ (h.val ⟨rfl,rfl⟩ ⟨rfl,rfl⟩ _) (calm_two _ _ (by decide))) fun w2 e2=>?_
 have E2:=e1.trans e2
 rw [show (!flawedB (twoD ⟨#[109]⟩ [twoF0,twoF1]))=true by decide]
 unfold n7c15
 simp (disch:=try exact DI) only [↓PR,QR,Int.reduceBEq,Int.reduceBNe,Int.reduceLT,Int.reduceLE,Int.reduceGT,Int.reduceGE,Int.reduceNeg,(cells_of_heap (E2.obj q1)).1]
 refine zcr (flawed_true (v1.ext E2) (calm_two _ _ (by decide)) chk_a (by decide)) fun w3 e3=>?_
 have E3:=E2.trans e3
 simp (disch:=try exact DI) only [↓PR,QR,Int.reduceBEq,Int.reduceBNe,Int.reduceLT,Int.reduceLE,Int.reduceGT,Int.reduceGE,Int.reduceNeg]
 unfold n7c14
 simp (disch:=try exact DI) only [↓PR,QR,Int.reduceBEq,Int.reduceBNe,Int.reduceLT,Int.reduceLE,Int.reduceGT,Int.reduceGE,Int.reduceNeg,(cells_of_heap (E3.obj q2)).1]
 refine zcr (flawed_true (v2.ext E3) (calm_two _ _ (by decide)) chk_b (by decide)) fun w4 e4=>?_
 have E4:=E3.trans e4
 simp (disch:=try exact DI) only [↓PR,QR,Int.reduceBEq,Int.reduceBNe,Int.reduceLT,Int.reduceLE,Int.reduceGT,Int.reduceGE,Int.reduceNeg]
 unfold n7c13
 simp (disch:=try exact DI) only [↓PR,QR,Int.reduceBEq,Int.reduceBNe,Int.reduceLT,Int.reduceLE,Int.reduceGT,Int.reduceGE,Int.reduceNeg,(cells_of_heap (E4.obj q3)).1]
 refine zcr (flawed_true (v3.ext E4) (calm_two _ _ (by decide)) chk_c (by decide)) fun w5 e5=>?_
 have E5:=E4.trans e5
 simp (disch:=try exact DI) only [↓PR,QR,Int.reduceBEq,Int.reduceBNe,Int.reduceLT,Int.reduceLE,Int.reduceGT,Int.reduceGE,Int.reduceNeg]
 unfold n7c12
 simp (disch:=try exact DI) only [↓PR,QR,Int.reduceBEq,Int.reduceBNe,Int.reduceLT,Int.reduceLE,Int.reduceGT,Int.reduceGE,Int.reduceNeg,(cells_of_heap (E5.obj q4)).1]
 refine zcr (flawed_true (v4.ext E5) (calm_two _ _ (by decide)) chk_e (by decide)) fun w6 e6=>?_
 have E6:=E5.trans e6
 simp (disch:=try exact DI) only [↓PR,QR,Int.reduceBEq,Int.reduceBNe,Int.reduceLT,Int.reduceLE,Int.reduceGT,Int.reduceGE,Int.reduceNeg]
 unfold n7c11
 simp (disch:=try exact DI) only [↓PR,QR,Int.reduceBEq,Int.reduceBNe,Int.reduceLT,Int.reduceLE,Int.reduceGT,Int.reduceGE,Int.reduceNeg,(cells_of_heap (E6.obj q5)).1]
 refine zcr (flawed_true (v5.ext E6) (calm_two _ _ (by decide)) chk_f (by decide)) fun w7 e7=>?_
 have E7:=E6.trans e7
 simp (disch:=try exact DI) only [↓PR,QR,Int.reduceBEq,Int.reduceBNe,Int.reduceLT,Int.reduceLE,Int.reduceGT,Int.reduceGE,Int.reduceNeg]
 unfold n7c10
 simp (disch:=try exact DI) only [↓PR,QR,Int.reduceBEq,Int.reduceBNe,Int.reduceLT,Int.reduceLE,Int.reduceGT,Int.reduceGE,Int.reduceNeg,(cells_of_heap (E7.obj q6)).1]
 refine zcr (flawed_true (v6.ext E7) (calm_two _ _ (by decide)) chk_g (by decide)) fun w8 e8=>?_
 have E8:=E7.trans e8
 simp (disch:=try exact DI) only [↓PR,QR,Int.reduceBEq,Int.reduceBNe,Int.reduceLT,Int.reduceLE,Int.reduceGT,Int.reduceGE,Int.reduceNeg]
 unfold n7c9
 simp (disch:=try exact DI) only [↓PR,QR,Int.reduceBEq,Int.reduceBNe,Int.reduceLT,Int.reduceLE,Int.reduceGT,Int.reduceGE,Int.reduceNeg]
 refine callK_ret (two_ret _) ?_
 rintro _ w9 ⟨bt,bf,bm,rfl,_,_,_,_,h,e9⟩
 refine zcr (Depth_ret _ _ 0 (h.val ⟨rfl,rfl⟩ ⟨rfl,rfl⟩ _) (calm_two _ _ (by decide))) fun w10 e10=>?_
 rw [show depthP (twoD ⟨#[109]⟩ [twoF0,twoF1]) 0=(1,0) by decide]
 unfold n7c8
 simp (disch:=try exact DI) only [↓PR,QR,Int.reduceBEq,Int.reduceBNe,Int.reduceLT,Int.reduceLE,Int.reduceGT,Int.reduceGE,Int.reduceNeg]
 refine callK_ret (two_ret _) ?_
 rintro _ w11 ⟨bt,bf,bm,rfl,_,_,_,_,h,e11⟩
 refine zcr (Depth_ret _ _ 1 (h.val ⟨rfl,rfl⟩ ⟨rfl,rfl⟩ _) (calm_two _ _ (by decide))) fun w12 e12=>?_
 rw [show depthP (twoD ⟨#[109]⟩ [twoF0,twoF1]) 1=(0,3) by decide]
 unfold n7c7
 simp (disch:=try exact DI) only [↓PR,QR,Int.reduceBEq,Int.reduceBNe,Int.reduceLT,Int.reduceLE,Int.reduceGT,Int.reduceGE,Int.reduceNeg]
 refine callK_ret (two_ret _) ?_
 rintro _ w13 ⟨bt,bf,bm,rfl,_,_,_,_,h,e13⟩
 unfold n7c6
 simp (disch:=try exact DI) only [↓PR,QR,Int.reduceBEq,Int.reduceBNe,Int.reduceLT,Int.reduceLE,Int.reduceGT,Int.reduceGE,Int.reduceNeg,↓idxM,(cells_of_heap h.1).1]
 obtain ⟨mv,hmv,hM⟩:=h.val ⟨rfl,rfl⟩ ⟨rfl,rfl⟩ ⟨#[109]⟩
 have hm1:MsgVal w13 (.agg #[.string ⟨#[109]⟩,.slice (some ⟨bf,0,none⟩) 2 2]) ⟨⟨#[109]⟩,[twoF0,twoF1]⟩:=by
  obtain ⟨A,c,hA,_,_,_,hel⟩:=SliceOf.open (h.msgs ⟨rfl,rfl⟩ ⟨rfl,rfl⟩)
  injection hA with hA
  obtain ⟨b,o,cs,h1,h2,h3,fv,rfl,h5⟩:=hel 0 _ rfl
  rw [← hA] at h1
  injection h1 with h1
  injection h1 with h6 h7
  subst h6 h7
  have h8:=h3 1 _ rfl
  rw [(cells_of_heap h.1).1] at h8
  simp at h8
  subst h8
  exact ⟨_,rfl,h5⟩
 refine callK_ret (Ranges_ret _ _ _ hm1) ?_
 rintro _ w14 ⟨md,rfl,_,hmd,e14⟩
 have hnp:numPairs [twoF0,twoF1]=[(⟨#[110]⟩,rangeVal 0 255)]:=by rw [numPairs_RP];rfl
 rw [show (⟨⟨#[109]⟩,[twoF0,twoF1]⟩:MsgD).fields=[twoF0,twoF1] from rfl,hnp] at hmd
 have hE14:Ext w0 w14:=ee
 unfold n7c5
 simp (disch:=try exact DI) only [↓PR,QR,Int.reduceBEq,Int.reduceBNe,Int.reduceLT,Int.reduceLE,Int.reduceGT,Int.reduceGE,Int.reduceNeg,↓n7c1,↓n7c2,↓n7c3,↓n7c4,↓n7c5,↓n7c6,↓n7c7,↓n7c8,↓n7c9,↓n7c10,↓n7c11,↓n7c12,↓n7c13,↓n7c14,↓n7c15,↓n7c16,↓n7c17,↓n7c18,↓n7c19]
 rw [op_lenO Tryz.underlying55 hmd]
 rw [show (bld [((⟨#[110]⟩:ByteArray),rangeVal 0 255)]).1.length=1 by decide]
 simp (disch:=try exact DI) only [↓PR,QR,Int.reduceBEq,Int.reduceBNe,Int.reduceLT,Int.reduceLE,Int.reduceGT,Int.reduceGE,Int.reduceNeg,↓n7c1,↓n7c2,↓n7c3,↓n7c4,↓n7c5,↓n7c6,↓n7c7,↓n7c8,↓n7c9,↓n7c10,↓n7c11,↓n7c12,↓n7c13,↓n7c14,↓n7c15,↓n7c16,↓n7c17,↓n7c18,↓n7c19]
 rw [op_lookup1O Tryz.underlying55 Tryz.underlying9 ty58 hmd ⟨#[110]⟩]
 rw [show (lastOf [((⟨#[110]⟩:ByteArray),rangeVal 0 255)] ⟨#[110]⟩)=some (rangeVal 0 255) by rw [show [((⟨#[110]⟩:ByteArray),rangeVal 0 255)]=RP [(⟨#[110]⟩,0,255)] from rfl,lastOf_RP];rfl]
 simp (disch:=try exact DI) only [↓PR,QR,Int.reduceBEq,Int.reduceBNe,Int.reduceLT,Int.reduceLE,Int.reduceGT,Int.reduceGE,Int.reduceNeg,↓n7c1,↓n7c2,↓n7c3,↓n7c4,↓n7c5,↓n7c6,↓n7c7,↓n7c8,↓n7c9,↓n7c10,↓n7c11,↓n7c12,↓n7c13,↓n7c14,↓n7c15,↓n7c16,↓n7c17,↓n7c18,↓n7c19]
 rw [show ((((1:Nat):Int)) == 1)=true from rfl]
 simp (disch:=try exact DI) only [↓PR,QR,Int.reduceBEq,Int.reduceBNe,Int.reduceLT,Int.reduceLE,Int.reduceGT,Int.reduceGE,Int.reduceNeg]
 refine zcr (HasValue_ret _ _ padF ⟨_,_,rfl,SliceOf.nil _ _ _,SliceOf.nil _ _ _⟩) fun w15 e15=>?_
 rw [show hasValueB padF=false from rfl]
 simp (disch:=try exact DI) only [↓PR,QR,Int.reduceBEq,Int.reduceBNe,Int.reduceLT,Int.reduceLE,Int.reduceGT,Int.reduceGE,Int.reduceNeg]
 exact ⟨trivial,hE14.trans e15⟩
theorem known_mid {w0 W:World} {bt1 bf1 bm1 bt2 bf2 bm2 bt3 bf3 bm3 bt4 bf4 bm4 bt5 bf5 bm5 bt6 bf6 bm6 p1 p2 p3 p4 p5 p6:Nat} (e:Ext w0 W) (h1:TwoAt W bt1 bf1 bm1 twoF0 twoF1) (h2:TwoAt W bt2 bf2 bm2 twoB twoF1) (h3:TwoAt W bt3 bf3 bm3 twoF0 twoC) (h4:TwoAt W bt4 bf4 bm4 twoF0 twoE) (h5:TwoAt W bt5 bf5 bm5 twoF0 twoG) (h6:TwoAt W bt6 bf6 bm6 twoF0 twoF1)
 (q1:DefAt W p1 ⟨#[120]⟩ bm1) (q2:DefAt W p2 ⟨#[109]⟩ bm2) (q3:DefAt W p3 ⟨#[109]⟩ bm3) (q4:DefAt W p4 ⟨#[109]⟩ bm4) (q5:DefAt W p5 ⟨#[109]⟩ bm5) (q6:DefAt W p6 ⟨#[109]⟩ bm6)
 (l1:w0.heap.size≤bt1) (l2:bt1 < bf1) (l3:bf1 < bm1) (l4:bm1 < bt2) (l5:bt2 < bf2) (l6:bf2 < bm2) (l7:bm2 < bt3) (l8:bt3 < bf3) (l9:bf3 < bm3) (l10:bm3 < bt4) (l11:bt4 < bf4) (l12:bf4 < bm4) (l13:bm4 < bt5) (l14:bt5 < bf5) (l15:bf5 < bm5) (l16:bm5 < bt6) (l17:bt6 < bf6) (l18:bf6 < bm6) (l19:bm6 < p1) (l20:p1 < p2) (l21:p2 < p3) (l22:p3 < p4) (l23:p4 < p5) (l24:p5 < p6) (l25:p6 < W.heap.size) :
 drawK W fun C1 w=>n7c17 (.pointer (some ⟨p1,0,none⟩)) (.pointer (some ⟨p2,0,none⟩)) (.pointer (some ⟨p3,0,none⟩)) (.pointer (some ⟨p4,0,none⟩)) (.pointer (some ⟨p5,0,none⟩)) (.pointer (some ⟨p6,0,none⟩)) C1 (retR fun r w'=>r = .bool true∧Ext w0 w') w:=by
 refine drawK_introB (w1:=W) bf6 bf6 (fun _ _ _ _=>rfl) ?_
 have eD:Ext W W.drew:=(Ext.refl W).wdrew
 unfold n7c17
 simp (disch:=try exact DI) only [↓PR,QR,Int.reduceBEq,Int.reduceBNe,Int.reduceLT,Int.reduceLE,Int.reduceGT,Int.reduceGE,Int.reduceNeg,(cells_of_heap q6).1,(cells_of_heap h6.1).1,↓qidxM]
 have eB:Ext W (W.drew.alloc (Obj.cells (fieldCells twoF2 (.slice none 0 0) (.slice none 0 0)).toArray 52)):=eD.alloc _
 have o8:=heap_new W.drew (fieldCells twoF2 (.slice none 0 0) (.slice none 0 0)).toArray 52
 refine ⟨fun b hb hn _=>eB.block b hb,?_⟩
 show opV _ (Builtin.append_ #[43,43] 43 #[.slice (some ⟨bf6,0,none⟩) 2 2,.slice (some ⟨W.drew.heap.size,0,none⟩) 1 1]) _ (W.drew.alloc (Obj.cells (fieldCells twoF2 (.slice none 0 0) (.slice none 0 0)).toArray 52)) _
 have k6:=h6.go eB
 have hsW:(W.drew.alloc (Obj.cells (fieldCells twoF2 (.slice none 0 0) (.slice none 0 0)).toArray 52)).heap.size=W.heap.size+1:=by simp only [World.size_alloc,World.size_drew]
 generalize (W.drew.alloc (Obj.cells (fieldCells twoF2 (.slice none 0 0) (.slice none 0 0)).toArray 52))=W2 at eB o8 k6 hsW ⊢
 rw [World.size_drew] at o8 ⊢
 let c0:Cs 15:=⟨fieldCells twoF0 (.slice none 0 0) (.slice none 0 0),rfl⟩
 let c1:Cs 15:=⟨fieldCells twoF1 (.slice (some ⟨bt6,0,none⟩) 1 1) (.slice none 0 0),rfl⟩
 let c2:Cs 15:=⟨fieldCells twoF2 (.slice none 0 0) (.slice none 0 0),rfl⟩
 have hown:OwnE W2 bf6 52 15 Subtype.val (.slice (some ⟨bf6,0,none⟩) 2 2) [c0,c1]:=⟨rfl,.inr ⟨bf6,2,_,rfl,Nat.le_refl _,k6.2.1,Nat.le_refl _,by decide,rfl,rfl⟩⟩
 refine op_appendE (l':=[c2]) Tryz.underlying43 ty52 rfl (by decide) (fun x=>x.2) ?_ hown ?_ (by omega) (Nat.le_trans (Nat.mul_le_mul (Nat.le_refl 3) by52) (by decide)) (show 2+1≤140737488355328 by decide) ?_
 · intro x hx u hu
   simp only [List.mem_singleton] at hx
   subst hx
   simp only [c2,fieldCells,List.mem_cons,List.not_mem_nil,or_false] at hu
   rcases hu with rfl | rfl | rfl | rfl | rfl | rfl | rfl | rfl | rfl | rfl | rfl | rfl | rfl | rfl | rfl<;>rfl
 · intro j x hx
   cases j with
   | succ j=>simp at hx
   | zero =>
    simp at hx;subst hx
    intro j v hv
    rw [(cells_of_heap o8).1]
    simpa using hv
 intro v' w' hO hg
 refine ⟨fun b hb hn _=>?_,?_⟩
 · rw [hg.block b (by omega) (by intro e;injection e with e;exact hn e)];exact eB.block b hb
 have keep:∀ b,b < W.heap.size→b≠bf6→w'.heap[b]?=W.heap[b]?:=fun b hb hn=>by rw [hg.block b (by omega) (by intro e;injection e with e;exact hn e)];exact eB.block b hb
 have eC:Ext w0 w':=(e.trans eB).grown hg (fun k hk=>by simp only [Value.ownBlock,Option.some.injEq] at hk;omega)
 have g1:=h1.same (w':=w') fun b hb=>keep b (by omega) (by omega)
 have g2:=h2.same (w':=w') fun b hb=>keep b (by omega) (by omega)
 have g3:=h3.same (w':=w') fun b hb=>keep b (by omega) (by omega)
 have g4:=h4.same (w':=w') fun b hb=>keep b (by omega) (by omega)
 have g5:=h5.same (w':=w') fun b hb=>keep b (by omega) (by omega)
 have gm6:=(keep bm6 (by omega) (by omega)).trans h6.1
 have gt6:=(keep bt6 (by omega) (by omega)).trans h6.2.2
 have r1:DefAt w' p1 _ _:=(keep p1 (by omega) (by omega)).trans q1
 have r2:DefAt w' p2 _ _:=(keep p2 (by omega) (by omega)).trans q2
 have r3:DefAt w' p3 _ _:=(keep p3 (by omega) (by omega)).trans q3
 have r4:DefAt w' p4 _ _:=(keep p4 (by omega) (by omega)).trans q4
 have r5:DefAt w' p5 _ _:=(keep p5 (by omega) (by omega)).trans q5
 have r6:DefAt w' p6 _ _:=(keep p6 (by omega) (by omega)).trans q6
 clear keep h1 h2 h3 h4 h5 h6 q1 q2 q3 q4 q5 q6 hown k6 hg o8 eB eD hsW
 have hv1:=(hO.slice (E:=fun _ cs (x:Cs 15)=>cs=x.1) (fun x=>x.2) (fun _ _=>rfl)).oneCell
 unfold n7c16
 simp (disch:=try exact DI) only [↓PR,QR,Int.reduceBEq,Int.reduceBNe,Int.reduceLT,Int.reduceLE,Int.reduceGT,Int.reduceGE,Int.reduceNeg,↓qidxM,(cells_of_heap gm6).1,(cells_of_heap gm6).2]
 have m6:=heap_set (o:=1) gm6 v'
 have t6:=(Only.setCell w' bm6 1 v' bt6 (by omega)).trans gt6
 have hO2:=hO.range.only (Only.setCell w' bm6 1 v') (.inr (.inr ⟨_,⟨_,_,gm6⟩,(by decide:(45:TypeId)≠52)⟩))
 have d1:=g1.other (o:=1) (show bm6≠bt1 by omega) (by omega) (by omega) v'
 have d2:=g2.other (o:=1) (show bm6≠bt2 by omega) (by omega) (by omega) v'
 have d3:=g3.other (o:=1) (show bm6≠bt3 by omega) (by omega) (by omega) v'
 have d4:=g4.other (o:=1) (show bm6≠bt4 by omega) (by omega) (by omega) v'
 have d5:=g5.other (o:=1) (show bm6≠bt5 by omega) (by omega) (by omega) v'
 have s1:DefAt (w'.setCell ⟨bm6,1,none⟩ v') p1 _ _:=(Only.setCell w' bm6 1 v' p1 (by omega)).trans r1
 have s2:DefAt (w'.setCell ⟨bm6,1,none⟩ v') p2 _ _:=(Only.setCell w' bm6 1 v' p2 (by omega)).trans r2
 have s3:DefAt (w'.setCell ⟨bm6,1,none⟩ v') p3 _ _:=(Only.setCell w' bm6 1 v' p3 (by omega)).trans r3
 have s4:DefAt (w'.setCell ⟨bm6,1,none⟩ v') p4 _ _:=(Only.setCell w' bm6 1 v' p4 (by omega)).trans r4
 have s5:DefAt (w'.setCell ⟨bm6,1,none⟩ v') p5 _ _:=(Only.setCell w' bm6 1 v' p5 (by omega)).trans r5
 have s6:DefAt (w'.setCell ⟨bm6,1,none⟩ v') p6 _ _:=(Only.setCell w' bm6 1 v' p6 (by omega)).trans r6
 have e3:Ext w0 (w'.setCell ⟨bm6,1,none⟩ v'):=eC.setCell (show w0.heap.size≤bm6 by omega) _
 simp only [List.setIfInBounds_toArray,List.set_cons_zero,List.set_cons_succ] at m6
 generalize (w'.setCell ⟨bm6,1,none⟩ v')=X at m6 t6 hO2 d1 d2 d3 d4 d5 s1 s2 s3 s4 s5 s6 e3 ⊢
 refine turnK_intro ?_
 have hF6:FieldsOf X v' [twoF0,twoF1,twoF2]:=hO2.1.reads ⟨rfl,fun k x cs hx hcs=>by
  rcases k with _ | _ | _ | k
  · simp at hx hcs;subst hx hcs;exact ⟨_,_,rfl,SliceOf.nil _ _ _,SliceOf.nil _ _ _⟩
  · simp at hx hcs;subst hx hcs
    refine ⟨_,_,rfl,⟨_,1,rfl,by decide,by decide,fun _=>⟨bt6,0,rfl,fun k x hx=>?_⟩⟩,SliceOf.nil _ _ _⟩
    cases k with
    | succ k=>simp [twoF1] at hx
    | zero =>
     simp [twoF1] at hx;subst hx
     exact ⟨[.string ⟨#[110]⟩,.int .i64 1],rfl,fun j v hv=>by rw [(cells_of_heap t6).1];simpa using hv,rfl⟩
  · simp at hx hcs;subst hx hcs;exact ⟨_,_,rfl,SliceOf.nil _ _ _,SliceOf.nil _ _ _⟩
  · simp at hx⟩
 have V6:DefVal X (twoVal ⟨#[109]⟩ bm6) (twoD ⟨#[109]⟩ [twoF0,twoF1,twoF2]):=⟨_,rfl,_,1,rfl,by decide,by decide,fun _=>⟨bm6,0,rfl,fun k x hx=>by
  cases k with
  | succ k=>simp [twoD] at hx
  | zero =>
   simp [twoD] at hx;subst hx
   exact ⟨[.string ⟨#[109]⟩,v'],rfl,fun j v hv=>by rw [(cells_of_heap m6).1];simpa using hv,_,rfl,hF6⟩⟩⟩
 exact known_end e3 (d1.val ⟨rfl,rfl⟩ ⟨rfl,rfl⟩ _) (d2.val ⟨rfl,rfl⟩ ⟨rfl,rfl⟩ _) (d3.val ⟨rfl,rfl⟩ ⟨rfl,rfl⟩ _) (d4.val ⟨rfl,rfl⟩ ⟨rfl,rfl⟩ _) (d5.val ⟨rfl,rfl⟩ ⟨rfl,rfl⟩ _) V6 s1 s2 s3 s4 s5 s6
theorem known_ret (w0:World):Ret Pg 6 #[] w0 fun r w'=>r = .bool true∧Ext w0 w':=by
 refine n7s (R:=retR _) ?_
 refine known_head w0 _ ?_
 intro w bt1 bf1 bm1 bt2 bf2 bm2 bt3 bf3 bm3 bt4 bf4 bm4 bt5 bf5 bm5 bt6 bf6 bm6 l1 l2 l3 l4 l5 l6 l7 l8 l9 l10 l11 l12 l13 l14 l15 l16 l17 l18 l19 e0 h1 h2 h3 h4 h5 h6
 have y2:w.cell? ⟨bf2,6,none⟩=some (.int .i64 255):=by rw [(cells_of_heap h2.2.1).1];rfl
 have y3:w.cell? ⟨bf3,22,none⟩=some (.int .i64 0):=by rw [(cells_of_heap h3.2.1).1];rfl
 have y4:w.cell? ⟨bf4,15,none⟩=some (.string ⟨#[98]⟩):=by rw [(cells_of_heap h4.2.1).1];rfl
 have y5:w.cell? ⟨bf5,17,none⟩=some (.int .i64 0):=by rw [(cells_of_heap h5.2.1).1];rfl
 unfold n7c18
 simp (disch:=try exact DI) only [↓PR,QR,Int.reduceBEq,Int.reduceBNe,Int.reduceLT,Int.reduceLE,Int.reduceGT,Int.reduceGE,Int.reduceNeg,↓idxM,↓idxF0,↓idxF1,(cells_of_heap h2.1).1,y2,(cells_of_heap h2.2.1).2,(cells_of_heap h3.1).1,y3,(cells_of_heap h3.2.1).2,(cells_of_heap h4.1).1,y4,(cells_of_heap h4.2.1).2,(cells_of_heap h5.1).1,y5,(cells_of_heap h5.2.1).2]
 simp only [World.size_alloc]
 have eS:Ext w0 ((((w.setCell ⟨bf2,6,none⟩ (.int .i64 256)).setCell ⟨bf3,15+7,none⟩ (.int .i64 (-1))).setCell ⟨bf4,15,none⟩ (.string ⟨#[110]⟩)).setCell ⟨bf5,15+2,none⟩ (.int .i64 8)) :=
  (((e0.setCell (show w0.heap.size≤bf2 by omega) _).setCell (show w0.heap.size≤bf3 by omega) _).setCell (show w0.heap.size≤bf4 by omega) _).setCell (show w0.heap.size≤bf5 by omega) _
 have k1:=(((h1.other (o:=6) (show bf2≠bt1 by omega) (by omega) (by omega) (.int .i64 256)).other (o:=15+7) (show bf3≠bt1 by omega) (by omega) (by omega) (.int .i64 (-1))).other (o:=15) (show bf4≠bt1 by omega) (by omega) (by omega) (.string ⟨#[110]⟩)).other (o:=15+2) (show bf5≠bt1 by omega) (by omega) (by omega) (.int .i64 8)
 have k6:=(((h6.other (o:=6) (show bf2≠bt6 by omega) (by omega) (by omega) (.int .i64 256)).other (o:=15+7) (show bf3≠bt6 by omega) (by omega) (by omega) (.int .i64 (-1))).other (o:=15) (show bf4≠bt6 by omega) (by omega) (by omega) (.string ⟨#[110]⟩)).other (o:=15+2) (show bf5≠bt6 by omega) (by omega) (by omega) (.int .i64 8)
 have k2:=(((h2.turn (g0:=twoB) (g1:=twoF1) (o:=6) (by omega) (by omega) (.int .i64 256) rfl).other (o:=15+7) (show bf3≠bt2 by omega) (by omega) (by omega) (.int .i64 (-1))).other (o:=15) (show bf4≠bt2 by omega) (by omega) (by omega) (.string ⟨#[110]⟩)).other (o:=15+2) (show bf5≠bt2 by omega) (by omega) (by omega) (.int .i64 8)
 have k3:=(((h3.other (o:=6) (show bf2≠bt3 by omega) (by omega) (by omega) (.int .i64 256)).turn (g0:=twoF0) (g1:=twoC) (o:=15+7) (by omega) (by omega) (.int .i64 (-1)) rfl).other (o:=15) (show bf4≠bt3 by omega) (by omega) (by omega) (.string ⟨#[110]⟩)).other (o:=15+2) (show bf5≠bt3 by omega) (by omega) (by omega) (.int .i64 8)
 have k4:=(((h4.other (o:=6) (show bf2≠bt4 by omega) (by omega) (by omega) (.int .i64 256)).other (o:=15+7) (show bf3≠bt4 by omega) (by omega) (by omega) (.int .i64 (-1))).turn (g0:=twoF0) (g1:=twoE) (o:=15) (by omega) (by omega) (.string ⟨#[110]⟩) rfl).other (o:=15+2) (show bf5≠bt4 by omega) (by omega) (by omega) (.int .i64 8)
 have k5:=(((h5.other (o:=6) (show bf2≠bt5 by omega) (by omega) (by omega) (.int .i64 256)).other (o:=15+7) (show bf3≠bt5 by omega) (by omega) (by omega) (.int .i64 (-1))).other (o:=15) (show bf4≠bt5 by omega) (by omega) (by omega) (.string ⟨#[110]⟩)).turn (g0:=twoF0) (g1:=twoG) (o:=15+2) (by omega) (by omega) (.int .i64 8) rfl
 have hsz:((((w.setCell ⟨bf2,6,none⟩ (.int .i64 256)).setCell ⟨bf3,15+7,none⟩ (.int .i64 (-1))).setCell ⟨bf4,15,none⟩ (.string ⟨#[110]⟩)).setCell ⟨bf5,15+2,none⟩ (.int .i64 8)).heap.size=w.heap.size:=by simp only [World.size_setCell]
 generalize ((((w.setCell ⟨bf2,6,none⟩ (.int .i64 256)).setCell ⟨bf3,15+7,none⟩ (.int .i64 (-1))).setCell ⟨bf4,15,none⟩ (.string ⟨#[110]⟩)).setCell ⟨bf5,15+2,none⟩ (.int .i64 8))=w1 at eS k1 k2 k3 k4 k5 k6 hsz ⊢
 clear h1 h2 h3 h4 h5 h6 y2 y3 y4 y5 e0
 rw [← hsz] at l19 ⊢
 have eA:Ext w1 ((((((w1.alloc (Obj.cells #[.string ⟨#[100]⟩,.slice (some ⟨bm1,0,none⟩) 1 1,.string ⟨#[120]⟩] 24)).alloc (Obj.cells #[.string ⟨#[100]⟩,.slice (some ⟨bm2,0,none⟩) 1 1,.string ⟨#[109]⟩] 24)).alloc (Obj.cells #[.string ⟨#[100]⟩,.slice (some ⟨bm3,0,none⟩) 1 1,.string ⟨#[109]⟩] 24)).alloc (Obj.cells #[.string ⟨#[100]⟩,.slice (some ⟨bm4,0,none⟩) 1 1,.string ⟨#[109]⟩] 24)).alloc (Obj.cells #[.string ⟨#[100]⟩,.slice (some ⟨bm5,0,none⟩) 1 1,.string ⟨#[109]⟩] 24)).alloc (Obj.cells #[.string ⟨#[100]⟩,.slice (some ⟨bm6,0,none⟩) 1 1,.string ⟨#[109]⟩] 24)):=ee
 generalize hW:((((((w1.alloc (Obj.cells #[.string ⟨#[100]⟩,.slice (some ⟨bm1,0,none⟩) 1 1,.string ⟨#[120]⟩] 24)).alloc (Obj.cells #[.string ⟨#[100]⟩,.slice (some ⟨bm2,0,none⟩) 1 1,.string ⟨#[109]⟩] 24)).alloc (Obj.cells #[.string ⟨#[100]⟩,.slice (some ⟨bm3,0,none⟩) 1 1,.string ⟨#[109]⟩] 24)).alloc (Obj.cells #[.string ⟨#[100]⟩,.slice (some ⟨bm4,0,none⟩) 1 1,.string ⟨#[109]⟩] 24)).alloc (Obj.cells #[.string ⟨#[100]⟩,.slice (some ⟨bm5,0,none⟩) 1 1,.string ⟨#[109]⟩] 24)).alloc (Obj.cells #[.string ⟨#[100]⟩,.slice (some ⟨bm6,0,none⟩) 1 1,.string ⟨#[109]⟩] 24))=W at eA ⊢
 have p1:DefAt W w1.heap.size ⟨#[120]⟩ bm1:=by unfold DefAt;rw [← hW];simp (disch:=try exact DI) only [↓PR,QR,Int.reduceBEq,Int.reduceBNe,Int.reduceLT,Int.reduceLE,Int.reduceGT,Int.reduceGE,Int.reduceNeg]
 have p2:DefAt W (w1.heap.size+1) ⟨#[109]⟩ bm2:=by unfold DefAt;rw [← hW];simp (disch:=try exact DI) only [↓PR,QR,Int.reduceBEq,Int.reduceBNe,Int.reduceLT,Int.reduceLE,Int.reduceGT,Int.reduceGE,Int.reduceNeg]
 have p3:DefAt W (w1.heap.size+1+1) ⟨#[109]⟩ bm3:=by unfold DefAt;rw [← hW];simp (disch:=try exact DI) only [↓PR,QR,Int.reduceBEq,Int.reduceBNe,Int.reduceLT,Int.reduceLE,Int.reduceGT,Int.reduceGE,Int.reduceNeg]
 have p4:DefAt W (w1.heap.size+1+1+1) ⟨#[109]⟩ bm4:=by unfold DefAt;rw [← hW];simp (disch:=try exact DI) only [↓PR,QR,Int.reduceBEq,Int.reduceBNe,Int.reduceLT,Int.reduceLE,Int.reduceGT,Int.reduceGE,Int.reduceNeg]
 have p5:DefAt W (w1.heap.size+1+1+1+1) ⟨#[109]⟩ bm5:=by unfold DefAt;rw [← hW];simp (disch:=try exact DI) only [↓PR,QR,Int.reduceBEq,Int.reduceBNe,Int.reduceLT,Int.reduceLE,Int.reduceGT,Int.reduceGE,Int.reduceNeg]
 have p6:DefAt W (w1.heap.size+1+1+1+1+1) ⟨#[109]⟩ bm6:=by unfold DefAt;rw [← hW];simp (disch:=try exact DI) only [↓PR,QR,Int.reduceBEq,Int.reduceBNe,Int.reduceLT,Int.reduceLE,Int.reduceGT,Int.reduceGE,Int.reduceNeg]
 have hWs:W.heap.size=w1.heap.size+1+1+1+1+1+1:=by rw [← hW];simp only [World.size_alloc]
 clear hW
 exact known_mid (eS.trans eA) (k1.go eA) (k2.go eA) (k3.go eA) (k4.go eA) (k5.go eA) (k6.go eA) p1 p2 p3 p4 p5 p6 l1 l2 l3 l4 l5 l6 l7 l8 l9 l10 l11 l12 l13 l14 l15 l16 l17 l18 (by omega) (by omega) (by omega) (by omega) (by omega) (by omega) (by omega)
end Go.Proofs.YtiajhbbmgglmlaaGreat
namespace Go.Sw
open Go.ChangeShapes Go.WideShapes Go.RowKit Go.ChangeAt Go.Deep
theorem list_of {α:Type} {p:Nat→α→Prop}:∀ (n:Nat),(∀ i,i < n→∃ x,p i x)→∃ l:List α,l.length=n∧∀ k x,l[k]?=some x→p k x
 | 0,_=>⟨[],rfl,fun k x h=>by simp at h⟩
 | n+1,h=>by
  obtain ⟨l,hl,hp⟩:=list_of n (fun i hi=>h i (by omega))
  obtain ⟨x,hx⟩:=h n (by omega)
  refine ⟨l++[x],by simp [hl],fun k y hy=>?_⟩
  rw [List.getElem?_append] at hy
  split at hy
  · exact hp k y hy
  · have hk:k=n:=by
     have:=(List.getElem?_eq_some_iff.1 hy).1
     simp at this
     omega
    subst hk
    simp [hl] at hy
    subst hy
    exact hx
section
variable {H:Type} {enc:TypeId×Value→H} {P:Program} {w:World} {base:Nat} {spare:Nat→Bool} {held:Bool}
theorem weightsAll_mem {e:TypeId} {m:Nat} {d:DataW H}:∀ {l:List (DataW H)},d∈l→m∈d.weights P e→m∈DataW.weightsAll P e l
 | [],h,_=>by cases h
 | a::l,h,hm=>by
  rw [DataW.weightsAll,List.mem_append]
  rcases List.mem_cons.1 h with rfl | h
  · exact .inl hm
  · exact .inr (weightsAll_mem h hm)
def Reached (P:Program) (t:TypeId) (d:DataW H):Prop:=∀ m∈d.weights P t,m≤reachBytes
theorem reached_of {ts:List TypeId} {ds:List (DataW H)} (h:(DataW.weightsEach P ts ds).all (· ≤ reachBytes)=true) {j:Nat} {t:TypeId} {d:DataW H} (ht:ts[j]?=some t) (hd:ds[j]?=some d):Reached P t d:=fun m hm=>by
 have:=List.all_eq_true.1 h _ (DataW.weights_mem_each ht hd m hm)
 simpa using this
theorem slice_of_trod {α:Type} {E:World→List Value→α→Prop} {Q:α→Prop} {t e:TypeId} {n fuel:Nat} {cs:List Value} {x:DataW H×List MemPlace} (ht:P.underlying t=some (.slice e)) (hn:P.cellsOf e=n) (hb1:1≤P.bytesOf e) (h0:0 < n)
 (hE:∀ m cs' y,DataW.trod enc P w base spare held m e cs'=some y→Reached P e y.1→∃ x,E w cs' x∧Q x) (h:DataW.trod enc P w base spare held fuel t cs=some x) (hr:Reached P t x.1):∃ v l,cs=[v]∧SliceOf w n E v l∧(∀ x∈l,Q x)∧l.length≤140737488355328:=by
 rcases open_slice ht h with ⟨rfl,_⟩ | ⟨a,len,cap,m,k,D,Pl,rfl,hb,hl,hm,hmm,hx,hel⟩
 · exact ⟨_,[],rfl,SliceOf.nil _ _ _,fun x hx=>by (cases hx),Nat.zero_le _⟩
 · have hlm:len≤m:=by rw [hmm];split<;>omega
   subst hx
   have hw0:=hr ((len+(m - len))*P.bytesOf e) (by simp only [DataW.weights,ht];simp)
   have hlen:len≤140737488355328:=by
    have:len*1≤(len+(m - len))*P.bytesOf e:=Nat.mul_le_mul (by omega) hb1
    simp only [reachBytes] at hw0
    omega
   have hD:∀ i,i < len→Reached P e (D i):=fun i hi q hq=>hr q (by
    simp only [DataW.weights,ht,List.mem_cons,List.mem_append]
    exact .inr (.inl (weightsAll_mem (List.mem_map.2 ⟨i,List.mem_range.2 hi,rfl⟩) hq)))
   obtain ⟨l,hll,hp⟩:=list_of (p:=fun i (x:α)=>∃ cs',w.cells? base (a.add (i*n)) n=some cs'∧E w cs' x∧Q x) len (fun i hi=>by
    obtain ⟨cs',h1,h2⟩:=hel i (by omega)
    rw [hn] at h1
    obtain ⟨x,hx⟩:=hE _ _ _ h2 (hD i hi)
    exact ⟨x,cs',h1,hx⟩)
   refine ⟨_,l,rfl,⟨some a,cap,by rw [hll],by rw [hll];exact hl,by simp only [maxLen] at hm;omega,fun hne=>?_⟩,fun x hx=>?_,by omega⟩
   · obtain ⟨b,o,spot⟩:=a
     have hspot:spot=none:=by
      have:0 < l.length:=List.length_pos_iff.2 hne
      obtain ⟨y,hy⟩:=getElem?_lt this
      obtain ⟨cs',h1,_⟩:=hp 0 y hy
      obtain ⟨_,h2,h3⟩:=World.cells?_some h1
      have h4:=h3 0 h0
      rw [List.getElem?_eq_getElem (by omega)] at h4
      simpa [Addr.add] using World.cell?_spot h4
     subst hspot
     refine ⟨b,o,rfl,fun k x hx=>?_⟩
     obtain ⟨cs',h1,h2,_⟩:=hp k x hx
     obtain ⟨_,h3,h4⟩:=World.cells?_some h1
     refine ⟨cs',h3,fun j v hv=>?_,h2⟩
     have h5:=h4 j (by have:=(List.getElem?_eq_some_iff.1 hv).1;omega)
     rw [hv] at h5
     simpa [Addr.add_lit] using h5
   · obtain ⟨k,hk⟩:=List.getElem?_of_mem hx
     obtain ⟨_,_,_,hq⟩:=hp k x hk
     exact hq
theorem struct_of_trod {fs:Array Field} {t:TypeId} {n fuel:Nat} {cs:List Value} {x:DataW H×List MemPlace} (ht:P.underlying t=some (.struct fs)) (hn:P.cellsOf t=n) (h:DataW.trod enc P w base spare held fuel t cs=some x) (hr:Reached P t x.1) :
 cs.length=n∧∃ m,∀ (i:Nat) (ty off k:Nat),(fs[i]?).map (fun f=>(f.type,f.offset))=some (ty,off)→P.cellsOf ty=k→∃ y,DataW.trod enc P w base spare held m ty ((cs.drop off).take k)=some y∧Reached P ty y.1:=by
 obtain ⟨xs,m,_,rfl,hl,hlen,hf⟩:=DataW.trod_struct ht h
 refine ⟨hl.trans hn,m,fun i ty off k hi hk=>?_⟩
 obtain ⟨f,hfi,he⟩:=Option.map_eq_some_iff.1 hi
 injection he with h1 h2
 subst h1 h2 hk
 have hil:i < xs.length:=by rw [hlen];exact (Array.getElem?_eq_some_iff.1 hfi).1
 refine ⟨xs[i],(hf i f hfi).trans (List.getElem?_eq_getElem hil),fun q hq=>hr q ?_⟩
 simp only [DataW.weights,ht]
 refine DataW.weights_mem_each (j:=i) (t:=f.type) (d:=xs[i].1) ?_ ?_ q hq
 · rw [List.getElem?_map,Array.getElem?_toList,hfi];rfl
 · rw [List.getElem?_map,List.getElem?_eq_getElem hil];rfl
theorem trodAll_stays (hl:laidOutB P=true) {W W':World} (he:Ext W W'):∀ {ts:List TypeId} {vs:List Value} {ds:List (DataW H)} {ps:List MemPlace},(∀ t∈ts,P.readableRec t=true∧t < P.types.size)→(∀ x∈ps,x.block < W.heap.size) →
 DataW.TrodAll enc P W 0 (fun _=>true) true ts vs ds ps→DataW.TrodAll enc P W' 0 (fun b=>decide (b < W.heap.size)) true ts vs ds ps
 | [],_,_,_,_,_,h=>by obtain ⟨rfl,rfl,rfl⟩:=trodAll_nil h;exact trodAll_mk0
 | t::ts,_,_,_,hr,hlt,h=>by
  obtain ⟨v,vs1,d,ds1,a,b,rfl,rfl,rfl,h1,h2⟩:=trodAll_cons h
  refine ⟨a,b,?_,trodAll_stays hl he (fun t ht=>hr t (List.mem_cons_of_mem _ ht)) (fun x hx=>hlt x (List.mem_append_right _ hx)) h2,rfl⟩
  exact Below.trod hl (hr t (List.mem_cons_self ..)).1 (hr t (List.mem_cons_self ..)).2 h1 ⟨he.os,he.tape,he.output,he.size,he.block⟩ (fun x hx=>hlt x (List.mem_append_left _ hx))
theorem law_post {f:Func} {s:ChangeSpec} {W W':World} {args:Array Value} {ds gs:List (DataW H)} {before:List MemPlace} {tb:TypeId} (hl:laidOutB P=true) (hr:∀ t∈f.params.toList,P.readableRec t=true∧t < P.types.size) (hs:s.vars=[])
 (hW:DataW.Whole enc P f.params.toList s.vars false W args.toList ds gs before) (he:Ext W W') (hres:f.resultTypes = #[tb]) (htb:P.underlying tb=some .bool) (hfn:(s.fn H ds).results=[.lit (.bool true)]) (hargs:(s.fn H ds).args=ds) (hvars:(s.fn H ds).vars=[]) :
 s.post enc P f false true false false W args (.bool true) W':=by
 have hW':=hW
 obtain ⟨p,q,hA,hV,rfl,_,_⟩:=hW
 rw [hs] at hV
 obtain ⟨rfl,rfl⟩:=trodVars_none hV
 have hlt:∀ x∈p,x.block < W.heap.size:=fun x hx=>hW'.lt x (by simpa using hx)
 rw [List.append_nil] at hW'
 refine ⟨ds,[],p,[],p,[],hW',?_,?_,?_,Below.frame ⟨he.os,he.tape,he.output,he.size,he.block⟩ _,fun h=>by cases h⟩
 · rw [List.append_nil,hfn,hres]
   exact trodAll_mk1 (shut_bool htb _)
 · rw [List.append_nil,hargs]
   exact trodAll_stays hl he hr hlt hA
 · rw [List.append_nil,hvars,hs]
   exact rfl
end
end Go.Sw
namespace Go.Proofs.YtiajhbbmgglmlaaGreat
open Sw
open Go.ChangeShapes Go.WideShapes Go.RowKit Go.ChangeAt Go.Deep
theorem cellsTerm:Pg.cellsOf 78=2:=by kernel_rfl
theorem cellsCase:Pg.cellsOf 81=3:=by kernel_rfl
theorem cellsSize:Pg.cellsOf 49=2:=by kernel_rfl
theorem cellsField:Pg.cellsOf 52=15:=by kernel_rfl
theorem cellsMessage:Pg.cellsOf 45=2:=by kernel_rfl
theorem cellsDefinition:Pg.cellsOf 24=3:=by kernel_rfl
theorem cellsString:Pg.cellsOf 9=1:=by kernel_rfl
theorem cellsInt:Pg.cellsOf 3=1:=by kernel_rfl
theorem cellsBool:Pg.cellsOf 4=1:=by kernel_rfl
theorem cellsKind:Pg.cellsOf 46=1:=by kernel_rfl
theorem cellsTerms:Pg.cellsOf 47=1:=by kernel_rfl
theorem cellsCases:Pg.cellsOf 50=1:=by kernel_rfl
theorem cellsFields:Pg.cellsOf 43=1:=by kernel_rfl
theorem bytesTerm:1≤Pg.bytesOf 78:=Nat.le_of_ble_eq_true (by kernel_rfl)
theorem bytesCase:1≤Pg.bytesOf 81:=Nat.le_of_ble_eq_true (by kernel_rfl)
theorem bytesField:1≤Pg.bytesOf 52:=Nat.le_of_ble_eq_true (by kernel_rfl)
theorem bytesMessage:1≤Pg.bytesOf 45:=Nat.le_of_ble_eq_true (by kernel_rfl)
def FieldSm (f:FieldD):Prop:=f.terms.length≤140737488355328∧f.cases.length≤140737488355328∧∀ c∈f.cases,c.of.size≤140737488355328
def MsgSm (m:MsgD):Prop:=m.fields.length≤140737488355328∧∀ f∈m.fields,FieldSm f
def DefSm (d:DefD):Prop:=d.msgs.length≤140737488355328∧∀ m∈d.msgs,MsgSm m
theorem cellsMessages:Pg.cellsOf 22=1:=by kernel_rfl
section
variable {H:Type} {enc:TypeId×Value→H} {w:World} {base:Nat} {spare:Nat→Bool} {held:Bool}
theorem term_of {m:Nat} {cs:List Value} {y:DataW H×List MemPlace} (h:DataW.trod enc Pg w base spare held m 78 cs=some y) (hr:Reached Pg 78 y.1):∃ x,ETerm w cs x:=by
 obtain ⟨hl,n,hf⟩:=struct_of_trod Tryz.underlying78 cellsTerm h hr
 obtain ⟨y0,h0,r0⟩:=hf 0 9 0 1 rfl cellsString
 obtain ⟨y1,h1,r1⟩:=hf 1 3 1 1 rfl cellsInt
 match cs,hl with
 | [c0,c1],_ =>
  obtain ⟨s,e0,_⟩:=DataW.trod_string Tryz.underlying9 h0
  obtain ⟨k,e1,_⟩:=DataW.trod_int Tryz.underlying3 h1
  simp at e0 e1
  subst e0 e1
  exact ⟨⟨s,k⟩,rfl⟩
theorem case_of {m:Nat} {cs:List Value} {y:DataW H×List MemPlace} (h:DataW.trod enc Pg w base spare held m 81 cs=some y) (hr:Reached Pg 81 y.1):∃ x,ECase w cs x∧x.of.size≤140737488355328:=by
 obtain ⟨hl,n,hf⟩:=struct_of_trod Tryz.underlying81 cellsCase h hr
 obtain ⟨y0,h0,r0⟩:=hf 0 3 0 1 rfl cellsInt
 obtain ⟨y1,h1,r1⟩:=hf 1 3 1 1 rfl cellsInt
 obtain ⟨y2,h2,r2⟩:=hf 2 9 2 1 rfl cellsString
 match cs,hl with
 | [c0,c1,c2],_ =>
  obtain ⟨a,e0,_⟩:=DataW.trod_int Tryz.underlying3 h0
  obtain ⟨b,e1,_⟩:=DataW.trod_int Tryz.underlying3 h1
  obtain ⟨s,e2,e3,_⟩:=DataW.trod_string Tryz.underlying9 h2
  simp at e0 e1 e2
  subst e0 e1 e2
  refine ⟨⟨a,b,s⟩,rfl,?_⟩
  have:=r2 s.data.toList.length (by rw [e3];exact List.mem_singleton.2 rfl)
  simp only [reachBytes] at this
  have h4:s.size=s.data.toList.length:=Array.length_toList.symm
  show s.size≤_
  omega
theorem size_of {m:Nat} {cs:List Value} {y:DataW H×List MemPlace} (h:DataW.trod enc Pg w base spare held m 49 cs=some y) (hr:Reached Pg 49 y.1):∃ b tv ts,cs=[.int .i64 b,tv]∧TermsOf w tv ts∧ts.length≤140737488355328:=by
 obtain ⟨hl,n,hf⟩:=struct_of_trod Tryz.underlying49 cellsSize h hr
 obtain ⟨y0,h0,r0⟩:=hf 0 3 0 1 rfl cellsInt
 obtain ⟨y1,h1,r1⟩:=hf 1 47 1 1 rfl cellsTerms
 match cs,hl with
 | [c0,c1],_ =>
  obtain ⟨a,e0,_⟩:=DataW.trod_int Tryz.underlying3 h0
  obtain ⟨v,l,e1,hS,_,hL⟩:=slice_of_trod (E:=ETerm) (Q:=fun _=>True) Tryz.underlying47 cellsTerm bytesTerm (by decide) (fun _ _ _ h hr=>let ⟨x,hx⟩:=term_of h hr; ⟨x,hx,trivial⟩) h1 r1
  simp at e0 e1
  subst e0 e1
  exact ⟨a,_,l,rfl,hS,hL⟩
theorem field_of {m:Nat} {cs:List Value} {y:DataW H×List MemPlace} (h:DataW.trod enc Pg w base spare held m 52 cs=some y) (hr:Reached Pg 52 y.1):∃ x,EField w cs x∧FieldSm x:=by
 obtain ⟨hl,n,hf⟩:=struct_of_trod Tryz.underlying52 cellsField h hr
 obtain ⟨y0,h0,r0⟩:=hf 0 9 0 1 rfl cellsString
 obtain ⟨y1,h1,r1⟩:=hf 1 46 1 1 rfl cellsKind
 obtain ⟨y2,h2,r2⟩:=hf 2 3 2 1 rfl cellsInt
 obtain ⟨y3,h3,r3⟩:=hf 3 4 3 1 rfl cellsBool
 obtain ⟨y4,h4,r4⟩:=hf 4 4 4 1 rfl cellsBool
 obtain ⟨y5,h5,r5⟩:=hf 5 3 5 1 rfl cellsInt
 obtain ⟨y6,h6,r6⟩:=hf 6 3 6 1 rfl cellsInt
 obtain ⟨y7,h7,r7⟩:=hf 7 49 7 2 rfl cellsSize
 obtain ⟨y8,h8,r8⟩:=hf 8 9 9 1 rfl cellsString
 obtain ⟨y9,h9,r9⟩:=hf 9 9 10 1 rfl cellsString
 obtain ⟨y10,h10,r10⟩:=hf 10 9 11 1 rfl cellsString
 obtain ⟨y11,h11,r11⟩:=hf 11 50 12 1 rfl cellsCases
 obtain ⟨y12,h12,r12⟩:=hf 12 3 13 1 rfl cellsInt
 obtain ⟨y13,h13,r13⟩:=hf 13 3 14 1 rfl cellsInt
 match cs,hl with
 | [c0,c1,c2,c3,c4,c5,c6,c7,c8,c9,c10,c11,c12,c13,c14],_ =>
  obtain ⟨x0,e0,_⟩:=DataW.trod_string Tryz.underlying9 h0
  obtain ⟨x1,e1,_⟩:=DataW.trod_int Tryz.underlying46 h1
  obtain ⟨x2,e2,_⟩:=DataW.trod_int Tryz.underlying3 h2
  obtain ⟨x3,e3,_⟩:=DataW.trod_bool Tryz.underlying4 h3
  obtain ⟨x4,e4,_⟩:=DataW.trod_bool Tryz.underlying4 h4
  obtain ⟨x5,e5,_⟩:=DataW.trod_int Tryz.underlying3 h5
  obtain ⟨x6,e6,_⟩:=DataW.trod_int Tryz.underlying3 h6
  obtain ⟨x7,tv,ts,e7,hT,hTl⟩:=size_of h7 r7
  obtain ⟨x9,e9,_⟩:=DataW.trod_string Tryz.underlying9 h8
  obtain ⟨x10,e10,_⟩:=DataW.trod_string Tryz.underlying9 h9
  obtain ⟨x11,e11,_⟩:=DataW.trod_string Tryz.underlying9 h10
  obtain ⟨cv,l,e12,hC,hCq,hCl⟩:=slice_of_trod (E:=ECase) (Q:=fun c=>c.of.size≤140737488355328) Tryz.underlying50 cellsCase bytesCase (by decide) (fun _ _ _ h hr=>case_of h hr) h11 r11
  obtain ⟨x13,e13,_⟩:=DataW.trod_int Tryz.underlying3 h12
  obtain ⟨x14,e14,_⟩:=DataW.trod_int Tryz.underlying3 h13
  simp at e0 e1 e2 e3 e4 e5 e6 e7 e9 e10 e11 e12 e13 e14
  obtain ⟨e7,e8⟩:=e7
  subst e0 e1 e2 e3 e4 e5 e6 e7 e8 e9 e10 e11 e12 e13 e14
  exact ⟨⟨x0,x1,x2,x3,x4,x5,x6,x7,ts,x9,x10,x11,l,x13,x14⟩,⟨_,_,rfl,hT,hC⟩,hTl,hCl,hCq⟩
theorem msg_of {m:Nat} {cs:List Value} {y:DataW H×List MemPlace} (h:DataW.trod enc Pg w base spare held m 45 cs=some y) (hr:Reached Pg 45 y.1):∃ x,EMsg w cs x∧MsgSm x:=by
 obtain ⟨hl,n,hf⟩:=struct_of_trod Tryz.underlying45 cellsMessage h hr
 obtain ⟨y0,h0,r0⟩:=hf 0 9 0 1 rfl cellsString
 obtain ⟨y1,h1,r1⟩:=hf 1 43 1 1 rfl cellsFields
 match cs,hl with
 | [c0,c1],_ =>
  obtain ⟨a,e0,_⟩:=DataW.trod_string Tryz.underlying9 h0
  obtain ⟨v,l,e1,hS,hQ,hL⟩:=slice_of_trod (E:=EField) (Q:=FieldSm) Tryz.underlying43 cellsField bytesField (by decide) (fun _ _ _ h hr=>field_of h hr) h1 r1
  simp at e0 e1
  subst e0 e1
  exact ⟨⟨a,l⟩,⟨_,rfl,hS⟩,hL,hQ⟩
theorem def_of {m:Nat} {cs:List Value} {y:DataW H×List MemPlace} (h:DataW.trod enc Pg w base spare held m 24 cs=some y) (hr:Reached Pg 24 y.1):∃ d mv,cs=defCells d mv∧MsgsOf w mv d.msgs∧DefSm d:=by
 obtain ⟨hl,n,hf⟩:=struct_of_trod Tryz.underlying24 cellsDefinition h hr
 obtain ⟨y0,h0,r0⟩:=hf 0 9 0 1 rfl cellsString
 obtain ⟨y1,h1,r1⟩:=hf 1 22 1 1 rfl cellsMessages
 obtain ⟨y2,h2,r2⟩:=hf 2 9 2 1 rfl cellsString
 match cs,hl with
 | [c0,c1,c2],_ =>
  obtain ⟨a,e0,_⟩:=DataW.trod_string Tryz.underlying9 h0
  obtain ⟨v,l,e1,hS,hQ,hL⟩:=slice_of_trod (E:=EMsg) (Q:=MsgSm) Tryz.underlying22 cellsMessage bytesMessage (by decide) (fun _ _ _ h hr=>msg_of h hr) h1 r1
  obtain ⟨b,e2,_⟩:=DataW.trod_string Tryz.underlying9 h2
  simp at e0 e1 e2
  subst e0 e1 e2
  exact ⟨⟨a,l,b⟩,_,rfl,hS,hL,hQ⟩
theorem def_val {r:Reach} {b0:Nat} {v:Value} {d:DataW H} {ps:List MemPlace} (hval:Value.okWide Pg w r b0 24 v) (h:DataW.Trod enc Pg w base spare held 24 v d ps) (hr:Reached Pg 24 d):∃ f,DefVal w v f∧DefSm f:=by
 obtain ⟨cs,rfl,_⟩:=okWide_struct Tryz.underlying24 hval
 obtain ⟨fuel,hf⟩:=h
 obtain ⟨f,tv,h1,h2,hs⟩:=def_of hf hr
 exact ⟨f,⟨tv,congrArg Value.agg (by rw [← h1,cells_agg]),h2⟩,hs⟩
end
end Go.Proofs.YtiajhbbmgglmlaaGreat
namespace Go.Proofs.YtiajhbbmgglmlaaGreat
open Sw
def n4c1 (t38 t42:Value) (R:RT) (w:World):Prop :=
 pickK t38 t42 (.bool false) fun t43 =>
 joinK (fun (t45:Value) (w:World) =>
 pickK t43 t45 (.bool false) fun t46 =>
 R (.returned t46) w) fun K4 =>
 guardP t43 true (
 C0 6 #[] R w fun t45 w =>
 K4 t45 w) (
 K4 undef w)
def n4c2 (t1 t3 t31 t37:Value) (R:RT) (w:World):Prop :=
 pickK t31 t37 (.bool false) fun t38 =>
 joinK (fun (t42:Value) (w:World) =>
 n4c1 t38 t42 R w) fun K3 =>
 guardP t38 true (
 L0 24 t3 R w fun t40 w =>
 L0 24 t1 R w fun t41 w =>
 C0 16 #[t40,t41] R w fun t42 w =>
 K3 t42 w) (
 K3 undef w)
def n4c3 (t1 t3 t23 t26 t30:Value) (R:RT) (w:World):Prop :=
 pickK t26 t30 (.bool false) fun t31 =>
 joinK (fun (t37:Value) (w:World) =>
 n4c2 t1 t3 t31 t37 R w) fun K2 =>
 guardP t31 true (
 L0 24 t1 R w fun t33 w =>
 C0 15 #[t33] R w fun t34 w =>
 opV Pg (Op.unary .not t23) (panK R) w fun t36 w =>
 B0 .eql 4 false t34 t36 R w fun t37 w =>
 K2 t37 w) (
 K2 undef w)
def n4c4 (t1 t3 t4 t18 t21:Value) (R:RT) (w:World):Prop :=
 opV Pg (Instr.extract t21 0) (panK R) w fun t22 w =>
 opV Pg (Instr.extract t21 1) (panK R) w fun t23 w =>
 opV Pg (Instr.alloc 39 true (.tuple #[])) (panK R) w fun t6 w =>
 opU Pg (Instr.storeAt 39 t6 t22) (panK R) w fun w =>
 L0 39 t4 R w fun t24 w =>
 L0 39 t6 R w fun t25 w =>
 B0 .eql 39 false t24 t25 R w fun t26 w =>
 joinK (fun (t30:Value) (w:World) =>
 n4c3 t1 t3 t23 t26 t30 R w) fun K1 =>
 guardP t26 true (
 B0 .eql 4 false t18 t23 R w fun t30 w =>
 K1 t30 w) (
 K1 undef w)
def n4c5 (t1 t3 t16:Value) (R:RT) (w:World):Prop :=
 opV Pg (Instr.extract t16 0) (panK R) w fun t17 w =>
 opV Pg (Instr.extract t16 1) (panK R) w fun t18 w =>
 opV Pg (Instr.alloc 39 true (.tuple #[])) (panK R) w fun t4 w =>
 opU Pg (Instr.storeAt 39 t4 t17) (panK R) w fun w =>
 L0 24 t1 R w fun t20 w =>
 C0 14 #[t20] R w fun t21 w =>
 n4c4 t1 t3 t4 t18 t21 R w
def n4c6 (t1 t13:Value) (R:RT) (w:World):Prop :=
 opV Pg (Instr.alloc 24 true (.tuple #[])) (panK R) w fun t3 w =>
 opU Pg (Instr.storeAt 24 t3 t13) (panK R) w fun w =>
 L0 24 t1 R w fun t15 w =>
 C0 13 #[t15] R w fun t16 w =>
 n4c5 t1 t3 t16 R w
def n4c7 (t1 t9:Value) (R:RT) (w:World):Prop :=
 opV Pg (Op.unary .not t9) (panK R) w fun t10 w =>
 condP t10 (
 C0 6 #[] R w fun t11 w =>
 R (.returned t11) w) (
 L0 24 t1 R w fun t12 w =>
 C0 12 #[t12] R w fun t13 w =>
 n4c6 t1 t13 R w)
def n4 (t0:Value) (R:RT) (w:World):Prop :=
 opV Pg (Instr.box 24 t0) (panK R) w fun t1 w =>
 L0 24 t1 R w fun t8 w =>
 C0 5 #[t8] R w fun t9 w =>
 n4c7 t1 t9 R w
theorem n4s {t0:Value} {R:RT} {w:World} (h:n4 t0 R w):Calls Pg 4 #[t0] w R:=by
 refine calls_of_den (args:=[t0]) Tryz.func4 rfl (Nat.le_of_ble_eq_true rfl) ?_
 unfold n4 at h
 refine zs<|zr ?_
 refine zv h fun t1 w h=>?_
 refine zm<|zn<|zk<|zs<|zs<|zr ?_
 refine zv h fun t8 w h=>?_
 refine zc h c5 fun t9 w h=>?_
 refine zv h fun t10 w h=>?_
 refine zn<|zk ?_
 refine sim_cond h rfl (fun h=>?_) (fun h=>?_)
 · refine zs<|zr ?_
   refine zc h c6 fun t11 w h=>?_
   refine zm<|zn<|zk<|sim_ret<|sim_then_ret ?_
   exact body_ret1 rfl rfl h
 · refine sim_skip<|zk<|zs<|zr ?_
   refine zv h fun t12 w h=>?_
   refine zc h c12 fun t13 w h=>?_
   refine zv h fun t3 w h=>?_
   refine zu h fun w h=>?_
   refine zn<|zk<|zs<|zr ?_
   refine zv h fun t15 w h=>?_
   refine zc h c13 fun t16 w h=>?_
   refine zm ?_
   refine zv h fun t17 w h=>?_
   refine zv h fun t18 w h=>?_
   refine zv h fun t4 w h=>?_
   refine zu h fun w h=>?_
   refine zm<|zn<|zk<|zs<|zr ?_
   refine zv h fun t20 w h=>?_
   refine zc h c14 fun t21 w h=>?_
   refine zm ?_
   refine zv h fun t22 w h=>?_
   refine zv h fun t23 w h=>?_
   refine zv h fun t6 w h=>?_
   refine zu h fun w h=>?_
   refine zm<|zn<|zk<|zs<|sim_regionG ?_
   refine sim_seg 4 rfl ?_
   refine zv h fun t24 w h=>?_
   refine zv h fun t25 w h=>?_
   refine zb h fun t26 w h=>?_
   refine zm<|zn ?_
   refine joinK_elim h (fun K1 hK h=>?_)
   refine sim_groupJ 3 3 true [28,29,30] (fun ρ w=>K1 (ρ 30) w) rfl rfl (fun T hT=>guardP_mono h (fun h=>?_) (fun h=>?_)) (fun σ w h=>?_)
   · refine zm<|zm ?_
     refine zb h fun t30 w h=>?_
     refine zn ?_
     exact zt hT h
   · exact zt hT h
   subst hK
   refine sim_seg 2 rfl ?_
   refine sim_pick h rfl rfl rfl ?_;intro t31 h
   refine zm<|zn ?_
   refine joinK_elim h (fun K2 hK h=>?_)
   refine sim_groupJ 5 8 true [33,34,35,36,37] (fun ρ w=>K2 (ρ 37) w) rfl rfl (fun T hT=>guardP_mono h (fun h=>?_) (fun h=>?_)) (fun σ w h=>?_)
   · refine zv h fun t33 w h=>?_
     refine zc h c15 fun t34 w h=>?_
     refine zm ?_
     refine zv h fun t36 w h=>?_
     refine zb h fun t37 w h=>?_
     refine zn ?_
     exact zt hT h
   · exact zt hT h
   subst hK
   refine sim_seg 2 rfl ?_
   refine sim_pick h rfl rfl rfl ?_;intro t38 h
   refine zm<|zn ?_
   refine joinK_elim h (fun K3 hK h=>?_)
   refine sim_groupJ 3 15 true [40,41,42] (fun ρ w=>K3 (ρ 42) w) rfl rfl (fun T hT=>guardP_mono h (fun h=>?_) (fun h=>?_)) (fun σ w h=>?_)
   · refine zv h fun t40 w h=>?_
     refine zv h fun t41 w h=>?_
     refine zc h c16 fun t42 w h=>?_
     refine zn ?_
     exact zt hT h
   · exact zt hT h
   subst hK
   refine sim_seg 2 rfl ?_
   refine sim_pick h rfl rfl rfl ?_;intro t43 h
   refine zm<|zn ?_
   refine joinK_elim h (fun K4 hK h=>?_)
   refine sim_groupJ 1 20 true [45] (fun ρ w=>K4 (ρ 45) w) rfl rfl (fun T hT=>guardP_mono h (fun h=>?_) (fun h=>?_)) (fun σ w h=>?_)
   · refine zc h c6 fun t45 w h=>?_
     refine zn ?_
     exact zt hT h
   · exact zt hT h
   subst hK
   refine sim_seg 2 rfl ?_
   refine sim_pick h rfl rfl rfl ?_;intro t46 h
   refine zm<|zn<|sim_end<|zk<|sim_ret ?_
   exact body_ret1 rfl rfl h
def n5c1 (t6 t23:Value) (next3:KV) (R:RT) (w:World):Prop :=
 X0 43 t23 t6 R w fun t38 w =>
 F0 52 t38 11 R w fun t39 w =>
 L0 50 t39 R w fun t40 w =>
 opV Pg (Builtin.len_ #[50] 3 #[t40]) (panK R) w fun t41 w =>
 B0 .gtr 3 true t41 (.int .i64 50) R w fun t42 w =>
 joinK (fun (t51:Value) (w:World) =>
 pickK t42 (.bool true) t51 fun t52 =>
 condP t52 (
 R (.returned (.bool false)) w) (
 B0 .add 3 true t6 (.int .i64 1) R w fun t35 w =>
 next3 t35 w)) fun K4 =>
 guardP t42 false (
 X0 43 t23 t6 R w fun t46 w =>
 F0 52 t46 7 R w fun t47 w =>
 F0 49 t47 1 R w fun t48 w =>
 L0 47 t48 R w fun t49 w =>
 opV Pg (Builtin.len_ #[47] 3 #[t49]) (panK R) w fun t50 w =>
 B0 .gtr 3 true t50 (.int .i64 10) R w fun t51 w =>
 K4 t51 w) (
 K4 undef w)
def n5c2 (t4 t6 t23 t27:Value) (next1:KW) (next3:KV) (R:RT) (w:World):Prop :=
 opV Pg (Builtin.len_ #[43] 3 #[t23]) (panK R) w fun t32 w =>
 B0 .lss 3 false t6 t32 R w fun t33 w =>
 condP t33 (
 n5c1 t6 t23 next3 R w) (
 B0 .add 3 true t4 (.int .i64 1) R w fun t17 w =>
 next1 t27 t17 w)
def n5c3 (t1:Value) (R:RT) (w:World):Prop :=
 F0 24 t1 1 R w fun t53 w =>
 L0 22 t53 R w fun t54 w =>
 opV Pg (Builtin.len_ #[22] 3 #[t54]) (panK R) w fun t55 w =>
 B0 .leq 3 true t55 (.int .i64 70) R w fun t56 w =>
 R (.returned t56) w
def n5c4 (t1 t3 t4:Value) (next1:KW) (R:RT) (w:World):Prop :=
 F0 24 t1 1 R w fun t18 w =>
 L0 22 t18 R w fun t19 w =>
 X0 22 t19 t4 R w fun t21 w =>
 F0 45 t21 1 R w fun t22 w =>
 L0 43 t22 R w fun t23 w =>
 opV Pg (Builtin.len_ #[43] 3 #[t23]) (panK R) w fun t26 w =>
 B0 .add 3 false t3 t26 R w fun t27 w =>
 B0 .gtr 3 true t27 (.int .i64 400) R w fun t29 w =>
 condP t29 (
 R (.returned (.bool false)) w) (
 loop1 (fun t6 w next3 =>
 n5c2 t4 t6 t23 t27 next1 next3 R w) (.int .i64 0) w)
def n5c5 (t1 t3 t4:Value) (next1:KW) (R:RT) (w:World):Prop :=
 F0 24 t1 1 R w fun t8 w =>
 L0 22 t8 R w fun t9 w =>
 opV Pg (Builtin.len_ #[22] 3 #[t9]) (panK R) w fun t10 w =>
 B0 .lss 3 false t4 t10 R w fun t11 w =>
 joinK (fun (t14:Value) (w:World) =>
 pickK t11 t14 (.bool false) fun t15 =>
 condP t15 (
 n5c4 t1 t3 t4 next1 R w) (
 n5c3 t1 R w)) fun K2 =>
 guardP t11 true (
 B0 .leq 3 true t4 (.int .i64 70) R w fun t14 w =>
 K2 t14 w) (
 K2 undef w)
def n5 (t0:Value) (R:RT) (w:World):Prop :=
 opV Pg (Instr.box 24 t0) (panK R) w fun t1 w =>
 loop2 (fun t3 t4 w next1 =>
 n5c5 t1 t3 t4 next1 R w) (.int .i64 0) (.int .i64 0) w
theorem n5s {t0:Value} {R:RT} {w:World} (h:n5 t0 R w):Calls Pg 5 #[t0] w R:=by
 refine calls_of_den (args:=[t0]) Tryz.func5 rfl (Nat.le_of_ble_eq_true rfl) ?_
 unfold n5 at h
 refine zs<|zr ?_
 refine zv h fun t1 w h=>?_
 refine zm<|zn<|zk<|zs<|zr<|zm<|zn<|zk<|zs<|zs<|zr<|zm<|zn<|zk<|sim_block ?_
 obtain ⟨I,μ,h0,hr⟩:=h
 refine sim_loop [2,3,4,5,6,7,8,9,10,11,12,13,14,15,16,17,18,19,20,21,22,23,24,25,26,27,28,29,30,31,32,33,34,35,36,37,38,39,40,41,42,43,44,45,46,47,48,49,50,51,52] (by kernel_rfl) (fun ρ w=>I (ρ 3) (ρ 4) w) (fun ρ w=>μ (ρ 3) (ρ 4) w) h0 (fun σ w hI=>?_)
 have h:=hr _ _ _ hI
 clear hr h0 hI
 refine zs<|zs<|sim_regionG ?_
 refine sim_seg 6 rfl ?_
 refine zm ?_
 refine zv h fun t8 w h=>?_
 refine zv h fun t9 w h=>?_
 refine zx h fun t10 w h=>?_
 refine zb h fun t11 w h=>?_
 refine zm<|zn ?_
 refine joinK_elim h (fun K2 hK h=>?_)
 refine sim_groupJ 2 5 true [13,14] (fun ρ w=>K2 (ρ 14) w) rfl rfl (fun T hT=>guardP_mono h (fun h=>?_) (fun h=>?_)) (fun σ w h=>?_)
 · refine zm ?_
   refine zb h fun t14 w h=>?_
   refine zn ?_
   exact zt hT h
 · exact zt hT h
 subst hK
 refine sim_seg 1 rfl ?_
 refine sim_pick h rfl rfl rfl ?_;intro t15 h
 refine zn<|sim_end<|zk ?_
 refine sim_cond h rfl (fun h=>?_) (fun h=>?_)
 · refine sim_skip<|zk<|zs<|sim_block<|zs<|zr ?_
   refine zv h fun t18 w h=>?_
   refine zv h fun t19 w h=>?_
   refine zm ?_
   refine zv h fun t21 w h=>?_
   refine zv h fun t22 w h=>?_
   refine zv h fun t23 w h=>?_
   refine zm<|zn<|zk<|zs<|zr<|zm<|zm ?_
   refine zx h fun t26 w h=>?_
   refine zb h fun t27 w h=>?_
   refine zm<|zn<|zk<|zs<|zs<|zr<|zm ?_
   refine zb h fun t29 w h=>?_
   refine zn<|zk ?_
   refine sim_cond h rfl (fun h=>?_) (fun h=>?_)
   · refine zs<|zr<|zm<|zn<|zk<|sim_ret<|sim_then_ret<|sim_block_ret<|sim_then_ret<|sim_then_ret<|sim_block_ret<|sim_then_ret ?_
     exact body_ret1 rfl rfl h
   · refine sim_skip<|zk<|zs<|zr<|zm<|zn<|zk<|sim_block ?_
     obtain ⟨I,μ,h0,hr⟩:=h
     refine sim_loop [2,6,30,31,32,33,34,35,36,37,38,39,40,41,42,43,44,45,46,47,48,49,50,51,52] (by kernel_rfl) (fun ρ w=>I (ρ 6) w) (fun ρ w=>μ (ρ 6) w) h0 (fun σ w hI=>?_)
     have h:=hr _ _ hI
     clear hr h0 hI
     refine zs<|zs<|zr<|zm<|zm ?_
     refine zx h fun t32 w h=>?_
     refine zb h fun t33 w h=>?_
     refine zn<|zk ?_
     refine sim_cond h rfl (fun h=>?_) (fun h=>?_)
     · refine sim_skip<|zk<|zs<|sim_block<|zs<|sim_regionG ?_
       refine sim_seg 8 rfl ?_
       refine zm<|zm ?_
       refine zv h fun t38 w h=>?_
       refine zv h fun t39 w h=>?_
       refine zv h fun t40 w h=>?_
       refine zx h fun t41 w h=>?_
       refine zb h fun t42 w h=>?_
       refine zm<|zn ?_
       refine joinK_elim h (fun K4 hK h=>?_)
       refine sim_groupJ 8 7 false [44,45,46,47,48,49,50,51] (fun ρ w=>K4 (ρ 51) w) rfl rfl (fun T hT=>guardP_mono h (fun h=>?_) (fun h=>?_)) (fun σ w h=>?_)
       · refine zm<|zm ?_
         refine zv h fun t46 w h=>?_
         refine zv h fun t47 w h=>?_
         refine zv h fun t48 w h=>?_
         refine zv h fun t49 w h=>?_
         refine zx h fun t50 w h=>?_
         refine zb h fun t51 w h=>?_
         refine zn ?_
         exact zt hT h
       · exact zt hT h
       subst hK
       refine sim_seg 1 rfl ?_
       refine sim_pick h rfl rfl rfl ?_;intro t52 h
       refine zn<|sim_end<|zk ?_
       refine sim_cond h rfl (fun h=>?_) (fun h=>?_)
       · refine zs<|zr<|zm<|zn<|zk<|sim_ret<|sim_block_ret<|sim_then_ret<|sim_then_ret<|sim_block_ret<|sim_block_ret<|sim_then_ret<|sim_then_ret<|sim_block_ret<|sim_then_ret ?_
         exact body_ret1 rfl rfl h
       · refine sim_skip<|sim_block_normal<|zk<|zr<|zm ?_
         refine zb h fun t35 w h=>?_
         refine zm<|zn<|zk ?_
         exact ⟨rfl,h⟩
     · refine sim_exit<|sim_then_exit<|sim_then_exit<|sim_block_hit<|sim_block_normal<|zk<|zr<|zm ?_
       refine zb h fun t17 w h=>?_
       refine zm<|zn<|zk ?_
       exact ⟨rfl,h⟩
 · refine sim_exit<|sim_then_exit<|sim_then_exit<|sim_block_hit<|zk<|zs<|zr ?_
   refine zv h fun t53 w h=>?_
   refine zv h fun t54 w h=>?_
   refine zx h fun t55 w h=>?_
   refine zb h fun t56 w h=>?_
   refine zm<|zn<|zk<|sim_ret ?_
   exact body_ret1 rfl rfl h
end Go.Proofs.YtiajhbbmgglmlaaGreat
namespace Go.Proofs.YtiajhbbmgglmlaaGreat
open Sw
open Go.RowKit (intOf Below)
def sumF (l:List MsgD):Nat:=(l.map fun m=>m.fields.length).sum
def okF (f:FieldD):Prop:=f.cases.length≤50∧f.terms.length≤10
def fitsP (d:DefD):Prop:=d.msgs.length≤70∧sumF d.msgs≤400∧∀ m∈d.msgs,∀ f∈m.fields,okF f
theorem sumF_take {l:List MsgD} {k:Nat} {x:MsgD} (hx:l[k]?=some x):sumF (l.take (k+1))=sumF (l.take k)+x.fields.length:=by
 rw [take_snoc hx];simp [sumF]
theorem le_sumF {l:List MsgD} {m:MsgD} (h:m∈l):m.fields.length≤sumF l:=by
 unfold sumF
 induction l with
 | nil=>cases h
 | cons a l ih =>
  rcases List.mem_cons.1 h with rfl | h
  · simp
  · have:=ih h;simp at this ⊢;omega
theorem forall_take {α:Type} {p:α→Prop} {l:List α} {k:Nat} {x:α} (h:∀ y∈l.take k,p y) (hx:l[k]?=some x) (hp:p x):∀ y∈l.take (k+1),p y:=by
 rw [take_snoc hx]
 intro y hy
 rcases List.mem_append.1 hy with hy | hy
 · exact h y hy
 · simp only [List.mem_singleton] at hy;subst hy;exact hp
theorem fits_ret (w0:World) (v:Value) (d:DefD) (hd:DefVal w0 v d) (hs:DefSm d):Ret Pg 5 #[v] w0 fun r w'=>∃ b,r = .bool b∧(b=true→fitsP d)∧Ext w0 w':=by
 obtain ⟨mv,rfl,hM⟩:=hd
 obtain ⟨A,c,rfl,hlc,hcm,hlm,hel⟩:=SliceOf.open hM
 refine n5s (R:=retR _) ?_;unfold n5
 simp (disch:=try exact DI) only [↓PR,QR,Int.reduceBEq,Int.reduceBNe,Int.reduceLT,Int.reduceLE,Int.reduceGT,Int.reduceGE,Int.reduceNeg]
 have hBW:=ElemAt.new (w:=w0) (defCells d (.slice A d.msgs.length c)) (24)
 have eW:Ext w0 (w0.alloc (Obj.cells (List.toArray (defCells d (.slice A d.msgs.length c))) (24))):=(Ext.refl _).alloc _
 generalize (w0.alloc (Obj.cells (List.toArray (defCells d (.slice A d.msgs.length c))) (24)))=W at hBW eW ⊢
 refine loop2_intro (fun a0 a1 w=>∃ (k:Nat) , a0 = .int .i64 (sumF (d.msgs.take k):Nat)∧a1 = .int .i64 (k:Int)∧k≤d.msgs.length∧Ext W w∧sumF (d.msgs.take k)≤400∧∀ m∈d.msgs.take k,∀ f∈m.fields,okF f) (fun a0 a1 _=>d.msgs.length - (intOf a1).toNat) ⟨0,rfl,rfl,Nat.zero_le _,ee,⟨by simp [sumF],by simp⟩⟩ ?_
 rintro _ _ w ⟨k,rfl,rfl,hk,e,hI⟩
 have se:=e.size
 rcases drop_cases hk with ⟨x,hx,hd,hlt,hdec⟩ | ⟨hk,hd,hdec⟩
 · obtain ⟨h400,hok⟩:=hI
   obtain ⟨b,o,cs,rfl,hl,hA,fv,rfl,hF⟩:=hel k x hx
   obtain ⟨A2,c2,rfl,hlc2,hcm2,hlm2,hel2⟩:=SliceOf.open hF
   have hxm:=List.mem_of_getElem? hx
   have hsx:=hs.2 x hxm
   have hx1:=hsx.1
   have e':=eW.trans e
   unfold n5c5
   by_cases hk70:k≤70
   · have d1:decide ((k:Int)≤70)=true:=by simp;omega
     simp (disch:=try exact DI) only [↓PR,QR,Int.reduceBEq,Int.reduceBNe,Int.reduceLT,Int.reduceLE,Int.reduceGT,Int.reduceGE,Int.reduceNeg,hBW.c3,hdec,d1]
     unfold n5c4
     have hwr:IntKind.i64.wrap ((sumF (d.msgs.take k):Int)+(x.fields.length:Int))=((sumF (d.msgs.take (k+1)):Nat):Int):=by
      rw [sumF_take hx,wrap_ok (by omega) (by omega)];omega
     by_cases hn:sumF (d.msgs.take (k+1))≤400
     · have d2:decide (((sumF (d.msgs.take (k+1)):Nat):Int) > 400)=false:=by simp;omega
       simp (disch:=try exact DI) only [↓PR,QR,Int.reduceBEq,Int.reduceBNe,Int.reduceLT,Int.reduceLE,Int.reduceGT,Int.reduceGE,Int.reduceNeg,hBW.c3,(hA.c2 e').1,(hA.c2 e').2,hwr,d2]
       rw [hwr]
       refine loop1_intro (fun a0 wb=>∃ (kb:Nat) , a0 = .int .i64 (kb:Int)∧kb≤x.fields.length∧Ext w wb∧∀ f∈x.fields.take kb,okF f) (fun a0 _=>x.fields.length - (intOf a0).toNat) ⟨0,rfl,Nat.zero_le _,ee,by simp⟩ ?_
       rintro _ wb ⟨kb,rfl,hkb,eb,hIb⟩
       have seb:=eb.size
       rcases drop_cases hkb with ⟨xb,hxb,hdb,hltb,hdecb⟩ | ⟨hkb,hdb,hdecb⟩
       · obtain ⟨b2,o2,cs2,rfl,hl2,hA2,hE2⟩:=hel2 kb xb hxb
         obtain ⟨tv,cv,rfl,hT,hC,ht1,hc1⟩:=hE2.op
         obtain ⟨A3,c3,rfl,hlc3,hcm3,hlm3,hel3⟩:=SliceOf.open hC
         obtain ⟨A4,c4,rfl,hlc4,hcm4,hlm4,hel4⟩:=SliceOf.open hT
         have eb':=e'.trans eb
         unfold n5c2
         simp (disch:=try exact DI) only [↓PR,QR,Int.reduceBEq,Int.reduceBNe,Int.reduceLT,Int.reduceLE,Int.reduceGT,Int.reduceGE,Int.reduceNeg,hdecb]
         unfold n5c1
         have hcell:=hA2.c15 eb'
         by_cases hc50:xb.cases.length≤50
         · have d3:decide ((xb.cases.length:Int) > 50)=false:=by simp;omega
           by_cases ht10:xb.terms.length≤10
           · have d4:decide ((xb.terms.length:Int) > 10)=false:=by simp;omega
             simp (disch:=try exact DI) only [↓PR,QR,Int.reduceBEq,Int.reduceBNe,Int.reduceLT,Int.reduceLE,Int.reduceGT,Int.reduceGE,Int.reduceNeg,hcell,d3,d4]
             exact ⟨⟨kb+1,rfl,by omega,ee,forall_take hIb hxb ⟨hc50,ht10⟩⟩,meas_lt hltb⟩
           · have d4:decide ((xb.terms.length:Int) > 10)=true:=by simp;omega
             simp (disch:=try exact DI) only [↓PR,QR,Int.reduceBEq,Int.reduceBNe,Int.reduceLT,Int.reduceLE,Int.reduceGT,Int.reduceGE,Int.reduceNeg,hcell,d3,d4]
             exact ⟨false,rfl,by simp,ee⟩
         · have d3:decide ((xb.cases.length:Int) > 50)=true:=by simp;omega
           simp (disch:=try exact DI) only [↓PR,QR,Int.reduceBEq,Int.reduceBNe,Int.reduceLT,Int.reduceLE,Int.reduceGT,Int.reduceGE,Int.reduceNeg,hcell,d3]
           exact ⟨false,rfl,by simp,ee⟩
       · subst hkb
         rw [List.take_length] at hIb
         unfold n5c2
         simp (disch:=try exact DI) only [↓PR,QR,Int.reduceBEq,Int.reduceBNe,Int.reduceLT,Int.reduceLE,Int.reduceGT,Int.reduceGE,Int.reduceNeg,hdecb]
         exact ⟨⟨k+1,rfl,rfl,by omega,ee,⟨hn,forall_take hok hx hIb⟩⟩,meas_lt hlt⟩
     · have d2:decide (((sumF (d.msgs.take (k+1)):Nat):Int) > 400)=true:=by simp;omega
       simp (disch:=try exact DI) only [↓PR,QR,Int.reduceBEq,Int.reduceBNe,Int.reduceLT,Int.reduceLE,Int.reduceGT,Int.reduceGE,Int.reduceNeg,hBW.c3,(hA.c2 e').1,(hA.c2 e').2,hwr,d2]
       exact ⟨false,rfl,by simp,ee⟩
   · have d1:decide ((k:Int)≤70)=false:=by simp;omega
     have d2:decide ((d.msgs.length:Int)≤70)=false:=by simp;omega
     simp (disch:=try exact DI) only [↓PR,QR,Int.reduceBEq,Int.reduceBNe,Int.reduceLT,Int.reduceLE,Int.reduceGT,Int.reduceGE,Int.reduceNeg,hBW.c3,hdec,d1,n5c3,d2]
     exact ⟨false,rfl,by simp,ee⟩
 · subst hk
   obtain ⟨h400,hok⟩:=hI
   rw [List.take_length] at h400 hok
   unfold n5c5
   simp (disch:=try exact DI) only [↓PR,QR,Int.reduceBEq,Int.reduceBNe,Int.reduceLT,Int.reduceLE,Int.reduceGT,Int.reduceGE,Int.reduceNeg,hBW.c3,hdec,n5c3]
   exact ⟨_,rfl,fun hb=>⟨by have:=of_decide_eq_true hb;omega,h400,hok⟩,ee⟩
theorem refsF_len {f:FieldD} (h:okF f):(refsF f).length≤50:=by
 unfold refsF
 split
 · simp
 · split
   · simpa using h.1
   · simp
theorem allRefs_len:∀ {l:List FieldD},(∀ f∈l,okF f)→(allRefs l).length≤l.length*50
 | [],_=>by simp [allRefs]
 | f::l,h=>by
  have h1:=refsF_len (h f (List.mem_cons_self ..))
  have h2:=allRefs_len (l:=l) (fun g hg=>h g (List.mem_cons_of_mem _ hg))
  unfold allRefs at *
  rw [List.flatMap_cons,List.length_append,List.length_cons]
  omega
theorem fits_calm {d:DefD} (h:fitsP d):calm d:=fun m hm=>by
 have h1:=le_sumF hm
 have h2:=h.2.1
 have h3:=allRefs_len (h.2.2 m hm)
 exact ⟨by omega,fun f hf=>by have:=(h.2.2 m hm f hf).2;omega⟩
theorem fits_tame {d:DefD} (h:fitsP d):tame d:=⟨by have:=h.1;omega,fun m hm=>⟨by have:=le_sumF hm;have:=h.2.1;omega,fun f hf=>⟨by have:=(h.2.2 m hm f hf).2;omega,by have:=(h.2.2 m hm f hf).1;omega⟩⟩⟩
end Go.Proofs.YtiajhbbmgglmlaaGreat
namespace Go.Proofs.YtiajhbbmgglmlaaGreat
open Sw
open Go.RowKit (intOf Below)
theorem take_get {α:Type} {l:List α} {n k:Nat} {x:α} (h:(l.take n)[k]?=some x):l[k]?=some x:=by
 rw [List.getElem?_take] at h
 split at h
 · exact h
 · cases h
theorem rFind_ret (w0:World) (v:Value) (d:DefD) (s:ByteArray) (n:Nat) (hd:DefVal w0 v d) (hn:n≤d.msgs.length) :
 Ret Pg 26 #[v,.string s,.int .i64 (n:Int)] w0 fun r w'=>r = .int .i64 (idx (fun m=>decide (m.name=s)) (d.msgs.take n))∧Ext w0 w':=by
 obtain ⟨mv,rfl,hM⟩:=hd
 obtain ⟨A,c,rfl,hlc,hcm,hlm,hel⟩:=SliceOf.open hM
 have hlen:(d.msgs.take n).length=n:=by rw [List.length_take];omega
 refine n20s (R:=retR _) ?_;unfold n20
 simp (disch:=try exact DI) only [↓PR,QR,Int.reduceBEq,Int.reduceBNe,Int.reduceLT,Int.reduceLE,Int.reduceGT,Int.reduceGE,Int.reduceNeg]
 generalize hW:World.alloc w0 _=W
 have e0:Ext w0 W:=by rw [← hW];exact ee
 have o3:W.heap[w0.heap.size]?=some (.cells #[.string d.name,.slice A d.msgs.length c,.string d.start] 24 (0,0)):=by rw [← hW];simp (disch:=try exact DI) only [↓PR,QR,Int.reduceBEq,Int.reduceBNe,Int.reduceLT,Int.reduceLE,Int.reduceGT,Int.reduceGE,Int.reduceNeg]
 clear hW
 refine loop1_intro (fun a0 w=>∃ (k:Nat) , a0 = .int .i64 (k:Int)∧k≤(d.msgs.take n).length∧Ext W w∧∀ (j:Nat) y,j < k→(d.msgs.take n)[j]?=some y→decide (y.name=s)=false) (fun a0 _=>(d.msgs.take n).length - (intOf a0).toNat) ⟨0,rfl,Nat.zero_le _,ee,fun j y h=>by omega⟩ ?_
 rintro _ w ⟨k,rfl,hk,e,hI⟩
 have se:=e.size
 rcases drop_cases hk with ⟨x,hx,hd,hlt,hdec⟩ | ⟨hk,hd,hdec⟩
 · obtain ⟨b,o,cs,rfl,_,hA,hE⟩:=hel k x (take_get hx)
   obtain ⟨fv,rfl,hF⟩:=hE
   rw [hlen] at hdec hlt
   have hlt':k < d.msgs.length:=by omega
   have e0':=e0.trans e
   simp (disch:=try exact DI) only [↓PR,QR,Int.reduceBEq,Int.reduceBNe,Int.reduceLT,Int.reduceLE,Int.reduceGT,Int.reduceGE,Int.reduceNeg,↓n20c1,hdec,(cells_of_heap (e.obj o3)).1,hA.c2]
   cases hp:decide (x.name=s) with
   | true =>
    simp (disch:=try exact DI) only [↓PR,QR,Int.reduceBEq,Int.reduceBNe,Int.reduceLT,Int.reduceLE,Int.reduceGT,Int.reduceGE,Int.reduceNeg]
    exact ⟨by rw [idx_here hx hp hI],e0'⟩
   | false =>
    simp (disch:=try exact DI) only [↓PR,QR,Int.reduceBEq,Int.reduceBNe,Int.reduceLT,Int.reduceLE,Int.reduceGT,Int.reduceGE,Int.reduceNeg]
    have hlt:k < (d.msgs.take n).length:=by omega
    exact ⟨⟨k+1,rfl,by omega,ee,before_succ hI hx hp⟩,meas_lt hlt⟩
 · rw [hlen] at hk hdec
   subst hk
   simp (disch:=try exact DI) only [↓PR,QR,Int.reduceBEq,Int.reduceBNe,Int.reduceLT,Int.reduceLE,Int.reduceGT,Int.reduceGE,Int.reduceNeg,↓n20c1,hdec]
   exact ⟨by rw [idx_none fun j y hy=>hI j y (by have:=(List.getElem?_eq_some_iff.1 hy).1;omega) hy],e0.trans e⟩
theorem rField_ret (w0:World) (v:Value) (d:MsgD) (s:ByteArray) (n:Nat) (hd:MsgVal w0 v d) (hn:n≤d.fields.length) :
 Ret Pg 42 #[v,.string s,.int .i64 (n:Int)] w0 fun r w'=>r = .int .i64 (idx (fun m=>decide (m.name=s)) (d.fields.take n))∧Ext w0 w':=by
 obtain ⟨mv,rfl,hM⟩:=hd
 obtain ⟨A,c,rfl,hlc,hcm,hlm,hel⟩:=SliceOf.open hM
 have hlen:(d.fields.take n).length=n:=by rw [List.length_take];omega
 refine n19s (R:=retR _) ?_;unfold n19
 simp (disch:=try exact DI) only [↓PR,QR,Int.reduceBEq,Int.reduceBNe,Int.reduceLT,Int.reduceLE,Int.reduceGT,Int.reduceGE,Int.reduceNeg]
 generalize hW:World.alloc w0 _=W
 have e0:Ext w0 W:=by rw [← hW];exact ee
 have o3:W.heap[w0.heap.size]?=some (.cells #[.string d.name,.slice A d.fields.length c] 45 (0,0)):=by rw [← hW];simp (disch:=try exact DI) only [↓PR,QR,Int.reduceBEq,Int.reduceBNe,Int.reduceLT,Int.reduceLE,Int.reduceGT,Int.reduceGE,Int.reduceNeg]
 clear hW
 refine loop1_intro (fun a0 w=>∃ (k:Nat) , a0 = .int .i64 (k:Int)∧k≤(d.fields.take n).length∧Ext W w∧∀ (j:Nat) y,j < k→(d.fields.take n)[j]?=some y→decide (y.name=s)=false) (fun a0 _=>(d.fields.take n).length - (intOf a0).toNat) ⟨0,rfl,Nat.zero_le _,ee,fun j y h=>by omega⟩ ?_
 rintro _ w ⟨k,rfl,hk,e,hI⟩
 have se:=e.size
 rcases drop_cases hk with ⟨x,hx,hd,hlt,hdec⟩ | ⟨hk,hd,hdec⟩
 · obtain ⟨b,o,cs,rfl,_,hA,hE⟩:=hel k x (take_get hx)
   obtain ⟨tv,cv,rfl,hT,hC,ht1,hc1⟩:=hE.op
   rw [hlen] at hdec hlt
   have hlt':k < d.fields.length:=by omega
   have e0':=e0.trans e
   simp (disch:=try exact DI) only [↓PR,QR,Int.reduceBEq,Int.reduceBNe,Int.reduceLT,Int.reduceLE,Int.reduceGT,Int.reduceGE,Int.reduceNeg,↓n19c1,hdec,(cells_of_heap (e.obj o3)).1,hA.c15]
   cases hp:decide (x.name=s) with
   | true =>
    simp (disch:=try exact DI) only [↓PR,QR,Int.reduceBEq,Int.reduceBNe,Int.reduceLT,Int.reduceLE,Int.reduceGT,Int.reduceGE,Int.reduceNeg]
    exact ⟨by rw [idx_here hx hp hI],e0'⟩
   | false =>
    simp (disch:=try exact DI) only [↓PR,QR,Int.reduceBEq,Int.reduceBNe,Int.reduceLT,Int.reduceLE,Int.reduceGT,Int.reduceGE,Int.reduceNeg]
    have hlt:k < (d.fields.take n).length:=by omega
    exact ⟨⟨k+1,rfl,by omega,ee,before_succ hI hx hp⟩,meas_lt hlt⟩
 · rw [hlen] at hk hdec
   subst hk
   simp (disch:=try exact DI) only [↓PR,QR,Int.reduceBEq,Int.reduceBNe,Int.reduceLT,Int.reduceLE,Int.reduceGT,Int.reduceGE,Int.reduceNeg,↓n19c1,hdec]
   exact ⟨by rw [idx_none fun j y hy=>hI j y (by have:=(List.getElem?_eq_some_iff.1 hy).1;omega) hy],e0.trans e⟩
end Go.Proofs.YtiajhbbmgglmlaaGreat
namespace Go.Proofs.YtiajhbbmgglmlaaGreat
open Sw
open Go.RowKit (intOf Below)
theorem rsameCases_ret (w0:World) (v u:Value) (l m:List CaseD) (hl:CasesOf w0 v l) (hm:CasesOf w0 u m) :
 Ret Pg 46 #[v,u] w0 fun r w'=>r = .bool (decide (l=m))∧Ext w0 w':=by
 obtain ⟨A,c,rfl,hlc,hcm,hlm,hel⟩:=SliceOf.open hl
 obtain ⟨A',c',rfl,hlc',hcm',hlm',hel'⟩:=SliceOf.open hm
 refine n31s (R:=retR _) ?_;unfold n31
 simp (disch:=try exact DI) only [↓PR,QR,Int.reduceBEq,Int.reduceBNe,Int.reduceLT,Int.reduceLE,Int.reduceGT,Int.reduceGE,Int.reduceNeg]
 by_cases hlen:l.length=m.length
 · have hne:((l.length:Int) != (m.length:Int))=false:=by simp [hlen]
   simp (disch:=try exact DI) only [↓PR,QR,Int.reduceBEq,Int.reduceBNe,Int.reduceLT,Int.reduceLE,Int.reduceGT,Int.reduceGE,Int.reduceNeg,hne]
   refine loop1_intro (fun a0 w=>∃ (k:Nat) , a0 = .int .i64 (k:Int)∧k≤l.length∧Ext w0 w∧l.take k=m.take k) (fun a0 _=>l.length - (intOf a0).toNat) ⟨0,rfl,Nat.zero_le _,ee,rfl⟩ ?_
   rintro _ w ⟨k,rfl,hk,e,hI⟩
   have se:=e.size
   rcases drop_cases hk with ⟨x,hx,hd,hlt,hdec⟩ | ⟨hk,hd,hdec⟩
   · obtain ⟨b,o,cs,rfl,_,hA,rfl⟩:=hel k x hx
     obtain ⟨y,hy⟩:=getElem?_lt (l:=m) (k:=k) (by omega)
     obtain ⟨b',o',cs',rfl,_,hA',rfl⟩:=hel' k y hy
     have hlt':k < m.length:=by omega
     have eD:Ext w0 w.drew:=e.wdrew
     simp (disch:=try exact DI) only [↓PR,QR,Int.reduceBEq,Int.reduceBNe,Int.reduceLT,Int.reduceLE,Int.reduceGT,Int.reduceGE,Int.reduceNeg,↓n31c1,↓n31c2,hdec]
     refine drawK_intro ?_
     simp (disch:=try exact DI) only [↓PR,QR,Int.reduceBEq,Int.reduceBNe,Int.reduceLT,Int.reduceLE,Int.reduceGT,Int.reduceGE,Int.reduceNeg,↓n31c1,↓n31c2,hA.c3,hA'.c3]
     rw [eq_Case]
     by_cases hxy:x=y
     · subst hxy
       simp only [decide_true,Bool.not_true]
       simp (disch:=try exact DI) only [↓PR,QR,Int.reduceBEq,Int.reduceBNe,Int.reduceLT,Int.reduceLE,Int.reduceGT,Int.reduceGE,Int.reduceNeg,↓n31c1,↓n31c2]
       exact ⟨⟨k+1,rfl,by omega,ee,by rw [List.take_add_one,List.take_add_one,hx,hy,hI]⟩,meas_lt hlt⟩
     · simp only [hxy,decide_false,Bool.not_false]
       simp (disch:=try exact DI) only [↓PR,QR,Int.reduceBEq,Int.reduceBNe,Int.reduceLT,Int.reduceLE,Int.reduceGT,Int.reduceGE,Int.reduceNeg,↓n31c1,↓n31c2]
       have hne':¬ l=m:=by
        rintro rfl
        rw [hx] at hy
        injection hy with hy
        exact hxy hy
       exact ⟨by simp [hne'],eD⟩
   · subst hk
     simp (disch:=try exact DI) only [↓PR,QR,Int.reduceBEq,Int.reduceBNe,Int.reduceLT,Int.reduceLE,Int.reduceGT,Int.reduceGE,Int.reduceNeg,↓n31c1,↓n31c2,hdec]
     rw [List.take_length,hlen,List.take_length] at hI
     exact ⟨by simp [hI],e⟩
 · have hne:((l.length:Int) != (m.length:Int))=true:=by simp;omega
   simp (disch:=try exact DI) only [↓PR,QR,Int.reduceBEq,Int.reduceBNe,Int.reduceLT,Int.reduceLE,Int.reduceGT,Int.reduceGE,Int.reduceNeg,hne]
   have hne':¬ l=m:=fun h=>hlen (by rw [h])
   exact ⟨by simp [hne'],Ext.refl _⟩
theorem rSame_ret (w0:World) (v u:Value) (p q:Int) (l m:List TermD) (hl:SizeVal w0 v p l) (hm:SizeVal w0 u q m) :
 Ret Pg 45 #[v,u] w0 fun r w'=>r = .bool (decide (p=q∧l=m))∧Ext w0 w':=by
 obtain ⟨tv,rfl,hT⟩:=hl
 obtain ⟨sv,rfl,hS⟩:=hm
 obtain ⟨A,c,rfl,hlc,hcm,hlm,hel⟩:=SliceOf.open hT
 obtain ⟨A',c',rfl,hlc',hcm',hlm',hel'⟩:=SliceOf.open hS
 refine n12s (R:=retR _) ?_;unfold n12
 simp (disch:=try exact DI) only [↓PR,QR,Int.reduceBEq,Int.reduceBNe,Int.reduceLT,Int.reduceLE,Int.reduceGT,Int.reduceGE,Int.reduceNeg]
 by_cases hpq:p=q∧l.length=m.length
 · obtain ⟨h1,hlen⟩:=hpq
   have hn1:(p != q)=false:=by simp [h1]
   have hn2:((l.length:Int) != (m.length:Int))=false:=by simp [hlen]
   simp (disch:=try exact DI) only [↓PR,QR,Int.reduceBEq,Int.reduceBNe,Int.reduceLT,Int.reduceLE,Int.reduceGT,Int.reduceGE,Int.reduceNeg,hn1,hn2]
   generalize hW:World.alloc (World.alloc w0 _) _=W
   have e0:Ext w0 W:=by rw [← hW];exact ee
   have o3:W.heap[w0.heap.size]?=some (.cells #[.int .i64 p,.slice A l.length c] 49 (0,0)):=by rw [← hW];simp (disch:=try exact DI) only [↓PR,QR,Int.reduceBEq,Int.reduceBNe,Int.reduceLT,Int.reduceLE,Int.reduceGT,Int.reduceGE,Int.reduceNeg]
   have o4:W.heap[w0.heap.size+1]?=some (.cells #[.int .i64 q,.slice A' m.length c'] 49 (0,0)):=by rw [← hW];simp (disch:=try exact DI) only [↓PR,QR,Int.reduceBEq,Int.reduceBNe,Int.reduceLT,Int.reduceLE,Int.reduceGT,Int.reduceGE,Int.reduceNeg]
   clear hW
   refine loop1_intro (fun a0 w=>∃ (k:Nat) , a0 = .int .i64 (k:Int)∧k≤l.length∧Ext W w∧l.take k=m.take k) (fun a0 _=>l.length - (intOf a0).toNat) ⟨0,rfl,Nat.zero_le _,ee,rfl⟩ ?_
   rintro _ w ⟨k,rfl,hk,e,hI⟩
   have se:=e.size
   rcases drop_cases hk with ⟨x,hx,hd,hlt,hdec⟩ | ⟨hk,hd,hdec⟩
   · obtain ⟨b,o,cs,rfl,_,hA,rfl⟩:=hel k x hx
     obtain ⟨y,hy⟩:=getElem?_lt (l:=m) (k:=k) (by omega)
     obtain ⟨b',o',cs',rfl,_,hA',rfl⟩:=hel' k y hy
     have hlt':k < m.length:=by omega
     have e1:=e0.trans e
     have eD:Ext w0 w.drew:=e1.wdrew
     simp (disch:=try exact DI) only [↓PR,QR,Int.reduceBEq,Int.reduceBNe,Int.reduceLT,Int.reduceLE,Int.reduceGT,Int.reduceGE,Int.reduceNeg,↓n12c1,↓n12c2,hdec,(cells_of_heap (e.obj o3)).1]
     refine drawK_intro ?_
     simp (disch:=try exact DI) only [↓PR,QR,Int.reduceBEq,Int.reduceBNe,Int.reduceLT,Int.reduceLE,Int.reduceGT,Int.reduceGE,Int.reduceNeg,↓n12c1,↓n12c2,(cells_of_heap (e.obj o3)).1,(cells_of_heap (e.obj o4)).1,hA.c2,hA'.c2]
     rw [eq_Term]
     by_cases hxy:x=y
     · subst hxy
       simp only [decide_true,Bool.not_true]
       simp (disch:=try exact DI) only [↓PR,QR,Int.reduceBEq,Int.reduceBNe,Int.reduceLT,Int.reduceLE,Int.reduceGT,Int.reduceGE,Int.reduceNeg,↓n12c1,↓n12c2]
       exact ⟨⟨k+1,rfl,by omega,ee,by rw [List.take_add_one,List.take_add_one,hx,hy,hI]⟩,meas_lt hlt⟩
     · simp only [hxy,decide_false,Bool.not_false]
       simp (disch:=try exact DI) only [↓PR,QR,Int.reduceBEq,Int.reduceBNe,Int.reduceLT,Int.reduceLE,Int.reduceGT,Int.reduceGE,Int.reduceNeg,↓n12c1,↓n12c2]
       have hne':¬ l=m:=by
        rintro rfl
        rw [hx] at hy
        injection hy with hy
        exact hxy hy
       exact ⟨by simp [hne'],eD⟩
   · subst hk
     simp (disch:=try exact DI) only [↓PR,QR,Int.reduceBEq,Int.reduceBNe,Int.reduceLT,Int.reduceLE,Int.reduceGT,Int.reduceGE,Int.reduceNeg,↓n12c1,↓n12c2,hdec,(cells_of_heap (e.obj o3)).1]
     rw [List.take_length,hlen,List.take_length] at hI
     exact ⟨by simp [hI,h1],e0.trans e⟩
 · have hf:((p != q)||((l.length:Int) != (m.length:Int)))=true:=by
    by_cases h:p=q
    · simp [h];intro h2;exact hpq ⟨h,by omega⟩
    · simp [h]
   have hne':¬ (p=q∧l=m):=by rintro ⟨h1,rfl⟩;exact hpq ⟨h1,rfl⟩
   simp only [hf]
   simp (disch:=try exact DI) only [↓PR,QR,Int.reduceBEq,Int.reduceBNe,Int.reduceLT,Int.reduceLE,Int.reduceGT,Int.reduceGE,Int.reduceNeg]
   exact ⟨by simp [hne'],ee⟩
end Go.Proofs.YtiajhbbmgglmlaaGreat
