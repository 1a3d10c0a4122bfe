/-
  Lemmas for the claim.
-/
import Derived.Test.YtdfhjlggcdemhaaGreatSm5
set_option linter.all false
set_option maxHeartbeats 4000000
set_option maxRecDepth 100000
namespace Go.Proofs.YtdfhjlggcdemhaaGreat
open Sw
def n9 (R:RT) (w:World):Prop :=
 opV Pg (Instr.alloc 24 true (.tuple #[])) (panK R) w fun t0 w =>
 opV Pg (Instr.build 121 #[(0,(.string { data := #[110] })),(1,(.int .i64 1))]) (panK R) w fun t3 w =>
 opV Pg (Instr.buildSlice 33 1 #[(0,t3)]) (panK R) w fun t4 w =>
 opV Pg (Instr.build 35 #[(1,t4)]) (panK R) w fun t5 w =>
 opV Pg (Instr.alloc 35 true (.tuple #[])) (panK R) w fun t1 w =>
 opU Pg (Instr.storeAt 35 t1 t5) (panK R) w fun w =>
 opV Pg (Instr.build 121 #[(0,(.string { data := #[116] })),(1,(.int .i64 1))]) (panK R) w fun t6 w =>
 opV Pg (Instr.buildSlice 33 1 #[(0,t6)]) (panK R) w fun t7 w =>
 opV Pg (Instr.build 35 #[(0,(.int .i64 1)),(1,t7)]) (panK R) w fun t8 w =>
 opV Pg (Instr.alloc 35 true (.tuple #[])) (panK R) w fun t2 w =>
 opU Pg (Instr.storeAt 35 t2 t8) (panK R) w fun w =>
 opV Pg (Instr.build 38 #[(0,(.string { data := #[110] })),(1,(.int .i64 1)),(2,(.int .i64 8)),(6,(.int .i64 3))]) (panK R) w fun t9 w =>
 L0 35 t1 R w fun t10 w =>
 opV Pg (Instr.build 38 #[(0,(.string { data := #[98] })),(1,(.int .i64 4)),(7,t10)]) (panK R) w fun t11 w =>
 opV Pg (Instr.buildSlice 42 2 #[(0,t9),(1,t11)]) (panK R) w fun t12 w =>
 opV Pg (Instr.build 44 #[(0,(.string { data := #[97] })),(1,t12)]) (panK R) w fun t13 w =>
 opV Pg (Instr.build 38 #[(0,(.string { data := #[116] })),(1,(.int .i64 1)),(2,(.int .i64 3)),(6,(.int .i64 2))]) (panK R) w fun t14 w =>
 opV Pg (Instr.build 38 #[(0,(.string { data := #[112] })),(1,(.int .i64 10)),(2,(.int .i64 8))]) (panK R) w fun t15 w =>
 opV Pg (Instr.build 38 #[(0,(.string { data := #[118] })),(1,(.int .i64 3)),(6,(.int .i64 300))]) (panK R) w fun t16 w =>
 L0 35 t2 R w fun t17 w =>
 opV Pg (Instr.build 38 #[(0,(.string { data := #[108] })),(1,(.int .i64 7)),(8,(.string { data := #[97] })),(7,t17)]) (panK R) w fun t18 w =>
 opV Pg (Instr.build 38 #[(0,(.string { data := #[107] })),(1,(.int .i64 11)),(12,(.int .i64 3)),(10,(.string { data := #[116] }))]) (panK R) w fun t19 w =>
 opV Pg (Instr.buildSlice 42 5 #[(0,t14),(1,t15),(2,t16),(3,t18),(4,t19)]) (panK R) w fun t20 w =>
 opV Pg (Instr.build 44 #[(0,(.string { data := #[109] })),(1,t20)]) (panK R) w fun t21 w =>
 opV Pg (Instr.buildSlice 22 2 #[(0,t13),(1,t21)]) (panK R) w fun t22 w =>
 opV Pg (Instr.build 24 #[(0,(.string { data := #[100] })),(2,(.string { data := #[109] })),(1,t22)]) (panK R) w fun t23 w =>
 opU Pg (Instr.storeAt 24 t0 t23) (panK R) w fun w =>
 qW Pg 24 t0 w fun r0 =>
 R (.returned r0) w
theorem n9s {R:RT} {w:World} (h:n9 R w):Calls Pg 61 #[] w R:=by
 refine yD Tryz.func61 ?_
 refine zs<|zr<|yv h fun _ w h=>zn<|zk<|zs<|zr<|yB h fun _ w h=>yS h fun _ w h=>yB h fun _ w h=>yv h fun _ w h=>yu h fun w h=>zn<|zk<|zs ?_
 refine zr<|yB h fun _ w h=>yS h fun _ w h=>yB h fun _ w h=>yv h fun _ w h=>yu h fun w h=>zn<|zk<|zs<|zr<|yB h fun _ w h=>yv h fun _ w h=>yB h fun _ w h=>yS h fun _ w h=>yB h fun _ w h=>?_
 exact yB h fun _ w h=>yB h fun _ w h=>yB h fun _ w h=>yv h fun _ w h=>yB h fun _ w h=>yB h fun _ w h=>yS h fun _ w h=>yB h fun _ w h=>yS h fun _ w h=>yB h fun _ w h=>yu h fun w h=>zn<|zk<|sim_ret<|body_retC rfl rfl h
def n7c1 (t2 t3 t15:Value) (R:RT) (w:World):Prop :=
 opV Pg (Instr.extract t15 0) (panK R) w fun t16 w =>
 opV Pg (Instr.extract t15 1) (panK R) w fun t17 w =>
 opV Pg (Instr.alloc 67 true (.tuple #[])) (panK R) w fun t9 w =>
 opU Pg (Instr.storeAt 67 t9 t16) (panK R) w fun w =>
 L0 67 t9 R w fun t18 w =>
 C0 63 #[t18,t17,t2,t3] R w fun t22 w =>
 R (.returned t22) w
def n7 (t0 t1 t2 t3:Value) (R:RT) (w:World):Prop :=
 C0 61 #[] R w fun t12 w =>
 C0 33 #[t12,t0,t1] R w fun t15 w =>
 n7c1 t2 t3 t15 R w
theorem n7s {t0 t1 t2 t3:Value} {R:RT} {w:World} (h:n7 t0 t1 t2 t3 R w):Calls Pg 62 #[t0,t1,t2,t3] w R:=by
 refine yD Tryz.func62 ?_
 refine zs<|zr<|zm<|zn<|zk<|zs<|zr<|yc h c61 fun _ w h=>zm<|zm<|yc h c33 fun _ w h=>zm<|yv h fun _ w h=>yv h fun _ w h=>yv h fun _ w h=>?_
 refine yu h fun w h=>zm<|zn<|zk<|zs<|zr<|yv h fun _ w h=>zm<|zm<|zm<|yc h c63 fun _ w h=>zm<|zn<|zk<|sim_ret ?_
 exact body_ret1 rfl rfl h
def n10 (t0 t1 t2 t3:Value) (R:RT) (w:World):Prop :=
 opV Pg (Instr.box 67 t0) (panK R) w fun t4 w =>
 L0 67 t4 R w fun t9 w =>
 opV Pg (Instr.build 67 #[(0,t2),(1,t3)]) (panK R) w fun t12 w =>
 B0 .eql 67 false t9 t12 R w fun t13 w =>
 joinK (fun (t16:Value) (w:World) =>
 pickK t13 t16 (.bool false) fun t17 =>
 R (.returned t17) w) fun K1 =>
 guardP t13 true (
 B0 .eql 52 true t1 (.int .i64 0) R w fun t16 w =>
 K1 t16 w) (
 K1 undef w)
theorem n10s {t0 t1 t2 t3:Value} {R:RT} {w:World} (h:n10 t0 t1 t2 t3 R w):Calls Pg 63 #[t0,t1,t2,t3] w R:=by
 refine yD Tryz.func63 ?_
 refine zs<|zr<|yv h fun _ w h=>zm<|zn<|zk<|zs<|sim_regionG<|yG 6<|yv h fun _ w h=>zm<|zm<|yB h fun _ w h=>yb h fun _ w h=>zm ?_
 refine zn<|yg1 2 5 true [15,16] 16 h (fun _ T hT h=>?_) fun σ w h=>?_
 · refine zm<|yb h fun _ w h=>zn ?_
   exact zt hT h
 exact yG 2<|yp h fun _ h=>zm<|zn<|sim_end<|zk<|sim_ret<|body_ret1 rfl rfl h
def n12c1 (t2 t3 t15:Value) (R:RT) (w:World):Prop :=
 opV Pg (Instr.extract t15 0) (panK R) w fun t16 w =>
 opV Pg (Instr.extract t15 1) (panK R) w fun t17 w =>
 opV Pg (Instr.alloc 67 true (.tuple #[])) (panK R) w fun t9 w =>
 opU Pg (Instr.storeAt 67 t9 t16) (panK R) w fun w =>
 L0 67 t9 R w fun t18 w =>
 C0 63 #[t18,t17,t2,t3] R w fun t22 w =>
 R (.returned t22) w
def n12 (t0 t1 t2 t3:Value) (R:RT) (w:World):Prop :=
 C0 61 #[] R w fun t12 w =>
 C0 34 #[t12,t0,t1] R w fun t15 w =>
 n12c1 t2 t3 t15 R w
theorem n12s {t0 t1 t2 t3:Value} {R:RT} {w:World} (h:n12 t0 t1 t2 t3 R w):Calls Pg 64 #[t0,t1,t2,t3] w R:=by
 refine yD Tryz.func64 ?_
 refine zs<|zr<|zm<|zn<|zk<|zs<|zr<|yc h c61 fun _ w h=>zm<|zm<|yc h c34 fun _ w h=>zm<|yv h fun _ w h=>yv h fun _ w h=>yv h fun _ w h=>?_
 refine yu h fun w h=>zm<|zn<|zk<|zs<|zr<|yv h fun _ w h=>zm<|zm<|zm<|yc h c63 fun _ w h=>zm<|zn<|zk<|sim_ret ?_
 exact body_ret1 rfl rfl h
def n139c1 (t3 t8 t10:Value) (R:RT) (w:World):Prop :=
 L0 105 t10 R w fun t37 w =>
 callV Pg t3 #[t37] (panK R) w fun t38 w =>
 opU Pg (Instr.storeAt 67 t8 t38) (panK R) w fun w =>
 qW Pg 67 t8 w fun r0 =>
 R (.returned (.tuple #[r0,(.int .i64 0)])) w
def n139c2 (t3 t8 t10 t11:Value) (R:RT) (w:World):Prop :=
 B0 .neq 52 true t11 (.int .i64 0) R w fun t33 w =>
 condP t33 (
 opV Pg (Instr.build 67 #[]) (panK R) w fun t34 w =>
 opU Pg (Instr.storeAt 67 t8 t34) (panK R) w fun w =>
 qW Pg 67 t8 w fun r0 =>
 R (.returned (.tuple #[r0,t11])) w) (
 n139c1 t3 t8 t10 R w)
def n139c3 (t3 t8 t10 t17 t19 t23 t29:Value) (R:RT) (w:World):Prop :=
 joinK (fun (t30:Value) (w:World) =>
 pickK t19 t30 (.bool false) fun t31 =>
 joinK (fun (t11:Value) (w:World) =>
 n139c2 t3 t8 t10 t11 R w) fun K4 =>
 condP t31 (
 K4 (.int .i64 3) w) (
 K4 t17 w)) fun K3 =>
 guardP t19 true (
 pickK t23 (.bool true) t29 fun t30 =>
 K3 t30 w) (
 K3 undef w)
def n139c4 (t2 t3 t8 t10 t17 t19 t23:Value) (R:RT) (w:World):Prop :=
 joinK (fun (t29:Value) (w:World) =>
 n139c3 t3 t8 t10 t17 t19 t23 t29 R w) fun K2 =>
 guardP t23 false (
 F0 105 t10 0 R w fun t25 w =>
 F0 44 t25 1 R w fun t26 w =>
 L0 42 t26 R w fun t27 w =>
 opV Pg (Builtin.len_ #[42] 3 #[t27]) (panK R) w fun t28 w =>
 B0 .geq 3 false t2 t28 R w fun t29 w =>
 K2 t29 w) (
 K2 undef w)
def n139c5 (t2 t3 t8 t15:Value) (R:RT) (w:World):Prop :=
 opV Pg (Instr.extract t15 0) (panK R) w fun t16 w =>
 opV Pg (Instr.extract t15 1) (panK R) w fun t17 w =>
 opV Pg (Instr.alloc 105 true (.tuple #[])) (panK R) w fun t10 w =>
 opU Pg (Instr.storeAt 105 t10 t16) (panK R) w fun w =>
 B0 .eql 52 true t17 (.int .i64 0) R w fun t19 w =>
 joinK (fun (t23:Value) (w:World) =>
 n139c4 t2 t3 t8 t10 t17 t19 t23 R w) fun K1 =>
 guardP t19 true (
 B0 .lss 3 true t2 (.int .i64 0) R w fun t22 w =>
 K1 t22 w) (
 K1 undef w)
def n139 (t0 t1 t2 t3:Value) (R:RT) (w:World):Prop :=
 opV Pg (Instr.box 24 t0) (panK R) w fun t4 w =>
 opV Pg (Instr.alloc 67 true (.tuple #[])) (panK R) w fun t8 w =>
 L0 24 t4 R w fun t13 w =>
 C0 100 #[t13,t1] R w fun t15 w =>
 n139c5 t2 t3 t8 t15 R w
theorem n139s {t0 t1 t2 t3:Value} {R:RT} {w:World} (h:n139 t0 t1 t2 t3 R w):Calls Pg 65 #[t0,t1,t2,t3] w R:=by
 refine yD Tryz.func65 ?_
 refine zs<|zr<|yv h fun _ w h=>yv h fun _ w h=>zm<|zn<|zk<|zs<|zr<|yv h fun _ w h=>zm<|yc h c100 fun _ w h=>zm<|yv h fun _ w h=>yv h fun _ w h=>?_
 refine yv h fun _ w h=>yu h fun w h=>zm<|zn<|zk<|zs<|zs<|sim_regionG<|yG 3<|zm<|yb h fun _ w h=>zm<|zn<|yg1 3 2 true [21,22,23] 23 h (fun _ T hT h=>?_) fun σ w h=>?_
 · refine zm<|yb h fun _ w h=>zm<|zn ?_
   exact zt hT h
 refine yg1 6 5 false [24,25,26,27,28,29] 29 h (fun _ T hT h=>?_) fun σ w h=>?_
 · refine zm<|yv h fun _ w h=>yv h fun _ w h=>yv h fun _ w h=>yx h fun _ w h=>yb h fun _ w h=>zn ?_
   exact zt hT h
 refine yg1 1 2 true [30] 30 h (fun _ T hT h=>?_) fun σ w h=>?_
 · refine yp h fun _ h=>zn ?_
   exact zt hT h
 refine yG 1<|yp h fun _ h=>zn<|sim_end<|zk<|yJ1 [11] 11 h (fun _ _ hkK4 h=>?_) fun σ w h=>?_
 · refine yC h (fun h=>?_) fun h=>?_
   · refine zr<|zm<|zn<|zk ?_
     exact zt hkK4 h
   refine sim_skip<|zk ?_
   exact zt hkK4 h
 refine zk<|zs<|zs<|zr<|zm<|yb h fun _ w h=>zn<|zk<|yC h (fun h=>zs<|zr<|yB h fun _ w h=>zm<|yu h fun w h=>zm<|zn<|zk<|sim_ret<|sim_then_ret<|body_retCT rfl rfl rfl h) fun h=>sim_skip<|zk<|zs<|zr<|zm ?_
 exact yv h fun _ w h=>yV h fun _ w h=>yu h fun w h=>zm<|zn<|zk<|sim_ret<|body_retCT rfl rfl rfl h
def n130c1 (t1 t2 t3:Value) (C1:World→Prop) (R:RT) (w:World):Prop :=
 qV Pg C1 (Instr.loadAt 105 t2) fun t4 =>
 qV Pg C1 (Instr.fieldAt 105 t2 0) fun t5 =>
 qV Pg C1 (Instr.fieldAt 44 t5 1) fun t6 =>
 qV Pg C1 (Instr.loadAt 42 t6) fun t7 =>
 qV Pg C1 (Instr.loadAt 3 t1) fun t8 =>
 qV Pg C1 (Instr.indexAt 42 t7 t8) fun t9 =>
 qV Pg C1 (Instr.loadAt 38 t9) fun t10 =>
 C0 67 #[t4,t10] R w fun t11 w =>
 C1 w∧(
 opU Pg (Instr.storeAt 67 t3 t11) (panK R) w fun w =>
 turnK w fun C2 w =>
 qW Pg 67 t3 w fun r0 =>
 R (.returned r0) w)
def n130 (t0 t1:Value) (R:RT) (w:World):Prop :=
 opV Pg (Instr.box 105 t0) (panK R) w fun t2 w =>
 opV Pg (Instr.alloc 67 true (.tuple #[])) (panK R) w fun t3 w =>
 drawK w fun C1 w =>
 n130c1 t1 t2 t3 C1 R w
theorem n130s {t0 t1:Value} {R:RT} {w:World} (h:n130 t0 t1 R w):Calls Pg 66 #[t0,t1] w R:=by
 refine yD Tryz.func66 ?_
 refine zs<|zr<|yv h fun _ w h=>yv h fun _ w h=>zn<|zk<|zs<|yh [4,5,6,7,8,9,10,11] h fun C hC h=>ye 0 hC h fun _ h=>?_
 refine ye 1 hC h fun _ h=>?_
 refine ye 2 hC h fun _ h=>?_
 refine ye 3 hC h fun _ h=>?_
 refine ye 4 hC h fun _ h=>?_
 refine ye 5 hC h fun _ h=>?_
 refine ye 6 hC h fun _ h=>?_
 refine yo 7 ?_
 refine yc h c67 fun _ w h=>zn ?_
 obtain ⟨hC,h⟩:=h
 refine ⟨hC,?_⟩
 refine yq 8 1 ?_
 refine yu h fun w h=>zn ?_
 obtain ⟨C2,hC,h⟩:=h
 refine ⟨C2,hC,?_⟩
 exact yz<|zk<|sim_ret<|body_retC rfl rfl h
def n148 (t0 t1:Value) (R:RT) (w:World):Prop :=
 opV Pg (Instr.box 105 t0) (panK R) w fun t2 w =>
 opV Pg (Instr.box 38 t1) (panK R) w fun t3 w =>
 opV Pg (Instr.alloc 67 true (.tuple #[])) (panK R) w fun t4 w =>
 opV Pg (Instr.makeMap 142 none) (panK R) w fun t6 w =>
 opU Pg (Instr.mapUpdate 142 t6 (.int .i64 1) (.func (.func 101) #[] #[])) (panK R) w fun w =>
 opU Pg (Instr.mapUpdate 142 t6 (.int .i64 2) (.func (.func 101) #[] #[])) (panK R) w fun w =>
 L0 105 t2 R w fun t9 w =>
 opV Pg (Instr.makeFunc (.func 102) #[t9] #[]) (panK R) w fun t10 w =>
 opU Pg (Instr.mapUpdate 142 t6 (.int .i64 3) t10) (panK R) w fun w =>
 L0 105 t2 R w fun t11 w =>
 opV Pg (Instr.makeFunc (.func 103) #[t11] #[]) (panK R) w fun t12 w =>
 opU Pg (Instr.mapUpdate 142 t6 (.int .i64 4) t12) (panK R) w fun w =>
 opU Pg (Instr.mapUpdate 142 t6 (.int .i64 5) (.func (.func 104) #[] #[])) (panK R) w fun w =>
 opU Pg (Instr.mapUpdate 142 t6 (.int .i64 6) (.func (.func 105) #[] #[])) (panK R) w fun w =>
 L0 105 t2 R w fun t13 w =>
 opV Pg (Instr.makeFunc (.func 106) #[t13] #[]) (panK R) w fun t14 w =>
 opU Pg (Instr.mapUpdate 142 t6 (.int .i64 7) t14) (panK R) w fun w =>
 opV Pg (Instr.makeFunc (.func 107) #[] #[t2]) (panK R) w fun t15 w =>
 opU Pg (Instr.mapUpdate 142 t6 (.int .i64 8) t15) (panK R) w fun w =>
 L0 105 t2 R w fun t16 w =>
 opV Pg (Instr.makeFunc (.func 108) #[t16] #[]) (panK R) w fun t17 w =>
 opU Pg (Instr.mapUpdate 142 t6 (.int .i64 9) t17) (panK R) w fun w =>
 opU Pg (Instr.mapUpdate 142 t6 (.int .i64 10) (.func (.func 109) #[] #[])) (panK R) w fun w =>
 L0 105 t2 R w fun t18 w =>
 opV Pg (Instr.makeFunc (.func 110) #[t18] #[]) (panK R) w fun t19 w =>
 opU Pg (Instr.mapUpdate 142 t6 (.int .i64 11) t19) (panK R) w fun w =>
 L0 105 t2 R w fun t20 w =>
 opV Pg (Instr.makeFunc (.func 103) #[t20] #[]) (panK R) w fun t21 w =>
 opU Pg (Instr.mapUpdate 142 t6 (.int .i64 12) t21) (panK R) w fun w =>
 F0 38 t3 1 R w fun t23 w =>
 L0 32 t23 R w fun t24 w =>
 opV Pg (Instr.lookup 142 t6 t24 false) (panK R) w fun t25 w =>
 L0 38 t3 R w fun t26 w =>
 callV Pg t25 #[t26] (panK R) w fun t27 w =>
 opU Pg (Instr.storeAt 67 t4 t27) (panK R) w fun w =>
 qW Pg 67 t4 w fun r0 =>
 R (.returned r0) w
theorem n148s {t0 t1:Value} {R:RT} {w:World} (h:n148 t0 t1 R w):Calls Pg 67 #[t0,t1] w R:=by
 refine yD Tryz.func67 ?_
 refine zs<|zr<|yv h fun _ w h=>yv h fun _ w h=>yv h fun _ w h=>zn<|zk<|zs<|zr<|zm<|zn<|zk<|zs<|zr<|yv h fun _ w h=>?_
 refine zm<|yu h fun w h=>zm<|yu h fun w h=>yv h fun _ w h=>yF h fun _ w h=>yu h fun w h=>yv h fun _ w h=>yF h fun _ w h=>yu h fun w h=>yu h fun w h=>yu h fun w h=>yv h fun _ w h=>yF h fun _ w h=>yu h fun w h=>?_
 refine yF h fun _ w h=>yu h fun w h=>yv h fun _ w h=>yF h fun _ w h=>yu h fun w h=>yu h fun w h=>yv h fun _ w h=>yF h fun _ w h=>yu h fun w h=>yv h fun _ w h=>yF h fun _ w h=>yu h fun w h=>zm<|yv h fun _ w h=>yv h fun _ w h=>?_
 exact yv h fun _ w h=>yv h fun _ w h=>yV h fun _ w h=>yu h fun w h=>zn<|zk<|sim_ret<|body_retC rfl rfl h
def n137 (t0 t1:Value) (R:RT) (w:World):Prop :=
 opV Pg (Instr.box 105 t0) (panK R) w fun t2 w =>
 opV Pg (Instr.alloc 67 true (.tuple #[])) (panK R) w fun t3 w =>
 L0 105 t2 R w fun t4 w =>
 L0 3 t1 R w fun t5 w =>
 C0 69 #[t4,t5] R w fun t6 w =>
 opU Pg (Instr.storeAt 67 t3 t6) (panK R) w fun w =>
 qW Pg 67 t3 w fun r0 =>
 R (.returned r0) w
theorem n137s {t0 t1:Value} {R:RT} {w:World} (h:n137 t0 t1 R w):Calls Pg 68 #[t0,t1] w R:=by
 refine yD Tryz.func68 ?_
 refine zs<|zr<|yv h fun _ w h=>yv h fun _ w h=>zn<|zk<|zs<|zr<|yv h fun _ w h=>yv h fun _ w h=>yc h c69 fun _ w h=>yu h fun w h=>zn<|zk<|sim_ret ?_
 exact body_retC rfl rfl h
def n141c1 (t3 t4 t6 t9:Value) (Kr1:World→Prop) (Qr1:List PanicEntry→World→Prop) (Xr1:Nat→World→Prop) (R:RT) (w:World):Prop :=
 opV Pg (Instr.loadAt 67 t6) Qr1 w fun t11 w =>
 opU Pg (Instr.storeAt 67 t4 t11) Qr1 w fun w =>
 opV Pg (Instr.loadAt 3 t3) Qr1 w fun t13 w =>
 opV Pg (binS .eql 3 false t9 t13) Qr1 w fun t14 w =>
 condP t14 (
 Xr1 0 w) (
 Kr1 w)
def n141c2 (t3 t4 t9 t10:Value) (Kr1:World→Prop) (Qr1:List PanicEntry→World→Prop) (Xr1:Nat→World→Prop) (l1:Nat) (R:RT) (w:World):Prop :=
 opV Pg (Instr.alloc 67 true (.tuple #[])) (fun _ _=>False) w fun t6 w =>
 opU Pg (Instr.storeAt 67 t6 t10) (fun _ _=>False) w fun w =>
 busyK l1 w fun w =>
 n141c1 t3 t4 t6 t9 Kr1 Qr1 Xr1 R w
def n141c3 (t4:Value) (ds:List Deferred) (R:RT) (w:World):Prop :=
 opV Pg (Instr.loadAt 67 t4) (outQ Pg ds [(some 67,t4)] R) w fun t15 w =>
 opU Pg (Instr.storeAt 67 t4 t15) (outQ Pg ds [(some 67,t4)] R) w fun w =>
 outX Pg ds [(some 67,t4)] R w
def n141c4 (t4:Value) (ds:List Deferred) (R:RT) (w:World):Prop :=
 opV Pg (Instr.loadAt 67 t4) (outQ Pg ds [(some 67,t4)] R) w fun t15 w =>
 opU Pg (Instr.storeAt 67 t4 t15) (outQ Pg ds [(some 67,t4)] R) w fun w =>
 outX Pg ds [(some 67,t4)] R w
def n141c5 (t3 t4 t8:Value) (ds:List Deferred) (R:RT) (w:World):Prop :=
 rangeN3 Pg t8 ds (fun l1 t9 t10 w Kr1 Xr1 Qr1 =>
 n141c2 t3 t4 t9 t10 Kr1 Qr1 Xr1 l1 R w) (fun ch ds w=>outQ Pg ds [(some 67,t4)] R ch w) w (fun ds w =>
 n141c3 t4 ds R w) [fun ds w =>
 n141c4 t4 ds R w]
def n141 (t0 t1:Value) (R:RT) (w:World):Prop :=
 (fun (ds:List Deferred) =>
 opV Pg (Instr.box 105 t0) (outQ Pg ds [(some 67,undef)] R) w fun t2 w =>
 opV Pg (Instr.box 3 t1) (outQ Pg ds [(some 67,undef)] R) w fun t3 w =>
 opV Pg (Instr.alloc 67 true (.tuple #[])) (outQ Pg ds [(some 67,undef)] R) w fun t4 w =>
 opV Pg (Instr.loadAt 105 t2) (outQ Pg ds [(some 67,t4)] R) w fun t7 w =>
 callK Pg 111 #[t7] (outQ Pg ds [(some 67,t4)] R) w fun t8 w =>
 n141c5 t3 t4 t8 ds R w) []
theorem n141s {t0 t1:Value} {R:RT} {w:World} (h:n141 t0 t1 R w):Calls Pg 69 #[t0,t1] w R:=by
 refine yE Tryz.func69 ?_
 unfold n141 at h
 dsimp only at h
 refine zs<|zr<|yv h fun _ w h=>yv h fun _ w h=>yv h fun _ w h=>zn<|zk<|sim_scope<|zs<|sim_label<|zk<|zs<|zs<|zr<|yv h fun _ w h=>?_
 refine yc h c111 fun _ w h=>zn<|zk<|sim_block<|sim_range3 [.exit 0] h rfl (fun l1 t9 t10 w Kr1 Xr1 Qr1 h=>?_) (fun ds w h=>?_) (fun c ds w h=>?_) (fun ch ds w h=>outQ_of rfl h)
 · refine zs<|zr<|zm<|zn<|zk<|zr<|yv h fun _ w h=>yu h fun w h=>zn<|zk ?_
   obtain ⟨hr,h⟩:=h
   refine ⟨rfl,hr,fun w hb=>?_⟩
   have h:=h w hb
   refine sim_block<|zs<|zr<|yv h fun _ w h=>yu h fun w h=>zn<|zk<|zs<|zr<|zm<|yv h fun _ w h=>yb h fun _ w h=>zn<|zk<|yC h (fun h=>sim_exit<|sim_block_miss rfl<|⟨rfl,0,rfl,h⟩) fun h=>?_
   exact sim_skip<|sim_block_normal<|⟨rfl,h⟩
 · exact sim_block_normal<|zk<|zs<|zr<|yv h fun _ w h=>yu h fun w h=>zn<|zk<|sim_ret<|bodyM_ret rfl h
 rcases c with _ | c
 · refine ⟨_,rfl,.inr ⟨_,rfl,?_⟩⟩
   exact sim_block_hit<|zk<|zs<|zr<|yv h fun _ w h=>yu h fun w h=>zn<|zk<|sim_ret<|bodyM_ret rfl h
 exact h.elim
def n50c1 (t0 t1:Value) (next1:KV) (R:RT) (w:World):Prop :=
 B0 .rem 3 false t0 t1 R w fun t7 w =>
 B0 .neq 3 true t7 (.int .i64 0) R w fun t8 w =>
 joinK (fun (t11:Value) (w:World) =>
 pickK t8 t11 (.bool false) fun t12 =>
 condP t12 (
 B0 .add 3 true t0 (.int .i64 1) R w fun t14 w =>
 next1 t14 w) (
 R (.returned t0) w)) fun K2 =>
 guardP t8 true (
 B0 .lss 3 true t0 (.int .i64 1099511627776) R w fun t11 w =>
 K2 t11 w) (
 K2 undef w)
def n50 (t0 t1:Value) (R:RT) (w:World):Prop :=
 loop1 (fun t0 w next1 =>
 n50c1 t0 t1 next1 R w) t0 w
theorem n50s {t0 t1:Value} {R:RT} {w:World} (h:n50 t0 t1 R w):Calls Pg 70 #[t0,t1] w R:=by
 refine yD Tryz.func70 ?_
 refine zs<|zr<|zm<|zn<|zk<|zs<|sim_block<|yl1 [0,5,6,7,8,9,10,11,12,13,14] 0 h fun σ w next h=>zs<|zs<|sim_regionG<|yG 5<|zm<|zm<|yb h fun _ w h=>?_
 refine yb h fun _ w h=>zm<|zn<|yg1 2 4 true [10,11] 11 h (fun _ T hT h=>?_) fun σ w h=>?_
 · refine zm<|yb h fun _ w h=>zn ?_
   exact zt hT h
 refine yG 1<|yp h fun _ h=>zn<|sim_end<|zk<|yC h (fun h=>sim_skip<|zk<|sim_block<|zr<|zm<|yb h fun _ w h=>zm<|zn<|sim_block_normal<|zk<|⟨rfl,h⟩) fun h=>sim_exit<|sim_then_exit<|sim_then_exit<|sim_block_hit<|zk<|zs<|zr<|zm ?_
 exact zm<|zn<|zk<|sim_ret<|body_ret1 rfl rfl h
def n47 (t0 t1:Value) (R:RT) (w:World):Prop :=
 B0 .add 3 false t0 t1 R w fun t7 w =>
 opV Pg (Builtin.min_ #[3,3] 3 #[(.int .i64 1099511627776),t7]) (panK R) w fun t8 w =>
 R (.returned t8) w
theorem n47s {t0 t1:Value} {R:RT} {w:World} (h:n47 t0 t1 R w):Calls Pg 71 #[t0,t1] w R:=by
 refine yD Tryz.func71 ?_
 refine zs<|zr<|zm<|zn<|zk<|zs<|zr<|zm<|zm<|yb h fun _ w h=>yx h fun _ w h=>zm<|zn<|zk<|sim_ret ?_
 exact body_ret1 rfl rfl h
open Go.RowKit (intOf Below)
def capF (v:Int):Int:=if v < 1099511627776 then v else 1099511627776
theorem capF_in {v:Int} (h:0≤v):0≤capF v∧capF v≤1099511627776:=by unfold capF;split<;>omega
theorem capF_low {v:Int} (h:v≤1099511627776):capF v=v:=by unfold capF;split<;>omega
theorem groups_lt (v:Nat) (h:¬ v < 128):v / 128 < v:=Nat.div_lt_self (by omega) (by decide)
def groupsG:Nat→Nat→Nat
 | 0,_=>1
 | n+1,v=>if v < 128 then 1 else 1+groupsG n (v / 128)
theorem groupsG_eq:∀ (n k v:Nat),v≤n→v≤k→groupsG n v=groupsG k v
 | 0,0,_,_,_=>rfl
 | 0,k+1,v,h,_=>by rw [groupsG,groupsG,if_pos (by omega)]
 | n+1,0,v,_,h=>by rw [groupsG,groupsG,if_pos (by omega)]
 | n+1,k+1,v,h1,h2=>by
  rw [groupsG,groupsG]
  split
  · rfl
  · rw [groupsG_eq n k (v / 128) (by omega) (by omega)]
def groupsP (v:Nat):Nat:=groupsG v v
theorem groupsP_small {v:Nat} (h:v < 128):groupsP v=1:=by
 unfold groupsP
 cases v with
 | zero=>rfl
 | succ n=>rw [groupsG,if_pos h]
theorem groupsP_big {v:Nat} (h:¬ v < 128):groupsP v=1+groupsP (v / 128):=by
 unfold groupsP
 cases v with
 | zero=>omega
 | succ n=>rw [groupsG,if_neg h,groupsG_eq n ((n+1) / 128) _ (by omega) (Nat.le_refl _)]
theorem groupsP_le:∀ (k v:Nat),v < 128 ^ k→1≤k→groupsP v≤k
 | 0,_,_,h=>by omega
 | k+1,v,hv,_=>by
  by_cases h:v < 128
  · rw [groupsP_small h];omega
  · rw [groupsP_big h]
    cases k with
    | zero=>simp at hv;omega
    | succ k =>
     have:=groupsP_le (k+1) (v / 128) (by rw [Nat.div_lt_iff_lt_mul (by decide)];rw [Nat.pow_succ] at hv;exact hv) (by omega)
     omega
theorem groupsP_pos (v:Nat):1≤groupsP v:=by
 by_cases h:v < 128
 · rw [groupsP_small h];exact Nat.le_refl 1
 · rw [groupsP_big h];omega
section
variable (w0:World)
theorem plus_ret (a b:Int) (ha:0≤a∧a≤1099511627776) (hb:0≤b∧b≤1099511627776):Ret Pg 137 #[.int .i64 a,.int .i64 b] w0 fun r w'=>r = .int .i64 (capF (a+b))∧Ext w0 w':=by
 refine n159s (R:=retR _) ?_;unfold n159
 simp (disch:=try exact DI) only [↓PR,QR,simprocAttr,wrap_ok]
 refine ⟨?_,Ext.refl _⟩
 unfold capF;rfl
theorem rplus_ret (a b:Int) (ha:0≤a∧a≤1099511627776) (hb:0≤b∧b≤1099511627776):Ret Pg 71 #[.int .i64 a,.int .i64 b] w0 fun r w'=>r = .int .i64 (capF (a+b))∧Ext w0 w':=by
 refine n47s (R:=retR _) ?_;unfold n47
 simp (disch:=try exact DI) only [↓PR,QR,simprocAttr,wrap_ok]
 refine ⟨?_,Ext.refl _⟩
 unfold capF;rfl
theorem upS_ret (v n:Int) (hv:0≤v∧v≤1099511627776) (hn:1≤n∧n≤512):Ret Pg 136 #[.int .i64 v,.int .i64 n] w0 fun r w'=>r = .int .i64 (capF (upI v n))∧Ext w0 w':=by
 obtain ⟨q,hq,he,h1,h2⟩:=upI_mul hv.1 hn.1
 have hd:(v+n - 1).tdiv n*n=upI v n:=rfl
 have hd0:0≤(v+n - 1).tdiv n∧(v+n - 1).tdiv n≤v+n:=by
  rw [Int.tdiv_eq_ediv_of_nonneg (by omega)]
  exact ⟨Int.ediv_nonneg (by omega) (by omega),Int.le_trans (Int.ediv_le_self _ (by omega)) (by omega)⟩
 have hn0:n≠0:=by omega
 refine n162s (R:=retR _) ?_;unfold n162
 have hb:0≤(v+n - 1).tdiv n*n∧(v+n - 1).tdiv n*n≤v+n:=by rw [hd];omega
 simp (disch:=try exact DI) only [↓PR,QR,simprocAttr,op_quo,wrap_ok,hd]
 refine ⟨?_,Ext.refl _⟩
 unfold capF;rfl
theorem same_ret (v:Int):Ret Pg 79 #[.int .i64 v] w0 fun r w'=>r=rangeVal v v∧Ext w0 w':=by
 refine n160s (R:=retR _) ?_;unfold n160
 simp (disch:=try exact DI) only [↓PR,QR,simprocAttr]
 exact ⟨by first | trivial | rfl,ee⟩
theorem len1_ret (v:Int) (hv:0≤v∧v≤1099511627776):Ret Pg 80 #[.int .i64 v,.int .i64 8] w0 fun r w'=>r = .int .i64 ((v+7).tdiv 8)∧Ext w0 w':=by
 have hd:0≤(v+7).tdiv 8∧(v+7).tdiv 8≤v+7:=by
  rw [Int.tdiv_eq_ediv_of_nonneg (by omega)]
  exact ⟨Int.ediv_nonneg (by omega) (by omega),Int.ediv_le_self _ (by omega)⟩
 have h8:(8:Int)≠0:=by decide
 have hs:v+8 - 1=v+7:=by omega
 refine n133s (R:=retR _) ?_;unfold n133
 simp (disch:=try exact DI) only [↓PR,QR,simprocAttr,op_quo,wrap_ok,hs]
 exact ⟨by first | trivial | rfl,ee⟩
theorem groups_ret (v:Nat) (hv:v < 9223372036854775808):Ret Pg 132 #[.int .i64 (v:Int)] w0 fun r w'=>r = .int .i64 ((groupsP v:Nat):Int)∧Ext w0 w':=by
 refine n140s (R:=retR _) ?_;unfold n140
 have hb:=groupsP_le 9 v (Nat.lt_of_lt_of_le hv (by decide)) (by decide)
 refine loop2_intro (fun x n w=>∃ (y k:Nat),x = .int .i64 (y:Int)∧n = .int .i64 (k:Int)∧y≤v∧1≤k∧k+groupsP y=1+groupsP v∧Ext w0 w) (fun x _ _=>(intOf x).toNat) ⟨v,1,rfl,rfl,Nat.le_refl _,Nat.le_refl _,by omega,Ext.refl _⟩ ?_
 rintro _ _ w ⟨y,k,rfl,rfl,hy,hk,hg,e⟩
 have hp:=groupsP_pos y
 unfold n140c1
 by_cases h:y < 128
 · have d:decide ((y:Int)≥128)=false:=decide_eq_false (by omega)
   rw [groupsP_small h] at hg
   simp (disch:=try exact DI) only [↓PR,QR,simprocAttr,d]
   exact ⟨by rw [show k=groupsP v by omega],e⟩
 · have d:decide ((y:Int)≥128)=true:=decide_eq_true (by omega)
   rw [groupsP_big h] at hg
   have hw:IntKind.i64.wrap ((k:Int)+1)=((k+1:Nat):Int):=by rw [wrap_ok (by omega) (by omega)];omega
   have hsh:∀ (QP:List PanicEntry→World→Prop) (K:Value→World→Prop),opV Pg (binS .shr 3 true (.int .i64 (y:Int)) (.int .u64 7)) QP w K=K (.int .i64 ((y / 128:Nat):Int)) w:=fun QP K=>op_shr (P:=Pg) (QP:=QP) (w:=w) (k:=K) 3 true y .u64 7 (by decide)
   simp (disch:=try exact DI) only [↓PR,QR,simprocAttr,d,hsh,hw]
   have:=groups_lt y h
   refine ⟨⟨y / 128,k+1,rfl,rfl,by omega,by omega,by omega,e⟩,?_⟩
   simp only [intOf];omega
theorem rgroups_ret:∀ (n v:Nat) (w0:World),v < n→v < 9223372036854775808→Ret Pg 75 #[.int .i64 (v:Int)] w0 fun r w'=>r = .int .i64 ((groupsP v:Nat):Int)∧Ext w0 w'
 | 0,_,_,h,_=>by omega
 | n+1,v,w0,hn,hv=>by
  have hb:=groupsP_le 9 v (Nat.lt_of_lt_of_le hv (by decide)) (by decide)
  refine n46s (R:=retR _) ?_;unfold n46
  by_cases h:v < 128
  · have d:decide ((v:Int) < 128)=true:=decide_eq_true (by omega)
    rw [groupsP_small h]
    simp (disch:=try exact DI) only [↓PR,QR,simprocAttr,d]
    exact ⟨by first | trivial | rfl,Ext.refl _⟩
  · have d:decide ((v:Int) < 128)=false:=decide_eq_false (by omega)
    have h128:(128:Int)≠0:=by decide
    have hq:(v:Int).tdiv 128=((v / 128:Nat):Int):=by rw [Int.tdiv_eq_ediv_of_nonneg (by omega)];omega
    have hw:IntKind.i64.wrap ((v / 128:Nat):Int)=((v / 128:Nat):Int):=wrap_ok (by omega) (by omega)
    have hlt:=groups_lt v h
    simp (disch:=try exact DI) only [↓PR,QR,simprocAttr,d,↓n46c1,op_quo _ _ _ _ _ h128,hq,hw]
    refine zcr (rgroups_ret n (v / 128) w0 (by omega) (by omega)) fun w1 e1=>?_
    rw [groupsP_big h] at hb
    have hw2:IntKind.i64.wrap (1+((groupsP (v / 128):Nat):Int))=((1+groupsP (v / 128):Nat):Int):=by rw [wrap_ok (by omega) (by omega)];omega
    simp (disch:=try exact DI) only [↓PR,QR,simprocAttr,hw2]
    exact ⟨by rw [groupsP_big h],e1⟩
end
theorem w64 {n:Nat} (h:n < 18446744073709551616):IntKind.u64.wrap (n:Int)=n:=by
 simp [IntKind.wrap,IntKind.bits,IntKind.signed]
 omega
section
variable {QP:List PanicEntry→World→Prop} {w:World} {k:Value→World→Prop}
theorem op_and32 (t:TypeId) (c:Bool) (a:Nat) (h:a < 18446744073709551616):opV Pg (binS .and t c (.int .u64 (a:Int)) (.int .u64 4294967295)) QP w k=k (.int .u64 ((a % 4294967296:Nat):Int)) w:=opV_ok (by
 rw [run_bin_int _ _ _ _ _ _ rfl]
 have h1:(BitVec.ofInt IntKind.u64.bits (a:Int) &&& BitVec.ofInt IntKind.u64.bits 4294967295).toNat=a % 4294967296:=by
  rw [BitVec.toNat_and]
  have e1:(BitVec.ofInt IntKind.u64.bits (a:Int)).toNat=a:=by
   rw [BitVec.toNat_ofInt]
   show ((a:Int) % ((2 ^ 64:Nat):Int)).toNat=a
   omega
  have e2:(BitVec.ofInt IntKind.u64.bits 4294967295).toNat=2 ^ 32 - 1:=by decide
  rw [e1,e2,Nat.and_two_pow_sub_one_eq_mod]
 show Sem.run _ (Op.intBits .and .u64 (a:Int) 4294967295) w=_
 unfold Op.intBits
 show Result.ok (Value.int .u64 (IntKind.u64.wrap _)) w=_
 rw [h1,w64 (by omega)])
theorem op_shr64 (t:TypeId) (c:Bool) (x:Nat):opV Pg (binS .shr t c (.int .u64 (x:Int)) (.int .u64 32)) QP w k=k (.int .u64 ((x / 4294967296:Nat):Int)) w:=opV_ok (by
 have h3:(x:Int).fdiv (2 ^ 32)=((x / 4294967296:Nat):Int):=by
  rw [Int.fdiv_eq_ediv_of_nonneg _ (by decide)]
  omega
 simp [binS,go_sem,h3])
end
theorem Mul64_ret (w0:World) (x y:Nat) (hx:x≤2097152) (hy:y≤1099511627776):Ret Pg 157 #[.int .u64 (x:Int),.int .u64 (y:Int)] w0 fun r w'=>r = .tuple #[.int .u64 0,.int .u64 ((x*y:Nat):Int)]∧Ext w0 w':=by
 have m1:x*(y % 4294967296)≤2097152*4294967296:=Nat.mul_le_mul hx (by omega)
 have m2:x*(y / 4294967296)≤2097152*256:=Nat.mul_le_mul hx (by omega)
 have m3:x*y≤2097152*1099511627776:=Nat.mul_le_mul hx hy
 have e1:x % 4294967296=x:=by omega
 have e2:x / 4294967296=0:=by omega
 have q1:IntKind.u64.wrap ((x:Int)*((y % 4294967296:Nat):Int))=((x*(y % 4294967296):Nat):Int):=by rw [← Int.natCast_mul,w64 (by omega)]
 have q2:IntKind.u64.wrap ((x:Int)*((y / 4294967296:Nat):Int))=((x*(y / 4294967296):Nat):Int):=by rw [← Int.natCast_mul,w64 (by omega)]
 have q3:IntKind.u64.wrap ((x:Int)*(y:Int))=((x*y:Nat):Int):=by rw [← Int.natCast_mul,w64 (by omega)]
 have q4:∀ n:Nat,IntKind.u64.wrap (((0:Nat):Int)*(n:Int))=((0:Nat):Int):=fun n=>by simp;decide
 generalize x*(y % 4294967296)=u at m1 q1
 generalize x*(y / 4294967296)=v at m2 q2
 have e3:u / 4294967296 % 4294967296=u / 4294967296:=by omega
 have e4:u / 4294967296 / 4294967296=0:=by omega
 have q5:IntKind.u64.wrap (((0:Nat):Int)+((u / 4294967296:Nat):Int))=((u / 4294967296:Nat):Int):=by rw [← Int.natCast_add,Nat.zero_add,w64 (by omega)]
 have q6:IntKind.u64.wrap (((u / 4294967296:Nat):Int)+(v:Int))=((u / 4294967296+v:Nat):Int):=by rw [← Int.natCast_add,w64 (by omega)]
 have e5:(u / 4294967296+v) / 4294967296=0:=by omega
 have q7:IntKind.u64.wrap (((0:Nat):Int)+((0:Nat):Int))=((0:Nat):Int):=by decide
 have hu:u < 18446744073709551616:=by omega
 refine n5s (R:=retR _) ?_;unfold n5
 try unfold B0
 rw [op_and32 _ _ x (by omega),op_shr64,op_and32 _ _ y (by omega),op_shr64,e1,e2,op_mul,q1,op_mul,q4,op_shr64,op_add,q5,op_and32 _ _ _ (by omega),op_shr64,e3,e4,op_mul,q2,op_add,q6,op_mul,q4,op_add,q7,op_shr64,e5,op_add,q7,op_mul,q3]
 exact ⟨_,rfl,rfl,Ext.refl _⟩
theorem times_ret (w0:World) (x y:Int) (hx:0≤x∧x≤2097152) (hy:0≤y∧y≤1099511627776):Ret Pg 134 #[.int .i64 x,.int .i64 y] w0 fun r w'=>r = .int .i64 (capF (x*y))∧Ext w0 w':=by
 obtain ⟨x,rfl⟩:∃ n:Nat,x=n:=⟨x.toNat,by omega⟩
 obtain ⟨y,rfl⟩:∃ n:Nat,y=n:=⟨y.toNat,by omega⟩
 have m3:x*y≤2097152*1099511627776:=Nat.mul_le_mul (by omega) (by omega)
 have h1:=w64 (n:=x) (by omega)
 have h2:=w64 (n:=y) (by omega)
 refine n161s (R:=retR _) ?_;unfold n161
 simp (disch:=try exact DI) only [↓PR,QR,Int.reduceBEq,Int.reduceBNe,Int.reduceLT,Int.reduceLE,Int.reduceGT,Int.reduceGE,Int.reduceNeg,h1,h2]
 refine zcr (Mul64_ret w0 x y (by omega) (by omega)) fun w1 e1=>?_
 unfold n161c1
 have d0:decide ((0:Int) > 0)=false:=by decide
 by_cases h:1099511627776 < x*y
 · have d:decide (((x*y:Nat):Int) > 1099511627776)=true:=decide_eq_true (by omega)
   simp (disch:=try exact DI) only [↓PR,QR,Int.reduceBEq,Int.reduceBNe,Int.reduceLT,Int.reduceLE,Int.reduceGT,Int.reduceGE,Int.reduceNeg,d0,d]
   refine ⟨?_,e1⟩
   unfold capF
   rw [if_neg (by rw [← Int.natCast_mul];omega)]
 · have d:decide (((x*y:Nat):Int) > 1099511627776)=false:=decide_eq_false (by omega)
   have h3:IntKind.i64.wrap ((x*y:Nat):Int)=((x*y:Nat):Int):=wrap_ok (by omega) (by omega)
   simp (disch:=try exact DI) only [↓PR,QR,Int.reduceBEq,Int.reduceBNe,Int.reduceLT,Int.reduceLE,Int.reduceGT,Int.reduceGE,Int.reduceNeg,d0,d,h3]
   refine ⟨?_,e1⟩
   rw [capF_low (by rw [← Int.natCast_mul];omega),Int.natCast_mul]
theorem rtimes_ret (w0:World) (x y:Int) (hx:0≤x∧x≤2097152) (hy:0≤y∧y≤1099511627776):Ret Pg 76 #[.int .i64 x,.int .i64 y] w0 fun r w'=>r = .int .i64 (capF (x*y))∧Ext w0 w':=by
 obtain ⟨x,rfl⟩:∃ n:Nat,x=n:=⟨x.toNat,by omega⟩
 obtain ⟨y,rfl⟩:∃ n:Nat,y=n:=⟨y.toNat,by omega⟩
 have m3:x*y≤2097152*1099511627776:=Nat.mul_le_mul (by omega) (by omega)
 refine n49s (R:=retR _) ?_;unfold n49
 by_cases h0:0 < x
 · have d0:decide ((x:Int) > 0)=true:=decide_eq_true (by omega)
   have hx0:(x:Int)≠0:=by omega
   have hq:(1099511627776:Int).tdiv (x:Int)=((1099511627776 / x:Nat):Int):=by
    rw [Int.tdiv_eq_ediv_of_nonneg (by decide)];rfl
   have hq2:1099511627776 / x≤1099511627776:=Nat.div_le_self _ _
   have hlt:(1099511627776 / x < y)↔1099511627776 < x*y:=by rw [Nat.div_lt_iff_lt_mul h0,Nat.mul_comm]
   generalize 1099511627776 / x=D at hq hq2 hlt
   have hw:IntKind.i64.wrap (D:Int)=(D:Int):=wrap_ok (by omega) (by omega)
   by_cases h:1099511627776 < x*y
   · have d:decide ((y:Int) > (D:Int))=true:=decide_eq_true (by have:=hlt.2 h;omega)
     simp (disch:=try exact DI) only [↓PR,QR,Int.reduceBEq,Int.reduceBNe,Int.reduceLT,Int.reduceLE,Int.reduceGT,Int.reduceGE,Int.reduceNeg,d0,d,op_quo _ _ _ _ _ hx0,hq,hw]
     refine ⟨?_,Ext.refl _⟩
     unfold capF
     rw [if_neg (by rw [← Int.natCast_mul];omega)]
   · have d:decide ((y:Int) > (D:Int))=false:=decide_eq_false (by have:=fun hh=>h (hlt.1 hh);omega)
     have hw2:IntKind.i64.wrap ((x:Int)*(y:Int))=(x:Int)*(y:Int):=by rw [← Int.natCast_mul];exact wrap_ok (by omega) (by omega)
     simp (disch:=try exact DI) only [↓PR,QR,Int.reduceBEq,Int.reduceBNe,Int.reduceLT,Int.reduceLE,Int.reduceGT,Int.reduceGE,Int.reduceNeg,d0,d,op_quo _ _ _ _ _ hx0,hq,hw,hw2]
     refine ⟨?_,Ext.refl _⟩
     rw [capF_low (by rw [← Int.natCast_mul];omega)]
 · obtain rfl:x=0:=by omega
   have d0:decide (((0:Nat):Int) > 0)=false:=by decide
   have hw2:IntKind.i64.wrap (((0:Nat):Int)*(y:Int))=0:=by simp;decide
   simp (disch:=try exact DI) only [↓PR,QR,Int.reduceBEq,Int.reduceBNe,Int.reduceLT,Int.reduceLE,Int.reduceGT,Int.reduceGE,Int.reduceNeg,d0,hw2]
   refine ⟨?_,Ext.refl _⟩
   rw [capF_low (by simp)];simp
theorem upS_hit {n p k:Int} (hn:1≤n) (hp:0≤p) (h1:p≤k) (h2:k≤upI p n) (hz:k.tmod n=0):k=upI p n:=by
 obtain ⟨q,hq,he,hq1,hq2⟩:=upI_mul hp hn
 rw [Int.tmod_eq_emod_of_nonneg (by omega)] at hz
 obtain ⟨r,rfl⟩:=Int.dvd_of_emod_eq_zero hz
 rw [he] at h2 ⊢
 have hrq:r≤q:=Int.le_of_mul_le_mul_left h2 (by omega)
 by_cases h:r=q
 · rw [h]
 · exfalso
   have:=Int.mul_le_mul_of_nonneg_left (show r+1≤q by omega) (show 0≤n by omega)
   rw [Int.mul_add] at this
   omega
theorem upS_mod {n p:Int} (hn:1≤n) (hp:0≤p):(upI p n).tmod n=0:=by
 obtain ⟨q,hq,he,hq1,hq2⟩:=upI_mul hp hn
 rw [he,Int.mul_tmod_right]
theorem rup_ret (w0:World) (v n:Int) (hv:0≤v∧v≤1099511627776) (hn:1≤n∧n≤512):Ret Pg 70 #[.int .i64 v,.int .i64 n] w0 fun r w'=>r = .int .i64 (capF (upI v n))∧Ext w0 w':=by
 obtain ⟨q,hq,he,h1,h2⟩:=upI_mul hv.1 hn.1
 have hn0:n≠0:=by omega
 refine n50s (R:=retR _) ?_;unfold n50
 refine loop1_intro (fun a w=>∃ k:Int,a = .int .i64 k∧v≤k∧k≤upI v n∧k≤1099511627776∧Ext w0 w) (fun a _=>(upI v n - intOf a).toNat) ⟨v,rfl,by omega,by omega,by omega,Ext.refl _⟩ ?_
 rintro _ w ⟨k,rfl,hk0,hk,hk1,e⟩
 unfold n50c1
 by_cases hz:k.tmod n=0
 · have hz':(k.tmod n != 0)=false:=by simp [hz]
   have:=upS_hit hn.1 hv.1 hk0 hk hz
   simp (disch:=try exact DI) only [↓PR,QR,Int.reduceBEq,Int.reduceBNe,Int.reduceLT,Int.reduceLE,Int.reduceGT,Int.reduceGE,Int.reduceNeg,op_rem _ _ _ _ _ hn0,hz']
   exact ⟨by rw [← this,capF_low (by omega)],e⟩
 · have hz':(k.tmod n != 0)=true:=by simpa using hz
   have hne:k≠upI v n:=fun hh=>hz (by rw [hh];exact upS_mod hn.1 hv.1)
   by_cases hlt:k < 1099511627776
   · have d:decide (k < 1099511627776)=true:=decide_eq_true hlt
     have hw:IntKind.i64.wrap (k+1)=k+1:=wrap_ok (by omega) (by omega)
     simp (disch:=try exact DI) only [↓PR,QR,Int.reduceBEq,Int.reduceBNe,Int.reduceLT,Int.reduceLE,Int.reduceGT,Int.reduceGE,Int.reduceNeg,op_rem _ _ _ _ _ hn0,hz',d,hw]
     refine ⟨⟨k+1,rfl,by omega,by omega,by omega,e⟩,?_⟩
     simp only [intOf]
     omega
   · have d:decide (k < 1099511627776)=false:=decide_eq_false hlt
     simp (disch:=try exact DI) only [↓PR,QR,Int.reduceBEq,Int.reduceBNe,Int.reduceLT,Int.reduceLE,Int.reduceGT,Int.reduceGE,Int.reduceNeg,op_rem _ _ _ _ _ hn0,hz',d]
     refine ⟨?_,e⟩
     have:k=1099511627776:=by omega
     unfold capF
     rw [if_neg (by omega),this]
def Two (w0:World) (g:FuncId) (a b c:Int):Prop:=∀ w,Ext w0 w→Ret Pg g #[.int .i64 a,.int .i64 b] w fun r w'=>r = .int .i64 c∧Ext w w'
theorem both_ret (w0:World) (a1 a2 b1 b2 c1 c2:Int) (g:FuncId) (hg:Callable Pg g) (h1:Two w0 g a1 b1 c1) (h2:Two w0 g a2 b2 c2):Ret Pg 78 #[rangeVal a1 a2,rangeVal b1 b2,.func (.func g) #[] #[]] w0 fun r w'=>r=rangeVal c1 c2∧Ext w0 w':=by
 refine n138s (R:=retR _) ?_;unfold n138
 simp (disch:=try exact DI) only [↓PR,QR,simprocAttr]
 generalize hW:World.alloc (World.alloc (World.alloc w0 _) _) _=W
 have e0:Ext w0 W:=by rw [← hW];exact ee
 have o3:W.heap[w0.heap.size]?=some (.cells #[.int .i64 a1,.int .i64 a2] 67 (0,0)):=by rw [← hW];simp (disch:=try exact DI) only [↓PR,QR,simprocAttr]
 have o4:W.heap[w0.heap.size+1]?=some (.cells #[.int .i64 b1,.int .i64 b2] 67 (0,0)):=by rw [← hW];simp (disch:=try exact DI) only [↓PR,QR,simprocAttr]
 have o6:W.heap[w0.heap.size+1+1]?=some (.cells #[.int .i64 0,.int .i64 0] 67 (0,0)):=by rw [← hW];simp (disch:=try exact DI) only [↓PR,QR,simprocAttr]
 clear hW
 refine drawK_intro ?_
 have eD:Ext W W.drew:=(Ext.refl _).wdrew
 unfold n138c2
 simp (disch:=try exact DI) only [↓PR,QR,simprocAttr,(cells_of_heap o3).1,(cells_of_heap o4).1]
 rw [callV_func hg]
 refine zcr (h1 _ (e0.trans eD)) fun w1 e1=>?_
 refine ⟨e1,?_⟩
 rw [callV_func hg]
 refine zcr (h2 _ (e0.trans (eD.trans e1))) fun w2 e2=>?_
 refine ⟨e1.trans e2,?_⟩
 have x6:=(eD.trans (e1.trans e2)).obj o6
 have E2:=e0.trans (eD.trans (e1.trans e2))
 have l6:=(Array.getElem?_eq_some_iff.1 x6).1
 unfold n138c1
 simp (disch:=try exact DI) only [↓PR,QR,simprocAttr,(cells_of_heap x6).1,(cells_of_heap x6).2]
 refine turnK_intro ?_
 simp (disch:=try exact DI) only [↓PR,QR,simprocAttr,(cells_of_heap x6).1]
 exact ⟨by first | trivial | rfl,ee⟩
abbrev planCells (m:MsgD) (fl:Value) (mr:Nat):List Value:=[.string m.name,fl,.map (some mr)]
def lookS (sp:List (ByteArray×Int×Int)) (s:ByteArray):Int×Int:=(lastR sp s).getD (0,0)
abbrev ivL (l:List FieldD) (f:FieldD):Int:=intervalL f.base f.terms (numR l)
abbrev ivH (l:List FieldD) (f:FieldD):Int:=intervalH f.base f.terms (numR l)
section
variable (w0:World) (m:MsgD) (fl tv cv:Value) (mr:Nat) (f:FieldD)
theorem of1_ret (hT:TermsOf w0 tv f.terms) (hC:CasesOf w0 cv f.cases):Ret Pg 101 #[.agg (fieldCells f tv cv).toArray] w0 fun r w'=>r=rangeVal f.bits f.bits∧Ext w0 w':=by
 have ht1:=SliceOf.oneCell hT
 have hc1:=SliceOf.oneCell hC
 refine n149s (R:=retR _) ?_;unfold n149
 simp (disch:=try exact DI) only [↓PR,QR,simprocAttr]
 generalize hW:World.alloc (World.alloc w0 _) _=W
 have e0:Ext w0 W:=by rw [← hW];exact ee
 have o2:W.heap[w0.heap.size+1]?=some (.cells #[.int .i64 0,.int .i64 0] 67 (0,0)):=by rw [← hW];simp (disch:=try exact DI) only [↓PR,QR,simprocAttr]
 clear hW
 refine zcr (same_ret _ f.bits) fun w1 e1=>?_
 have x2:=e1.obj o2
 have E1:=e0.trans e1
 have l2:=(Array.getElem?_eq_some_iff.1 x2).1
 simp (disch:=try exact DI) only [↓PR,QR,simprocAttr,(cells_of_heap x2).1,(cells_of_heap x2).2]
 exact ⟨by first | trivial | rfl,ee⟩
theorem of2_ret (hT:TermsOf w0 tv f.terms) (hC:CasesOf w0 cv f.cases) (hb:0≤f.high∧f.high≤1048576):Ret Pg 104 #[.agg (fieldCells f tv cv).toArray] w0 fun r w'=>r=rangeVal 8 (8*(f.high+1))∧Ext w0 w':=by
 have ht1:=SliceOf.oneCell hT
 have hc1:=SliceOf.oneCell hC
 refine n150s (R:=retR _) ?_;unfold n150
 simp (disch:=try exact DI) only [↓PR,QR,simprocAttr,wrap_ok]
 exact ⟨by first | trivial | rfl,ee⟩
theorem of3_ret (hT:TermsOf w0 tv f.terms) (hC:CasesOf w0 cv f.cases) (hb:0≤f.high∧f.high≤1048576):Ret Pg 105 #[.agg (fieldCells f tv cv).toArray] w0 fun r w'=>r=rangeVal 16 (8*f.high)∧Ext w0 w':=by
 have ht1:=SliceOf.oneCell hT
 have hc1:=SliceOf.oneCell hC
 refine n151s (R:=retR _) ?_;unfold n151
 simp (disch:=try exact DI) only [↓PR,QR,simprocAttr,wrap_ok]
 exact ⟨by first | trivial | rfl,ee⟩
theorem of5_ret (hT:TermsOf w0 tv f.terms) (hC:CasesOf w0 cv f.cases) (hb:0≤f.bits∧f.bits≤1048576):Ret Pg 109 #[.agg (fieldCells f tv cv).toArray] w0 fun r w'=>r=rangeVal 0 (f.bits - 1)∧Ext w0 w':=by
 have ht1:=SliceOf.oneCell hT
 have hc1:=SliceOf.oneCell hC
 refine n153s (R:=retR _) ?_;unfold n153
 simp (disch:=try exact DI) only [↓PR,QR,simprocAttr,wrap_ok]
 exact ⟨by first | trivial | rfl,ee⟩
theorem of4_ret (sp:List (ByteArray×Int×Int)) (p:Nat) (hM:MapOf w0 mr (RP sp)) (hp:w0.heap[p]?=some (.cells (planCells m fl mr).toArray 105 (0,0))) (hT:TermsOf w0 tv f.terms) (hC:CasesOf w0 cv f.cases):Ret Pg 107 #[.agg (fieldCells f tv cv).toArray,.pointer (some ⟨p,0,none⟩)] w0 fun r w'=>r=rangeVal (lookS sp f.of).1 (lookS sp f.of).2∧Ext w0 w':=by
 have ht1:=SliceOf.oneCell hT
 have hc1:=SliceOf.oneCell hC
 have lp:=(Array.getElem?_eq_some_iff.1 hp).1
 refine n152s (R:=retR _) ?_;unfold n152
 simp (disch:=try exact DI) only [↓PR,QR,simprocAttr]
 generalize hW:World.alloc (World.alloc w0 _) _=W
 have e0:Ext w0 W:=by rw [← hW];exact ee
 have o2:W.heap[w0.heap.size]?=some (.cells (fieldCells f tv cv).toArray 38 (0,0)):=by rw [← hW];simp (disch:=try exact DI) only [↓PR,QR,simprocAttr]
 have o3:W.heap[w0.heap.size+1]?=some (.cells #[.int .i64 0,.int .i64 0] 67 (0,0)):=by rw [← hW];simp (disch:=try exact DI) only [↓PR,QR,simprocAttr]
 clear hW
 have hlk:∀ (w:World) (QP:List PanicEntry→World→Prop) (K:Value→World→Prop),Ext W w→opV Pg (Instr.lookup 103 (.map (some mr)) (.string f.of) false) QP w K=K (rangeVal (lookS sp f.of).1 (lookS sp f.of).2) w:=fun w QP K e=>by
  rw [op_lookup1O Tryz.underlying103 Tryz.underlying9 ty67 ((hM.ext e0).ext e),lastOf_RP]
  unfold lookS
  cases lastR sp f.of<;>rfl
 have l3:=(Array.getElem?_eq_some_iff.1 o3).1
 simp (disch:=try exact DI) only [↓PR,QR,simprocAttr,(cells_of_heap hp).1,(cells_of_heap o2).1,hlk W _ _ (Ext.refl W),(cells_of_heap o3).1,(cells_of_heap o3).2]
 exact ⟨by first | trivial | rfl,ee⟩
end
section
variable (w0:World) (m:MsgD) (fl tv cv:Value) (mr:Nat) (f:FieldD)
theorem checkS_ret (hf1:fl.oneCell'=true) (hT:TermsOf w0 tv f.terms) (hC:CasesOf w0 cv f.cases):Ret Pg 110 #[.agg (planCells m fl mr).toArray,.agg (fieldCells f tv cv).toArray] w0 fun r w'=>r=(if f.check=3 then rangeVal 32 32 else rangeVal 16 16)∧Ext w0 w':=by
 have ht1:=SliceOf.oneCell hT
 have hc1:=SliceOf.oneCell hC
 refine n143s (R:=retR _) ?_;unfold n143
 by_cases hk:f.check=3
 · have d:(f.check == 3)=true:=by simp [hk]
   rw [if_pos hk]
   simp (disch:=try exact DI) only [↓PR,QR,simprocAttr,d]
   generalize hW:World.alloc (World.alloc (World.alloc w0 _) _) _=W
   have e0:Ext w0 W:=by rw [← hW];exact ee
   have o2:W.heap[w0.heap.size+1+1]?=some (.cells #[.int .i64 0,.int .i64 0] 67 (0,0)):=by rw [← hW];simp (disch:=try exact DI) only [↓PR,QR,simprocAttr]
   clear hW
   refine zcr (same_ret _ 32) fun w1 e1=>?_
   have x2:=e1.obj o2
   have E1:=e0.trans e1
   have l2:=(Array.getElem?_eq_some_iff.1 x2).1
   simp (disch:=try exact DI) only [↓PR,QR,simprocAttr,(cells_of_heap x2).1,(cells_of_heap x2).2]
   exact ⟨by first | trivial | rfl,ee⟩
 · have d:(f.check == 3)=false:=by simp [hk]
   rw [if_neg hk]
   simp (disch:=try exact DI) only [↓PR,QR,simprocAttr,d]
   generalize hW:World.alloc (World.alloc (World.alloc w0 _) _) _=W
   have e0:Ext w0 W:=by rw [← hW];exact ee
   have o2:W.heap[w0.heap.size+1+1]?=some (.cells #[.int .i64 0,.int .i64 0] 67 (0,0)):=by rw [← hW];simp (disch:=try exact DI) only [↓PR,QR,simprocAttr]
   clear hW
   refine zcr (same_ret _ 16) fun w1 e1=>?_
   have x2:=e1.obj o2
   have E1:=e0.trans e1
   have l2:=(Array.getElem?_eq_some_iff.1 x2).1
   simp (disch:=try exact DI) only [↓PR,QR,simprocAttr,(cells_of_heap x2).1,(cells_of_heap x2).2]
   exact ⟨by first | trivial | rfl,ee⟩
theorem sized_ret (hF:FieldsOf w0 fl m.fields) (hT:TermsOf w0 tv f.terms) (hC:CasesOf w0 cv f.cases) (hb:f.terms.length≤1048576):Ret Pg 133 #[.agg (planCells m fl mr).toArray,.agg (fieldCells f tv cv).toArray] w0 fun r w'=>r=rangeVal (ivL m.fields f) (ivH m.fields f)∧Ext w0 w':=by
 have ht1:=SliceOf.oneCell hT
 have hc1:=SliceOf.oneCell hC
 have hf1:=SliceOf.oneCell hF
 refine n156s (R:=retR _) ?_;unfold n156
 simp (disch:=try exact DI) only [↓PR,QR,simprocAttr]
 generalize hW:World.alloc (World.alloc (World.alloc w0 _) _) _=W
 have e0:Ext w0 W:=by rw [← hW];exact ee
 have o2:W.heap[w0.heap.size]?=some (.cells (planCells m fl mr).toArray 105 (0,0)):=by rw [← hW];simp (disch:=try exact DI) only [↓PR,QR,simprocAttr]
 have o3:W.heap[w0.heap.size+1]?=some (.cells (fieldCells f tv cv).toArray 38 (0,0)):=by rw [← hW];simp (disch:=try exact DI) only [↓PR,QR,simprocAttr]
 have o4:W.heap[w0.heap.size+1+1]?=some (.cells #[.int .i64 0,.int .i64 0] 67 (0,0)):=by rw [← hW];simp (disch:=try exact DI) only [↓PR,QR,simprocAttr]
 clear hW
 refine drawK_intro ?_
 have eD:Ext W W.drew:=(Ext.refl _).wdrew
 have hRg:=fun (w:World) (e:Ext W w)=>Ranges_ret w (.agg #[.string m.name,fl]) m ⟨fl,rfl,hF.ext (e0.trans e)⟩
 have hIv:=fun (w:World) (b:Nat) (e:Ext W w) (hM:MapOf w b (numPairs m.fields))=>Interval_ret w (.agg #[.int .i64 f.base,tv]) f.base f.terms b (numR m.fields) ⟨tv,rfl,hT.ext (e0.trans e)⟩ hb (by rw [← numPairs_RP];exact hM)
 unfold n156c5
 simp (disch:=try exact DI) only [↓PR,QR,simprocAttr,(cells_of_heap o2).1,(cells_of_heap o3).1]
 refine ⟨?_,?_⟩
 · refine callK_ret (hRg _ eD) ?_
   rintro _ w1 ⟨b,rfl,_,hM1,e1⟩
   refine ⟨e1,?_⟩
   unfold n156c3
   refine ⟨?_,?_⟩
   · refine zcr (hIv _ b (eD.trans e1) hM1) fun w2 e2=>?_
     refine ⟨e1.trans e2,?_⟩
     unfold n156c1
     have eX:Ext w2 (w2.alloc (.cells #[.int .i64 (ivL m.fields f),.int .i64 (ivH m.fields f)] 67)):=ee
     have x4:=eX.obj (e2.obj (e1.obj (eD.obj o4)))
     have l4:=(Array.getElem?_eq_some_iff.1 x4).1
     have E2:=eD.trans (e1.trans e2)
     simp (disch:=try exact DI) only [↓PR,QR,simprocAttr,(cells_of_heap x4).1,(cells_of_heap x4).2]
     have E3:Ext W.drew w2:=e1.trans e2
     have E02:Ext w0 w2:=e0.trans E2
     exact ⟨ee,ee,by trivial,ee⟩
   · have eX:Ext w1 (w1.alloc (.cells #[.int .i64 0,.int .i64 0] 67)):=ee
     have oX:=heap_new w1 #[.int .i64 0,.int .i64 0] 67
     have hM2:=hM1.ext eX
     have s1:=(eD.trans e1).size
     simp (disch:=try exact DI) only [↓PR,QR,simprocAttr]
     generalize (w1.alloc (.cells #[.int .i64 0,.int .i64 0] 67))=X at eX oX hM2 ⊢
     generalize w1.heap.size=px at oX s1 ⊢
     refine ⟨e1.trans eX,?_⟩
     unfold n156c2
     refine zcr (hIv _ b (eD.trans (e1.trans eX)) hM2) fun w2 e2=>?_
     have E2:Ext W.drew w2:=e1.trans (eX.trans e2)
     refine ⟨E2,?_⟩
     have x5:=e2.obj oX
     have x4:=e2.obj (eX.obj (e1.obj (eD.obj o4)))
     have l4:=(Array.getElem?_eq_some_iff.1 x4).1
     have l5:=(Array.getElem?_eq_some_iff.1 x5).1
     have l44:=(Array.getElem?_eq_some_iff.1 o4).1
     have n45:px≠w0.heap.size+1+1:=by omega
     have n54:w0.heap.size+1+1≠px:=by omega
     simp (disch:=try exact DI) only [↓PR,QR,simprocAttr,(cells_of_heap x5).1,(cells_of_heap x5).2,(cells_of_heap x4).1,(cells_of_heap x4).2]
     have E02:Ext w0 w2:=e0.trans (eD.trans E2)
     have sD:W.drew.heap.size=W.heap.size:=World.size_drew _
     have s0:=e0.size
     exact ⟨ee,by trivial,ee⟩
 · have eX:Ext W.drew (W.drew.alloc (.cells #[.int .i64 0,.int .i64 0] 67)):=ee
   have oX:=heap_new W.drew #[.int .i64 0,.int .i64 0] 67
   have sD:W.drew.heap.size=W.heap.size:=World.size_drew _
   rw [sD] at oX
   generalize (W.drew.alloc (.cells #[.int .i64 0,.int .i64 0] 67))=X at eX oX ⊢
   refine ⟨eX,?_⟩
   refine callK_ret (hRg _ (eD.trans eX)) ?_
   rintro _ w1 ⟨b,rfl,_,hM1,e1⟩
   refine ⟨eX.trans e1,?_⟩
   unfold n156c4
   refine zcr (hIv _ b (eD.trans (eX.trans e1)) hM1) fun w2 e2=>?_
   have E2:Ext W.drew w2:=eX.trans (e1.trans e2)
   refine ⟨E2,?_⟩
   have x5:=e2.obj (e1.obj oX)
   have x4:=E2.obj (eD.obj o4)
   have l4:=(Array.getElem?_eq_some_iff.1 x4).1
   have l5:=(Array.getElem?_eq_some_iff.1 x5).1
   have l44:=(Array.getElem?_eq_some_iff.1 o4).1
   have n45:W.heap.size≠w0.heap.size+1+1:=by omega
   have n54:w0.heap.size+1+1≠W.heap.size:=by omega
   simp (disch:=try exact DI) only [↓PR,QR,simprocAttr,(cells_of_heap x5).1,(cells_of_heap x5).2,(cells_of_heap x4).1,(cells_of_heap x4).2]
   have E02:Ext w0 w2:=e0.trans (eD.trans E2)
   have s0:=e0.size
   exact ⟨ee,by trivial,ee⟩
end
theorem two_times (w0:World) (a b:Int) (ha:0≤a∧a≤2097152) (hb:0≤b∧b≤1099511627776):Two w0 134 a b (capF (a*b)):=fun w _=>times_ret w a b ha hb
theorem run_look {w:World} {mr:Nat} {sp:List (ByteArray×Int×Int)} (hM:MapOf w mr (RP sp)) (s:ByteArray) (QP:List PanicEntry→World→Prop) (K:Value→World→Prop):opV Pg (Instr.lookup 103 (.map (some mr)) (.string s) false) QP w K=K (rangeVal (lookS sp s).1 (lookS sp s).2) w:=by
 rw [op_lookup1O Tryz.underlying103 Tryz.underlying9 ty67 hM,lastOf_RP]
 unfold lookS
 cases lastR sp s<;>rfl
section
variable (w0:World) (m:MsgD) (fl tv cv:Value) (mr:Nat) (f:FieldD)
theorem bytesS_ret (hF:FieldsOf w0 fl m.fields) (hT:TermsOf w0 tv f.terms) (hC:CasesOf w0 cv f.cases) (hb:f.terms.length≤1048576) (hL:0≤ivL m.fields f∧ivL m.fields f≤2097152) (hH:0≤ivH m.fields f∧ivH m.fields f≤2097152):Ret Pg 103 #[.agg (planCells m fl mr).toArray,.agg (fieldCells f tv cv).toArray] w0 fun r w'=>r=rangeVal (capF (ivL m.fields f*8)) (capF (ivH m.fields f*8))∧Ext w0 w':=by
 have ht1:=SliceOf.oneCell hT
 have hc1:=SliceOf.oneCell hC
 have hf1:=SliceOf.oneCell hF
 refine n142s (R:=retR _) ?_;unfold n142
 simp (disch:=try exact DI) only [↓PR,QR,simprocAttr]
 generalize hW:World.alloc (World.alloc (World.alloc w0 _) _) _=W
 have e0:Ext w0 W:=by rw [← hW];exact ee
 have o4:W.heap[w0.heap.size+1+1]?=some (.cells #[.int .i64 0,.int .i64 0] 67 (0,0)):=by rw [← hW];simp (disch:=try exact DI) only [↓PR,QR,simprocAttr]
 clear hW
 refine zcr (sized_ret W m fl tv cv mr f (hF.ext e0) (hT.ext e0) (hC.ext e0) hb) fun w1 e1=>?_
 refine zcr (same_ret _ 8) fun w2 e2=>?_
 unfold n142c1
 refine zcr (both_ret w2 _ _ 8 8 _ _ _ c134 (two_times _ _ 8 hL (by decide)) (two_times _ _ 8 hH (by decide))) fun w3 e3=>?_
 have x4:=e3.obj (e2.obj (e1.obj o4))
 have E3:=e0.trans (e1.trans (e2.trans e3))
 have l4:=(Array.getElem?_eq_some_iff.1 x4).1
 simp (disch:=try exact DI) only [↓PR,QR,simprocAttr,(cells_of_heap x4).1,(cells_of_heap x4).2]
 exact ⟨by first | trivial | rfl,ee⟩
theorem listS_ret (sp:List (ByteArray×Int×Int)) (hM:MapOf w0 mr (RP sp)) (hF:FieldsOf w0 fl m.fields) (hT:TermsOf w0 tv f.terms) (hC:CasesOf w0 cv f.cases) (hb:f.terms.length≤1048576) (hL:0≤ivL m.fields f∧ivL m.fields f≤2097152) (hH:0≤ivH m.fields f∧ivH m.fields f≤2097152)
 (h1:0≤(lookS sp f.of).1∧(lookS sp f.of).1≤1099511627776) (h2:0≤(lookS sp f.of).2∧(lookS sp f.of).2≤1099511627776):Ret Pg 106 #[.agg (planCells m fl mr).toArray,.agg (fieldCells f tv cv).toArray] w0 fun r w'=>r=rangeVal (capF (ivL m.fields f*(lookS sp f.of).1)) (capF (ivH m.fields f*(lookS sp f.of).2))∧Ext w0 w':=by
 have ht1:=SliceOf.oneCell hT
 have hc1:=SliceOf.oneCell hC
 have hf1:=SliceOf.oneCell hF
 refine n145s (R:=retR _) ?_;unfold n145
 simp (disch:=try exact DI) only [↓PR,QR,simprocAttr]
 generalize hW:World.alloc (World.alloc (World.alloc w0 _) _) _=W
 have e0:Ext w0 W:=by rw [← hW];exact ee
 have o2:W.heap[w0.heap.size]?=some (.cells (planCells m fl mr).toArray 105 (0,0)):=by rw [← hW];simp (disch:=try exact DI) only [↓PR,QR,simprocAttr]
 have o3:W.heap[w0.heap.size+1]?=some (.cells (fieldCells f tv cv).toArray 38 (0,0)):=by rw [← hW];simp (disch:=try exact DI) only [↓PR,QR,simprocAttr]
 have o4:W.heap[w0.heap.size+1+1]?=some (.cells #[.int .i64 0,.int .i64 0] 67 (0,0)):=by rw [← hW];simp (disch:=try exact DI) only [↓PR,QR,simprocAttr]
 clear hW
 refine drawK_intro ?_
 have eD:Ext W W.drew:=(Ext.refl _).wdrew
 have qlk:∀ K:Value→Prop,qV Pg (EC W.drew) (Instr.lookup 103 (.map (some mr)) (.string f.of) false) K=K (rangeVal (lookS sp f.of).1 (lookS sp f.of).2):=fun K=>qV_eqC fun w' e=>run_of_op fun QP k=>run_look (hM.ext (e0.trans (eD.trans e))) f.of QP k
 unfold n145c2
 simp (disch:=try exact DI) only [↓PR,QR,simprocAttr,(cells_of_heap o2).1,(cells_of_heap o3).1,qlk]
 refine zcr (sized_ret _ m fl tv cv mr f (hF.ext (e0.trans eD)) (hT.ext (e0.trans eD)) (hC.ext (e0.trans eD)) hb) fun w1 e1=>?_
 refine ⟨e1,?_⟩
 unfold n145c1
 refine zcr (both_ret w1 _ _ _ _ _ _ _ c134 (two_times _ _ _ hL h1) (two_times _ _ _ hH h2)) fun w2 e2=>?_
 refine ⟨e1.trans e2,?_⟩
 have E2:=eD.trans (e1.trans e2)
 have x4:=E2.obj o4
 have E3:=e0.trans E2
 have l4:=(Array.getElem?_eq_some_iff.1 x4).1
 simp (disch:=try exact DI) only [↓PR,QR,simprocAttr,(cells_of_heap x4).1,(cells_of_heap x4).2]
 refine turnK_intro ?_
 simp (disch:=try exact DI) only [↓PR,QR,simprocAttr,(cells_of_heap x4).1]
 exact ⟨by first | trivial | rfl,ee⟩
theorem num1_ret (v:Nat) (hv:v < 9223372036854775808):Ret Pg 131 #[.int .i64 (v:Int),.int .i64 8] w0 fun r w'=>r = .int .i64 (((groupsP v:Nat):Int)*8)∧Ext w0 w':=by
 have hb:=groupsP_le 9 v (Nat.lt_of_lt_of_le hv (by decide)) (by decide)
 refine n147s (R:=retR _) ?_;unfold n147
 refine zcr (groups_ret w0 v hv) fun w1 e1=>?_
 simp (disch:=try exact DI) only [↓PR,QR,simprocAttr,wrap_ok]
 exact ⟨by first | trivial | rfl,ee⟩
end
section
variable {w0:World} {m:MsgD} {fl tv cv:Value} {mr:Nat} {f:FieldD}
theorem num_c1 {w:World} {p3 p4 p5:Nat} {a b:Int} (h3:w.heap[p3]?=some (.cells (fieldCells f tv cv).toArray 38 (0,0))) (h4:w.heap[p4]?=some (.cells #[.int .i64 0,.int .i64 0] 67 (0,0))) (h5:w.heap[p5]?=some (.cells #[.int .i64 a,.int .i64 b] 67 (0,0))) (hne:p4≠p5) (e:Ext w0 w) (g4:w0.heap.size≤p4) (g5:w0.heap.size≤p5) :
 n146c1 (.pointer (some ⟨p3,0,none⟩)) (.pointer (some ⟨p4,0,none⟩)) (.pointer (some ⟨p5,0,none⟩)) (retR fun r w'=>r=rangeVal a (if f.loose then 40 else b)∧Ext w0 w') w:=by
 have hne':p5≠p4:=fun h=>hne h.symm
 have l4:=(Array.getElem?_eq_some_iff.1 h4).1
 have l5:=(Array.getElem?_eq_some_iff.1 h5).1
 unfold n146c1
 cases hl:f.loose with
 | true =>
  have y5:(w.setCell ⟨p5,1,none⟩ (.int .i64 40)).heap[p5]?=some (.cells #[.int .i64 a,.int .i64 40] 67 (0,0)):=by simpa using heap_set (o:=1) h5 (.int .i64 40)
  have y4:=(Only.setCell w p5 1 (.int .i64 40) p4 hne).trans h4
  have E:Ext w0 (w.setCell ⟨p5,1,none⟩ (.int .i64 40)):=ee
  simp (disch:=try exact DI) only [↓PR,QR,simprocAttr,(cells_of_heap h3).1,hl,(cells_of_heap h5).1,(cells_of_heap h5).2]
  generalize (w.setCell ⟨p5,1,none⟩ (.int .i64 40))=X at y5 y4 E ⊢
  have l4':=(Array.getElem?_eq_some_iff.1 y4).1
  simp (disch:=try exact DI) only [↓PR,QR,simprocAttr,(cells_of_heap y5).1,(cells_of_heap h4).1,(cells_of_heap y4).1,(cells_of_heap y4).2]
  exact ⟨by first | trivial | rfl,ee⟩
 | false =>
  simp (disch:=try exact DI) only [↓PR,QR,simprocAttr,(cells_of_heap h3).1,hl,(cells_of_heap h5).1,(cells_of_heap h4).1,(cells_of_heap h4).2]
  exact ⟨by first | trivial | rfl,ee⟩
theorem numberS_ret (hf1:fl.oneCell'=true) (hT:TermsOf w0 tv f.terms) (hC:CasesOf w0 cv f.cases) (h1:0≤f.low∧f.low < 9223372036854775808) (h2:0≤f.high∧f.high < 9223372036854775808):Ret Pg 102 #[.agg (planCells m fl mr).toArray,.agg (fieldCells f tv cv).toArray] w0 fun r w'=>r=rangeVal ((groupsP f.low.toNat:Nat)*8) (if f.loose then 40 else (groupsP f.high.toNat:Nat)*8)∧Ext w0 w':=by
 have ht1:=SliceOf.oneCell hT
 have hc1:=SliceOf.oneCell hC
 refine n146s (R:=retR _) ?_;unfold n146
 simp (disch:=try exact DI) only [↓PR,QR,simprocAttr]
 generalize hW:World.alloc (World.alloc (World.alloc w0 _) _) _=W
 have e0:Ext w0 W:=by rw [← hW];exact ee
 have o3:W.heap[w0.heap.size+1]?=some (.cells (fieldCells f tv cv).toArray 38 (0,0)):=by rw [← hW];simp (disch:=try exact DI) only [↓PR,QR,simprocAttr]
 have o4:W.heap[w0.heap.size+1+1]?=some (.cells #[.int .i64 0,.int .i64 0] 67 (0,0)):=by rw [← hW];simp (disch:=try exact DI) only [↓PR,QR,simprocAttr]
 clear hW
 have s0:=e0.size
 have l4:=(Array.getElem?_eq_some_iff.1 o4).1
 refine drawK_intro ?_
 have eD:Ext W W.drew:=(Ext.refl _).wdrew
 have sD:W.drew.heap.size=W.heap.size:=World.size_drew _
 have h1':((f.low.toNat:Nat):Int)=f.low:=by omega
 have h2':((f.high.toNat:Nat):Int)=f.high:=by omega
 have t1:∀ w,Two w 131 f.low 8 ((groupsP f.low.toNat:Nat)*8):=fun w w' _=>by have:=num1_ret w' f.low.toNat (by omega);rwa [h1'] at this
 have t2:∀ w,Two w 131 f.high 8 ((groupsP f.high.toNat:Nat)*8):=fun w w' _=>by have:=num1_ret w' f.high.toNat (by omega);rwa [h2'] at this
 have both:=fun w=>both_ret w f.low f.high 8 8 _ _ _ c131 (t1 w) (t2 w)
 clear t1 t2
 generalize (((groupsP f.low.toNat:Nat):Int)*8)=A at both ⊢
 generalize (((groupsP f.high.toNat:Nat):Int)*8)=B at both ⊢
 have st:∀ (w:World) (p:Nat),Ext W.drew w→W.heap.size≤p→w.heap[p]?=some (.cells #[.int .i64 0,.int .i64 0] 67 (0,0))→opU Pg (Instr.storeAt 67 (.pointer (some ⟨p,0,none⟩)) (rangeVal A B)) (panK (retR fun r w'=>r=rangeVal A (if f.loose then 40 else B)∧Ext w0 w')) w fun w=>turnK w fun C w=>n146c1 (.pointer (some ⟨w0.heap.size+1,0,none⟩)) (.pointer (some ⟨w0.heap.size+1+1,0,none⟩)) (.pointer (some ⟨p,0,none⟩)) (retR fun r w'=>r=rangeVal A (if f.loose then 40 else B)∧Ext w0 w') w:=by
  intro w p e hp hh
  simp (disch:=try exact DI) only [↓PR,QR,simprocAttr,(cells_of_heap hh).1,(cells_of_heap hh).2]
  refine turnK_intro ?_
  have y5:((w.setCell ⟨p,0,none⟩ (.int .i64 A)).setCell ⟨p,1,none⟩ (.int .i64 B)).heap[p]?=some (.cells #[.int .i64 A,.int .i64 B] 67 (0,0)):=by simpa using heap_set (o:=1) (heap_set (o:=0) hh (.int .i64 A)) (.int .i64 B)
  have only:∀ q,q≠p→((w.setCell ⟨p,0,none⟩ (.int .i64 A)).setCell ⟨p,1,none⟩ (.int .i64 B)).heap[q]?=w.heap[q]?:=fun q hq=>(Only.setCell _ p 1 (.int .i64 B) q hq).trans (Only.setCell w p 0 (.int .i64 A) q hq)
  have E:Ext w0 ((w.setCell ⟨p,0,none⟩ (.int .i64 A)).setCell ⟨p,1,none⟩ (.int .i64 B)):=((e0.trans (eD.trans e)).setCell (p:=⟨p,0,none⟩) (by show w0.heap.size≤p;omega) _).setCell (p:=⟨p,1,none⟩) (by show w0.heap.size≤p;omega) _
  exact num_c1 ((only _ (by omega)).trans (e.obj (eD.obj o3))) ((only _ (by omega)).trans (e.obj (eD.obj o4))) y5 (by omega) E (by omega) (by omega)
 unfold n146c4
 simp (disch:=try exact DI) only [↓PR,QR,simprocAttr,(cells_of_heap o3).1]
 repeat rw [World.size_alloc]
 refine ⟨?_,?_⟩
 · refine zcr (same_ret _ 8) fun w1 e1=>?_
   refine ⟨e1,?_⟩
   unfold n146c2
   refine ⟨?_,?_⟩
   · refine zcr (both _) fun w2 e2=>?_
     have E2:=e1.trans e2
     have s2:=E2.size
     refine ⟨E2,?_⟩
     have eX:Ext w2 (w2.alloc (.cells #[.int .i64 0,.int .i64 0] 67)):=ee
     have oX:=heap_new w2 #[.int .i64 0,.int .i64 0] 67
     rw [op_alloc ty67]
     refine ⟨E2.trans eX,?_⟩
     exact st _ _ (E2.trans eX) (by omega) oX
   · have eX:Ext w1 (w1.alloc (.cells #[.int .i64 0,.int .i64 0] 67)):=ee
     have oX:=heap_new w1 #[.int .i64 0,.int .i64 0] 67
     have s1:=e1.size
     rw [op_alloc ty67]
     refine ⟨e1.trans eX,?_⟩
     refine zcr (both _) fun w2 e2=>?_
     refine ⟨e1.trans (eX.trans e2),?_⟩
     exact st _ _ (e1.trans (eX.trans e2)) (by omega) (e2.obj oX)
 · have eX:Ext W.drew (W.drew.alloc (.cells #[.int .i64 0,.int .i64 0] 67)):=ee
   have oX:=heap_new W.drew #[.int .i64 0,.int .i64 0] 67
   refine ⟨eX,?_⟩
   refine zcr (same_ret _ 8) fun w1 e1=>?_
   unfold n146c3
   refine ⟨eX.trans e1,?_⟩
   refine zcr (both _) fun w2 e2=>?_
   refine ⟨eX.trans (e1.trans e2),?_⟩
   have sD2:(drew W).heap.size=W.heap.size:=sD
   exact st _ _ (eX.trans (e1.trans e2)) (by omega) (e2.obj (e1.obj oX))
def minI (a b:Int):Int:=if b < a then b else a
def stepC (sp:List (ByteArray×Int×Int)) (o:Int×Int) (c:CaseD):Int×Int:=(minI o.1 (lookS sp c.of).1,maxI o.2 (lookS sp c.of).2)
def choiceS (sp:List (ByteArray×Int×Int)) (l:List CaseD):Int×Int:=match l with
 | []=>(0,0)
 | c::_=>l.foldl (stepC sp) (lookS sp c.of)
theorem choiceF_ret (sp:List (ByteArray×Int×Int)) (hM:MapOf w0 mr (RP sp)) (hf1:fl.oneCell'=true) (hT:TermsOf w0 tv f.terms) (hC:CasesOf w0 cv f.cases) (hne:f.cases≠[]):Ret Pg 108 #[.agg (planCells m fl mr).toArray,.agg (fieldCells f tv cv).toArray] w0 fun r w'=>r=rangeVal (choiceS sp f.cases).1 (choiceS sp f.cases).2∧Ext w0 w':=by
 have ht1:=SliceOf.oneCell hT
 have hc1:=SliceOf.oneCell hC
 obtain ⟨A,c,rfl,hlc,hcm,hlm,hel⟩:=SliceOf.open hC
 obtain ⟨c0,hc0⟩:∃ c0,f.cases[0]?=some c0:=by
  cases hh:f.cases with
  | nil=>exact absurd hh hne
  | cons a l=>exact ⟨a,rfl⟩
 have hch:choiceS sp f.cases=f.cases.foldl (stepC sp) (lookS sp c0.of):=by
  cases hh:f.cases with
  | nil=>exact absurd hh hne
  | cons a l=>rw [hh] at hc0;injection hc0 with hc0;subst hc0;rfl
 have hl0:0 < f.cases.length:=(List.getElem?_eq_some_iff.1 hc0).1
 obtain ⟨b,o,cs0,rfl,_,hA0,rfl⟩:=hel 0 c0 hc0
 rw [Nat.zero_mul,Nat.add_zero] at hA0
 refine n144s (R:=retR _) ?_;unfold n144
 simp (disch:=try exact DI) only [↓PR,QR,simprocAttr]
 generalize hW:World.alloc (World.alloc (World.alloc w0 _) _) _=W
 have e0:Ext w0 W:=by rw [← hW];exact ee
 have o2:W.heap[w0.heap.size]?=some (.cells (planCells m fl mr).toArray 105 (0,0)):=by rw [← hW];simp (disch:=try exact DI) only [↓PR,QR,simprocAttr]
 have o3:W.heap[w0.heap.size+1]?=some (.cells (fieldCells f tv (.slice (some ⟨b,o,none⟩) f.cases.length c)).toArray 38 (0,0)):=by rw [← hW];simp (disch:=try exact DI) only [↓PR,QR,simprocAttr]
 have o4:W.heap[w0.heap.size+1+1]?=some (.cells #[.int .i64 0,.int .i64 0] 67 (0,0)):=by rw [← hW];simp (disch:=try exact DI) only [↓PR,QR,simprocAttr]
 clear hW
 have s0:=e0.size
 have l4:=(Array.getElem?_eq_some_iff.1 o4).1
 refine drawK_intro ?_
 have eD:Ext W W.drew:=(Ext.refl _).wdrew
 have sD:W.drew.heap.size=W.heap.size:=World.size_drew _
 have qlk:∀ K:Value→Prop,qV Pg (EC W.drew) (Instr.lookup 103 (.map (some mr)) (.string c0.of) false) K=K (rangeVal (lookS sp c0.of).1 (lookS sp c0.of).2):=fun K=>qV_eqC fun w' e=>run_of_op fun QP k=>run_look (hM.ext (e0.trans (eD.trans e))) c0.of QP k
 have qix:∀ K:Value→Prop,qV Pg (EC W.drew) (Instr.indexAt 36 (.slice (some ⟨b,o,none⟩) f.cases.length c) (.int .i64 0)) K=K (.pointer (some ⟨b,o,none⟩)):=fun K=>by
  have:=qV_of (C:=EC W.drew) (k:=K) fun QP w' k=>op_indexN (QP:=QP) (w:=w') (k:=k) Tryz.underlying36 ty116 b o f.cases.length c .i64 0 hl0
  rwa [Nat.zero_mul,Nat.add_zero] at this
 unfold n144c4
 simp (disch:=try exact DI) only [↓PR,QR,simprocAttr,(cells_of_heap o2).1,(cells_of_heap o3).1,qix,qlk,hA0.c3 (e0.trans eD),hA0.c3 e0,(hA0.c3 (Ext.refl w0))]
 repeat rw [World.size_alloc]
 refine ⟨ee,turnK_intro ?_⟩
 have o5:(W.drew.alloc (.cells #[.int .i64 (lookS sp c0.of).1,.int .i64 (lookS sp c0.of).2] 67)).heap[W.heap.size]?=some (.cells #[.int .i64 (lookS sp c0.of).1,.int .i64 (lookS sp c0.of).2] 67 (0,0)):=by have:=heap_new W.drew #[.int .i64 (lookS sp c0.of).1,.int .i64 (lookS sp c0.of).2] 67;rwa [sD] at this
 have eX:Ext W (W.drew.alloc (.cells #[.int .i64 (lookS sp c0.of).1,.int .i64 (lookS sp c0.of).2] 67)):=eD.trans ee
 have sD2:(drew W).heap.size=W.heap.size:=sD
 rw [sD2]
 generalize (W.drew.alloc (.cells #[.int .i64 (lookS sp c0.of).1,.int .i64 (lookS sp c0.of).2] 67))=X at o5 eX ⊢
 generalize hp5:W.heap.size=p5 at o5 l4 ⊢
 have n45:w0.heap.size+1+1≠p5:=by omega
 unfold n144c3
 simp (disch:=try exact DI) only [↓PR,QR,simprocAttr,(cells_of_heap (eX.obj o3)).1]
 refine loop1_intro (fun i w=>∃ k:Nat,i = .int .i64 k∧k≤f.cases.length∧Ext W w∧w.heap[p5]?=some (.cells #[.int .i64 ((f.cases.take k).foldl (stepC sp) (lookS sp c0.of)).1,.int .i64 ((f.cases.take k).foldl (stepC sp) (lookS sp c0.of)).2] 67 (0,0))) (fun i _=>f.cases.length - (intOf i).toNat) ⟨0,rfl,by omega,eX,o5⟩ ?_
 rintro _ w ⟨k,rfl,hk,e,x5⟩
 have E:=e0.trans e
 have l5:=(Array.getElem?_eq_some_iff.1 x5).1
 unfold n144c2
 rcases drop_cases hk with ⟨x,hx,hd,hlt,hdec⟩ | ⟨hk,hd,hdec⟩
 · obtain ⟨b',o',cs,hbo,_,hA,rfl⟩:=hel k x hx
   injection hbo with hbo
   injection hbo with hb1 hb2
   subst hb1 hb2
   have hst:(f.cases.take (k+1)).foldl (stepC sp) (lookS sp c0.of)=stepC sp ((f.cases.take k).foldl (stepC sp) (lookS sp c0.of)) x:=by rw [take_snoc hx,List.foldl_append];rfl
   generalize (f.cases.take k).foldl (stepC sp) (lookS sp c0.of)=z at x5 hst
   simp (disch:=try exact DI) only [↓PR,QR,simprocAttr,hdec]
   unfold n144c1
   have eA:Ext w (w.alloc (.cells (caseCells x).toArray 116)):=ee
   have hlk:=run_look ((hM.ext E).ext eA) x.of
   try unfold X0
   try unfold L0
   rw [op_indexN Tryz.underlying36 ty116 _ _ _ _ _ k hlt,op_load ((hA.ext E).loads ty116 rfl)]
   simp (disch:=try exact DI) only [↓PR,QR,simprocAttr,(cells_of_heap (e.obj o2)).1,hlk,(cells_of_heap x5).1,(cells_of_heap x5).2]
   refine ⟨⟨k+1,rfl,by omega,ee,?_⟩,meas_lt hlt⟩
   rw [hst]
   simpa [stepC,minI,maxI] using heap_set (o:=1) (heap_set (o:=0) x5 (.int .i64 (minI z.1 (lookS sp x.of).1))) (.int .i64 (maxI z.2 (lookS sp x.of).2))
 · subst hk
   rw [List.take_length,← hch] at x5
   have x4:=e.obj o4
   have l44:=(Array.getElem?_eq_some_iff.1 x4).1
   simp (disch:=try exact DI) only [↓PR,QR,simprocAttr,hdec,(cells_of_heap x5).1,(cells_of_heap x4).1,(cells_of_heap x4).2]
   exact ⟨by first | trivial | rfl,ee⟩
end
def n29c1 (t7:Value) (R:RT) (w:World):Prop :=
 opV Pg (Instr.extract t7 0) (panK R) w fun t8 w =>
 opV Pg (Instr.extract t7 1) (panK R) w fun t9 w =>
 opV Pg (Instr.alloc 29 true (.tuple #[])) (panK R) w fun t3 w =>
 opU Pg (Instr.storeAt 29 t3 t8) (panK R) w fun w =>
 opV Pg (Op.unary .not t9) (panK R) w fun t11 w =>
 R (.returned t11) w
def n29 (t0:Value) (R:RT) (w:World):Prop :=
 opV Pg (Instr.box 24 t0) (panK R) w fun t1 w =>
 L0 24 t1 R w fun t6 w =>
 C0 52 #[t6] R w fun t7 w =>
 n29c1 t7 R w
theorem n29s {t0:Value} {R:RT} {w:World} (h:n29 t0 R w):Calls Pg 21 #[t0] w R:=by
 refine yD Tryz.func21 ?_
 refine zs<|zr<|yv h fun _ w h=>zm<|zn<|zk<|zs<|zr<|yv h fun _ w h=>yc h c52 fun _ w h=>zm<|yv h fun _ w h=>yv h fun _ w h=>yv h fun _ w h=>yu h fun w h=>?_
 exact zm<|zn<|zk<|zs<|zr<|zm<|yv h fun _ w h=>zm<|zn<|zk<|sim_ret<|body_ret1 rfl rfl h
def spanF (sp:List (ByteArray×Int×Int)) (l:List FieldD) (f:FieldD):Int×Int :=
 if f.kind=1∨f.kind=2 then (f.bits,f.bits) else
 if f.kind=3 then ((groupsP f.low.toNat:Nat)*8,if f.loose then 40 else (groupsP f.high.toNat:Nat)*8) else
 if f.kind=4∨f.kind=12 then (capF (ivL l f*8),capF (ivH l f*8)) else
 if f.kind=5 then (8,8*(f.high+1)) else
 if f.kind=6 then (16,8*f.high) else
 if f.kind=7 then (capF (ivL l f*(lookS sp f.of).1),capF (ivH l f*(lookS sp f.of).2)) else
 if f.kind=8 then lookS sp f.of else
 if f.kind=9 then choiceS sp f.cases else
 if f.kind=10 then (0,f.bits - 1) else if f.check=3 then (32,32) else (16,16)
structure OkS (sp:List (ByteArray×Int×Int)) (l:List FieldD) (f:FieldD):Prop where
 kind:1≤f.kind∧f.kind≤12
 num:f.kind=3→(0≤f.low∧f.low < 9223372036854775808)∧0≤f.high∧f.high < 9223372036854775808
 iv:f.kind=4∨f.kind=12∨f.kind=7→(0≤ivL l f∧ivL l f≤2097152)∧0≤ivH l f∧ivH l f≤2097152
 high:f.kind=5∨f.kind=6→0≤f.high∧f.high≤1048576
 of:f.kind=7→(0≤(lookS sp f.of).1∧(lookS sp f.of).1≤1099511627776)∧0≤(lookS sp f.of).2∧(lookS sp f.of).2≤1099511627776
 cases:f.kind=9→f.cases≠[]
 bits:f.kind=10→0≤f.bits∧f.bits≤1048576
 terms:f.terms.length≤1048576
theorem kindm_step {w0 w:World} {m c:Nat} {L:List (Int×Value×Nat)} {QP:List PanicEntry→World→Prop} {ku:World→Prop} (hM:MapB w m kindEnc L c) (e:Ext w0 w) (hm:w0.heap.size≤m) (k:Int) (v:Value)
 (h:∀ w' L' c',MapB w' m kindEnc L' c'→(∀ k',Sw.look L' k'=if k'=k then some v else Sw.look L k')→Ext w0 w'→ku w'):opU Pg (Instr.mapUpdate 142 (.map (some m)) (.int .i64 k) v) QP w ku:=by
 rw [op_mapUpdate Tryz.underlying142 (KeyOK.int Tryz.underlying32) hM k v]
 exact h _ _ _ (hM.put k v) (fun k'=>look_put _ _ _ _ _) (e.putObj hm _)
theorem of_ret (w0:World) (m:MsgD) (fl tv cv:Value) (mr:Nat) (f:FieldD) (sp:List (ByteArray×Int×Int)) (hM:MapOf w0 mr (RP sp)) (hF:FieldsOf w0 fl m.fields) (hT:TermsOf w0 tv f.terms) (hC:CasesOf w0 cv f.cases) (ok:OkS sp m.fields f):Ret Pg 67 #[.agg (planCells m fl mr).toArray,.agg (fieldCells f tv cv).toArray] w0 fun r w'=>r=rangeVal (spanF sp m.fields f).1 (spanF sp m.fields f).2∧Ext w0 w':=by
 have ht1:=SliceOf.oneCell hT
 have hc1:=SliceOf.oneCell hC
 have hf1:=SliceOf.oneCell hF
 refine n148s (R:=retR _) ?_;unfold n148
 rw [op_boxA,op_boxA,op_alloc ty67]
 show opV _ _ _ (((w0.alloc (.cells (planCells m fl mr).toArray 105)).alloc (.cells (fieldCells f tv cv).toArray 38)).alloc (.cells #[.int .i64 0,.int .i64 0] 67)) _
 simp only [World.size_alloc]
 generalize hW:(((w0.alloc (.cells (planCells m fl mr).toArray 105)).alloc (.cells (fieldCells f tv cv).toArray 38)).alloc (.cells #[.int .i64 0,.int .i64 0] 67))=W
 have e0:Ext w0 W:=by rw [← hW];exact ee
 have o2:W.heap[w0.heap.size]?=some (.cells (planCells m fl mr).toArray 105 (0,0)):=by rw [← hW];simp (disch:=try exact DI) only [↓PR,QR,simprocAttr]
 have o3:W.heap[w0.heap.size+1]?=some (.cells (fieldCells f tv cv).toArray 38 (0,0)):=by rw [← hW];simp (disch:=try exact DI) only [↓PR,QR,simprocAttr]
 have o4:W.heap[w0.heap.size+1+1]?=some (.cells #[.int .i64 0,.int .i64 0] 67 (0,0)):=by rw [← hW];simp (disch:=try exact DI) only [↓PR,QR,simprocAttr]
 clear hW
 generalize hp4:w0.heap.size+1+1=p4 at o4 ⊢
 generalize hp3:w0.heap.size+1=p3 at o3 hp4 ⊢
 generalize hp2:w0.heap.size=p2 at o2 ⊢
 simp (disch:=try exact DI) only [↓PR,QR,simprocAttr]
 have eM0:Ext W (W.alloc (.map #[] 0)):=ee
 have hM0:MapB (W.alloc (.map #[] 0)) W.heap.size kindEnc [] 0:=MapB.new W _
 have cv_fin:∀ (w:World) (g:FuncId) (first caps:Array Value),Ext W w→Callable Pg g→(Ret Pg g (first ++ #[.agg (fieldCells f tv cv).toArray]++caps) w fun r w'=>r=rangeVal (spanF sp m.fields f).1 (spanF sp m.fields f).2∧Ext w w') →
  callV Pg (.func (.func g) first caps) #[.agg (fieldCells f tv cv).toArray] (panK (retR fun r w'=>r=rangeVal (spanF sp m.fields f).1 (spanF sp m.fields f).2∧Ext w0 w')) w fun t27 w=>opU Pg (Instr.storeAt 67 (.pointer (some ⟨p4,0,none⟩)) t27) (panK (retR fun r w'=>r=rangeVal (spanF sp m.fields f).1 (spanF sp m.fields f).2∧Ext w0 w')) w fun w=>qW Pg 67 (.pointer (some ⟨p4,0,none⟩)) w fun r0=>retR (fun r w'=>r=rangeVal (spanF sp m.fields f).1 (spanF sp m.fields f).2∧Ext w0 w') (.returned r0) w:=by
  intro w g first caps e hg hr
  rw [callV_func hg]
  refine callK_ret hr ?_
  rintro _ w1 ⟨rfl,e1⟩
  have x4:=e1.obj (e.obj o4)
  have E1:=e0.trans (e.trans e1)
  have l4:=(Array.getElem?_eq_some_iff.1 x4).1
  simp (disch:=try exact DI) only [↓PR,QR,simprocAttr,(cells_of_heap x4).1,(cells_of_heap x4).2]
  exact ⟨by first | trivial | rfl,ee⟩
 refine kindm_step hM0 eM0 (Nat.le_refl _) 1 _ (fun w1 L1 c1 hM1 hl1 eM1=>?_)
 try simp (disch:=try exact DI) only [↓PR,QR,simprocAttr,(cells_of_heap (eM1.obj o2)).1]
 refine kindm_step hM1 eM1 (Nat.le_refl _) 2 _ (fun w2 L2 c2 hM2 hl2 eM2=>?_)
 try simp (disch:=try exact DI) only [↓PR,QR,simprocAttr,(cells_of_heap (eM2.obj o2)).1]
 refine kindm_step hM2 eM2 (Nat.le_refl _) 3 _ (fun w3 L3 c3 hM3 hl3 eM3=>?_)
 try simp (disch:=try exact DI) only [↓PR,QR,simprocAttr,(cells_of_heap (eM3.obj o2)).1]
 refine kindm_step hM3 eM3 (Nat.le_refl _) 4 _ (fun w4 L4 c4 hM4 hl4 eM4=>?_)
 try simp (disch:=try exact DI) only [↓PR,QR,simprocAttr,(cells_of_heap (eM4.obj o2)).1]
 refine kindm_step hM4 eM4 (Nat.le_refl _) 5 _ (fun w5 L5 c5 hM5 hl5 eM5=>?_)
 try simp (disch:=try exact DI) only [↓PR,QR,simprocAttr,(cells_of_heap (eM5.obj o2)).1]
 refine kindm_step hM5 eM5 (Nat.le_refl _) 6 _ (fun w6 L6 c6 hM6 hl6 eM6=>?_)
 try simp (disch:=try exact DI) only [↓PR,QR,simprocAttr,(cells_of_heap (eM6.obj o2)).1]
 refine kindm_step hM6 eM6 (Nat.le_refl _) 7 _ (fun w7 L7 c7 hM7 hl7 eM7=>?_)
 try simp (disch:=try exact DI) only [↓PR,QR,simprocAttr,(cells_of_heap (eM7.obj o2)).1]
 refine kindm_step hM7 eM7 (Nat.le_refl _) 8 _ (fun w8 L8 c8 hM8 hl8 eM8=>?_)
 try simp (disch:=try exact DI) only [↓PR,QR,simprocAttr,(cells_of_heap (eM8.obj o2)).1]
 refine kindm_step hM8 eM8 (Nat.le_refl _) 9 _ (fun w9 L9 c9 hM9 hl9 eM9=>?_)
 try simp (disch:=try exact DI) only [↓PR,QR,simprocAttr,(cells_of_heap (eM9.obj o2)).1]
 refine kindm_step hM9 eM9 (Nat.le_refl _) 10 _ (fun w10 L10 c10 hM10 hl10 eM10=>?_)
 try simp (disch:=try exact DI) only [↓PR,QR,simprocAttr,(cells_of_heap (eM10.obj o2)).1]
 refine kindm_step hM10 eM10 (Nat.le_refl _) 11 _ (fun w11 L11 c11 hM11 hl11 eM11=>?_)
 try simp (disch:=try exact DI) only [↓PR,QR,simprocAttr,(cells_of_heap (eM11.obj o2)).1]
 refine kindm_step hM11 eM11 (Nat.le_refl _) 12 _ (fun w12 L12 c12 hM12 hl12 eM12=>?_)
 have hlk:=fun (QP:List PanicEntry→World→Prop) (K:Value→World→Prop)=>op_lookup1 (k':=K) (QP:=QP) Tryz.underlying142 (KeyOK.int Tryz.underlying32) ty106 hM12 f.kind
 have hn:∀ k,Sw.look ([]:List (Int×Value×Nat)) k=none:=fun _=>rfl
 have E:=e0.trans eM12
 have hF':=hF.ext E
 have hT':=hT.ext E
 have hC':=hC.ext E
 have hMp:=hM.ext E
 have hk12:f.kind=1∨f.kind=2∨f.kind=3∨f.kind=4∨f.kind=5∨f.kind=6∨f.kind=7∨f.kind=8∨f.kind=9∨f.kind=10∨f.kind=11∨f.kind=12:=by have:=ok.kind;omega
 rcases hk12 with hk | hk | hk | hk | hk | hk | hk | hk | hk | hk | hk | hk
 · have hlook:Sw.look L12 f.kind=some (.func (.func 101) #[] #[]):=by
    rw [hk,hl12,hl11,hl10,hl9,hl8,hl7,hl6,hl5,hl4,hl3,hl2,hl1]
    rw [if_neg (by decide)];rw [if_neg (by decide)];rw [if_neg (by decide)];rw [if_neg (by decide)];rw [if_neg (by decide)];rw [if_neg (by decide)];rw [if_neg (by decide)];rw [if_neg (by decide)];rw [if_neg (by decide)];rw [if_neg (by decide)];rw [if_neg (by decide)];rw [if_pos rfl]
   have hS:spanF sp m.fields f=(f.bits,f.bits):=by unfold spanF;simp [hk]
   rw [hlook] at hlk
   simp (disch:=try exact DI) only [↓PR,QR,simprocAttr,(cells_of_heap (eM12.obj o3)).1,hlk,Option.getD_some]
   refine cv_fin _ _ _ _ eM12 c101 ?_
   rw [hS]
   exact of1_ret _ tv cv f hT' hC'
 · have hlook:Sw.look L12 f.kind=some (.func (.func 101) #[] #[]):=by
    rw [hk,hl12,hl11,hl10,hl9,hl8,hl7,hl6,hl5,hl4,hl3,hl2]
    rw [if_neg (by decide)];rw [if_neg (by decide)];rw [if_neg (by decide)];rw [if_neg (by decide)];rw [if_neg (by decide)];rw [if_neg (by decide)];rw [if_neg (by decide)];rw [if_neg (by decide)];rw [if_neg (by decide)];rw [if_neg (by decide)];rw [if_pos rfl]
   have hS:spanF sp m.fields f=(f.bits,f.bits):=by unfold spanF;simp [hk]
   rw [hlook] at hlk
   simp (disch:=try exact DI) only [↓PR,QR,simprocAttr,(cells_of_heap (eM12.obj o3)).1,hlk,Option.getD_some]
   refine cv_fin _ _ _ _ eM12 c101 ?_
   rw [hS]
   exact of1_ret _ tv cv f hT' hC'
 · have hlook:Sw.look L12 f.kind=some (.func (.func 102) #[.agg (planCells m fl mr).toArray] #[]):=by
    rw [hk,hl12,hl11,hl10,hl9,hl8,hl7,hl6,hl5,hl4,hl3]
    rw [if_neg (by decide)];rw [if_neg (by decide)];rw [if_neg (by decide)];rw [if_neg (by decide)];rw [if_neg (by decide)];rw [if_neg (by decide)];rw [if_neg (by decide)];rw [if_neg (by decide)];rw [if_neg (by decide)];rw [if_pos rfl]
   have hS:spanF sp m.fields f=(((groupsP f.low.toNat:Nat):Int)*8,if f.loose then 40 else ((groupsP f.high.toNat:Nat):Int)*8):=by unfold spanF;simp [hk]
   rw [hlook] at hlk
   simp (disch:=try exact DI) only [↓PR,QR,simprocAttr,(cells_of_heap (eM12.obj o3)).1,hlk,Option.getD_some]
   refine cv_fin _ _ _ _ eM12 c102 ?_
   rw [hS]
   exact numberS_ret hf1 hT' hC' (ok.num hk).1 (ok.num hk).2
 · have hlook:Sw.look L12 f.kind=some (.func (.func 103) #[.agg (planCells m fl mr).toArray] #[]):=by
    rw [hk,hl12,hl11,hl10,hl9,hl8,hl7,hl6,hl5,hl4]
    rw [if_neg (by decide)];rw [if_neg (by decide)];rw [if_neg (by decide)];rw [if_neg (by decide)];rw [if_neg (by decide)];rw [if_neg (by decide)];rw [if_neg (by decide)];rw [if_neg (by decide)];rw [if_pos rfl]
   have hS:spanF sp m.fields f=(capF (ivL m.fields f*8),capF (ivH m.fields f*8)):=by unfold spanF;simp [hk]
   rw [hlook] at hlk
   simp (disch:=try exact DI) only [↓PR,QR,simprocAttr,(cells_of_heap (eM12.obj o3)).1,hlk,Option.getD_some]
   refine cv_fin _ _ _ _ eM12 c103 ?_
   rw [hS]
   exact bytesS_ret _ m fl tv cv mr f hF' hT' hC' ok.terms (ok.iv (by omega)).1 (ok.iv (by omega)).2
 · have hlook:Sw.look L12 f.kind=some (.func (.func 104) #[] #[]):=by
    rw [hk,hl12,hl11,hl10,hl9,hl8,hl7,hl6,hl5]
    rw [if_neg (by decide)];rw [if_neg (by decide)];rw [if_neg (by decide)];rw [if_neg (by decide)];rw [if_neg (by decide)];rw [if_neg (by decide)];rw [if_neg (by decide)];rw [if_pos rfl]
   have hS:spanF sp m.fields f=(8,8*(f.high+1)):=by unfold spanF;simp [hk]
   rw [hlook] at hlk
   simp (disch:=try exact DI) only [↓PR,QR,simprocAttr,(cells_of_heap (eM12.obj o3)).1,hlk,Option.getD_some]
   refine cv_fin _ _ _ _ eM12 c104 ?_
   rw [hS]
   exact of2_ret _ tv cv f hT' hC' (ok.high (by omega))
 · have hlook:Sw.look L12 f.kind=some (.func (.func 105) #[] #[]):=by
    rw [hk,hl12,hl11,hl10,hl9,hl8,hl7,hl6]
    rw [if_neg (by decide)];rw [if_neg (by decide)];rw [if_neg (by decide)];rw [if_neg (by decide)];rw [if_neg (by decide)];rw [if_neg (by decide)];rw [if_pos rfl]
   have hS:spanF sp m.fields f=(16,8*f.high):=by unfold spanF;simp [hk]
   rw [hlook] at hlk
   simp (disch:=try exact DI) only [↓PR,QR,simprocAttr,(cells_of_heap (eM12.obj o3)).1,hlk,Option.getD_some]
   refine cv_fin _ _ _ _ eM12 c105 ?_
   rw [hS]
   exact of3_ret _ tv cv f hT' hC' (ok.high (by omega))
 · have hlook:Sw.look L12 f.kind=some (.func (.func 106) #[.agg (planCells m fl mr).toArray] #[]):=by
    rw [hk,hl12,hl11,hl10,hl9,hl8,hl7]
    rw [if_neg (by decide)];rw [if_neg (by decide)];rw [if_neg (by decide)];rw [if_neg (by decide)];rw [if_neg (by decide)];rw [if_pos rfl]
   have hS:spanF sp m.fields f=(capF (ivL m.fields f*(lookS sp f.of).1),capF (ivH m.fields f*(lookS sp f.of).2)):=by unfold spanF;simp [hk]
   rw [hlook] at hlk
   simp (disch:=try exact DI) only [↓PR,QR,simprocAttr,(cells_of_heap (eM12.obj o3)).1,hlk,Option.getD_some]
   refine cv_fin _ _ _ _ eM12 c106 ?_
   rw [hS]
   exact listS_ret _ m fl tv cv mr f sp hMp hF' hT' hC' ok.terms (ok.iv (by omega)).1 (ok.iv (by omega)).2 (ok.of hk).1 (ok.of hk).2
 · have hlook:Sw.look L12 f.kind=some (.func (.func 107) #[] #[.pointer (some ⟨p2,0,none⟩)]):=by
    rw [hk,hl12,hl11,hl10,hl9,hl8]
    rw [if_neg (by decide)];rw [if_neg (by decide)];rw [if_neg (by decide)];rw [if_neg (by decide)];rw [if_pos rfl]
   have hS:spanF sp m.fields f=lookS sp f.of:=by unfold spanF;simp [hk]
   rw [hlook] at hlk
   simp (disch:=try exact DI) only [↓PR,QR,simprocAttr,(cells_of_heap (eM12.obj o3)).1,hlk,Option.getD_some]
   refine cv_fin _ _ _ _ eM12 c107 ?_
   rw [hS]
   exact of4_ret _ m fl tv cv mr f sp p2 hMp (eM12.obj o2) hT' hC'
 · have hlook:Sw.look L12 f.kind=some (.func (.func 108) #[.agg (planCells m fl mr).toArray] #[]):=by
    rw [hk,hl12,hl11,hl10,hl9]
    rw [if_neg (by decide)];rw [if_neg (by decide)];rw [if_neg (by decide)];rw [if_pos rfl]
   have hS:spanF sp m.fields f=choiceS sp f.cases:=by unfold spanF;simp [hk]
   rw [hlook] at hlk
   simp (disch:=try exact DI) only [↓PR,QR,simprocAttr,(cells_of_heap (eM12.obj o3)).1,hlk,Option.getD_some]
   refine cv_fin _ _ _ _ eM12 c108 ?_
   rw [hS]
   exact choiceF_ret sp hMp hf1 hT' hC' (ok.cases hk)
 · have hlook:Sw.look L12 f.kind=some (.func (.func 109) #[] #[]):=by
    rw [hk,hl12,hl11,hl10]
    rw [if_neg (by decide)];rw [if_neg (by decide)];rw [if_pos rfl]
   have hS:spanF sp m.fields f=(0,f.bits - 1):=by unfold spanF;simp [hk]
   rw [hlook] at hlk
   simp (disch:=try exact DI) only [↓PR,QR,simprocAttr,(cells_of_heap (eM12.obj o3)).1,hlk,Option.getD_some]
   refine cv_fin _ _ _ _ eM12 c109 ?_
   rw [hS]
   exact of5_ret _ tv cv f hT' hC' (ok.bits hk)
 · have hlook:Sw.look L12 f.kind=some (.func (.func 110) #[.agg (planCells m fl mr).toArray] #[]):=by
    rw [hk,hl12,hl11]
    rw [if_neg (by decide)];rw [if_pos rfl]
   have hS:spanF sp m.fields f=if f.check=3 then (32,32) else (16,16):=by unfold spanF;simp [hk]
   rw [hlook] at hlk
   simp (disch:=try exact DI) only [↓PR,QR,simprocAttr,(cells_of_heap (eM12.obj o3)).1,hlk,Option.getD_some]
   refine cv_fin _ _ _ _ eM12 c110 ?_
   rw [hS]
   have:=checkS_ret _ m fl tv cv mr f hf1 hT' hC'
   by_cases h3:f.check=3
   · rw [if_pos h3] at this;rw [if_pos h3];exact this
   · rw [if_neg h3] at this;rw [if_neg h3];exact this
 · have hlook:Sw.look L12 f.kind=some (.func (.func 103) #[.agg (planCells m fl mr).toArray] #[]):=by
    rw [hk,hl12]
    rw [if_pos rfl]
   have hS:spanF sp m.fields f=(capF (ivL m.fields f*8),capF (ivH m.fields f*8)):=by unfold spanF;simp [hk]
   rw [hlook] at hlk
   simp (disch:=try exact DI) only [↓PR,QR,simprocAttr,(cells_of_heap (eM12.obj o3)).1,hlk,Option.getD_some]
   refine cv_fin _ _ _ _ eM12 c103 ?_
   rw [hS]
   exact bytesS_ret _ m fl tv cv mr f hF' hT' hC' ok.terms (ok.iv (by omega)).1 (ok.iv (by omega)).2
def EFieldW (_:World) (cs:List Value) (f:FieldD):Prop:=∃ tv cv,cs=fieldCells f tv cv∧tv.oneCell'=true∧cv.oneCell'=true
theorem keptFieldW:Kept EFieldW:=fun _ _ _ _ _ h=>h
def FieldsW (w:World) (v:Value) (l:List FieldD):Prop:=SliceOf w 15 EFieldW v l
theorem FieldsW.ext {w w':World} {v:Value} {l:List FieldD} (h:FieldsW w v l) (e:Ext w w'):FieldsW w' v l:=SliceOf.ext keptFieldW h e
def OffAt (pb:Nat) (v:Value) (l:List FieldD) (w:World):Prop:=w.heap[pb]?=some (.cells #[v] 42 (0,0))∧FieldsW w v l
theorem OffAt.ext {pb:Nat} {v:Value} {l:List FieldD} {w w':World} (h:OffAt pb v l w) (e:Ext w w'):OffAt pb v l w':=⟨e.obj h.1,h.2.ext e⟩
theorem ElemAt.of_heap {w:World} {b:Nat} {cs:List Value} {T:TypeId} (h:w.heap[b]?=some (.cells cs.toArray T (0,0))):ElemAt w b 0 cs:=fun j v hv=>by
 rw [Nat.zero_add,(cells_of_heap h).1];simpa using hv
theorem outs_marks {L:List (Option TypeId×Value)} {R:RT} {bs:List Nat}:∀ {w w0:World},bs.Nodup→(∀ b∈bs,MarkAt b w∧w0.heap.size≤b)→Ext w0 w →
 (∀ w',Ext w0 w'→(∀ (b:Nat) (o:Obj),(∀ d,o ≠ .deferred d)→w.heap[b]?=some o→w'.heap[b]?=some o)→outX Pg [] L R w')→outX Pg (bs.map Sw.mark) L R w:=by
 induction bs with
 | nil=>exact fun _ _ e h=>h _ e fun _ _ _ h=>h
 | cons b bs ih =>
  intro w w0 hn hm e h
  obtain ⟨hb,hn'⟩:=List.nodup_cons.1 hn
  have hmb:=hm b (List.mem_cons_self ..)
  refine outX_mark hmb.1 (ih (w0:=w0) hn' (fun c hc=>⟨?_,(hm c (List.mem_cons_of_mem _ hc)).2⟩) (e.putObj hmb.2 _) (fun w' e' h'=>h w' e' (fun c o ho hc=>h' c o ho ((World.putObj_heap_other ?_).trans hc))))
  · exact (World.putObj_heap_other (fun (e:c=b)=>hb (by rw [← e];exact hc))).trans (hm c (List.mem_cons_of_mem _ hc)).1
  · rintro rfl
    have:=hmb.1
    unfold MarkAt at this
    rw [hc] at this
    injection this with this
    exact ho _ this
theorem has_nd {T:TypeId} {cs:Array Value}:∀ d,Obj.cells cs T (0,0) ≠ .deferred d:=fun _ h=>by cases h
def stepQ (sp:List (ByteArray×Int×Int)) (l:List FieldD) (a:Int×Int) (f:FieldD):Int×Int :=
 if f.kind=10 then (capF (upI a.1 f.bits),capF (upI a.2 f.bits)) else (capF (a.1+(spanF sp l f).1),capF (a.2+(spanF sp l f).2))
def posS (sp:List (ByteArray×Int×Int)) (l:List FieldD) (k:Nat):Int×Int:=(l.take k).foldl (stepQ sp l) (0,0)
theorem posS_step {sp:List (ByteArray×Int×Int)} {l:List FieldD} {k:Nat} {f:FieldD} (h:l[k]?=some f):posS sp l (k+1)=stepQ sp l (posS sp l k) f:=by unfold posS;rw [take_snoc h,List.foldl_append];rfl
structure OkM (sp:List (ByteArray×Int×Int)) (l:List FieldD):Prop where
 ok:∀ f∈l,OkS sp l f
 pad:∀ f∈l,f.kind=10→1≤f.bits∧f.bits≤512
 span:∀ f∈l,f.kind≠10→(0≤(spanF sp l f).1∧(spanF sp l f).1≤1099511627776)∧0≤(spanF sp l f).2∧(spanF sp l f).2≤1099511627776
theorem upI_nonneg {v n:Int} (hv:0≤v) (hn:1≤n):0≤upI v n:=by
 obtain ⟨q,hq,he,h1,h2⟩:=upI_mul hv hn
 rw [he];omega
theorem posS_in {sp:List (ByteArray×Int×Int)} {l:List FieldD} (ok:OkM sp l):∀ k,(0≤(posS sp l k).1∧(posS sp l k).1≤1099511627776)∧0≤(posS sp l k).2∧(posS sp l k).2≤1099511627776
 | 0=>by simp [posS]
 | k+1=>by
  by_cases hk:k < l.length
  · obtain ⟨f,hf⟩:=getElem?_lt hk
    have hm:=List.mem_of_getElem? hf
    obtain ⟨⟨a1,a2⟩,b1,b2⟩:=posS_in ok k
    rw [posS_step hf]
    unfold stepQ
    split
    · rename_i h10
      have hb:=ok.pad f hm h10
      exact ⟨capF_in (upI_nonneg a1 hb.1),capF_in (upI_nonneg b1 hb.1)⟩
    · rename_i h10
      have hb:=ok.span f hm h10
      exact ⟨capF_in (by omega),capF_in (by omega)⟩
  · have:posS sp l (k+1)=posS sp l k:=by unfold posS;rw [List.take_of_length_le (by omega),List.take_of_length_le (by omega)]
    rw [this];exact posS_in ok k
def PosAt (pb:Nat) (m:MsgD) (fl:Value) (mr:Nat) (sp:List (ByteArray×Int×Int)) (w:World):Prop:=w.heap[pb]?=some (.cells (planCells m fl mr).toArray 105 (0,0))∧FieldsOf w fl m.fields∧MapOf w mr (RP sp)
theorem PosAt.ext {pb:Nat} {m:MsgD} {fl:Value} {mr:Nat} {sp:List (ByteArray×Int×Int)} {w w':World} (h:PosAt pb m fl mr sp w) (e:Ext w w'):PosAt pb m fl mr sp w':=⟨e.obj h.1,FieldsOf.ext h.2.1 e,h.2.2.ext e⟩
theorem positions_ret (w0:World) (m:MsgD) (fl:Value) (mr:Nat) (sp:List (ByteArray×Int×Int)) (hM:MapOf w0 mr (RP sp)) (hF:FieldsOf w0 fl m.fields):Ret Pg 111 #[.agg (planCells m fl mr).toArray] w0 fun r w'=>∃ pb,r = .func (.func 135) #[] #[.pointer (some ⟨pb,0,none⟩)]∧PosAt pb m fl mr sp w'∧w0.heap.size≤pb∧pb < w'.heap.size∧Ext w0 w':=by
 have hf1:=SliceOf.oneCell hF
 refine n154s (R:=retR _) ?_;unfold n154
 simp (disch:=try exact DI) only [↓PR,QR,simprocAttr]
 have e0:Ext w0 (w0.alloc (.cells (planCells m fl mr).toArray 105)):=ee
 exact ⟨_,rfl,⟨heap_new _ _ _,hF.ext e0,hM.ext e0⟩,Nat.le_refl _,by simp,e0⟩
theorem positions_seq {wB:World} (pb:Nat) (m:MsgD) (fl:Value) (mr:Nat) (sp:List (ByteArray×Int×Int)) (ok:OkM sp m.fields) (hF:FieldsOf wB fl m.fields) (hMp:MapOf wB mr (RP sp)) :
 SeqIt3 Pg 135 #[.pointer (some ⟨pb,0,none⟩)] (m.fields.length+1) (fun k => .int .i64 k) (fun k=>rangeVal (posS sp m.fields k).1 (posS sp m.fields k).2) (fun w=>w.heap[pb]?=some (.cells (planCells m fl mr).toArray 105 (0,0))∧Ext wB w):=by
 intro yv J Jx Jp w hy hFP hJl hJx hJp hstep h0
 obtain ⟨A,c,rfl,hlc,hcm,hlm,hel⟩:=SliceOf.open hF
 obtain ⟨ho,eB⟩:=hFP 0 w h0
 have sB:=eB.size
 refine n155s (t0:=yv) (t1 := .pointer (some ⟨pb,0,none⟩)) ?_
 unfold n155
 have lpb:=(Array.getElem?_eq_some_iff.1 ho).1
 simp (disch:=try exact DI) only [↓PR,QR,simprocAttr,(cells_of_heap ho).1]
 have eX:Ext w (w.alloc (.cells #[.int .i64 0,.int .i64 0] 67)):=ee
 have oX:=heap_new w #[.int .i64 0,.int .i64 0] 67
 have hJ0:=(hJl 0).ext h0 eX
 generalize (w.alloc (.cells #[.int .i64 0,.int .i64 0] 67))=X at eX oX hJ0 ⊢
 generalize hpx:w.heap.size=px at oX ⊢
 refine loop1_intro (fun i w'=>∃ k:Nat,i = .int .i64 k∧k≤m.fields.length∧J k w'∧w'.heap[px]?=some (.cells #[.int .i64 (posS sp m.fields k).1,.int .i64 (posS sp m.fields k).2] 67 (0,0))) (fun i _=>m.fields.length - (intOf i).toNat) ⟨0,rfl,by omega,hJ0,oX⟩ ?_
 rintro _ w' ⟨k,rfl,hk,hJ,xX⟩
 obtain ⟨ho',e'⟩:=hFP k w' hJ
 have lX:=(Array.getElem?_eq_some_iff.1 xX).1
 have hin:=posS_in ok k
 rcases drop_cases hk with ⟨x,hx,hd,hlt,hdec⟩ | ⟨hk,hd,hdec⟩
 · obtain ⟨b,o,cs,rfl,hl,hA,hE⟩:=hel k x hx
   obtain ⟨tv,cv,rfl,hT,hC,ht1,hc1⟩:=hE.op
   have hm:=List.mem_of_getElem? hx
   have okx:=ok.ok x hm
   have hstp:=posS_step (sp:=sp) hx
   simp (disch:=try exact DI) only [↓PR,QR,simprocAttr,hdec]
   unfold n155c7
   try unfold X0
   try unfold L0
   rw [op_indexN Tryz.underlying42 ty38 _ _ _ _ _ k hlt,op_load ((hA.ext e').loads ty38 rfl)]
   simp (disch:=try exact DI) only [↓PR,QR,simprocAttr,(cells_of_heap xX).1]
   have eW:Ext w' (w'.alloc (.cells (fieldCells x tv cv).toArray 38)):=ee
   have oW:=heap_new w' (fieldCells x tv cv).toArray 38
   have xW:=eW.obj xX
   generalize (w'.alloc (.cells (fieldCells x tv cv).toArray 38))=W at eW oW xW ⊢
   generalize hpf:w'.heap.size=pf at oW lX ⊢
   have hs:=hstep k (by omega) (fun u=>u.heap[pf]?=some (.cells (fieldCells x tv cv).toArray 38 (0,0))∧u.heap[px]?=some (.cells #[.int .i64 (posS sp m.fields k).1,.int .i64 (posS sp m.fields k).2] 67 (0,0))) ((Firm.has (by omega) (by simp)).and (Firm.has (by omega) (by simp))) W ((hJl k).ext hJ eW) ⟨oW,xW⟩
   refine callV_mono hs (fun ch w h=>h.2) ?_
   rintro v w2 ⟨⟨o2,x2⟩,⟨rfl,h2⟩ | ⟨rfl,h2⟩⟩
   · obtain ⟨ho2,e2⟩:=hFP (k+1) w2 h2
     have l2:=(Array.getElem?_eq_some_iff.1 x2).1
     simp (disch:=try exact DI) only [↓PR,QR,simprocAttr]
     unfold n155c5
     have fin:∀ (w3:World) (a b:Int),Ext w2 w3→(a,b)=posS sp m.fields (k+1)→opU Pg (Instr.storeAt 67 (.pointer (some ⟨px,0,none⟩)) (rangeVal a b)) (panK fun e w'=>match e with | .returned _=>J (m.fields.length+1) w'∨Jx w' | .panicked ch=>Jp ch w' | .outgrown=>False) w3 fun w=>turnK w fun _ w=>opV Pg (binS .add 3 true (.int .i64 (k:Int)) (.int .i64 1)) (panK fun e w'=>match e with | .returned _=>J (m.fields.length+1) w'∨Jx w' | .panicked ch=>Jp ch w' | .outgrown=>False) w fun t33 w=>(∃ k:Nat,t33 = .int .i64 k∧k≤m.fields.length∧J k w∧w.heap[px]?=some (.cells #[.int .i64 (posS sp m.fields k).1,.int .i64 (posS sp m.fields k).2] 67 (0,0)))∧m.fields.length - (intOf t33).toNat < m.fields.length - (intOf (Value.int .i64 (k:Int))).toNat:=by
      intro w3 a b e3 hab
      have x3:=e3.obj x2
      have l3:=(Array.getElem?_eq_some_iff.1 x3).1
      simp (disch:=try exact DI) only [↓PR,QR,simprocAttr,(cells_of_heap x3).1,(cells_of_heap x3).2]
      refine turnK_intro ?_
      simp (disch:=try exact DI) only [↓PR,QR,simprocAttr]
      refine ⟨⟨k+1,rfl,by omega,?_,?_⟩,meas_lt hlt⟩
      · exact (hJl (k+1)).cell ((hJl (k+1)).cell ((hJl (k+1)).ext h2 e3) (by omega) 0 (.int .i64 a)) (by omega) 1 (.int .i64 b)
      · rw [← hab]
        simpa using heap_set (o:=1) (heap_set (o:=0) x3 (.int .i64 a)) (.int .i64 b)
     by_cases h10:x.kind=10
     · have d:(x.kind == 10)=true:=by simp [h10]
       have hp:=ok.pad x hm h10
       simp (disch:=try exact DI) only [↓PR,QR,simprocAttr,(cells_of_heap o2).1,d]
       refine drawK_intro ?_
       have eD:Ext w2 w2.drew:=(Ext.refl _).wdrew
       unfold n155c2
       simp (disch:=try exact DI) only [↓PR,QR,simprocAttr,(cells_of_heap o2).1,(cells_of_heap x2).1]
       refine zcr (same_ret _ x.bits) fun w3 e3=>?_
       unfold n155c1
       refine ⟨e3,?_⟩
       refine zcr (both_ret w3 _ _ _ _ _ _ _ c136 (fun w _=>upS_ret w _ _ hin.1 hp) (fun w _=>upS_ret w _ _ hin.2 hp)) fun w4 e4=>?_
       refine ⟨e3.trans e4,?_⟩
       refine fin w4 _ _ (eD.trans (e3.trans e4)) ?_
       rw [hstp];unfold stepQ;rw [if_pos h10]
     · have d:(x.kind == 10)=false:=by simp [h10]
       have hp:=ok.span x hm h10
       simp (disch:=try exact DI) only [↓PR,QR,simprocAttr,(cells_of_heap o2).1,d]
       refine drawK_intro ?_
       have eD:Ext w2 w2.drew:=(Ext.refl _).wdrew
       unfold n155c4
       simp (disch:=try exact DI) only [↓PR,QR,simprocAttr,(cells_of_heap o2).1,(cells_of_heap x2).1,(cells_of_heap ho2).1]
       have E:=e2.trans eD
       refine zcr (of_ret _ m _ tv cv mr x sp (hMp.ext E) (hF.ext E) (hT.ext E) (hC.ext E) okx) fun w3 e3=>?_
       unfold n155c3
       refine ⟨e3,?_⟩
       refine zcr (both_ret w3 _ _ _ _ _ _ _ c137 (fun w _=>plus_ret w _ _ hin.1 hp.1) (fun w _=>plus_ret w _ _ hin.2 hp.2)) fun w4 e4=>?_
       refine ⟨e3.trans e4,?_⟩
       refine fin w4 _ _ (eD.trans (e3.trans e4)) ?_
       rw [hstp];unfold stepQ;rw [if_neg h10]
   · simp (disch:=try exact DI) only [↓PR,QR,simprocAttr]
     exact .inr h2
 · subst hk
   simp (disch:=try exact DI) only [↓PR,QR,simprocAttr,hdec]
   unfold n155c6
   simp (disch:=try exact DI) only [↓PR,QR,simprocAttr,(cells_of_heap ho').1,(cells_of_heap xX).1]
   have hs:=hstep m.fields.length (by omega) _ Firm.true _ hJ trivial
   refine callV_mono hs (fun ch w h=>h.2) ?_
   rintro v w2 ⟨_,⟨rfl,h2⟩ | ⟨rfl,h2⟩⟩
   · simp (disch:=try exact DI) only [↓PR,QR,simprocAttr]
     exact .inl h2
   · simp (disch:=try exact DI) only [↓PR,QR,simprocAttr]
     exact .inr h2
theorem atS_ret (w0:World) (m:MsgD) (fl:Value) (mr:Nat) (sp:List (ByteArray×Int×Int)) (hM:MapOf w0 mr (RP sp)) (hF:FieldsOf w0 fl m.fields) (ok:OkM sp m.fields) (i:Nat) (hi:i≤m.fields.length) (hl:m.fields.length≤1048576):Ret Pg 69 #[.agg (planCells m fl mr).toArray,.int .i64 (i:Int)] w0 fun r w'=>r=rangeVal (posS sp m.fields i).1 (posS sp m.fields i).2∧Ext w0 w':=by
 have hf1:=SliceOf.oneCell hF
 refine n141s (R:=retR _) ?_;unfold n141
 dsimp only
 simp (disch:=try exact DI) only [↓PR,QR,simprocAttr]
 generalize hW:World.alloc (World.alloc (World.alloc w0 _) _) _=W
 have e0:Ext w0 W:=by rw [← hW];exact ee
 have o3:W.heap[w0.heap.size+1]?=some (.cells #[.int .i64 (i:Int)] 3 (0,0)):=by rw [← hW];simp (disch:=try exact DI) only [↓PR,QR,simprocAttr]
 have o4:W.heap[w0.heap.size+1+1]?=some (.cells #[.int .i64 0,.int .i64 0] 67 (0,0)):=by rw [← hW];simp (disch:=try exact DI) only [↓PR,QR,simprocAttr]
 clear hW
 generalize hp4:w0.heap.size+1+1=p4 at o4 ⊢
 generalize hp3:w0.heap.size+1=p3 at o3 hp4 ⊢
 refine callK_ret (positions_ret W m fl mr sp (hM.ext e0) (hF.ext e0)) ?_
 rintro _ w1 ⟨pb,rfl,⟨hob,_,_⟩,hb1,hb2,e1⟩
 have x3:=e1.obj o3
 have x4:=e1.obj o4
 have l4:=(Array.getElem?_eq_some_iff.1 o4).1
 have s1:=e1.size
 have E1:=e0.trans e1
 unfold n141c5
 repeat rw [World.size_alloc]
 rw [hp3,hp4]
 have s0:=e0.size
 let I:Nat→World→Prop:=fun k w'=>k≤i∧Ext w0 w'∧w'.heap[pb]?=some (.cells (planCells m fl mr).toArray 105 (0,0))∧w'.heap[p3]?=some (.cells #[.int .i64 (i:Int)] 3 (0,0))∧∃ a b:Int,w'.heap[p4]?=some (.cells #[.int .i64 a,.int .i64 b] 67 (0,0))
 let Ix:Nat→World→Prop:=fun c w'=>c=0∧Ext w0 w'∧w'.heap[p4]?=some (.cells #[.int .i64 (posS sp m.fields i).1,.int .i64 (posS sp m.fields i).2] 67 (0,0))
 have hLI:∀ k,Lasts3 w1.heap.size (I k):=fun k=>(Lasts3.const _ _).and ((Lasts3.from E1.size).and ((Lasts3.low hb2 _).and ((Lasts3.low (by omega) _).and (.ex fun a => .ex fun b=>Lasts3.low (by omega) _))))
 have hLX:∀ c,Lasts3 w1.heap.size (Ix c):=fun c=>(Lasts3.const _ _).and ((Lasts3.from E1.size).and (Lasts3.low (by omega) _))
 refine ⟨_,_,m.fields.length+1,(fun k => .int .i64 k),(fun k=>rangeVal (posS sp m.fields k).1 (posS sp m.fields k).2),_,I,Ix,fun _ _=>False,rfl,c135,positions_seq pb m fl mr sp ok hF hM,⟨Nat.zero_le _,E1,hob,x3,0,0,x4⟩,fun k w h=>⟨h.2.2.1,h.2.1⟩,hLI,hLX,fun _=>Lasts3.const _ _,?_,?_,?_,?_⟩
 · intro Rk hRk j w2 hj hI2 hR2 hlt hready
   unfold n141c2
   have eA:Ext w2 (w2.alloc (.cells #[.int .i64 (posS sp m.fields j).1,.int .i64 (posS sp m.fields j).2] 67)):=ee
   have oA:=heap_new w2 #[.int .i64 (posS sp m.fields j).1,.int .i64 (posS sp m.fields j).2] 67
   have hR3:=hRk _ _ (KR.of eA) hR2
   have hI3:=(hLI j).ext hI2 eA
   have hrd:ReadyAt (w1.heap.size+1) (w2.alloc (.cells #[.int .i64 (posS sp m.fields j).1,.int .i64 (posS sp m.fields j).2] 67)):=by obtain ⟨r,h1,h2⟩:=hready;exact ⟨r,eA.obj h1,h2⟩
   simp (disch:=try exact DI) only [↓PR,QR,simprocAttr]
   generalize (w2.alloc (.cells #[.int .i64 (posS sp m.fields j).1,.int .i64 (posS sp m.fields j).2] 67))=X at oA hR3 hI3 hrd ⊢
   generalize w2.heap.size=q at oA ⊢
   refine ⟨hrd,fun w4 hbz=>?_⟩
   have hR4:=hRk _ _ (KR.busied hbz) hR3
   obtain ⟨hji,e4,y5,y3,a,b,y4⟩:=(hLI j).busied hbz (Nat.le_succ _) hI3
   have oq:w4.heap[q]?=some (.cells #[.int .i64 (posS sp m.fields j).1,.int .i64 (posS sp m.fields j).2] 67 (0,0)):=by
    obtain ⟨r,hr,rfl⟩:=hbz
    rw [World.putObj_heap_other (by rintro rfl;rw [oA] at hr;cases hr)]
    exact oA
   have l4':=(Array.getElem?_eq_some_iff.1 y4).1
   have n34:p3≠p4:=by omega
   unfold n141c1
   have hb4:p4 < w1.heap.size+1+1:=by omega
   have z4:((w4.setCell ⟨p4,0,none⟩ (.int .i64 (posS sp m.fields j).1)).setCell ⟨p4,1,none⟩ (.int .i64 (posS sp m.fields j).2)).heap[p4]?=some (.cells #[.int .i64 (posS sp m.fields j).1,.int .i64 (posS sp m.fields j).2] 67 (0,0)):=by simpa using heap_set (o:=1) (heap_set (o:=0) y4 (.int .i64 (posS sp m.fields j).1)) (.int .i64 (posS sp m.fields j).2)
   have only:∀ g,g≠p4→((w4.setCell ⟨p4,0,none⟩ (.int .i64 (posS sp m.fields j).1)).setCell ⟨p4,1,none⟩ (.int .i64 (posS sp m.fields j).2)).heap[g]?=w4.heap[g]?:=fun g hg=>(Only.setCell _ p4 1 _ g hg).trans (Only.setCell w4 p4 0 _ g hg)
   have hR5:=hRk _ _ ((KR.setCell (KR.refl _ w4) p4 0 (.int .i64 (posS sp m.fields j).1) (.inl hb4)).setCell p4 1 (.int .i64 (posS sp m.fields j).2) (.inl hb4)) hR4
   have e5:Ext w0 ((w4.setCell ⟨p4,0,none⟩ (.int .i64 (posS sp m.fields j).1)).setCell ⟨p4,1,none⟩ (.int .i64 (posS sp m.fields j).2)):=(e4.setCell (p:=⟨p4,0,none⟩) (by show w0.heap.size≤p4;omega) _).setCell (p:=⟨p4,1,none⟩) (by show w0.heap.size≤p4;omega) _
   by_cases hji':j=i
   · subst hji'
     have d:((j:Int) == (j:Int))=true:=by simp
     simp (disch:=try exact DI) only [↓PR,QR,simprocAttr,(cells_of_heap oq).1,(cells_of_heap y4).1,(cells_of_heap y4).2,(cells_of_heap y3).1,d]
     exact ⟨hR5,rfl,e5,z4⟩
   · have d:((j:Int) == (i:Int))=false:=by simp;omega
     simp (disch:=try exact DI) only [↓PR,QR,simprocAttr,(cells_of_heap oq).1,(cells_of_heap y4).1,(cells_of_heap y4).2,(cells_of_heap y3).1,d]
     exact ⟨hR5,by omega,e5,(only pb (by omega)).trans y5,(only p3 n34).trans y3,_,_,z4⟩
 · rintro w3 ⟨h,_⟩ hmk
   exact absurd h (by omega)
 · rintro c w3 ⟨rfl,e3,y4⟩ hmk
   have l4':=(Array.getElem?_eq_some_iff.1 y4).1
   show n141c4 _ _ _ _
   unfold n141c4
   have z4:((w3.setCell ⟨p4,0,none⟩ (.int .i64 (posS sp m.fields i).1)).setCell ⟨p4,1,none⟩ (.int .i64 (posS sp m.fields i).2)).heap[p4]?=some (.cells #[.int .i64 (posS sp m.fields i).1,.int .i64 (posS sp m.fields i).2] 67 (0,0)):=by simpa using heap_set (o:=1) (heap_set (o:=0) y4 (.int .i64 (posS sp m.fields i).1)) (.int .i64 (posS sp m.fields i).2)
   have e5:Ext w0 ((w3.setCell ⟨p4,0,none⟩ (.int .i64 (posS sp m.fields i).1)).setCell ⟨p4,1,none⟩ (.int .i64 (posS sp m.fields i).2)):=(e3.setCell (p:=⟨p4,0,none⟩) (by show w0.heap.size≤p4;omega) _).setCell (p:=⟨p4,1,none⟩) (by show w0.heap.size≤p4;omega) _
   have hmk':=(hmk.setCell ⟨p4,0,none⟩ (.int .i64 (posS sp m.fields i).1)).setCell ⟨p4,1,none⟩ (.int .i64 (posS sp m.fields i).2)
   simp (disch:=try exact DI) only [↓PR,QR,simprocAttr,(cells_of_heap y4).1,(cells_of_heap y4).2]
   refine outs_marks (bs:=[w1.heap.size]) (w0:=w0) (by simp) (fun b hb=>?_) e5 (fun w' e' hh=>?_)
   · obtain rfl:=List.mem_singleton.1 hb
     exact ⟨hmk',E1.size⟩
   · have z8:=hh _ _ has_nd z4
     simp (disch:=try exact DI) only [↓PR,QR,simprocAttr,outX_nil,retV,resOne,(cells_of_heap z8).1]
     exact ⟨by trivial,e'⟩
 · rintro ch w3 h
   exact h.elim
def stepM (sp:List (ByteArray×Int×Int)) (m:MsgD):List (ByteArray×Int×Int):=sp++[(m.name,posS sp m.fields m.fields.length)]
def spansD (l:List MsgD):List (ByteArray×Int×Int):=l.foldl stepM []
theorem spansD_step {l:List MsgD} {k:Nat} {m:MsgD} (h:l[k]?=some m):spansD (l.take (k+1))=stepM (spansD (l.take k)) m:=by unfold spansD;rw [take_snoc h,List.foldl_append];rfl
def OkD (l:List MsgD):Prop:=∀ k m,l[k]?=some m→OkM (spansD (l.take k)) m.fields∧m.fields.length≤40
theorem OwnE.others {α:Type} {w w':World} {lo n:Nat} {T:TypeId} {enc:α→List Value} {v:Value} {l:List α} (h:OwnE w lo T n enc v l) (hh:∀ (g:Nat) (cur:Array Value) (T:TypeId) (fr:Nat×Nat),w.heap[g]?=some (.cells cur T fr)→w'.heap[g]?=w.heap[g]?):OwnE w' lo T n enc v l:=by
 refine ⟨h.1,?_⟩
 rcases h.2 with h2 | ⟨g,cap,cur,h1,h2,h3,h4⟩
 · exact .inl h2
 · exact .inr ⟨g,cap,cur,h1,h2,(hh _ _ _ _ h3).trans h3,h4⟩
theorem RP_snoc (sp:List (ByteArray×Int×Int)) (p:ByteArray×Int×Int):RP (sp++[p])=RP sp++[(p.1,rangeVal p.2.1 p.2.2)]:=by unfold RP;simp
abbrev plE (mr:Nat) (x:Cs 2):List Value:=x.1++[.map (some mr)]
theorem plE_len (mr:Nat) (x:Cs 2):(plE mr x).length=3:=by simp [plE,x.2]
theorem plans_ret (w0:World) (v:Value) (d:DefD) (mv:Value) (css:List (Cs 2)) (hv:v = .agg (defCells d mv).toArray) (hraw:SliceOf w0 2 (fun _ cs (x:Cs 2)=>cs=x.1) mv css) (hmates:Mates 2 (EMsg w0) css d.msgs) (ok:OkD d.msgs) (hl:d.msgs.length≤1048576):Ret Pg 130 #[v] w0 fun r w'=>∃ mr,OwnE w' w0.heap.size 105 3 (plE mr) r css∧w0.heap.size≤mr∧MapOf w' mr (RP (spansD d.msgs))∧Ext w0 w':=by
 subst hv
 have hlen:css.length=d.msgs.length:=hmates.1
 have hm1:=SliceOf.oneCell hraw
 obtain ⟨A,c,rfl,hlc,hcm,hlm,hel⟩:=SliceOf.open hraw
 refine n158s (R:=retR _) ?_;unfold n158
 simp (disch:=try exact DI) only [↓PR,QR,simprocAttr]
 have e0:Ext w0 ((w0.alloc (.cells (defCells d (.slice A css.length c)).toArray 24)).alloc (.map #[] 0)):=ee
 have hM0:MapOf ((w0.alloc (.cells (defCells d (.slice A css.length c)).toArray 24)).alloc (.map #[] 0)) (w0.heap.size+1) []:=by have:=MapOf.new (w0.alloc (.cells (defCells d (.slice A css.length c)).toArray 24));rwa [World.size_alloc] at this
 generalize ((w0.alloc (.cells (defCells d (.slice A css.length c)).toArray 24)).alloc (.map #[] 0))=W at e0 hM0 ⊢
 generalize hmr:w0.heap.size+1=mr at hM0 ⊢
 refine loop2_intro (fun o i w=>∃ k:Nat,i = .int .i64 k∧k≤css.length∧OwnE w w0.heap.size 105 3 (plE mr) o (css.take k)∧MapOf w mr (RP (spansD (d.msgs.take k)))∧Ext w0 w) (fun _ i _=>css.length - (intOf i).toNat) ⟨0,rfl,by omega,OwnE.nil _ _ _ _ _,hM0,e0⟩ ?_
 rintro o _ w ⟨k,rfl,hk,hO,hM,e⟩
 rcases drop_cases hk with ⟨x,hx,hd,hlt,hdec⟩ | ⟨hk,hd,hdec⟩
 · obtain ⟨b,ob,cs,rfl,hl2,hA,rfl⟩:=hel k x hx
   obtain ⟨m,hm⟩:=getElem?_lt (l:=d.msgs) (k:=k) (by omega)
   obtain ⟨fl,hxe,hF⟩:=hmates.2 k m x hm hx
   obtain ⟨okm,h40⟩:=ok k m hm
   have hf1:=SliceOf.oneCell hF
   obtain ⟨A2,c2,rfl,_,_,_,_⟩:=SliceOf.open hF
   rw [hxe] at hA
   simp (disch:=try exact DI) only [↓PR,QR,simprocAttr,hdec]
   unfold n158c3
   try unfold X0
   try unfold L0
   rw [op_indexN Tryz.underlying22 ty44 _ _ _ _ _ k hlt,op_load ((hA.ext e).loads ty44 rfl)]
   simp (disch:=try exact DI) only [↓PR,QR,simprocAttr]
   repeat rw [World.size_setCell]
   repeat rw [World.size_alloc]
   rw [hmr]
   have eX:Ext w ((w.alloc (.cells #[.string m.name,.slice A2 m.fields.length c2] 44)).alloc (.cells #[.string m.name,.slice A2 m.fields.length c2,.map (some mr)] 105)):=ee
   have o6:((w.alloc (.cells #[.string m.name,.slice A2 m.fields.length c2] 44)).alloc (.cells #[.string m.name,.slice A2 m.fields.length c2,.map (some mr)] 105)).heap[w.heap.size]?=some (.cells #[.string m.name,.slice A2 m.fields.length c2] 44 (0,0)):=by simp (disch:=try exact DI) only [↓PR,QR,simprocAttr]
   have o7:((w.alloc (.cells #[.string m.name,.slice A2 m.fields.length c2] 44)).alloc (.cells #[.string m.name,.slice A2 m.fields.length c2,.map (some mr)] 105)).heap[w.heap.size+1]?=some (.cells (planCells m (.slice A2 m.fields.length c2) mr).toArray 105 (0,0)):=by simp (disch:=try exact DI) only [↓PR,QR,simprocAttr]
   generalize ((w.alloc (.cells #[.string m.name,.slice A2 m.fields.length c2] 44)).alloc (.cells #[.string m.name,.slice A2 m.fields.length c2,.map (some mr)] 105))=X at eX o6 o7 ⊢
   have hlm':=hM.lt
   generalize hp7:w.heap.size+1=p7 at o7 ⊢
   refine drawK_intro ?_
   have eD:Ext X X.drew:=(Ext.refl _).wdrew
   have E:=e.trans (eX.trans eD)
   unfold n158c2
   simp (disch:=try exact DI) only [↓PR,QR,simprocAttr,(cells_of_heap o6).1,(cells_of_heap o7).1]
   refine zcr (atS_ret _ m _ mr _ (hM.ext (eX.trans eD)) (hF.ext E) okm m.fields.length (Nat.le_refl _) (by omega)) fun w2 e2=>?_
   refine ⟨e2,?_⟩
   have E2:=eX.trans (eD.trans e2)
   have hM2:=hM.ext E2
   rw [op_updateO Tryz.underlying103 Tryz.underlying9 hM2]
   refine turnK_intro ?_
   have hM3:=hM2.put m.name (rangeVal (posS (spansD (d.msgs.take k)) m.fields m.fields.length).1 (posS (spansD (d.msgs.take k)) m.fields m.fields.length).2)
   rw [← RP_snoc _ (m.name,posS (spansD (d.msgs.take k)) m.fields m.fields.length)] at hM3
   have hst:=spansD_step hm
   have x7:=(putW_heap (r:=mr) (ps:=RP (spansD (d.msgs.take k))) (k:=m.name) (v:=rangeVal (posS (spansD (d.msgs.take k)) m.fields m.fields.length).1 (posS (spansD (d.msgs.take k)) m.fields m.fields.length).2) (w:=w2) (b:=p7) (by omega)).trans (e2.obj (eD.obj o7))
   have E3:Ext w0 (putW w2 mr (RP (spansD (d.msgs.take k))) m.name (rangeVal (posS (spansD (d.msgs.take k)) m.fields m.fields.length).1 (posS (spansD (d.msgs.take k)) m.fields m.fields.length).2)):=Ext.putW (e.trans E2) (by omega) _ _
   have hO3:OwnE (putW w2 mr (RP (spansD (d.msgs.take k))) m.name (rangeVal (posS (spansD (d.msgs.take k)) m.fields m.fields.length).1 (posS (spansD (d.msgs.take k)) m.fields m.fields.length).2)) w0.heap.size 105 3 (plE mr) o (css.take k):=OwnE.others (hO.ext E2) fun g cur T fr hg=>putW_heap (by rintro rfl;rw [hM2.obj] at hg;cases hg)
   unfold n158c1
   simp (disch:=try exact DI) only [↓PR,QR,simprocAttr,(cells_of_heap x7).1]
   have sY:(putW w2 mr (RP (spansD (d.msgs.take k))) m.name (rangeVal (posS (spansD (d.msgs.take k)) m.fields m.fields.length).1 (posS (spansD (d.msgs.take k)) m.fields m.fields.length).2)).heap.size=w2.heap.size:=putW_size
   generalize (putW w2 mr (RP (spansD (d.msgs.take k))) m.name (rangeVal (posS (spansD (d.msgs.take k)) m.fields m.fields.length).1 (posS (spansD (d.msgs.take k)) m.fields m.fields.length).2))=Y at hM3 x7 E3 hO3 sY ⊢
   have eY:Ext Y (Y.alloc (.cells #[.string m.name,.slice A2 m.fields.length c2,.map (some mr)] 105)):=ee
   have oY:=heap_new Y #[.string m.name,.slice A2 m.fields.length c2,.map (some mr)] 105
   rw [sY] at oY
   have hM4:=hM3.ext eY
   have hO4:=hO3.ext eY
   have E4:=E3.trans eY
   have hxc:plE mr x=[.string m.name,.slice A2 m.fields.length c2,.map (some mr)]:=by unfold plE;rw [hxe];rfl
   generalize (Y.alloc (.cells #[.string m.name,.slice A2 m.fields.length c2,.map (some mr)] 105))=Z at oY hM4 hO4 E4 ⊢
   refine op_appendE (l':=[x]) Tryz.underlying165 ty105 rfl (by decide) (plE_len mr) (fun y hy u hu=>?_) hO4 (fun j y hy=>?_) E4.size (Nat.le_trans (Nat.mul_le_mul (show (css.take k).length+1≤1048577 by rw [List.length_take];omega) by105) (by decide)) (by rw [List.length_take];simp;omega) ?_
   · simp only [List.mem_singleton] at hy
     subst hy
     rw [hxc] at hu
     simp only [List.mem_cons,List.not_mem_nil,or_false] at hu
     rcases hu with rfl | rfl | rfl<;>rfl
   · cases j with
     | succ j=>simp at hy
     | zero =>
      simp at hy;subst hy
      rw [hxc]
      exact ElemAt.of_heap oY
   · rintro v' w4 hO5 hg5
     have E5:Ext w0 w4:=E4.grown hg5 fun g hg=>(World.ownsRow.lt hO4 g hg).1
     have hM5:MapOf w4 mr (RP (spansD (d.msgs.take k)++[(m.name,posS (spansD (d.msgs.take k)) m.fields m.fields.length)])):=by
      have hb:=hg5.block mr hM4.lt (fun hh=>by
       rcases hO4.2 with ⟨hx,_⟩ | ⟨g,cap,cur,h1,_,h3,_⟩
       · rw [hx] at hh;cases hh
       · rw [h1] at hh
         injection hh with hh
         subst hh
         rw [hM4.obj] at h3;cases h3)
      exact MapB.of_obj hM4 hb
     have hw:IntKind.i64.wrap ((k:Int)+1)=((k+1:Nat):Int):=by rw [wrap_ok (by omega) (by omega)];omega
     simp (disch:=try exact DI) only [↓PR,QR,simprocAttr,hw]
     refine ⟨⟨k+1,rfl,by omega,by rw [take_snoc hx];exact hO5,by rw [hst];exact hM5,E5⟩,meas_lt hlt⟩
 · subst hk
   simp (disch:=try exact DI) only [↓PR,QR,simprocAttr,hdec]
   rw [List.take_length] at hO
   rw [hlen,List.take_length] at hM
   exact ⟨mr,hO,by omega,hM,e⟩
def msgE (d:DefD) (i:Int):Int:=if (checkP d).2.2≠0 then 2 else if i < 0∨d.msgs.length≤i then 3 else 0
def msgL (d:DefD) (i:Int):List FieldD:=if msgE d i=0 then (match d.msgs[i.toNat]? with
 | some m=>m.fields
 | none=>[]) else []
theorem msgE_zero {d:DefD} {i:Int} (h:msgE d i=0):(checkP d).2.2=0∧∃ (k:Nat) (m:MsgD),i=k∧k < d.msgs.length∧d.msgs[k]?=some m∧msgL d i=m.fields:=by
 have h':=h
 unfold msgE at h
 split at h
 · exact absurd h (by decide)
 · rename_i h0
   split at h
   · exact absurd h (by decide)
   · rename_i h1
     obtain ⟨k,rfl⟩:∃ k:Nat,i=k:=⟨i.toNat,by omega⟩
     have hk:k < d.msgs.length:=by omega
     obtain ⟨m,hm⟩:=getElem?_lt hk
     refine ⟨Decidable.not_not.1 h0,k,m,rfl,hk,hm,?_⟩
     unfold msgL
     rw [if_pos h',Int.toNat_natCast,hm]
section
variable {w0:World}
def padOK (n p:Int):Prop:=(n=2∨n=4∨(8≤n∧n≤512∧n.tmod 8=0))∧0≤p∧p≤335544320
instance (n p:Int):Decidable (padOK n p):=by unfold padOK;infer_instance
end
structure Sound (d:DefD):Prop where
 each:(checkP d).2.2=0→OkD d.msgs
 full:(checkP d).2.2=0→∀ m∈d.msgs,OkM (spansD d.msgs) m.fields
section
variable {w0:World} {d:DefD}
theorem planned_ret (v:Value) (i:Int) (hd:DefVal w0 v d) (ht:calm d) (hs:Sound d) (hl:d.msgs.length≤1048576):Ret Pg 100 #[v,.int .i64 i] w0 fun r w' =>
 (msgE d i≠0∧r = .tuple #[.agg #[.string ByteArray.empty,.slice none 0 0,.map none],.int .i64 (msgE d i)] ∨
  ∃ m fl mr,msgE d i=0∧d.msgs[i.toNat]?=some m∧r = .tuple #[.agg (planCells m fl mr).toArray,.int .i64 0]∧FieldsOf w0 fl m.fields∧MapOf w' mr (RP (spansD d.msgs)))∧Ext w0 w':=by
 obtain ⟨mv,rfl,hM⟩:=hd
 have hm1:=SliceOf.oneCell hM
 refine n157s (R:=retR _) ?_;unfold n157
 rw [op_boxA,op_alloc ty105]
 generalize hΦ:(fun (r:Value) (w':World)=>(msgE d i≠0∧r = .tuple #[.agg #[.string ByteArray.empty,.slice none 0 0,.map none],.int .i64 (msgE d i)]∨∃ m fl mr,msgE d i=0∧d.msgs[i.toNat]?=some m∧r = .tuple #[.agg (planCells m fl mr).toArray,.int .i64 0]∧FieldsOf w0 fl m.fields∧MapOf w' mr (RP (spansD d.msgs)))∧Ext w0 w')=Φ
 show opV _ _ _ ((w0.alloc (.cells (defCells d mv).toArray 24)).alloc (.cells #[.string ByteArray.empty,.slice none 0 0,.map none] 105)) _
 simp only [World.size_alloc]
 generalize hW:((w0.alloc (.cells (defCells d mv).toArray 24)).alloc (.cells #[.string ByteArray.empty,.slice none 0 0,.map none] 105))=W
 have e0:Ext w0 W:=by rw [← hW];exact ee
 have o2:W.heap[w0.heap.size]?=some (.cells (defCells d mv).toArray 24 (0,0)):=by rw [← hW];simp (disch:=try exact DI) only [↓PR,QR,simprocAttr]
 have o4:W.heap[w0.heap.size+1]?=some (.cells #[.string ByteArray.empty,.slice none 0 0,.map none] 105 (0,0)):=by rw [← hW];simp (disch:=try exact DI) only [↓PR,QR,simprocAttr]
 clear hW
 generalize hp4:w0.heap.size+1=p4 at o4 ⊢
 simp (disch:=try exact DI) only [↓PR,QR,simprocAttr,(cells_of_heap o2).1]
 refine zcr (Valid_ret' _ d ⟨_,rfl,hM.ext e0⟩ ht) fun w1 e1=>?_
 have E1:=e0.trans e1
 have x4:=e1.obj o4
 have x2:=e1.obj o2
 have l4:=(Array.getElem?_eq_some_iff.1 x4).1
 have bad:∀ (c:Int),msgE d i=c→c≠0→∀ w,Ext w0 w→w.heap[p4]?=some (.cells #[.string ByteArray.empty,.slice none 0 0,.map none] 105 (0,0))→qW Pg 105 (.pointer (some ⟨p4,0,none⟩)) w fun r0=>retR Φ (.returned (.tuple #[r0,.int .i64 c])) w:=by
  intro c hc hc0 w e x
  simp (disch:=try exact DI) only [↓PR,QR,simprocAttr,(cells_of_heap x).1]
  rw [← hΦ]
  exact ⟨.inl ⟨by rw [hc];exact hc0,by rw [hc]⟩,e⟩
 have y4:∀ w:World,w.heap[p4]?=some (.cells #[.string ByteArray.empty,.slice none 0 0,.map none] 105 (0,0))→(((w.setCell ⟨p4,0,none⟩ (.string ByteArray.empty)).setCell ⟨p4,1,none⟩ (.slice none 0 0)).setCell ⟨p4,2,none⟩ (.map none)).heap[p4]?=some (.cells #[.string ByteArray.empty,.slice none 0 0,.map none] 105 (0,0)):=fun w x=>by
  simpa using heap_set (o:=2) (heap_set (o:=1) (heap_set (o:=0) x (.string ByteArray.empty)) (.slice none 0 0)) (.map none)
 have e4:∀ (w:World) (u0 u1 u2:Value),Ext w0 w→Ext w0 (((w.setCell ⟨p4,0,none⟩ u0).setCell ⟨p4,1,none⟩ u1).setCell ⟨p4,2,none⟩ u2):=fun w u0 u1 u2 e=>((e.setCell (p:=⟨p4,0,none⟩) (by show w0.heap.size≤p4;omega) _).setCell (p:=⟨p4,1,none⟩) (by show w0.heap.size≤p4;omega) _).setCell (p:=⟨p4,2,none⟩) (by show w0.heap.size≤p4;omega) _
 by_cases hf:(checkP d).2.2=0
 case neg =>
  have hfb:flawedB d=true:=by unfold flawedB;simp [hf]
  have hE:msgE d i=2:=by unfold msgE;rw [if_pos hf]
  rw [hfb]
  simp (disch:=try exact DI) only [↓PR,QR,simprocAttr,↓n157c4,(cells_of_heap x4).1,(cells_of_heap x4).2]
  first
  | exact bad 2 hE (by decide) _ (e4 _ _ _ _ E1) (y4 _ x4)
  | (rw [← hΦ];exact ⟨.inl ⟨by rw [hE];decide,by rw [hE]⟩,e4 _ _ _ _ E1⟩)
 have hfb:flawedB d=false:=by unfold flawedB;simp [hf]
 rw [hfb]
 obtain ⟨css,hraw,hmates⟩:=SliceOf.raw hM
 obtain ⟨A,c,rfl,hlc,hcm,hlm,hel⟩:=SliceOf.open hM
 by_cases hi:i < 0
 · have d1:decide (i < 0)=true:=decide_eq_true hi
   have hE:msgE d i=3:=by unfold msgE;rw [if_neg (by simp [hf]),if_pos (.inl hi)]
   simp (disch:=try exact DI) only [↓PR,QR,simprocAttr,d1,↓n157c5,↓n157c3,↓n157c2,(cells_of_heap x4).1,(cells_of_heap x4).2]
   first
   | exact bad 3 hE (by decide) _ (e4 _ _ _ _ E1) (y4 _ x4)
   | (rw [← hΦ];exact ⟨.inl ⟨by rw [hE];decide,by rw [hE]⟩,e4 _ _ _ _ E1⟩)
 have d1:decide (i < 0)=false:=decide_eq_false hi
 by_cases hh:(d.msgs.length:Int)≤i
 · have d2:decide (i≥(d.msgs.length:Int))=true:=decide_eq_true hh
   have hE:msgE d i=3:=by unfold msgE;rw [if_neg (by simp [hf]),if_pos (.inr hh)]
   simp (disch:=try exact DI) only [↓PR,QR,simprocAttr,d1,d2,↓n157c5,↓n157c3,↓n157c2,(cells_of_heap x2).1,(cells_of_heap x4).1,(cells_of_heap x4).2]
   first
   | exact bad 3 hE (by decide) _ (e4 _ _ _ _ E1) (y4 _ x4)
   | (rw [← hΦ];exact ⟨.inl ⟨by rw [hE];decide,by rw [hE]⟩,e4 _ _ _ _ E1⟩)
 have d2:decide (i≥(d.msgs.length:Int))=false:=decide_eq_false hh
 have hE:msgE d i=0:=by unfold msgE;rw [if_neg (by simp [hf]),if_neg (by omega)]
 obtain ⟨k,rfl⟩:∃ k:Nat,i=k:=⟨i.toNat,by omega⟩
 obtain ⟨m,hm⟩:=getElem?_lt (l:=d.msgs) (k:=k) (by omega)
 obtain ⟨x,hx⟩:=getElem?_lt (l:=css) (k:=k) (by rw [hmates.1];omega)
 obtain ⟨fl,hxe,hF⟩:=hmates.2 k m x hm hx
 have hf1:=SliceOf.oneCell hF
 simp (disch:=try exact DI) only [↓PR,QR,simprocAttr,d1,d2,↓n157c5,↓n157c3,(cells_of_heap x2).1]
 have hms:Mates 2 (EMsg w1) css d.msgs:=hmates.imp fun cs x hx=>keptMsg _ _ _ _ E1 hx
 refine callK_ret (plans_ret w1 _ d _ css rfl (hraw.ext keptRaw E1) hms (hs.each hf) hl) ?_
 rintro v2 w2 ⟨mr,hO,hmr,hM2,e2⟩
 obtain ⟨g,cap,rfl,hg0,hgl,hT,hfz,hrow⟩:=hO.row (plE_len mr) (by rw [hmates.1];omega)
 have hEk:=hrow k x hx
 rw [show plE mr x=planCells m fl mr by unfold plE;rw [hxe];rfl] at hEk
 have z4:=e2.obj x4
 have l44:=(Array.getElem?_eq_some_iff.1 z4).1
 have E2:=E1.trans e2
 unfold n157c1
 try unfold X0
 try unfold L0
 rw [op_indexN Tryz.underlying165 ty105 _ _ _ _ _ k (by rw [hmates.1];omega),Nat.zero_add,op_load (hEk.loads ty105 rfl)]
 have nm:mr≠p4:=by omega
 have w4:(((w2.setCell ⟨p4,0,none⟩ (.string m.name)).setCell ⟨p4,1,none⟩ fl).setCell ⟨p4,2,none⟩ (.map (some mr))).heap[p4]?=some (.cells (planCells m fl mr).toArray 105 (0,0)):=by simpa using heap_set (o:=2) (heap_set (o:=1) (heap_set (o:=0) z4 (.string m.name)) fl) (.map (some mr))
 simp (disch:=try exact DI) only [↓PR,QR,simprocAttr,(cells_of_heap z4).1,(cells_of_heap z4).2]
 rw [← hΦ]
 exact ⟨.inr ⟨m,fl,mr,hE,by rw [Int.toNat_natCast];exact hm,rfl,hF,((hM2.setCell _ _).setCell _ _).setCell _ _⟩,e4 _ _ _ _ E2⟩
def errG (d:DefD) (i fld:Int):Int:=if msgE d i≠0 then msgE d i else if fld < 0∨(msgL d i).length≤fld then 3 else 0
theorem get_ret (v:Value) (i fld:Int) (hd:DefVal w0 v d) (ht:calm d) (hs:Sound d) (hl:d.msgs.length≤1048576) (g:FuncId) (caps:Array Value) (hg:Callable Pg g) (A B:Int)
 (hc:∀ m,d.msgs[i.toNat]?=some m→errG d i fld=0→∀ w fl mr,Ext w0 w→FieldsOf w fl m.fields→MapOf w mr (RP (spansD d.msgs))→Ret Pg g (#[] ++ #[.agg (planCells m fl mr).toArray]++caps) w fun r w'=>r=rangeVal A B∧Ext w w') :
 Ret Pg 65 #[v,.int .i64 i,.int .i64 fld,.func (.func g) #[] caps] w0 fun r w'=>r=(if errG d i fld=0 then .tuple #[rangeVal A B,.int .i64 0] else .tuple #[rangeVal 0 0,.int .i64 (errG d i fld)])∧Ext w0 w':=by
 obtain ⟨mv,rfl,hM⟩:=hd
 have hm1:=SliceOf.oneCell hM
 refine n139s (R:=retR _) ?_;unfold n139
 rw [op_boxA,op_alloc ty67]
 generalize hΦ:(fun (r:Value) (w':World)=>r=(if errG d i fld=0 then .tuple #[rangeVal A B,.int .i64 0] else .tuple #[rangeVal 0 0,.int .i64 (errG d i fld)])∧Ext w0 w')=Φ
 show opV _ _ _ ((w0.alloc (.cells (defCells d mv).toArray 24)).alloc (.cells #[.int .i64 0,.int .i64 0] 67)) _
 simp only [World.size_alloc]
 generalize hW:((w0.alloc (.cells (defCells d mv).toArray 24)).alloc (.cells #[.int .i64 0,.int .i64 0] 67))=W
 have e0:Ext w0 W:=by rw [← hW];exact ee
 have o2:W.heap[w0.heap.size]?=some (.cells (defCells d mv).toArray 24 (0,0)):=by rw [← hW];simp (disch:=try exact DI) only [↓PR,QR,simprocAttr]
 have o8:W.heap[w0.heap.size+1]?=some (.cells #[.int .i64 0,.int .i64 0] 67 (0,0)):=by rw [← hW];simp (disch:=try exact DI) only [↓PR,QR,simprocAttr]
 clear hW
 generalize hp8:w0.heap.size+1=p8 at o8 ⊢
 simp (disch:=try exact DI) only [↓PR,QR,simprocAttr,(cells_of_heap o2).1]
 refine callK_ret (planned_ret _ i ⟨_,rfl,hM.ext e0⟩ ht hs hl) ?_
 rintro r1 w1 ⟨hr,e1⟩
 have E1:=e0.trans e1
 have x8:=e1.obj o8
 have s1:=E1.size
 unfold n139c5
 have e8:∀ (w:World) (u0 u1:Value),Ext w0 w→Ext w0 ((w.setCell ⟨p8,0,none⟩ u0).setCell ⟨p8,1,none⟩ u1):=fun w u0 u1 e=>(e.setCell (p:=⟨p8,0,none⟩) (by show w0.heap.size≤p8;omega) _).setCell (p:=⟨p8,1,none⟩) (by show w0.heap.size≤p8;omega) _
 rcases hr with ⟨hE,rfl⟩ | ⟨m,fl,mr,hE,hm,rfl,hF,hMp⟩
 · have hG:errG d i fld=msgE d i:=by unfold errG;rw [if_pos hE]
   have d1:(msgE d i == 0)=false:=by simpa using hE
   have d2:(msgE d i != 0)=true:=by simpa using hE
   have eX:Ext w1 (w1.alloc (.cells #[.string ByteArray.empty,.slice none 0 0,.map none] 105)):=ee
   have y8:=eX.obj x8
   have l8:=(Array.getElem?_eq_some_iff.1 y8).1
   simp (disch:=try exact DI) only [↓PR,QR,simprocAttr,d1,d2,↓n139c4,↓n139c3,↓n139c2,(cells_of_heap y8).1,(cells_of_heap y8).2,(cells_of_heap x8).1,(cells_of_heap x8).2]
   rw [← hΦ]
   exact ⟨by rw [hG,if_neg hE],ee⟩
 · have hF0:=hF
   obtain ⟨A',c',rfl,hlc',hcm',hlm',_⟩:=SliceOf.open hF
   have hL:msgL d i=m.fields:=by unfold msgL;rw [if_pos hE,hm]
   have eX:Ext w1 (w1.alloc (.cells (planCells m (.slice A' m.fields.length c') mr).toArray 105)):=ee
   have oX:=heap_new w1 (planCells m (.slice A' m.fields.length c') mr).toArray 105
   have y8:=eX.obj x8
   have l8:=(Array.getElem?_eq_some_iff.1 y8).1
   have l88:=(Array.getElem?_eq_some_iff.1 x8).1
   by_cases hfl:fld < 0
   · have d1:decide (fld < 0)=true:=decide_eq_true hfl
     have hG:errG d i fld=3:=by unfold errG;rw [if_neg (by simp [hE]),if_pos (.inl hfl)]
     simp (disch:=try exact DI) only [↓PR,QR,simprocAttr,d1,↓n139c4,↓n139c3,↓n139c2,(cells_of_heap y8).1,(cells_of_heap y8).2,(cells_of_heap x8).1,(cells_of_heap x8).2]
     rw [← hΦ]
     exact ⟨by rw [hG];rfl,ee⟩
   have d1:decide (fld < 0)=false:=decide_eq_false hfl
   by_cases hfh:(m.fields.length:Int)≤fld
   · have d2:decide (fld≥(m.fields.length:Int))=true:=decide_eq_true hfh
     have hG:errG d i fld=3:=by unfold errG;rw [if_neg (by simp [hE]),hL,if_pos (.inr hfh)]
     simp (disch:=try exact DI) only [↓PR,QR,simprocAttr,d1,d2,↓n139c4,↓n139c3,↓n139c2,(cells_of_heap y8).1,(cells_of_heap y8).2,(cells_of_heap x8).1,(cells_of_heap x8).2]
     rw [← hΦ]
     exact ⟨by rw [hG];rfl,ee⟩
   have d2:decide (fld≥(m.fields.length:Int))=false:=decide_eq_false hfh
   have hG:errG d i fld=0:=by unfold errG;rw [if_neg (by simp [hE]),hL,if_neg (by omega)]
   have hcc:=hc m hm hG _ _ mr (E1.trans eX) (hF0.ext (e1.trans eX)) (hMp.ext eX)
   simp (disch:=try exact DI) only [↓PR,QR,simprocAttr,d1,d2,↓n139c4,↓n139c3,↓n139c2,↓n139c1]
   rw [callV_func hg]
   refine callK_ret hcc ?_
   rintro _ w2 ⟨rfl,e2⟩
   have z8:=e2.obj y8
   have l9:=(Array.getElem?_eq_some_iff.1 z8).1
   have E2:=(E1.trans eX).trans e2
   simp (disch:=try exact DI) only [↓PR,QR,simprocAttr,(cells_of_heap z8).1,(cells_of_heap z8).2]
   rw [← hΦ]
   exact ⟨by rw [hG];rfl,ee⟩
end
def BSp (sp:List (ByteArray×Int×Int)):Prop:=∀ p∈sp,0≤p.2.1∧p.2.1≤1099511627776∧0≤p.2.2∧p.2.2≤1099511627776
theorem lastR_mem {sp:List (ByteArray×Int×Int)} {s:ByteArray} {q:Int×Int} (h:lastR sp s=some q):(s,q)∈sp:=lastP_mem h
theorem BSp.look {sp:List (ByteArray×Int×Int)} (h:BSp sp) (s:ByteArray):(0≤(lookS sp s).1∧(lookS sp s).1≤1099511627776)∧0≤(lookS sp s).2∧(lookS sp s).2≤1099511627776:=by
 unfold lookS
 cases hl:lastR sp s with
 | none=>decide
 | some q=>have:=h _ (lastR_mem hl);exact ⟨⟨this.1,this.2.1⟩,this.2.2⟩
theorem BSp.choice {sp:List (ByteArray×Int×Int)} (h:BSp sp) (l:List CaseD):(0≤(choiceS sp l).1∧(choiceS sp l).1≤1099511627776)∧0≤(choiceS sp l).2∧(choiceS sp l).2≤1099511627776:=by
 have key:∀ (l:List CaseD) (o:Int×Int),((0≤o.1∧o.1≤1099511627776)∧0≤o.2∧o.2≤1099511627776)→(0≤(l.foldl (stepC sp) o).1∧(l.foldl (stepC sp) o).1≤1099511627776)∧0≤(l.foldl (stepC sp) o).2∧(l.foldl (stepC sp) o).2≤1099511627776:=by
  intro l
  induction l with
  | nil=>exact fun o h=>h
  | cons c l ih =>
   intro o ho
   refine ih _ ?_
   have:=h.look c.of
   unfold stepC minI maxI
   dsimp only
   refine ⟨⟨?_,?_⟩,?_,?_⟩<;>split<;>omega
 cases l with
 | nil=>simp [choiceS]
 | cons c l=>exact key _ _ (h.look c.of)
structure OkV (deps:List (ByteArray×Int)) (l:List FieldD) (f:FieldD):Prop where
 kind:1≤f.kind∧f.kind≤12
 bits:f.kind=1∨f.kind=2→1≤f.bits∧f.bits≤32
 pad:f.kind=10→padB f=true
 num:f.kind=3→0≤f.low∧f.low≤f.high∧f.high≤34359738367
 high5:f.kind=5→0≤f.high∧f.high≤1048576
 high6:f.kind=6→2≤f.high∧f.high≤1048576
 iv:f.kind=4∨f.kind=12∨f.kind=7→0≤ivL l f∧ivL l f≤ivH l f∧ivH l f≤1048576
 terms:∀ t∈f.terms,(lastR (numR l) t.field).isSome=true
 refs:∀ s∈refsF f,(lastP deps s).isSome=true
 cases:f.kind=9→f.cases≠[]
theorem withinS {hi lo n:Int} {l:List Int} (h:withinC hi lo (n::l)=0):lo≤n∧n≤hi∧withinC hi n l=0:=by
 rw [withinC,orC_iff,needC_iff (by decide)] at h
 simp only [Bool.and_eq_true,decide_eq_true_eq] at h
 exact ⟨h.1.1,h.1.2,h.2⟩
theorem names_some {rp:List (ByteArray×Int×Int)} {ts:List TermD} (h:namesC rp ts=0):∀ t∈ts,(lastR rp t.field).isSome=true:=by
 intro t ht
 cases hl:lastR rp t.field with
 | some q=>rfl
 | none=>have:=namesC_bad ht hl;omega
theorem num_more {l bef:List FieldD} (hd:Dist l) (hb:∀ g∈bef,g∈l) {s:ByteArray} (h:(lastR (numR bef) s).isSome=true):lastR (numR bef) s=lastR (numR l) s:=by
 cases h1:lastR (numR bef) s with
 | none=>rw [h1] at h;cases h
 | some q =>
  obtain ⟨g,hg,hn,hs,rfl⟩:=mem_numR.1 (lastR_mem h1)
  cases h2:lastR (numR l) s with
  | none=>exact absurd (mem_numR.2 ⟨g,hb g hg,hn,hs,rfl⟩) (lastR_none.1 h2 _)
  | some q' =>
   obtain ⟨g',hg',hn',hs',rfl⟩:=mem_numR.1 (lastR_mem h2)
   rw [hd.eq (hb g hg) hg' (by rw [hs,hs'])]
theorem iv_order {base:Int} {ts:List TermD} {rp:List (ByteArray×Int×Int)} (hs:sizeB base ts=true) (hin:∀ t∈ts,(lastR rp t.field).isSome=true) (h0:intervalE base ts rp=0):intervalL base ts rp≤intervalH base ts rp:=by
 have hw:∀ t∈ts,wideB (rngT rp t).1 (rngT rp t).2=true:=by
  intro t ht
  cases hw:wideB (rngT rp t).1 (rngT rp t).2 with
  | true=>rfl
  | false =>
   have:=iv_wide hs hin ht hw
   unfold ivOf at this
   rw [h0] at this
   injection this with this
   have:=congrArg Array.toList this
   simp at this
 obtain ⟨h4,he⟩:=iv_fine hs hin hw
 unfold ivOf at he
 injection he with he
 have he:=congrArg Array.toList he
 simp only [List.cons.injEq,Value.int.injEq,true_and,and_true] at he
 obtain ⟨h1,⟨mix,_,h2⟩,_⟩:=mix_least (ts:=ts) (rp:=rp) fun t ht=>⟨hin t ht,h4 t ht⟩
 have:=h1 mix
 rw [h2] at this
 rw [he.1,he.2.1]
 omega
theorem exam_all {bef:List FieldD} {deps:List (ByteArray×Int)} {strs:List (ByteArray×Bool)} {f:FieldD} (h:examineC bef (vI deps) (vB strs) f=0):(1≤f.kind∧f.kind≤12)∧clearK f=bareF f∧checkC bef (vI deps) (vB strs) f=0:=by
 unfold examineC at h
 simp only [orC_iff,needC_iff (show (4:Int)≠0 by decide),needC_iff (show (5:Int)≠0 by decide),decide_eq_true_eq] at h
 exact h.2.2
theorem sized_iv {bef l:List FieldD} (hd:Dist l) (hb:∀ g∈bef,g∈l) {f:FieldD} (h:sizedC (numR bef) f=0):(0≤ivL l f∧ivL l f≤ivH l f∧ivH l f≤1048576)∧∀ t∈f.terms,(lastR (numR l) t.field).isSome=true:=by
 unfold sizedC at h
 simp only [orC_iff,needC_iff (show (9:Int)≠0 by decide)] at h
 obtain ⟨h1,h2,h3⟩:=h
 have hin:=names_some h2
 have hc:=iv_congr (base:=f.base) (fun t ht=>num_more hd hb (hin t ht))
 unfold lenB at h3
 simp only [Bool.and_eq_true,beq_iff_eq,decide_eq_true_eq] at h3
 have ho:=iv_order h1 hin h3.1.1
 unfold ivL ivH
 rw [← hc.2.1,← hc.2.2]
 exact ⟨⟨h3.1.2,ho,h3.2⟩,fun t ht=>by rw [← num_more hd hb (hin t ht)];exact hin t ht⟩
theorem okV_of {bef l:List FieldD} {deps:List (ByteArray×Int)} {strs:List (ByteArray×Bool)} (hds:∀ s,(lastP strs s).isSome=true→(lastP deps s).isSome=true) (hd:Dist l) (hb:∀ g∈bef,g∈l) {f:FieldD} (h:examineC bef (vI deps) (vB strs) f=0):OkV deps l f:=by
 obtain ⟨hk,hcl,hc⟩:=exam_all h
 have hrefs:=examine_refs hds h
 have hA:=okA_of h
 have none:(clearK f).terms=f.terms→∀ t∈f.terms,(lastR (numR l) t.field).isSome=true:=by
  intro he t ht
  rw [← he,hcl] at ht
  cases ht
 have siz:sizedC (numR bef) f=0→(0≤ivL l f∧ivL l f≤ivH l f∧ivH l f≤1048576)∧∀ t∈f.terms,(lastR (numR l) t.field).isSome=true:=sized_iv hd hb
 have hk':f.kind=1∨f.kind=2∨f.kind=3∨f.kind=4∨f.kind=5∨f.kind=6∨f.kind=7∨f.kind=8∨f.kind=9∨f.kind=10∨f.kind=11∨f.kind=12:=by omega
 unfold checkC at hc
 rcases hk' with k | k | k | k | k | k | k | k | k | k | k | k
 · exact ⟨hk,hA.1,hA.2,by omega,by omega,by omega,by omega,none (by unfold clearK;simp [k,clear1]),hrefs,by omega⟩
 · exact ⟨hk,hA.1,hA.2,by omega,by omega,by omega,by omega,none (by unfold clearK;simp [k,clear2]),hrefs,by omega⟩
 · simp only [k] at hc
   obtain ⟨a1,a2,hc⟩:=withinS hc
   obtain ⟨b1,b2,_⟩:=withinS hc
   exact ⟨hk,hA.1,hA.2,fun _=>⟨a1,b1,b2⟩,by omega,by omega,by omega,none (by unfold clearK;simp [k,clear3]),hrefs,by omega⟩
 · simp only [k] at hc
   exact ⟨hk,hA.1,hA.2,by omega,by omega,by omega,fun _=>(siz hc).1,(siz hc).2,hrefs,by omega⟩
 · simp only [k] at hc
   have hc:=(orC_iff.1 hc).2
   obtain ⟨a1,a2,hc⟩:=withinS hc
   exact ⟨hk,hA.1,hA.2,by omega,fun _=>⟨a1,a2⟩,by omega,by omega,none (by unfold clearK;simp [k,clear5]),hrefs,by omega⟩
 · simp only [k] at hc
   obtain ⟨a1,a2,hc⟩:=withinS hc
   exact ⟨hk,hA.1,hA.2,by omega,by omega,fun _=>⟨a1,a2⟩,by omega,none (by unfold clearK;simp [k,clear6]),hrefs,by omega⟩
 · simp only [k] at hc
   have hc:=(orC_iff.1 hc).2
   exact ⟨hk,hA.1,hA.2,by omega,by omega,by omega,fun _=>(siz hc).1,(siz hc).2,hrefs,by omega⟩
 · exact ⟨hk,hA.1,hA.2,by omega,by omega,by omega,by omega,none (by unfold clearK;simp [k,clear8]),hrefs,by omega⟩
 · simp only [k] at hc
   have hc:=(orC_iff.1 (show casesC bef (vI deps) f=0 from hc)).2
   have hc:=(needC_iff (by decide)).1 (orC_iff.1 hc).1
   simp only [Bool.and_eq_true,decide_eq_true_eq] at hc
   exact ⟨hk,hA.1,hA.2,by omega,by omega,by omega,by omega,none (by unfold clearK;simp [k,clear9]),hrefs,fun _ h=>by rw [h] at hc;simp at hc⟩
 · exact ⟨hk,hA.1,hA.2,by omega,by omega,by omega,by omega,none (by unfold clearK;simp [k,clear10]),hrefs,by omega⟩
 · exact ⟨hk,hA.1,hA.2,by omega,by omega,by omega,by omega,none (by unfold clearK;simp [k,clear11]),hrefs,by omega⟩
 · simp only [k] at hc
   have hc:=(orC_iff.1 (orC_iff.1 hc).2).2
   exact ⟨hk,hA.1,hA.2,by omega,by omega,by omega,fun _=>(siz hc).1,(siz hc).2,hrefs,by omega⟩
theorem OkV.okS {deps:List (ByteArray×Int)} {l:List FieldD} {f:FieldD} (h:OkV deps l f) (ht:f.terms.length≤1048576) {sp:List (ByteArray×Int×Int)} (hb:BSp sp):OkS sp l f:=by
 refine ⟨h.kind,fun k=>?_,fun k=>?_,fun k=>?_,fun _=>hb.look _,h.cases,fun k=>?_,ht⟩
 · have:=h.num k;omega
 · have:=h.iv k;omega
 · rcases k with k | k
   · exact h.high5 k
   · have:=h.high6 k;omega
 · have:=padB_bits (h.pad k);omega
theorem groups_in {v:Int} (h0:0≤v) (h:v≤34359738367):0≤((groupsP v.toNat:Nat):Int)*8∧((groupsP v.toNat:Nat):Int)*8≤1099511627776:=by
 have:=groupsP_le 6 v.toNat (by omega) (by decide)
 omega
theorem OkV.span {deps:List (ByteArray×Int)} {l:List FieldD} {f:FieldD} (h:OkV deps l f) {sp:List (ByteArray×Int×Int)} (hb:BSp sp) (h10:f.kind≠10):(0≤(spanF sp l f).1∧(spanF sp l f).1≤1099511627776)∧0≤(spanF sp l f).2∧(spanF sp l f).2≤1099511627776:=by
 unfold spanF
 split
 · rename_i k;have:=h.bits k;dsimp only;omega
 · split
   · rename_i k
     have:=h.num k
     refine ⟨groups_in (by omega) (by omega),?_⟩
     dsimp only
     split
     · decide
     · exact groups_in (by omega) (by omega)
   · split
     · rename_i k
       have:=h.iv (by omega)
       exact ⟨capF_in (by omega),capF_in (by omega)⟩
     · split
       · rename_i k;have:=h.high5 k;dsimp only;omega
       · split
         · rename_i k;have:=h.high6 k;dsimp only;omega
         · split
           · rename_i k
             have:=h.iv (by omega)
             have hl:=hb.look f.of
             exact ⟨capF_in (Int.mul_nonneg (by omega) hl.1.1),capF_in (Int.mul_nonneg (by omega) hl.2.1)⟩
           · split
             · exact hb.look _
             · split
               · exact hb.choice _
               · split<;>decide
theorem okM_of {deps:List (ByteArray×Int)} {l:List FieldD} (h:∀ f∈l,OkV deps l f) (ht:∀ f∈l,f.terms.length≤1048576) {sp:List (ByteArray×Int×Int)} (hb:BSp sp):OkM sp l :=
 ⟨fun f hf=>(h f hf).okS (ht f hf) hb,fun f hf k=>by have:=padB_bits ((h f hf).pad k);omega,fun f hf k=>(h f hf).span hb k⟩
def AllV (l:List MsgD):Prop:=∀ k m,l[k]?=some m→(∀ f∈m.fields,OkV (depsOf (l.take k)) m.fields f)∧1≤m.fields.length∧m.fields.length≤40
theorem Fine.allV {l:List MsgD} (h:Fine l):AllV l:=by
 intro k m hk
 obtain ⟨_,_,h3,h4,_⟩:=next_parts (h.next hk)
 have hF:FineF (depsOf (l.take k)) (strsOf (l.take k)) m.fields:=fun j f hj=>by simpa using fields_all _ _ h4 j f hj
 refine ⟨fun f hf=>?_,h3⟩
 obtain ⟨j,hj⟩:=List.getElem?_of_mem hf
 exact okV_of (ds_of _) hF.dist (fun g hg=>List.mem_of_mem_take hg) (hF j f hj)
theorem spans_in {l:List MsgD} (h:AllV l) (ht:∀ m∈l,∀ f∈m.fields,f.terms.length≤1048576):∀ k,k≤l.length→BSp (spansD (l.take k))
 | 0,_=>fun p hp=>by simp [spansD] at hp
 | k+1,hk=>by
  obtain ⟨m,hm⟩:=getElem?_lt (l:=l) (k:=k) (by omega)
  rw [spansD_step hm]
  intro p hp
  rcases List.mem_append.1 hp with hp | hp
  · exact spans_in h ht k (by omega) p hp
  · simp only [List.mem_singleton] at hp
    subst hp
    have:=posS_in (okM_of (h k m hm).1 (ht m (List.mem_of_getElem? hm)) (spans_in h ht k (by omega))) m.fields.length
    exact ⟨this.1.1,this.1.2,this.2⟩
theorem okD_of {l:List MsgD} (h:AllV l) (ht:∀ m∈l,∀ f∈m.fields,f.terms.length≤1048576):OkD l:=fun k m hm =>
 ⟨okM_of (h k m hm).1 (ht m (List.mem_of_getElem? hm)) (spans_in h ht k (Nat.le_of_lt (List.getElem?_eq_some_iff.1 hm).1)),(h k m hm).2.2⟩
theorem spans_full {l:List MsgD} (h:AllV l) (ht:∀ m∈l,∀ f∈m.fields,f.terms.length≤1048576):BSp (spansD l):=by simpa using spans_in h ht l.length (Nat.le_refl _)
theorem sound_of (d:DefD) (ht:calm d):Sound d :=
 have hc:∀ m∈d.msgs,∀ f∈m.fields,f.terms.length≤1048576:=fun m hm=>(ht m hm).2
 ⟨fun h=>okD_of (check_fine h).2.2.1.allV hc,fun h m hm=>by
  have hV:=(check_fine h).2.2.1.allV
  obtain ⟨k,hk⟩:=List.getElem?_of_mem hm
  exact okM_of (hV k m hk).1 (hc m hm) (spans_full hV hc)⟩
theorem numR_step {l:List FieldD} {k:Nat} {f:FieldD} (h:l[k]?=some f):numR (l.take (k+1))=numR (l.take k)++if numberB f then [(f.name,f.low,highOf f)] else []:=by
 unfold numR
 rw [take_snoc h,List.filter_append,List.map_append]
 cases hn:numberB f<;>simp [hn]
theorem rranges_ret (w0:World) (v:Value) (m:MsgD) (hm:MsgVal w0 v m) (hlm:m.fields.length≤1048576):Ret Pg 73 #[v] w0 fun r w'=>RansOf w' r (numR m.fields)∧Ext w0 w':=by
 obtain ⟨fv,rfl,hF⟩:=hm
 have hf1:=SliceOf.oneCell hF
 obtain ⟨A,c,rfl,hlc,hcm,hlm',hel⟩:=SliceOf.open hF
 refine n48s (R:=retR _) ?_;unfold n48
 simp (disch:=try exact DI) only [↓PR,QR,simprocAttr]
 have hBW:=ElemAt.new (w:=w0) (msgCells m (.slice A m.fields.length c)) (44)
 have eW:Ext w0 (w0.alloc (Obj.cells (List.toArray (msgCells m (.slice A m.fields.length c))) (44))):=(Ext.refl _).alloc _
 generalize (w0.alloc (Obj.cells (List.toArray (msgCells m (.slice A m.fields.length c))) (44)))=W at hBW eW ⊢
 refine loop2_intro (fun a b w'=>∃ (k:Nat) (sv:Value),a=sv∧b = .int .i64 k∧k≤m.fields.length∧Ext W w'∧OwnE w' W.heap.size 149 3 ranCells sv (numR (m.fields.take k))) (fun _ b _=>m.fields.length - (intOf b).toNat) ⟨0,_,rfl,rfl,by omega,Ext.refl _,OwnE.nil _ _ _ _ _⟩ ?_
 rintro sv _ w ⟨k,_,rfl,rfl,hk,e,hO⟩
 have hcW:=hBW.c2 e
 have E:=eW.trans e
 unfold n48c5
 rcases drop_cases hk with ⟨f,hx,hdr,hlt,hdec⟩ | ⟨hk,hdr,hdec⟩
 · obtain ⟨b,o,cs,rfl,_,hA,hE⟩:=hel k f hx
   obtain ⟨tv,cv,rfl,hT,hC,ht1,hc1⟩:=hE.op
   have hcA:=hA.c15 E
   unfold n48c4
   simp (disch:=try exact DI) only [↓PR,QR,simprocAttr,hdec,hcW,hcA]
   refine zcr (rNumber_ret _ _ f ⟨tv,cv,rfl,hT.ext E,hC.ext E⟩) fun w1 e1=>?_
   have E1:=E.trans e1
   have hcW1:=hBW.c2 (e.trans e1)
   have hcA1:=hA.c15 E1
   unfold n48c3
   cases hn:numberB f with
   | false =>
    simp (disch:=try exact DI) only [↓PR,QR,simprocAttr]
    refine ⟨⟨k+1,sv,rfl,rfl,by omega,e.trans e1,?_⟩,meas_lt hlt⟩
    rw [numR_step hx,hn]
    simpa using hO.ext e1
   | true =>
    simp (disch:=try exact DI) only [↓PR,QR,simprocAttr]
    unfold n48c2
    simp (disch:=try exact DI) only [↓PR,QR,simprocAttr,hcW1,hcA1]
    refine zcr (rRange_ret _ _ f ⟨tv,cv,rfl,hT.ext E1,hC.ext E1⟩) fun w2 e2=>?_
    have E2:=E1.trans e2
    have f2:=(e.trans e1).trans e2
    have hcW2:=hBW.c2 f2
    have hcA2:=hA.c15 E2
    unfold n48c1
    simp (disch:=try exact DI) only [↓PR,QR,simprocAttr,hcW2,hcA2]
    have hO4:=hO.ext ((e1.trans e2).alloc (Obj.cells #[.string f.name,.int .i64 f.low,.int .i64 (highOf f)] 149))
    have hlk:(numR (m.fields.take k)).length≤k:=by
     unfold numR
     rw [List.length_map]
     exact Nat.le_trans (List.length_filter_le _ _) (by rw [List.length_take];omega)
    have sw:=f2.size
    refine append_one Tryz.underlying111 ty149 by149 rfl (by decide) (fun _=>rfl) (f.name,f.low,highOf f) (by simp only [ranCells,List.forall_mem_cons];exact ⟨rfl,rfl,rfl,by simp⟩) hO4 (ElemAt.new _ _) (by simp only [World.size_alloc];omega) (by omega) ?_
    intro v' w' hO' hext
    have eN:Ext W w':=hext W (f2.alloc _) (Nat.le_refl _)
    simp (disch:=try exact DI) only [↓PR,QR,simprocAttr]
    refine ⟨⟨k+1,v',rfl,rfl,by omega,eN,?_⟩,meas_lt hlt⟩
    rw [numR_step hx,hn]
    exact hO'
 · subst hk
   rw [List.take_length] at hO
   simp (disch:=try exact DI) only [↓PR,QR,simprocAttr,hdec,hcW]
   exact ⟨hO.slice (E:=ERan) (fun _=>rfl) (fun _ _=>rfl),E⟩
def n41c1 (t8 t53:Value) (R:RT) (w:World):Prop :=
 B0 .mul 3 true (.int .i64 8) t53 R w fun t54 w =>
 opV Pg (Instr.build 72 #[(0,t54),(1,(.int .i64 40))]) (panK R) w fun t55 w =>
 opU Pg (Instr.storeAt 72 t8 t55) (panK R) w fun w =>
 qW Pg 72 t8 w fun r0 =>
 R (.returned r0) w
def n41c2 (t8 t59 t62:Value) (C3:World→Prop) (R:RT) (w:World):Prop :=
 qV Pg C3 (binS .mul 3 true (.int .i64 8) t62) fun t63 =>
 qV Pg C3 (Instr.build 72 #[(0,t59),(1,t63)]) fun t64 =>
 opU Pg (Instr.storeAt 72 t8 t64) (panK R) w fun w =>
 turnK w fun C4 w =>
 qW Pg 72 t8 w fun r0 =>
 R (.returned r0) w
def n41c3 (t8 t9:Value) (C3:World→Prop) (R:RT) (w:World):Prop :=
 qV Pg C3 (Instr.fieldAt 38 t9 5) fun t56 =>
 qV Pg C3 (Instr.loadAt 3 t56) fun t57 =>
 qV Pg C3 (Instr.fieldAt 38 t9 6) fun t60 =>
 qV Pg C3 (Instr.loadAt 3 t60) fun t61 =>
 C0 75 #[t57] R w fun t58 w =>
 C3 w∧(
 qV Pg C3 (binS .mul 3 true (.int .i64 8) t58) fun t59 =>
 C0 75 #[t61] R w fun t62 w =>
 C3 w∧(
 n41c2 t8 t59 t62 C3 R w))
def n41c4 (t8 t9:Value) (R:RT) (w:World):Prop :=
 F0 38 t9 5 R w fun t51 w =>
 L0 3 t51 R w fun t52 w =>
 C0 75 #[t52] R w fun t53 w =>
 n41c1 t8 t53 R w
def n41c5 (t8 t94 t101:Value) (C6:World→Prop) (R:RT) (w:World):Prop :=
 qV Pg C6 (Instr.build 72 #[(0,t94),(1,t101)]) fun t102 =>
 opU Pg (Instr.storeAt 72 t8 t102) (panK R) w fun w =>
 turnK w fun C7 w =>
 qW Pg 72 t8 w fun r0 =>
 R (.returned r0) w
def n41c6 (t3 t8 t28 t29 t36:Value) (C6:World→Prop) (R:RT) (w:World):Prop :=
 qV Pg C6 (Instr.indexAt 70 t3 t36) fun t91 =>
 qV Pg C6 (Instr.fieldAt 72 t91 0) fun t92 =>
 qV Pg C6 (Instr.loadAt 3 t92) fun t93 =>
 qV Pg C6 (Instr.indexAt 70 t3 t36) fun t98 =>
 qV Pg C6 (Instr.fieldAt 72 t98 1) fun t99 =>
 qV Pg C6 (Instr.loadAt 3 t99) fun t100 =>
 C0 76 #[t28,t93] R w fun t94 w =>
 C6 w∧(
 C0 76 #[t29,t100] R w fun t101 w =>
 C6 w∧(
 n41c5 t8 t94 t101 C6 R w))
def n41c7 (t14 t15 t16:Value) (next8:KV) (R:RT) (w:World):Prop :=
 F0 72 t14 0 R w fun t134 w =>
 L0 3 t134 R w fun t135 w =>
 F0 72 t16 0 R w fun t136 w =>
 L0 3 t136 R w fun t137 w =>
 opV Pg (Builtin.min_ #[3,3] 3 #[t135,t137]) (panK R) w fun t138 w =>
 F0 72 t14 1 R w fun t139 w =>
 L0 3 t139 R w fun t140 w =>
 F0 72 t16 1 R w fun t141 w =>
 L0 3 t141 R w fun t142 w =>
 opV Pg (Builtin.max_ #[3,3] 3 #[t140,t142]) (panK R) w fun t143 w =>
 opV Pg (Instr.build 72 #[(0,t138),(1,t143)]) (panK R) w fun t144 w =>
 opU Pg (Instr.storeAt 72 t14 t144) (panK R) w fun w =>
 B0 .add 3 true t15 (.int .i64 1) R w fun t117 w =>
 next8 t117 w
def n41c8 (t14 t15 t16:Value) (next8:KV) (R:RT) (w:World):Prop :=
 B0 .eql 3 true t15 (.int .i64 0) R w fun t132 w =>
 joinK (fun (w:World) =>
 n41c7 t14 t15 t16 next8 R w) fun K11 =>
 condP t132 (
 L0 72 t16 R w fun t133 w =>
 opU Pg (Instr.storeAt 72 t14 t133) (panK R) w fun w =>
 K11 w) (
 K11 w)
def n41c9 (t3 t128:Value) (C12:World→Prop) (K10:KV) (R:RT) (w:World):Prop :=
 qV Pg C12 (Instr.indexAt 70 t3 t128) fun t129 =>
 qV Pg C12 (Instr.loadAt 72 t129) fun t130 =>
 opV Pg (Instr.alloc 72 true (.tuple #[])) (panK R) w fun t16 w =>
 C12 w∧(
 opU Pg (Instr.storeAt 72 t16 t130) (panK R) w fun w =>
 turnK w fun C13 w =>
 K10 t16 w)
def n41c10 (t3 t16 t128:Value) (C14:World→Prop) (K10:KV) (R:RT) (w:World):Prop :=
 qV Pg C14 (Instr.indexAt 70 t3 t128) fun t129 =>
 qV Pg C14 (Instr.loadAt 72 t129) fun t130 =>
 opU Pg (Instr.storeAt 72 t16 t130) (panK R) w fun w =>
 turnK w fun C15 w =>
 K10 t16 w
def n41c11 (t3 t4 t9 t14 t15:Value) (C9:World→Prop) (next8:KV) (R:RT) (w:World):Prop :=
 qV Pg C9 (Instr.loadAt 24 t4) fun t119 =>
 qV Pg C9 (Instr.fieldAt 38 t9 11) fun t120 =>
 qV Pg C9 (Instr.loadAt 36 t120) fun t121 =>
 qV Pg C9 (Instr.indexAt 36 t121 t15) fun t123 =>
 qV Pg C9 (Instr.fieldAt 116 t123 2) fun t124 =>
 qV Pg C9 (Instr.loadAt 9 t124) fun t125 =>
 qV Pg C9 (Builtin.len_ #[70] 3 #[t3]) fun t127 =>
 joinK (fun (t16:Value) (w:World) =>
 n41c8 t14 t15 t16 next8 R w) fun K10 =>
 (
 C0 74 #[t119,t125,t127] R w fun t128 w =>
 narrowK C9 w fun C12 w =>
 n41c9 t3 t128 C12 K10 R w)∧(
 opV Pg (Instr.alloc 72 true (.tuple #[])) (panK R) w fun t16 w =>
 C9 w∧(
 C0 74 #[t119,t125,t127] R w fun t128 w =>
 narrowK C9 w fun C14 w =>
 n41c10 t3 t16 t128 C14 K10 R w))
def n41c12 (t3 t4 t8 t9 t14 t15:Value) (next8:KV) (R:RT) (w:World):Prop :=
 F0 38 t9 11 R w fun t112 w =>
 L0 36 t112 R w fun t113 w =>
 opV Pg (Builtin.len_ #[36] 3 #[t113]) (panK R) w fun t114 w =>
 B0 .lss 3 false t15 t114 R w fun t115 w =>
 condP t115 (
 drawK w fun C9 w =>
 n41c11 t3 t4 t9 t14 t15 C9 next8 R w) (
 L0 72 t14 R w fun t145 w =>
 opU Pg (Instr.storeAt 72 t8 t145) (panK R) w fun w =>
 qW Pg 72 t8 w fun r0 =>
 R (.returned r0) w)
def n41c13 (t8:Value) (R:RT) (w:World):Prop :=
 opV Pg (Instr.build 72 #[(0,(.int .i64 32)),(1,(.int .i64 32))]) (panK R) w fun t155 w =>
 opU Pg (Instr.storeAt 72 t8 t155) (panK R) w fun w =>
 qW Pg 72 t8 w fun r0 =>
 R (.returned r0) w
def n41c14 (t8:Value) (R:RT) (w:World):Prop :=
 opV Pg (Instr.build 72 #[(0,(.int .i64 16)),(1,(.int .i64 16))]) (panK R) w fun t156 w =>
 opU Pg (Instr.storeAt 72 t8 t156) (panK R) w fun w =>
 qW Pg 72 t8 w fun r0 =>
 R (.returned r0) w
def n41c15 (t8 t9:Value) (R:RT) (w:World):Prop :=
 F0 38 t9 2 R w fun t148 w =>
 L0 3 t148 R w fun t149 w =>
 B0 .sub 3 true t149 (.int .i64 1) R w fun t150 w =>
 opV Pg (Instr.build 72 #[(0,(.int .i64 0)),(1,t150)]) (panK R) w fun t151 w =>
 opU Pg (Instr.storeAt 72 t8 t151) (panK R) w fun w =>
 qW Pg 72 t8 w fun r0 =>
 R (.returned r0) w
def n41c16 (t8 t9:Value) (R:RT) (w:World):Prop :=
 F0 38 t9 12 R w fun t152 w =>
 L0 3 t152 R w fun t153 w =>
 B0 .eql 3 true t153 (.int .i64 3) R w fun t154 w =>
 condP t154 (
 n41c13 t8 R w) (
 n41c14 t8 R w)
def n41c17 (t3 t8 t36:Value) (R:RT) (w:World):Prop :=
 X0 70 t3 t36 R w fun t107 w =>
 L0 72 t107 R w fun t108 w =>
 opU Pg (Instr.storeAt 72 t8 t108) (panK R) w fun w =>
 qW Pg 72 t8 w fun r0 =>
 R (.returned r0) w
def n41c18 (t3 t4 t8 t9 t38:Value) (R:RT) (w:World):Prop :=
 B0 .eql 3 true t38 (.int .i64 9) R w fun t110 w =>
 condP t110 (
 opV Pg (Instr.alloc 72 true (.tuple #[])) (panK R) w fun t14 w =>
 loop1 (fun t15 w next8 =>
 n41c12 t3 t4 t8 t9 t14 t15 next8 R w) (.int .i64 0) w) (
 B0 .eql 3 true t38 (.int .i64 10) R w fun t147 w =>
 condP t147 (
 n41c15 t8 t9 R w) (
 n41c16 t8 t9 R w))
def n41c19 (t8 t9:Value) (R:RT) (w:World):Prop :=
 F0 38 t9 6 R w fun t82 w =>
 L0 3 t82 R w fun t83 w =>
 B0 .mul 3 true (.int .i64 8) t83 R w fun t84 w =>
 opV Pg (Instr.build 72 #[(0,(.int .i64 16)),(1,t84)]) (panK R) w fun t85 w =>
 opU Pg (Instr.storeAt 72 t8 t85) (panK R) w fun w =>
 qW Pg 72 t8 w fun r0 =>
 R (.returned r0) w
def n41c20 (t3 t4 t8 t9 t28 t29 t36 t38:Value) (R:RT) (w:World):Prop :=
 B0 .eql 3 true t38 (.int .i64 7) R w fun t87 w =>
 condP t87 (
 drawK w fun C6 w =>
 n41c6 t3 t8 t28 t29 t36 C6 R w) (
 B0 .eql 3 true t38 (.int .i64 8) R w fun t104 w =>
 condP t104 (
 n41c17 t3 t8 t36 R w) (
 n41c18 t3 t4 t8 t9 t38 R w))
def n41c21 (t8 t9:Value) (R:RT) (w:World):Prop :=
 F0 38 t9 6 R w fun t75 w =>
 L0 3 t75 R w fun t76 w =>
 B0 .mul 3 true (.int .i64 8) t76 R w fun t77 w =>
 B0 .add 3 true t77 (.int .i64 8) R w fun t78 w =>
 opV Pg (Instr.build 72 #[(0,(.int .i64 8)),(1,t78)]) (panK R) w fun t79 w =>
 opU Pg (Instr.storeAt 72 t8 t79) (panK R) w fun w =>
 qW Pg 72 t8 w fun r0 =>
 R (.returned r0) w
def n41c22 (t8 t28 t29:Value) (R:RT) (w:World):Prop :=
 B0 .mul 3 true (.int .i64 8) t28 R w fun t69 w =>
 B0 .mul 3 true (.int .i64 8) t29 R w fun t71 w =>
 opV Pg (Instr.build 72 #[(0,t69),(1,t71)]) (panK R) w fun t72 w =>
 opU Pg (Instr.storeAt 72 t8 t72) (panK R) w fun w =>
 qW Pg 72 t8 w fun r0 =>
 R (.returned r0) w
def n41c23 (t3 t4 t8 t9 t28 t29 t36 t38:Value) (R:RT) (w:World):Prop :=
 B0 .eql 3 true t38 (.int .i64 5) R w fun t74 w =>
 condP t74 (
 n41c21 t8 t9 R w) (
 B0 .eql 3 true t38 (.int .i64 6) R w fun t81 w =>
 condP t81 (
 n41c19 t8 t9 R w) (
 n41c20 t3 t4 t8 t9 t28 t29 t36 t38 R w))
def n41c24 (t8 t9:Value) (R:RT) (w:World):Prop :=
 F0 38 t9 4 R w fun t49 w =>
 L0 4 t49 R w fun t50 w =>
 condP t50 (
 n41c4 t8 t9 R w) (
 drawK w fun C3 w =>
 n41c3 t8 t9 C3 R w)
def n41c25 (t3 t4 t8 t9 t28 t29 t36 t38:Value) (R:RT) (w:World):Prop :=
 B0 .eql 3 true t38 (.int .i64 4) R w fun t66 w =>
 joinK (fun (t65:Value) (w:World) =>
 condP t65 (
 n41c22 t8 t28 t29 R w) (
 n41c23 t3 t4 t8 t9 t28 t29 t36 t38 R w)) fun K5 =>
 condP t66 (
 K5 t66 w) (
 B0 .eql 3 true t38 (.int .i64 12) R w fun t67 w =>
 K5 t67 w)
def n41c26 (t8 t9:Value) (R:RT) (w:World):Prop :=
 F0 38 t9 2 R w fun t42 w =>
 L0 3 t42 R w fun t43 w =>
 F0 38 t9 2 R w fun t44 w =>
 L0 3 t44 R w fun t45 w =>
 opV Pg (Instr.build 72 #[(0,t43),(1,t45)]) (panK R) w fun t46 w =>
 opU Pg (Instr.storeAt 72 t8 t46) (panK R) w fun w =>
 qW Pg 72 t8 w fun r0 =>
 R (.returned r0) w
def n41c27 (t3 t4 t8 t9 t28 t29 t36 t38 t39:Value) (R:RT) (w:World):Prop :=
 condP t39 (
 n41c26 t8 t9 R w) (
 B0 .eql 3 true t38 (.int .i64 3) R w fun t48 w =>
 condP t48 (
 n41c24 t8 t9 R w) (
 n41c25 t3 t4 t8 t9 t28 t29 t36 t38 R w))
def n41c28 (t3 t4 t8 t9 t28 t29 t36:Value) (R:RT) (w:World):Prop :=
 F0 38 t9 1 R w fun t37 w =>
 L0 32 t37 R w fun t38 w =>
 B0 .eql 3 true t38 (.int .i64 1) R w fun t40 w =>
 joinK (fun (t39:Value) (w:World) =>
 n41c27 t3 t4 t8 t9 t28 t29 t36 t38 t39 R w) fun K2 =>
 condP t40 (
 K2 t40 w) (
 B0 .eql 3 true t38 (.int .i64 2) R w fun t41 w =>
 K2 t41 w)
def n41c29 (t3 t4 t8 t9 t27:Value) (C1:World→Prop) (R:RT) (w:World):Prop :=
 qV Pg C1 (Instr.extract t27 0) fun t28 =>
 qV Pg C1 (Instr.extract t27 1) fun t29 =>
 qV Pg C1 (Instr.extract t27 2) fun t30 =>
 L0 24 t4 R w fun t31 w =>
 F0 38 t9 8 R w fun t32 w =>
 L0 9 t32 R w fun t33 w =>
 opV Pg (Builtin.len_ #[70] 3 #[t3]) (panK R) w fun t35 w =>
 C0 74 #[t31,t33,t35] R w fun t36 w =>
 n41c28 t3 t4 t8 t9 t28 t29 t36 R w
def n41c30 (t3 t4 t5 t8 t9:Value) (C1:World→Prop) (R:RT) (w:World):Prop :=
 qV Pg C1 (Instr.fieldAt 38 t9 7) fun t23 =>
 qV Pg C1 (Instr.loadAt 35 t23) fun t24 =>
 qV Pg C1 (Instr.loadAt 44 t5) fun t25 =>
 C0 73 #[t25] R w fun t26 w =>
 C1 w∧(
 C0 72 #[t24,t26] R w fun t27 w =>
 C1 w∧(
 n41c29 t3 t4 t8 t9 t27 C1 R w))
def n41 (t0 t1 t2 t3:Value) (R:RT) (w:World):Prop :=
 opV Pg (Instr.box 24 t0) (panK R) w fun t4 w =>
 opV Pg (Instr.box 44 t1) (panK R) w fun t5 w =>
 opV Pg (Instr.alloc 72 true (.tuple #[])) (panK R) w fun t8 w =>
 F0 44 t5 1 R w fun t17 w =>
 L0 42 t17 R w fun t18 w =>
 X0 42 t18 t2 R w fun t20 w =>
 L0 38 t20 R w fun t21 w =>
 opV Pg (Instr.alloc 38 true (.tuple #[])) (panK R) w fun t9 w =>
 opU Pg (Instr.storeAt 38 t9 t21) (panK R) w fun w =>
 drawK w fun C1 w =>
 n41c30 t3 t4 t5 t8 t9 C1 R w
set_option maxHeartbeats 40000000 in
theorem n41s {t0 t1 t2 t3:Value} {R:RT} {w:World} (h:n41 t0 t1 t2 t3 R w):Calls Pg 38 #[t0,t1,t2,t3] w R:=by
 refine yD Tryz.func38 ?_
 refine zs<|zr<|yv h fun _ w h=>yv h fun _ w h=>yv h fun _ w h=>zn<|zk<|zs<|zr<|yv h fun _ w h=>yv h fun _ w h=>zm<|yv h fun _ w h=>yv h fun _ w h=>yv h fun _ w h=>?_
 refine yu h fun w h=>zn<|zk<|zs<|yh [10,11,12,22,23,24,25,26,27,28,29,30] h fun C hC h=>ye 0 hC h fun _ h=>?_
 refine ye 1 hC h fun _ h=>?_
 refine ye 2 hC h fun _ h=>?_
 refine yo 3 ?_
 refine yc h c73 fun _ w h=>zn ?_
 obtain ⟨hC,h⟩:=h
 refine ⟨hC,?_⟩
 refine yo 4 ?_
 refine yc h c72 fun _ w h=>zn ?_
 obtain ⟨hC,h⟩:=h
 refine ⟨hC,?_⟩
 refine yw 5 hC ?_
 refine ye 6 hC h fun _ h=>?_
 refine ye 7 hC h fun _ h=>?_
 refine ye 8 hC h fun _ h=>?_
 refine yw 9 hC ?_
 refine yw 10 hC ?_
 refine yw 11 hC ?_
 refine yz<|zk<|zs<|zr<|yv h fun _ w h=>yv h fun _ w h=>yv h fun _ w h=>zm<|yx h fun _ w h=>yc h c74 fun _ w h=>zm<|zn<|zk<|zs<|zs ?_
 refine zr<|yv h fun _ w h=>yv h fun _ w h=>zn<|zk<|sim_block<|zs<|zs<|zr<|yb h fun _ w h=>zm<|zn<|zk<|yJ1 [39,41] 39 h (fun _ _ hkK2 h=>?_) fun σ w h=>?_
 · refine yC h (fun h=>?_) fun h=>?_
   · refine sim_skip<|zk ?_
     exact zt hkK2 h
   refine zr<|yb h fun _ w h=>zm<|zn<|zk ?_
   exact zt hkK2 h
 refine zk<|yC h (fun h=>zs<|zr<|yv h fun _ w h=>yv h fun _ w h=>yv h fun _ w h=>yv h fun _ w h=>yB h fun _ w h=>yu h fun w h=>zn<|zk<|sim_ret<|sim_block_ret<|sim_then_ret<|body_retC rfl rfl h) fun h=>zs<|zr<|yb h fun _ w h=>zm<|zn<|zk<|yC h (fun h=>?_) fun h=>?_
 · refine zs<|zs<|zr<|yv h fun _ w h=>yv h fun _ w h=>zn<|zk<|yC h (fun h=>zs<|zr<|yv h fun _ w h=>yv h fun _ w h=>yc h c75 fun _ w h=>yb h fun _ w h=>yB h fun _ w h=>yu h fun w h=>zn<|zk<|sim_ret<|sim_then_ret<|sim_block_ret<|sim_then_ret<|body_retC rfl rfl h) fun h=>sim_skip<|zk<|zs<|yh [56,57,58,59,60,61,62,63,64] h fun C hC h=>ye 0 hC h fun _ h=>?_
   refine ye 1 hC h fun _ h=>?_
   refine ye 4 hC h fun _ h=>?_
   refine ye 5 hC h fun _ h=>?_
   refine yo 2 ?_
   refine yc h c75 fun _ w h=>zn ?_
   obtain ⟨hC,h⟩:=h
   refine ⟨hC,?_⟩
   refine ye 3 hC h fun _ h=>?_
   refine yo 6 ?_
   refine yc h c75 fun _ w h=>zn ?_
   obtain ⟨hC,h⟩:=h
   refine ⟨hC,?_⟩
   refine ye 7 hC h fun _ h=>?_
   refine ye 8 hC h fun _ h=>?_
   refine yq 9 1 ?_
   refine yu h fun w h=>zn ?_
   obtain ⟨C4,hC,h⟩:=h
   refine ⟨C4,hC,?_⟩
   exact yz<|zk<|sim_ret<|sim_block_ret<|sim_then_ret<|body_retC rfl rfl h
 refine zs<|zs<|zr<|yb h fun _ w h=>zm<|zn<|zk<|yJ1 [65,67] 65 h (fun _ _ hkK5 h=>?_) fun σ w h=>?_
 · refine yC h (fun h=>?_) fun h=>?_
   · refine sim_skip<|zk ?_
     exact zt hkK5 h
   refine zr<|yb h fun _ w h=>zm<|zn<|zk ?_
   exact zt hkK5 h
 refine zk<|yC h (fun h=>zs<|zr<|zm<|yb h fun _ w h=>zm<|yb h fun _ w h=>yB h fun _ w h=>yu h fun w h=>zn<|zk<|sim_ret<|sim_block_ret<|sim_then_ret<|body_retC rfl rfl h) fun h=>zs<|zr<|yb h fun _ w h=>zm<|zn<|zk<|yC h (fun h=>zs<|zr<|yv h fun _ w h=>yv h fun _ w h=>yb h fun _ w h=>yb h fun _ w h=>yB h fun _ w h=>yu h fun w h=>zn<|zk<|sim_ret<|sim_block_ret<|sim_then_ret<|body_retC rfl rfl h) fun h=>zs<|zr<|yb h fun _ w h=>zm ?_
 refine zn<|zk<|yC h (fun h=>zs<|zr<|yv h fun _ w h=>yv h fun _ w h=>yb h fun _ w h=>yB h fun _ w h=>yu h fun w h=>zn<|zk<|sim_ret<|sim_block_ret<|sim_then_ret<|body_retC rfl rfl h) fun h=>zs<|zr<|yb h fun _ w h=>zm<|zn<|zk<|yC h (fun h=>?_) fun h=>?_
 · refine zs<|yh [88,89,90,91,92,93,94,95,96,97,98,99,100,101,102] h fun C hC h=>yw 0 hC ?_
   refine yw 1 hC ?_
   refine yw 2 hC ?_
   refine ye 3 hC h fun _ h=>?_
   refine ye 4 hC h fun _ h=>?_
   refine ye 5 hC h fun _ h=>?_
   refine yw 7 hC ?_
   refine yw 8 hC ?_
   refine yw 9 hC ?_
   refine ye 10 hC h fun _ h=>?_
   refine ye 11 hC h fun _ h=>?_
   refine ye 12 hC h fun _ h=>?_
   refine yo 6 ?_
   refine yc h c76 fun _ w h=>zn ?_
   obtain ⟨hC,h⟩:=h
   refine ⟨hC,?_⟩
   refine yo 13 ?_
   refine yc h c76 fun _ w h=>zn ?_
   obtain ⟨hC,h⟩:=h
   refine ⟨hC,?_⟩
   refine ye 14 hC h fun _ h=>?_
   refine yq 15 1 ?_
   refine yu h fun w h=>zn ?_
   obtain ⟨C7,hC,h⟩:=h
   refine ⟨C7,hC,?_⟩
   exact yz<|zk<|sim_ret<|sim_block_ret<|sim_then_ret<|body_retC rfl rfl h
 refine zs<|zr<|yb h fun _ w h=>zm<|zn<|zk<|yC h (fun h=>zs<|zr<|zm<|zm<|yv h fun _ w h=>yv h fun _ w h=>yu h fun w h=>zn<|zk<|sim_ret<|sim_block_ret<|sim_then_ret<|body_retC rfl rfl h) fun h=>zs<|zr<|yb h fun _ w h=>zm<|zn<|zk<|yC h (fun h=>?_) fun h=>?_
 · refine zs<|zr<|yv h fun _ w h=>zn<|zk<|zs<|zs<|zr<|zm<|zn<|zk<|sim_block<|yl1 [15,16,111,112,113,114,115,116,117,118,119,120,121,122,123,124,125,126,127,128,129,130,131,132,133,134,135,136,137,138,139,140,141,142,143,144] 15 h fun σ w next h=>zs<|zs ?_
   refine zr<|zm<|yv h fun _ w h=>yv h fun _ w h=>yx h fun _ w h=>yb h fun _ w h=>zn<|zk<|yC h (fun h=>?_) fun h=>?_
   · refine sim_skip<|zk<|zs<|sim_block<|zs<|yh [16,118,119,120,121,122,123,124,125,126,127,128,129,130] h fun C hC h=>yw 0 hC ?_
     refine ye 1 hC h fun _ h=>?_
     refine ye 2 hC h fun _ h=>?_
     refine ye 3 hC h fun _ h=>?_
     refine yw 4 hC ?_
     refine ye 5 hC h fun _ h=>?_
     refine ye 6 hC h fun _ h=>?_
     refine ye 7 hC h fun _ h=>?_
     refine yw 8 hC ?_
     refine ye 9 hC h fun _ h=>?_
     refine joinK_elim h (fun K10 hK h=>?_)
     refine sim_dmeet [16,128,129,130] (fun ρ w=>K10 (ρ 16) w) (fun T hT=>?_) (fun σ w h=>?_)
     · obtain ⟨h0,h1⟩:=h
       refine sim_dloud2 10 13 rfl rfl (by kernel_rfl) (fun _ _=>rfl) (fun _ _=>rfl) ?_ ?_
       · have h:=h0
         refine yc h c74 fun _ w h=>zn ?_
         obtain ⟨C12,hs,hC,h⟩:=h
         refine ⟨C12,hs,hC,?_⟩
         refine ye 11 hC h fun _ h=>?_
         refine ye 12 hC h fun _ h=>?_
         refine yo 13 ?_
         refine yv h fun _ w h=>zn ?_
         obtain ⟨hC,h⟩:=h
         refine ⟨hC,?_⟩
         refine yq 14 1 ?_
         refine yu h fun w h=>zn ?_
         obtain ⟨C13,hC,h⟩:=h
         refine ⟨C13,hC,?_⟩
         refine yz ?_
         exact zt hT h
       have h:=h1
       refine yv h fun _ w h=>zn ?_
       obtain ⟨hC,h⟩:=h
       refine ⟨_,fun _ h=>h,hC,?_⟩
       refine yr 10 ?_
       refine yc h c74 fun _ w h=>zn ?_
       obtain ⟨C14,hs,hC,h⟩:=h
       refine ⟨C14,hs,hC,?_⟩
       refine ye 11 hC h fun _ h=>?_
       refine ye 12 hC h fun _ h=>?_
       refine yq 14 1 ?_
       refine yu h fun w h=>zn ?_
       obtain ⟨C15,hC,h⟩:=h
       refine ⟨C15,hC,?_⟩
       refine yz ?_
       exact zt hT h
     subst hK
     refine zk<|zs<|zs<|zr<|zm<|yb h fun _ w h=>zn<|zk<|yJ0 [133] h (fun _ _ hkK11 h=>?_) fun σ w h=>?_
     · refine yC h (fun h=>?_) fun h=>?_
       · refine zr<|yv h fun _ w h=>yu h fun w h=>zn<|zk ?_
         exact zt hkK11 h
       refine sim_skip<|zk ?_
       exact zt hkK11 h
     refine zk<|zr<|yv h fun _ w h=>yv h fun _ w h=>yv h fun _ w h=>yv h fun _ w h=>yx h fun _ w h=>yv h fun _ w h=>yv h fun _ w h=>yv h fun _ w h=>yv h fun _ w h=>yx h fun _ w h=>yB h fun _ w h=>yu h fun w h=>zn ?_
     exact sim_block_normal<|zk<|zr<|zm<|yb h fun _ w h=>zm<|zn<|zk<|⟨rfl,h⟩
   exact sim_exit<|sim_then_exit<|sim_then_exit<|sim_block_hit<|zk<|zs<|zr<|yv h fun _ w h=>yu h fun w h=>zn<|zk<|sim_ret<|sim_block_ret<|sim_then_ret<|body_retC rfl rfl h
 refine zs<|zr<|yb h fun _ w h=>zm<|zn<|zk<|yC h (fun h=>zs<|zr<|yv h fun _ w h=>yv h fun _ w h=>yb h fun _ w h=>yB h fun _ w h=>yu h fun w h=>zn<|zk<|sim_ret<|sim_block_ret<|sim_then_ret<|body_retC rfl rfl h) fun h=>sim_skip<|sim_block_normal<|zk<|zs<|zs<|zr<|yv h fun _ w h=>?_
 refine yv h fun _ w h=>yb h fun _ w h=>zn<|zk<|yC h (fun h=>zs<|zr<|yB h fun _ w h=>yu h fun w h=>zn<|zk<|sim_ret<|sim_then_ret<|body_retC rfl rfl h) fun h=>sim_skip<|zk<|zs<|zr<|yB h fun _ w h=>yu h fun w h=>zn<|zk<|sim_ret ?_
 exact body_retC rfl rfl h
def n134c1 (t4 t8:Value) (R:RT) (w:World):Prop :=
 opV Pg (Instr.extract t8 0) (panK R) w fun t9 w =>
 opV Pg (Instr.extract t8 1) (panK R) w fun t10 w =>
 opU Pg (Instr.storeAt 67 t4 t9) (panK R) w fun w =>
 qW Pg 67 t4 w fun r0 =>
 R (.returned (.tuple #[r0,t10])) w
def n134 (t0 t1:Value) (R:RT) (w:World):Prop :=
 opV Pg (Instr.box 24 t0) (panK R) w fun t2 w =>
 opV Pg (Instr.alloc 67 true (.tuple #[])) (panK R) w fun t4 w =>
 L0 24 t2 R w fun t6 w =>
 callK Pg 65 #[t6,t1,(.int .i64 0),(.func (.func 77) #[] #[])] (panK R) w fun t8 w =>
 n134c1 t4 t8 R w
theorem n134s {t0 t1:Value} {R:RT} {w:World} (h:n134 t0 t1 R w):Calls Pg 39 #[t0,t1] w R:=by
 refine yD Tryz.func39 ?_
 refine zs<|zr<|yv h fun _ w h=>yv h fun _ w h=>zm<|zn<|zk<|zs<|zr<|yv h fun _ w h=>zm<|yc h c65 fun _ w h=>yv h fun _ w h=>yv h fun _ w h=>yu h fun w h=>?_
 exact zm<|zn<|zk<|sim_ret<|body_retCT rfl rfl rfl h
def n132c1 (t4 t13 t14 t15:Value) (C1:World→Prop) (R:RT) (w:World):Prop :=
 callK Pg 78 #[t14,t15,(.func (.func 80) #[] #[])] (panK R) w fun t16 w =>
 C1 w∧(
 opU Pg (Instr.storeAt 67 t4 t16) (panK R) w fun w =>
 turnK w fun C2 w =>
 qW Pg 67 t4 w fun r0 =>
 R (.returned (.tuple #[r0,t13])) w)
def n132c2 (t4 t11:Value) (R:RT) (w:World):Prop :=
 opV Pg (Instr.extract t11 0) (panK R) w fun t12 w =>
 opV Pg (Instr.extract t11 1) (panK R) w fun t13 w =>
 opV Pg (Instr.alloc 67 true (.tuple #[])) (panK R) w fun t6 w =>
 opU Pg (Instr.storeAt 67 t6 t12) (panK R) w fun w =>
 drawK w fun C1 w =>
 qV Pg C1 (Instr.loadAt 67 t6) fun t14 =>
 C0 79 #[(.int .i64 8)] R w fun t15 w =>
 C1 w∧(
 n132c1 t4 t13 t14 t15 C1 R w)
def n132 (t0 t1:Value) (R:RT) (w:World):Prop :=
 opV Pg (Instr.box 24 t0) (panK R) w fun t2 w =>
 opV Pg (Instr.alloc 67 true (.tuple #[])) (panK R) w fun t4 w =>
 L0 24 t2 R w fun t9 w =>
 C0 39 #[t9,t1] R w fun t11 w =>
 n132c2 t4 t11 R w
theorem n132s {t0 t1:Value} {R:RT} {w:World} (h:n132 t0 t1 R w):Calls Pg 40 #[t0,t1] w R:=by
 refine yD Tryz.func40 ?_
 refine zs<|zr<|yv h fun _ w h=>yv h fun _ w h=>zm<|zn<|zk<|zs<|zr<|yv h fun _ w h=>zm<|yc h c39 fun _ w h=>zm<|yv h fun _ w h=>yv h fun _ w h=>?_
 refine yv h fun _ w h=>yu h fun w h=>zm<|zn<|zk<|zs<|yh [5,14,15,16,17] h fun C hC h=>ye 0 hC h fun _ h=>?_
 refine yw 3 hC ?_
 refine yo 1 ?_
 refine yc h c79 fun _ w h=>zn ?_
 obtain ⟨hC,h⟩:=h
 refine ⟨hC,?_⟩
 refine yo 2 ?_
 refine yc h c78 fun _ w h=>zn ?_
 obtain ⟨hC,h⟩:=h
 refine ⟨hC,?_⟩
 refine yq 4 1 ?_
 refine yu h fun w h=>zn ?_
 obtain ⟨C2,hC,h⟩:=h
 refine ⟨C2,hC,?_⟩
 refine yw 5 hC ?_
 exact yz<|zk<|sim_ret<|body_retCT rfl rfl rfl h
def n131c1 (t11:Value) (R:RT) (w:World):Prop :=
 opV Pg (Instr.extract t11 0) (panK R) w fun t12 w =>
 opV Pg (Instr.extract t11 1) (panK R) w fun t13 w =>
 opV Pg (Instr.alloc 67 true (.tuple #[])) (panK R) w fun t6 w =>
 opU Pg (Instr.storeAt 67 t6 t12) (panK R) w fun w =>
 B0 .eql 52 true t13 (.int .i64 0) R w fun t15 w =>
 joinK (fun (t21:Value) (w:World) =>
 pickK t15 t21 (.bool false) fun t22 =>
 R (.returned (.tuple #[t22,t13])) w) fun K1 =>
 guardP t15 true (
 F0 67 t6 0 R w fun t17 w =>
 L0 3 t17 R w fun t18 w =>
 F0 67 t6 1 R w fun t19 w =>
 L0 3 t19 R w fun t20 w =>
 B0 .eql 3 false t18 t20 R w fun t21 w =>
 K1 t21 w) (
 K1 undef w)
def n131 (t0 t1:Value) (R:RT) (w:World):Prop :=
 opV Pg (Instr.box 24 t0) (panK R) w fun t2 w =>
 L0 24 t2 R w fun t9 w =>
 C0 39 #[t9,t1] R w fun t11 w =>
 n131c1 t11 R w
theorem n131s {t0 t1:Value} {R:RT} {w:World} (h:n131 t0 t1 R w):Calls Pg 41 #[t0,t1] w R:=by
 refine yD Tryz.func41 ?_
 refine zs<|zr<|yv h fun _ w h=>zm<|zm<|zn<|zk<|zs<|zr<|yv h fun _ w h=>zm<|yc h c39 fun _ w h=>zm<|yv h fun _ w h=>yv h fun _ w h=>?_
 refine yv h fun _ w h=>yu h fun w h=>zm<|zn<|zk<|zs<|sim_regionG<|yG 3<|zm<|yb h fun _ w h=>zm<|zn<|yg1 5 2 true [17,18,19,20,21] 21 h (fun _ T hT h=>?_) fun σ w h=>?_
 · refine yv h fun _ w h=>yv h fun _ w h=>yv h fun _ w h=>yv h fun _ w h=>yb h fun _ w h=>zn ?_
   exact zt hT h
 exact yG 4<|yp h fun _ h=>zm<|zm<|zm<|zn<|sim_end<|zk<|sim_ret<|body_ret2 rfl rfl rfl h
abbrev spCells (p:ByteArray×Int×Int):List Value:=[.int .i64 p.2.1,.int .i64 p.2.2]
def ESp (_:World) (cs:List Value) (p:ByteArray×Int×Int):Prop:=cs=spCells p
theorem keptSp:Kept ESp:=fun _ _ _ _ _ h=>h
def SpsOf (w:World) (v:Value) (l:List (ByteArray×Int×Int)):Prop:=SliceOf w 2 ESp v l
theorem SpsOf.ext {w w':World} {v:Value} {l:List (ByteArray×Int×Int)} (h:SpsOf w v l) (e:Ext w w'):SpsOf w' v l:=SliceOf.ext keptSp h e
theorem keysP (l:List MsgD):(spansD l).map (·.1)=l.map (·.name):=by
 have key:∀ (l:List MsgD) (a:List (ByteArray×Int×Int)),(l.foldl stepM a).map (·.1)=a.map (·.1)++l.map (·.name):=by
  intro l
  induction l with
  | nil=>intro a;simp
  | cons m l ih=>intro a;rw [List.foldl_cons,ih,stepM,List.map_append];simp
 unfold spansD
 rw [key]
 rfl
theorem spansD_len (l:List MsgD):(spansD l).length=l.length:=by simpa using congrArg List.length (keysP l)
theorem ref_at {l:List MsgD} (hN:DistM l) {s:ByteArray} (h:(lastP (depsOf l) s).isSome=true):∃ j:Nat,idx (fun m=>decide (m.name=s)) l=j∧j < l.length∧(spansD l)[j]?=some (s,lookS (spansD l) s):=by
 rcases first_last (keysP l) hN s with ⟨_,h2⟩ | ⟨k,b,h1,h2,h3,h4⟩
 · obtain ⟨m,hm,hn⟩:=isD.1 h
   have hmem:s∈(spansD l).map (·.1):=by rw [keysP,← hn];exact List.mem_map.2 ⟨m,hm,rfl⟩
   obtain ⟨p,hp,hps⟩:=List.mem_map.1 hmem
   exact absurd hps (lastP_none.1 h2 p hp)
 · refine ⟨k,h1,h2,?_⟩
   have:lookS (spansD l) s=b:=by unfold lookS;rw [show lastR (spansD l) s=some b from h4];rfl
   rw [this]
   exact h3
theorem choice_step {sp:List (ByteArray×Int×Int)} {l:List CaseD} {k:Nat} {c:CaseD} (h:l[k]?=some c):choiceS sp (l.take (k+1))=stepC sp (if k=0 then lookS sp c.of else choiceS sp (l.take k)) c:=by
 cases l with
 | nil=>simp at h
 | cons x l =>
  cases k with
  | zero=>injection h with h;subst h;rfl
  | succ k =>
   rw [take_snoc h,if_neg (by omega)]
   show ((x::l.take k)++[c]).foldl (stepC sp) _=_
   rw [List.foldl_append]
   rfl
def RchI (w0:World) (d:DefD) (dv:Value) (f:FieldD) (tv cv:Value) (sp:List (ByteArray×Int×Int)) (p2 p8 p9 p14:Nat) (k:Nat) (w:World):Prop :=
 Ext w0 w∧w.heap[p2]?=some (.cells (defCells d dv).toArray 24 (0,0))∧w.heap[p9]?=some (.cells (fieldCells f tv cv).toArray 38 (0,0))∧(∃ y0 y1,w.heap[p8]?=some (.cells #[y0,y1] 72 (0,0)))∧w.heap[p14]?=some (.cells #[.int .i64 (choiceS sp (f.cases.take k)).1,.int .i64 (choiceS sp (f.cases.take k)).2] 72 (0,0))
section
variable {w0 W:World} {d:DefD} {dv tv cv bv:Value} {f:FieldD} {n p2 p8 p9 p14:Nat} {sp:List (ByteArray×Int×Int)}
theorem rch_tail {w w':World} {k p16:Nat} {x:CaseD} {R:RT} {next:Value→World→Prop} (hx:f.cases[k]?=some x) (hI:RchI w0 d dv f tv cv sp p2 p8 p9 p14 k w) (e:Ext w w') (x16:w'.heap[p16]?=some (.cells #[.int .i64 (lookS sp x.of).1,.int .i64 (lookS sp x.of).2] 72 (0,0))) (g16:w.heap.size≤p16)
 (hkb:k≤9223372036854775806) (g14:w0.heap.size≤p14) (h2:p2≠p14) (h9:p9≠p14) (h8:p8≠p14) (hn:∀ w',RchI w0 d dv f tv cv sp p2 p8 p9 p14 (k+1) w'→next (.int .i64 ((k:Int)+1)) w') :
 n41c8 (.pointer (some ⟨p14,0,none⟩)) (.int .i64 (k:Int)) (.pointer (some ⟨p16,0,none⟩)) next R w':=by
 obtain ⟨E,x2,x9,⟨y0,y1,x8⟩,x14⟩:=hI
 have hst:=choice_step (sp:=sp) hx
 have l0:=(Array.getElem?_eq_some_iff.1 x14).1
 have z14:=e.obj x14
 have l14:=(Array.getElem?_eq_some_iff.1 z14).1
 have n16:p16≠p14:=by omega
 have E':=E.trans e
 have z2:=e.obj x2
 have z9:=e.obj x9
 have z8:=e.obj x8
 have fin:∀ (w'':World) (q:Int×Int),q=(if k=0 then lookS sp x.of else choiceS sp (f.cases.take k))→Ext w0 w''→w''.heap[p2]?=some (.cells (defCells d dv).toArray 24 (0,0))→w''.heap[p9]?=some (.cells (fieldCells f tv cv).toArray 38 (0,0))→w''.heap[p8]?=some (.cells #[y0,y1] 72 (0,0))→w''.heap[p14]?=some (.cells #[.int .i64 q.1,.int .i64 q.2] 72 (0,0))→w''.heap[p16]?=some (.cells #[.int .i64 (lookS sp x.of).1,.int .i64 (lookS sp x.of).2] 72 (0,0)) →
  n41c7 (.pointer (some ⟨p14,0,none⟩)) (.int .i64 (k:Int)) (.pointer (some ⟨p16,0,none⟩)) next R w'':=by
  intro w'' q hq EE a2 a9 a8 a14 a16
  have l'':=(Array.getElem?_eq_some_iff.1 a14).1
  unfold n41c7
  simp (disch:=try exact DI) only [↓PR,QR,simprocAttr,(cells_of_heap a14).1,(cells_of_heap a14).2,(cells_of_heap a16).1]
  refine hn _ ⟨ee,?_,?_,⟨y0,y1,?_⟩,?_⟩
  · rw [heap_setE h2,heap_setE h2];exact a2
  · rw [heap_setE h9,heap_setE h9];exact a9
  · rw [heap_setE h8,heap_setE h8];exact a8
  · rw [hst,← hq]
    simpa [stepC,minI,maxI] using heap_set (o:=1) (heap_set (o:=0) a14 (.int .i64 (minI q.1 (lookS sp x.of).1))) (.int .i64 (maxI q.2 (lookS sp x.of).2))
 unfold n41c8
 by_cases hk:k=0
 · have d1:decide ((k:Int)=0)=true:=by simp [hk]
   have d2:((k:Int) == 0)=true:=by simp [hk]
   simp (disch:=try exact DI) only [↓PR,QR,simprocAttr,d1,d2,(cells_of_heap x16).1,(cells_of_heap z14).1,(cells_of_heap z14).2]
   refine fin _ (lookS sp x.of) (by rw [if_pos hk]) ee ?_ ?_ ?_ ?_ ?_
   · rw [heap_setE h2,heap_setE h2];exact z2
   · rw [heap_setE h9,heap_setE h9];exact z9
   · rw [heap_setE h8,heap_setE h8];exact z8
   · simpa using heap_set (o:=1) (heap_set (o:=0) z14 (.int .i64 (lookS sp x.of).1)) (.int .i64 (lookS sp x.of).2)
   · rw [heap_setE n16,heap_setE n16];exact x16
 · have d1:decide ((k:Int)=0)=false:=by simp [hk]
   have d2:((k:Int) == 0)=false:=by simp [hk]
   simp (disch:=try exact DI) only [↓PR,QR,simprocAttr,d1,d2]
   exact fin _ _ (by rw [if_neg hk]) E' z2 z9 z8 z14 x16
theorem rch_loop (hD:MsgsOf w0 dv d.msgs) (hC:CasesOf w0 cv f.cases) (hc1:cv.oneCell'=true) (ht1:tv.oneCell'=true) (hn:n≤d.msgs.length) (hsn:sp.length=n) (hB:SpsOf w0 bv sp) (hfind:∀ c∈f.cases,∃ j:Nat,idx (fun m=>decide (m.name=c.of)) (d.msgs.take n)=j∧j < n∧sp[j]?=some (c.of,lookS sp c.of))
 (h0:RchI w0 d dv f tv cv sp p2 p8 p9 p14 0 W) (g8:w0.heap.size≤p8) (g14:w0.heap.size≤p14) (h2:p2≠p14) (h9:p9≠p14) (h8:p8≠p14) :
 loop1 (fun t15 w next8=>n41c12 bv (.pointer (some ⟨p2,0,none⟩)) (.pointer (some ⟨p8,0,none⟩)) (.pointer (some ⟨p9,0,none⟩)) (.pointer (some ⟨p14,0,none⟩)) t15 next8 (retR fun r w'=>r=rangeVal (choiceS sp f.cases).1 (choiceS sp f.cases).2∧Ext w0 w') w) (.int .i64 0) W:=by
 have hd1:=SliceOf.oneCell hD
 obtain ⟨A,c,rfl,hlc,hcm,hlm,hel⟩:=SliceOf.open hC
 obtain ⟨A2,cB,rfl,hlc2,hcm2,hlm2,hel2⟩:=SliceOf.open hB
 rw [hsn] at hlc2 hlm2 ⊢
 refine loop1_intro (fun i w=>∃ k:Nat,i = .int .i64 k∧k≤f.cases.length∧RchI w0 d dv f tv (.slice A f.cases.length c) sp p2 p8 p9 p14 k w) (fun i _=>f.cases.length - (intOf i).toNat) ⟨0,rfl,by omega,h0⟩ ?_
 rintro _ w ⟨k,rfl,hk,hI⟩
 have hI0:=hI
 obtain ⟨E,x2,x9,⟨y0,y1,x8⟩,x14⟩:=hI
 have l14:=(Array.getElem?_eq_some_iff.1 x14).1
 unfold n41c12
 rcases drop_cases hk with ⟨x,hx,hd,hlt,hdec⟩ | ⟨hk,hd,hdec⟩
 · obtain ⟨b,o,cs,rfl,_,hA,rfl⟩:=hel k x hx
   obtain ⟨j,hj,hjn,hjs⟩:=hfind x (List.mem_of_getElem? hx)
   obtain ⟨bB,oB,csB,rfl,_,hAB,rfl⟩:=hel2 j _ hjs
   simp (disch:=try exact DI) only [↓PR,QR,simprocAttr,hdec,(cells_of_heap x9).1]
   refine drawK_intro ?_
   have eD:Ext w w.drew:=(Ext.refl _).wdrew
   have ED:=E.trans eD
   have sD:w.drew.heap.size=w.heap.size:=World.size_drew _
   have qi:∀ K:Value→Prop,qV Pg (EC w.drew) (Instr.indexAt 36 (.slice (some ⟨b,o,none⟩) f.cases.length c) (.int .i64 (k:Int))) K=K (.pointer (some ⟨b,o+k*3,none⟩)):=fun K=>qV_of fun QP w' k'=>op_indexN Tryz.underlying36 ty116 b o f.cases.length c .i64 k hlt
   unfold n41c11
   simp (disch:=try exact DI) only [↓PR,QR,simprocAttr,(cells_of_heap x9).1,(cells_of_heap x2).1,(cells_of_heap (eD.obj x9)).1,(cells_of_heap (eD.obj x2)).1,qi,hA.c3 ED,hA.c3 E]
   have q2:∀ (w1:World) (K:Value→Prop),Ext w.drew w1→qV Pg (EC w.drew) (Instr.indexAt 70 (.slice (some ⟨bB,oB,none⟩) n cB) (.int .i64 (j:Int))) K=K (.pointer (some ⟨bB,oB+j*2,none⟩)):=fun w1 K _=>qV_of fun QP w' k'=>op_indexN Tryz.underlying70 ty72 bB oB n cB .i64 j hjn
   have q3:∀ K:Value→Prop,qV Pg (EC w.drew) (Instr.loadAt 72 (.pointer (some ⟨bB,oB+j*2,none⟩))) K=K (rangeVal (lookS sp x.of).1 (lookS sp x.of).2):=fun K=>qV_eqC fun w' e=>run_of_op fun QP k=>op_load ((hAB.ext (ED.trans e)).loads ty72 rfl)
   refine ⟨?_,?_⟩
   · refine zcr (rFind_ret _ _ d x.of n ⟨_,rfl,hD.ext ED⟩ hn) fun w1 e1=>?_
     rw [hj]
     refine narrowK_same e1 ?_
     unfold n41c9
     simp (disch:=try exact DI) only [↓PR,QR,simprocAttr,q2,q3,hAB.c2 E]
     refine ⟨ee,turnK_intro ?_⟩
     simp (disch:=try exact DI) only [↓PR,QR,simprocAttr]
     have s1:=e1.size
     exact rch_tail hx hI0 ee (heap_new _ _ _) (by omega) (by omega) g14 h2 h9 h8 fun w' h=>⟨⟨k+1,rfl,by omega,h⟩,meas_lt hlt⟩
   · refine ⟨ee,callK_ret (rFind_ret _ _ d x.of n ⟨_,rfl,hD.ext ee⟩ hn) ?_⟩
     rintro _ w1 ⟨rfl,e1⟩
     rw [hj]
     have o16:(w.drew.alloc (.cells #[.int .i64 0,.int .i64 0] 72)).heap[w.heap.size]?=some (.cells #[.int .i64 0,.int .i64 0] 72 (0,0)):=by have:=heap_new w.drew #[.int .i64 0,.int .i64 0] 72;rwa [sD] at this
     have x16:=e1.obj o16
     have l16:=(Array.getElem?_eq_some_iff.1 x16).1
     refine narrowK_same ee ?_
     unfold n41c10
     simp (disch:=try exact DI) only [↓PR,QR,simprocAttr,q2,q3,hAB.c2 E,(cells_of_heap x16).1,(cells_of_heap x16).2]
     refine turnK_intro ?_
     simp (disch:=try exact DI) only [↓PR,QR,simprocAttr]
     exact rch_tail hx hI0 ee (by simpa using heap_set (o:=1) (heap_set (o:=0) x16 (.int .i64 (lookS sp x.of).1)) (.int .i64 (lookS sp x.of).2)) (by omega) (by omega) g14 h2 h9 h8 fun w' h=>⟨⟨k+1,rfl,by omega,h⟩,meas_lt hlt⟩
 · subst hk
   rw [List.take_length] at x14
   simp (disch:=try exact DI) only [↓PR,QR,simprocAttr,hdec,(cells_of_heap x9).1,(cells_of_heap x14).1,(cells_of_heap x8).1,(cells_of_heap x8).2]
   exact ⟨by first | trivial | rfl,ee⟩
end
theorem rspan_ret (w0:World) (v mv bv:Value) (d:DefD) (n i:Nat) (m:MsgD) (f:FieldD) (hd:DefVal w0 v d) (hm:MsgVal w0 mv m) (hi:m.fields[i]?=some f) (hlm:m.fields.length≤1048576) (hn:n≤d.msgs.length) (hN:DistM (d.msgs.take n)) (hB:SpsOf w0 bv (spansD (d.msgs.take n))) (hb:BSp (spansD (d.msgs.take n))) (hv:OkV (depsOf (d.msgs.take n)) m.fields f):Ret Pg 38 #[v,mv,.int .i64 (i:Int),bv] w0 fun r w'=>r=rangeVal (spanF (spansD (d.msgs.take n)) m.fields f).1 (spanF (spansD (d.msgs.take n)) m.fields f).2∧Ext w0 w':=by
 have htl:(d.msgs.take n).length=n:=by rw [List.length_take];omega
 have hsn:(spansD (d.msgs.take n)).length=n:=by rw [spansD_len,htl]
 have hfind:∀ s∈refsF f,∃ j:Nat,idx (fun m=>decide (m.name=s)) (d.msgs.take n)=j∧j < n∧(spansD (d.msgs.take n))[j]?=some (s,lookS (spansD (d.msgs.take n)) s):=fun s hs=>by have:=ref_at hN (hv.refs s hs);rwa [htl] at this
 generalize spansD (d.msgs.take n)=sp at hB hb hsn hfind ⊢
 obtain ⟨dv,rfl,hD⟩:=hd
 have hd1:=SliceOf.oneCell hD
 obtain ⟨fv,rfl,hF⟩:=hm
 have hF0:=hF
 have hf1:=SliceOf.oneCell hF
 have hB1:=SliceOf.oneCell hB
 obtain ⟨b,o,c,rfl,hlc,hcm,hlm',hil,hel⟩:=open1 hF hi
 obtain ⟨cs,_,hA,hE⟩:=hel i f hi
 obtain ⟨tv,cv,rfl,hT,hC,ht1,hc1⟩:=hE.op
 have hB0:=hB
 obtain ⟨AB,cB,rfl,hlcB,hcmB,hlmB,helB⟩:=SliceOf.open hB
 rw [hsn] at hlcB hlmB ⊢
 refine n41s (R:=retR _) ?_;unfold n41
 simp (disch:=try exact DI) only [↓PR,QR,simprocAttr,hA.c15 ((((Ext.refl w0).alloc _).alloc _).alloc _)]
 simp only [World.size_alloc]
 generalize hW:World.alloc (World.alloc (World.alloc (World.alloc w0 _) _) _) _=W
 have e0:Ext w0 W:=by rw [← hW];exact ee
 have o2:W.heap[w0.heap.size]?=some (.cells (defCells d dv).toArray 24 (0,0)):=by rw [← hW];simp (disch:=try exact DI) only [↓PR,QR,simprocAttr]
 have o3:W.heap[w0.heap.size+1]?=some (.cells (msgCells m (.slice (some ⟨b,o,none⟩) m.fields.length c)).toArray 44 (0,0)):=by rw [← hW];simp (disch:=try exact DI) only [↓PR,QR,simprocAttr]
 have o8:W.heap[w0.heap.size+1+1]?=some (.cells #[.int .i64 0,.int .i64 0] 72 (0,0)):=by rw [← hW];simp (disch:=try exact DI) only [↓PR,QR,simprocAttr]
 have o9:W.heap[w0.heap.size+1+1+1]?=some (.cells (fieldCells f tv cv).toArray 38 (0,0)):=by rw [← hW];simp (disch:=try exact DI) only [↓PR,QR,simprocAttr]
 clear hW
 generalize hp9:w0.heap.size+1+1+1=p9 at o9 ⊢
 generalize hp8:w0.heap.size+1+1=p8 at o8 hp9 ⊢
 generalize hp3:w0.heap.size+1=p3 at o3 hp8 ⊢
 generalize hp2:w0.heap.size=p2 at o2 hp3 ⊢
 refine drawK_intro ?_
 have eD:Ext W W.drew:=(Ext.refl _).wdrew
 have D:=e0.trans eD
 unfold n41c30
 simp (disch:=try exact DI) only [↓PR,QR,simprocAttr,(cells_of_heap o3).1,(cells_of_heap o9).1,(cells_of_heap (eD.obj o3)).1,(cells_of_heap (eD.obj o9)).1]
 refine callK_ret (rranges_ret _ _ m ⟨_,rfl,hF0.ext D⟩ hlm) ?_
 rintro rv w1 ⟨hR,e1⟩
 refine ⟨e1,?_⟩
 refine zcr (rInterval_ret _ _ rv f.base f.terms (numR m.fields) ⟨_,rfl,hT.ext (D.trans e1)⟩ hR hv.terms) fun w2 e2=>?_
 refine ⟨e1.trans e2,?_⟩
 have E2:=(D.trans e1).trans e2
 have f2:=eD.trans (e1.trans e2)
 unfold n41c29 ivOf
 simp (disch:=try exact DI) only [↓PR,QR,simprocAttr,(cells_of_heap (f2.obj o2)).1,(cells_of_heap (f2.obj o9)).1]
 refine zcr (rFind_ret _ _ d f.of n ⟨_,rfl,hD.ext E2⟩ hn) fun w e3=>?_
 have E:=E2.trans e3
 have f3:=f2.trans e3
 have x2:=f3.obj o2
 have x8:=f3.obj o8
 have x9:=f3.obj o9
 have l8:=(Array.getElem?_eq_some_iff.1 x8).1
 have l9:=(Array.getElem?_eq_some_iff.1 x9).1
 clear o2 o3 o8 o9
 unfold n41c28
 have hk':f.kind=1∨f.kind=2∨f.kind=3∨f.kind=4∨f.kind=5∨f.kind=6∨f.kind=7∨f.kind=8∨f.kind=9∨f.kind=10∨f.kind=11∨f.kind=12:=by have:=hv.kind;omega
 rcases hk' with k | k | k | k | k | k | k | k | k | k | k | k
 · rw [show spanF sp m.fields f=(f.bits,f.bits) by unfold spanF;simp [k]]
   simp (disch:=try exact DI) only [↓PR,QR,simprocAttr,k,↓n41c1,↓n41c2,↓n41c3,↓n41c4,↓n41c5,↓n41c6,↓n41c7,↓n41c8,↓n41c9,↓n41c10,↓n41c11,↓n41c12,↓n41c13,↓n41c14,↓n41c15,↓n41c16,↓n41c17,↓n41c18,↓n41c19,↓n41c20,↓n41c21,↓n41c22,↓n41c23,↓n41c24,↓n41c25,↓n41c26,↓n41c27,↓n41c28,↓n41c29,↓n41c30,(cells_of_heap x9).1,(cells_of_heap x8).1,(cells_of_heap x8).2]
   exact ⟨by first | trivial | rfl,ee⟩
 · rw [show spanF sp m.fields f=(f.bits,f.bits) by unfold spanF;simp [k]]
   simp (disch:=try exact DI) only [↓PR,QR,simprocAttr,k,↓n41c1,↓n41c2,↓n41c3,↓n41c4,↓n41c5,↓n41c6,↓n41c7,↓n41c8,↓n41c9,↓n41c10,↓n41c11,↓n41c12,↓n41c13,↓n41c14,↓n41c15,↓n41c16,↓n41c17,↓n41c18,↓n41c19,↓n41c20,↓n41c21,↓n41c22,↓n41c23,↓n41c24,↓n41c25,↓n41c26,↓n41c27,↓n41c28,↓n41c29,↓n41c30,(cells_of_heap x9).1,(cells_of_heap x8).1,(cells_of_heap x8).2]
   exact ⟨by first | trivial | rfl,ee⟩
 · rw [show spanF sp m.fields f=(((groupsP f.low.toNat:Nat):Int)*8,if f.loose then 40 else ((groupsP f.high.toNat:Nat):Int)*8) by unfold spanF;simp [k]]
   obtain ⟨n1,n2,n3⟩:=hv.num k
   obtain ⟨a,ha⟩:=Int.eq_ofNat_of_zero_le n1
   obtain ⟨z,hz⟩:=Int.eq_ofNat_of_zero_le (show 0≤f.high by omega)
   have ga:=groupsP_le 6 a (by omega) (by decide)
   have gz:=groupsP_le 6 z (by omega) (by decide)
   have wa:IntKind.i64.wrap (8*((groupsP a:Nat):Int))=((groupsP a:Nat):Int)*8:=by rw [wrap_ok (by omega) (by omega),Int.mul_comm]
   have wz:IntKind.i64.wrap (8*((groupsP z:Nat):Int))=((groupsP z:Nat):Int)*8:=by rw [wrap_ok (by omega) (by omega),Int.mul_comm]
   rw [ha,hz,Int.toNat_natCast,Int.toNat_natCast]
   cases hlo:f.loose with
   | true =>
    simp (disch:=try exact DI) only [↓PR,QR,simprocAttr,k,ha,hz,hlo,↓n41c1,↓n41c2,↓n41c3,↓n41c4,↓n41c5,↓n41c6,↓n41c7,↓n41c8,↓n41c9,↓n41c10,↓n41c11,↓n41c12,↓n41c13,↓n41c14,↓n41c15,↓n41c16,↓n41c17,↓n41c18,↓n41c19,↓n41c20,↓n41c21,↓n41c22,↓n41c23,↓n41c24,↓n41c25,↓n41c26,↓n41c27,↓n41c28,↓n41c29,↓n41c30,(cells_of_heap x9).1,(cells_of_heap x8).1,(cells_of_heap x8).2]
    refine zcr (rgroups_ret (a+1) a _ (by omega) (by omega)) fun w4 e4=>?_
    have y8:=e4.obj x8
    simp (disch:=try exact DI) only [↓PR,QR,simprocAttr,(cells_of_heap y8).1,(cells_of_heap y8).2,↓n41c1,↓n41c2,↓n41c3,↓n41c4,↓n41c5,↓n41c6,↓n41c7,↓n41c8,↓n41c9,↓n41c10,↓n41c11,↓n41c12,↓n41c13,↓n41c14,↓n41c15,↓n41c16,↓n41c17,↓n41c18,↓n41c19,↓n41c20,↓n41c21,↓n41c22,↓n41c23,↓n41c24,↓n41c25,↓n41c26,↓n41c27,↓n41c28,↓n41c29,↓n41c30,wa]
    exact ⟨by first | trivial | rfl,ee⟩
   | false =>
    simp (disch:=try exact DI) only [↓PR,QR,simprocAttr,k,ha,hz,hlo,↓n41c1,↓n41c2,↓n41c3,↓n41c4,↓n41c5,↓n41c6,↓n41c7,↓n41c8,↓n41c9,↓n41c10,↓n41c11,↓n41c12,↓n41c13,↓n41c14,↓n41c15,↓n41c16,↓n41c17,↓n41c18,↓n41c19,↓n41c20,↓n41c21,↓n41c22,↓n41c23,↓n41c24,↓n41c25,↓n41c26,↓n41c27,↓n41c28,↓n41c29,↓n41c30,(cells_of_heap x9).1,(cells_of_heap x8).1,(cells_of_heap x8).2]
    refine drawK_intro ?_
    have eG:Ext w w.drew:=(Ext.refl _).wdrew
    simp (disch:=try exact DI) only [↓PR,QR,simprocAttr,k,ha,hz,hlo,↓n41c1,↓n41c2,↓n41c3,↓n41c4,↓n41c5,↓n41c6,↓n41c7,↓n41c8,↓n41c9,↓n41c10,↓n41c11,↓n41c12,↓n41c13,↓n41c14,↓n41c15,↓n41c16,↓n41c17,↓n41c18,↓n41c19,↓n41c20,↓n41c21,↓n41c22,↓n41c23,↓n41c24,↓n41c25,↓n41c26,↓n41c27,↓n41c28,↓n41c29,↓n41c30,(cells_of_heap (eG.obj x9)).1,(cells_of_heap x9).1]
    refine zcr (rgroups_ret (a+1) a _ (by omega) (by omega)) fun w4 e4=>?_
    refine ⟨e4,?_⟩
    simp (disch:=try exact DI) only [↓PR,QR,simprocAttr,wa]
    refine zcr (rgroups_ret (z+1) z _ (by omega) (by omega)) fun w5 e5=>?_
    refine ⟨e4.trans e5,?_⟩
    have y8:=(eG.trans (e4.trans e5)).obj x8
    simp (disch:=try exact DI) only [↓PR,QR,simprocAttr,(cells_of_heap y8).1,(cells_of_heap y8).2,↓n41c1,↓n41c2,↓n41c3,↓n41c4,↓n41c5,↓n41c6,↓n41c7,↓n41c8,↓n41c9,↓n41c10,↓n41c11,↓n41c12,↓n41c13,↓n41c14,↓n41c15,↓n41c16,↓n41c17,↓n41c18,↓n41c19,↓n41c20,↓n41c21,↓n41c22,↓n41c23,↓n41c24,↓n41c25,↓n41c26,↓n41c27,↓n41c28,↓n41c29,↓n41c30,wz,wa]
    refine turnK_intro ?_
    simp (disch:=try exact DI) only [↓PR,QR,simprocAttr,(cells_of_heap y8).1,(cells_of_heap y8).2]
    exact ⟨by first | trivial | rfl,ee⟩
 · rw [show spanF sp m.fields f=(capF (ivL m.fields f*8),capF (ivH m.fields f*8)) by unfold spanF;simp [k]]
   obtain ⟨n1,n2,n3⟩:=hv.iv (by omega)
   simp only [ivL,ivH] at n1 n2 n3 ⊢
   rw [capF_low (by omega),capF_low (by omega)]
   have wl:IntKind.i64.wrap (8*intervalL f.base f.terms (numR m.fields))=intervalL f.base f.terms (numR m.fields)*8:=by rw [wrap_ok (by omega) (by omega),Int.mul_comm]
   have wh:IntKind.i64.wrap (8*intervalH f.base f.terms (numR m.fields))=intervalH f.base f.terms (numR m.fields)*8:=by rw [wrap_ok (by omega) (by omega),Int.mul_comm]
   simp (disch:=try exact DI) only [↓PR,QR,simprocAttr,k,wl,wh,↓n41c1,↓n41c2,↓n41c3,↓n41c4,↓n41c5,↓n41c6,↓n41c7,↓n41c8,↓n41c9,↓n41c10,↓n41c11,↓n41c12,↓n41c13,↓n41c14,↓n41c15,↓n41c16,↓n41c17,↓n41c18,↓n41c19,↓n41c20,↓n41c21,↓n41c22,↓n41c23,↓n41c24,↓n41c25,↓n41c26,↓n41c27,↓n41c28,↓n41c29,↓n41c30,(cells_of_heap x9).1,(cells_of_heap x8).1,(cells_of_heap x8).2]
   exact ⟨by first | trivial | rfl,ee⟩
 · rw [show spanF sp m.fields f=(8,8*(f.high+1)) by unfold spanF;simp [k]]
   have:=hv.high5 k
   have wl:IntKind.i64.wrap (IntKind.i64.wrap (8*f.high)+8)=8*(f.high+1):=by rw [wrap_ok (x:=8*f.high) (by omega) (by omega),wrap_ok (by omega) (by omega),Int.mul_add];rfl
   simp (disch:=try exact DI) only [↓PR,QR,simprocAttr,k,wl,↓n41c1,↓n41c2,↓n41c3,↓n41c4,↓n41c5,↓n41c6,↓n41c7,↓n41c8,↓n41c9,↓n41c10,↓n41c11,↓n41c12,↓n41c13,↓n41c14,↓n41c15,↓n41c16,↓n41c17,↓n41c18,↓n41c19,↓n41c20,↓n41c21,↓n41c22,↓n41c23,↓n41c24,↓n41c25,↓n41c26,↓n41c27,↓n41c28,↓n41c29,↓n41c30,(cells_of_heap x9).1,(cells_of_heap x8).1,(cells_of_heap x8).2]
   exact ⟨by first | trivial | rfl,ee⟩
 · rw [show spanF sp m.fields f=(16,8*f.high) by unfold spanF;simp [k]]
   have:=hv.high6 k
   have wl:IntKind.i64.wrap (8*f.high)=8*f.high:=wrap_ok (by omega) (by omega)
   simp (disch:=try exact DI) only [↓PR,QR,simprocAttr,k,wl,↓n41c1,↓n41c2,↓n41c3,↓n41c4,↓n41c5,↓n41c6,↓n41c7,↓n41c8,↓n41c9,↓n41c10,↓n41c11,↓n41c12,↓n41c13,↓n41c14,↓n41c15,↓n41c16,↓n41c17,↓n41c18,↓n41c19,↓n41c20,↓n41c21,↓n41c22,↓n41c23,↓n41c24,↓n41c25,↓n41c26,↓n41c27,↓n41c28,↓n41c29,↓n41c30,(cells_of_heap x9).1,(cells_of_heap x8).1,(cells_of_heap x8).2]
   exact ⟨by first | trivial | rfl,ee⟩
 · rw [show spanF sp m.fields f=(capF (ivL m.fields f*(lookS sp f.of).1),capF (ivH m.fields f*(lookS sp f.of).2)) by unfold spanF;simp [k]]
   obtain ⟨n1,n2,n3⟩:=hv.iv (by omega)
   simp only [ivL,ivH] at n1 n2 n3 ⊢
   obtain ⟨j,hj,hjn,hjs⟩:=hfind f.of (by unfold refsF;simp [k])
   obtain ⟨bB,oB,csB,rfl,_,hAB,rfl⟩:=helB j _ hjs
   have hlk:=hb.look f.of
   rw [hj]
   simp (disch:=try exact DI) only [↓PR,QR,simprocAttr,k,↓n41c1,↓n41c2,↓n41c3,↓n41c4,↓n41c5,↓n41c6,↓n41c7,↓n41c8,↓n41c9,↓n41c10,↓n41c11,↓n41c12,↓n41c13,↓n41c14,↓n41c15,↓n41c16,↓n41c17,↓n41c18,↓n41c19,↓n41c20,↓n41c21,↓n41c22,↓n41c23,↓n41c24,↓n41c25,↓n41c26,↓n41c27,↓n41c28,↓n41c29,↓n41c30,(cells_of_heap x9).1,(cells_of_heap x8).1,(cells_of_heap x8).2]
   refine drawK_intro ?_
   have eG:Ext w w.drew:=(Ext.refl _).wdrew
   have q2:∀ K:Value→Prop,qV Pg (EC w.drew) (Instr.indexAt 70 (.slice (some ⟨bB,oB,none⟩) n cB) (.int .i64 (j:Int))) K=K (.pointer (some ⟨bB,oB+j*2,none⟩)):=fun K=>qV_of fun QP w' k'=>op_indexN Tryz.underlying70 ty72 bB oB n cB .i64 j hjn
   unfold n41c6
   simp (disch:=try exact DI) only [↓PR,QR,simprocAttr,q2,hAB.c2 (E.trans eG),hAB.c2 E]
   refine zcr (rtimes_ret _ _ _ ⟨n1,by omega⟩ hlk.1) fun w4 e4=>?_
   refine ⟨e4,?_⟩
   refine zcr (rtimes_ret _ _ _ ⟨by omega,by omega⟩ hlk.2) fun w5 e5=>?_
   refine ⟨e4.trans e5,?_⟩
   have y8:=(eG.trans (e4.trans e5)).obj x8
   simp (disch:=try exact DI) only [↓PR,QR,simprocAttr,(cells_of_heap y8).1,(cells_of_heap y8).2,↓n41c1,↓n41c2,↓n41c3,↓n41c4,↓n41c5,↓n41c6,↓n41c7,↓n41c8,↓n41c9,↓n41c10,↓n41c11,↓n41c12,↓n41c13,↓n41c14,↓n41c15,↓n41c16,↓n41c17,↓n41c18,↓n41c19,↓n41c20,↓n41c21,↓n41c22,↓n41c23,↓n41c24,↓n41c25,↓n41c26,↓n41c27,↓n41c28,↓n41c29,↓n41c30]
   refine turnK_intro ?_
   simp (disch:=try exact DI) only [↓PR,QR,simprocAttr,(cells_of_heap y8).1,(cells_of_heap y8).2]
   exact ⟨by first | trivial | rfl,ee⟩
 · rw [show spanF sp m.fields f=lookS sp f.of by unfold spanF;simp [k]]
   obtain ⟨j,hj,hjn,hjs⟩:=hfind f.of (by unfold refsF;simp [k])
   obtain ⟨bB,oB,csB,rfl,_,hAB,rfl⟩:=helB j _ hjs
   rw [hj]
   simp (disch:=try exact DI) only [↓PR,QR,simprocAttr,k,hAB.c2 E,↓n41c1,↓n41c2,↓n41c3,↓n41c4,↓n41c5,↓n41c6,↓n41c7,↓n41c8,↓n41c9,↓n41c10,↓n41c11,↓n41c12,↓n41c13,↓n41c14,↓n41c15,↓n41c16,↓n41c17,↓n41c18,↓n41c19,↓n41c20,↓n41c21,↓n41c22,↓n41c23,↓n41c24,↓n41c25,↓n41c26,↓n41c27,↓n41c28,↓n41c29,↓n41c30,(cells_of_heap x9).1,(cells_of_heap x8).1,(cells_of_heap x8).2]
   exact ⟨by first | trivial | rfl,ee⟩
 · rw [show spanF sp m.fields f=choiceS sp f.cases by unfold spanF;simp [k]]
   simp (disch:=try exact DI) only [↓PR,QR,simprocAttr,k,↓n41c28,↓n41c27,↓n41c26,↓n41c25,↓n41c24,↓n41c23,↓n41c20,↓n41c18,(cells_of_heap x9).1]
   have eN:Ext w (w.alloc (.cells #[.int .i64 0,.int .i64 0] 72)):=ee
   have s3:=E.size
   have l2:=(Array.getElem?_eq_some_iff.1 x2).1
   exact rch_loop hD hC hc1 ht1 hn hsn (hsn ▸ hB0) (fun c hc=>hfind c.of (by unfold refsF;simp only [k];simp;exact ⟨c,hc,rfl⟩)) ⟨E.trans eN,eN.obj x2,eN.obj x9,⟨_,_,eN.obj x8⟩,heap_new _ _ _⟩ (by omega) (by omega) (by omega) (by omega) (by omega)
 · rw [show spanF sp m.fields f=(0,f.bits - 1) by unfold spanF;simp [k]]
   have:=padB_bits (hv.pad k)
   have wl:IntKind.i64.wrap (f.bits - 1)=f.bits - 1:=wrap_ok (by omega) (by omega)
   simp (disch:=try exact DI) only [↓PR,QR,simprocAttr,k,wl,↓n41c1,↓n41c2,↓n41c3,↓n41c4,↓n41c5,↓n41c6,↓n41c7,↓n41c8,↓n41c9,↓n41c10,↓n41c11,↓n41c12,↓n41c13,↓n41c14,↓n41c15,↓n41c16,↓n41c17,↓n41c18,↓n41c19,↓n41c20,↓n41c21,↓n41c22,↓n41c23,↓n41c24,↓n41c25,↓n41c26,↓n41c27,↓n41c28,↓n41c29,↓n41c30,(cells_of_heap x9).1,(cells_of_heap x8).1,(cells_of_heap x8).2]
   exact ⟨by first | trivial | rfl,ee⟩
 · rw [show spanF sp m.fields f=if f.check=3 then (32,32) else (16,16) by unfold spanF;simp [k]]
   by_cases hc:f.check=3
   · rw [if_pos hc]
     simp (disch:=try exact DI) only [↓PR,QR,simprocAttr,k,hc,↓n41c1,↓n41c2,↓n41c3,↓n41c4,↓n41c5,↓n41c6,↓n41c7,↓n41c8,↓n41c9,↓n41c10,↓n41c11,↓n41c12,↓n41c13,↓n41c14,↓n41c15,↓n41c16,↓n41c17,↓n41c18,↓n41c19,↓n41c20,↓n41c21,↓n41c22,↓n41c23,↓n41c24,↓n41c25,↓n41c26,↓n41c27,↓n41c28,↓n41c29,↓n41c30,(cells_of_heap x9).1,(cells_of_heap x8).1,(cells_of_heap x8).2]
     exact ⟨by first | trivial | rfl,ee⟩
   · rw [if_neg hc]
     have h0:(f.check == 3)=false:=by simpa using hc
     simp (disch:=try exact DI) only [↓PR,QR,simprocAttr,k,h0,↓n41c1,↓n41c2,↓n41c3,↓n41c4,↓n41c5,↓n41c6,↓n41c7,↓n41c8,↓n41c9,↓n41c10,↓n41c11,↓n41c12,↓n41c13,↓n41c14,↓n41c15,↓n41c16,↓n41c17,↓n41c18,↓n41c19,↓n41c20,↓n41c21,↓n41c22,↓n41c23,↓n41c24,↓n41c25,↓n41c26,↓n41c27,↓n41c28,↓n41c29,↓n41c30,(cells_of_heap x9).1,(cells_of_heap x8).1,(cells_of_heap x8).2]
     exact ⟨by first | trivial | rfl,ee⟩
 · rw [show spanF sp m.fields f=(capF (ivL m.fields f*8),capF (ivH m.fields f*8)) by unfold spanF;simp [k]]
   obtain ⟨n1,n2,n3⟩:=hv.iv (by omega)
   simp only [ivL,ivH] at n1 n2 n3 ⊢
   rw [capF_low (by omega),capF_low (by omega)]
   have wl:IntKind.i64.wrap (8*intervalL f.base f.terms (numR m.fields))=intervalL f.base f.terms (numR m.fields)*8:=by rw [wrap_ok (by omega) (by omega),Int.mul_comm]
   have wh:IntKind.i64.wrap (8*intervalH f.base f.terms (numR m.fields))=intervalH f.base f.terms (numR m.fields)*8:=by rw [wrap_ok (by omega) (by omega),Int.mul_comm]
   simp (disch:=try exact DI) only [↓PR,QR,simprocAttr,k,wl,wh,↓n41c1,↓n41c2,↓n41c3,↓n41c4,↓n41c5,↓n41c6,↓n41c7,↓n41c8,↓n41c9,↓n41c10,↓n41c11,↓n41c12,↓n41c13,↓n41c14,↓n41c15,↓n41c16,↓n41c17,↓n41c18,↓n41c19,↓n41c20,↓n41c21,↓n41c22,↓n41c23,↓n41c24,↓n41c25,↓n41c26,↓n41c27,↓n41c28,↓n41c29,↓n41c30,(cells_of_heap x9).1,(cells_of_heap x8).1,(cells_of_heap x8).2]
   exact ⟨by first | trivial | rfl,ee⟩
def n11c1 (t58 t60:Value) (R:RT) (w:World):Prop :=
 pickK t58 t60 (.bool false) fun t61 =>
 joinK (fun (t63:Value) (w:World) =>
 pickK t61 t63 (.bool false) fun t64 =>
 R (.returned t64) w) fun K9 =>
 guardP t61 true (
 C0 62 #[(.int .i64 1),(.int .i64 3),(.int .i64 8),(.int .i64 96)] R w fun t63 w =>
 K9 t63 w) (
 K9 undef w)
def n11c2 (t55 t57:Value) (R:RT) (w:World):Prop :=
 pickK t55 t57 (.bool false) fun t58 =>
 joinK (fun (t60:Value) (w:World) =>
 n11c1 t58 t60 R w) fun K8 =>
 guardP t58 true (
 C0 62 #[(.int .i64 1),(.int .i64 2),(.int .i64 8),(.int .i64 16)] R w fun t60 w =>
 K8 t60 w) (
 K8 undef w)
def n11c3 (t52 t54:Value) (R:RT) (w:World):Prop :=
 pickK t52 t54 (.bool false) fun t55 =>
 joinK (fun (t57:Value) (w:World) =>
 n11c2 t55 t57 R w) fun K7 =>
 guardP t55 true (
 C0 64 #[(.int .i64 1),(.int .i64 2),(.int .i64 8),(.int .i64 8)] R w fun t57 w =>
 K7 t57 w) (
 K7 undef w)
def n11c4 (t48 t51:Value) (R:RT) (w:World):Prop :=
 pickK t48 t51 (.bool false) fun t52 =>
 joinK (fun (t54:Value) (w:World) =>
 n11c3 t52 t54 R w) fun K6 =>
 guardP t52 true (
 C0 64 #[(.int .i64 1),(.int .i64 1),(.int .i64 3),(.int .i64 3)] R w fun t54 w =>
 K6 t54 w) (
 K6 undef w)
def n11c5 (t28 t44 t47:Value) (R:RT) (w:World):Prop :=
 pickK t44 t47 (.bool false) fun t48 =>
 joinK (fun (t51:Value) (w:World) =>
 n11c4 t48 t51 R w) fun K5 =>
 guardP t48 true (
 B0 .eql 52 true t28 (.int .i64 0) R w fun t51 w =>
 K5 t51 w) (
 K5 undef w)
def n11c6 (t27 t28 t39 t43:Value) (R:RT) (w:World):Prop :=
 pickK t39 t43 (.bool false) fun t44 =>
 joinK (fun (t47:Value) (w:World) =>
 n11c5 t28 t44 t47 R w) fun K4 =>
 guardP t44 true (
 opV Pg (Op.unary .not t27) (panK R) w fun t47 w =>
 K4 t47 w) (
 K4 undef w)
def n11c7 (t5 t23 t27 t28 t34 t38:Value) (R:RT) (w:World):Prop :=
 pickK t34 t38 (.bool false) fun t39 =>
 joinK (fun (t43:Value) (w:World) =>
 n11c6 t27 t28 t39 t43 R w) fun K3 =>
 guardP t39 true (
 L0 67 t5 R w fun t41 w =>
 C0 63 #[t41,t23,(.int .i64 56),(.int .i64 152)] R w fun t43 w =>
 K3 t43 w) (
 K3 undef w)
def n11c8 (t3 t5 t18 t23 t27 t28 t29 t33:Value) (R:RT) (w:World):Prop :=
 pickK t29 t33 (.bool false) fun t34 =>
 joinK (fun (t38:Value) (w:World) =>
 n11c7 t5 t23 t27 t28 t34 t38 R w) fun K2 =>
 guardP t34 true (
 L0 67 t3 R w fun t36 w =>
 C0 63 #[t36,t18,(.int .i64 1),(.int .i64 4)] R w fun t38 w =>
 K2 t38 w) (
 K2 undef w)
def n11c9 (t1 t3 t5 t13 t18 t23 t27 t28 t29:Value) (R:RT) (w:World):Prop :=
 joinK (fun (t33:Value) (w:World) =>
 n11c8 t3 t5 t18 t23 t27 t28 t29 t33 R w) fun K1 =>
 guardP t29 true (
 L0 67 t1 R w fun t31 w =>
 C0 63 #[t31,t13,(.int .i64 8),(.int .i64 32)] R w fun t33 w =>
 K1 t33 w) (
 K1 undef w)
def n11c10 (t1 t3 t5 t13 t18 t23 t26:Value) (R:RT) (w:World):Prop :=
 opV Pg (Instr.extract t26 0) (panK R) w fun t27 w =>
 opV Pg (Instr.extract t26 1) (panK R) w fun t28 w =>
 C0 62 #[(.int .i64 0),(.int .i64 1),(.int .i64 0),(.int .i64 24)] R w fun t29 w =>
 n11c9 t1 t3 t5 t13 t18 t23 t27 t28 t29 R w
def n11c11 (t1 t3 t13 t18 t21:Value) (R:RT) (w:World):Prop :=
 opV Pg (Instr.extract t21 0) (panK R) w fun t22 w =>
 opV Pg (Instr.extract t21 1) (panK R) w fun t23 w =>
 opV Pg (Instr.alloc 67 true (.tuple #[])) (panK R) w fun t5 w =>
 opU Pg (Instr.storeAt 67 t5 t22) (panK R) w fun w =>
 C0 61 #[] R w fun t25 w =>
 C0 41 #[t25,(.int .i64 0)] R w fun t26 w =>
 n11c10 t1 t3 t5 t13 t18 t23 t26 R w
def n11c12 (t1 t13 t16:Value) (R:RT) (w:World):Prop :=
 opV Pg (Instr.extract t16 0) (panK R) w fun t17 w =>
 opV Pg (Instr.extract t16 1) (panK R) w fun t18 w =>
 opV Pg (Instr.alloc 67 true (.tuple #[])) (panK R) w fun t3 w =>
 opU Pg (Instr.storeAt 67 t3 t17) (panK R) w fun w =>
 C0 61 #[] R w fun t20 w =>
 C0 39 #[t20,(.int .i64 1)] R w fun t21 w =>
 n11c11 t1 t3 t13 t18 t21 R w
def n11c13 (t11:Value) (R:RT) (w:World):Prop :=
 opV Pg (Instr.extract t11 0) (panK R) w fun t12 w =>
 opV Pg (Instr.extract t11 1) (panK R) w fun t13 w =>
 opV Pg (Instr.alloc 67 true (.tuple #[])) (panK R) w fun t1 w =>
 opU Pg (Instr.storeAt 67 t1 t12) (panK R) w fun w =>
 C0 61 #[] R w fun t15 w =>
 C0 40 #[t15,(.int .i64 0)] R w fun t16 w =>
 n11c12 t1 t13 t16 R w
def n11 (R:RT) (w:World):Prop :=
 C0 61 #[] R w fun t10 w =>
 C0 39 #[t10,(.int .i64 0)] R w fun t11 w =>
 n11c13 t11 R w
theorem n11s {R:RT} {w:World} (h:n11 R w):Calls Pg 32 #[] w R:=by
 refine yD Tryz.func32 ?_
 refine zs<|zr<|zm<|zn<|zk<|zs<|zr<|yc h c61 fun _ w h=>yc h c39 fun _ w h=>zm<|yv h fun _ w h=>yv h fun _ w h=>yv h fun _ w h=>yu h fun w h=>zm ?_
 refine zn<|zk<|zs<|zr<|yc h c61 fun _ w h=>yc h c40 fun _ w h=>zm<|yv h fun _ w h=>yv h fun _ w h=>yv h fun _ w h=>yu h fun w h=>zm<|zn<|zk<|zs ?_
 refine zr<|yc h c61 fun _ w h=>yc h c39 fun _ w h=>zm<|yv h fun _ w h=>yv h fun _ w h=>yv h fun _ w h=>yu h fun w h=>zm<|zn<|zk<|zs<|zr<|yc h c61 fun _ w h=>yc h c41 fun _ w h=>?_
 refine zm<|yv h fun _ w h=>yv h fun _ w h=>zm<|zm<|zn<|zk<|zs<|sim_regionG<|yG 2<|yc h c62 fun _ w h=>zm<|zn<|yg1 3 1 true [31,32,33] 33 h (fun _ T hT h=>?_) fun σ w h=>?_
 · refine yv h fun _ w h=>zm<|yc h c63 fun _ w h=>zn ?_
   exact zt hT h
 refine yG 2<|yp h fun _ h=>zm<|zn<|yg1 3 6 true [36,37,38] 38 h (fun _ T hT h=>?_) fun σ w h=>?_
 · refine yv h fun _ w h=>zm<|yc h c63 fun _ w h=>zn ?_
   exact zt hT h
 refine yG 2<|yp h fun _ h=>zm<|zn<|yg1 3 11 true [41,42,43] 43 h (fun _ T hT h=>?_) fun σ w h=>?_
 · refine yv h fun _ w h=>zm<|yc h c63 fun _ w h=>zn ?_
   exact zt hT h
 refine yG 2<|yp h fun _ h=>zm<|zn<|yg1 2 16 true [46,47] 47 h (fun _ T hT h=>?_) fun σ w h=>?_
 · refine zm<|yv h fun _ w h=>zn ?_
   exact zt hT h
 refine yG 2<|yp h fun _ h=>zm<|zn<|yg1 2 20 true [50,51] 51 h (fun _ T hT h=>?_) fun σ w h=>?_
 · refine zm<|yb h fun _ w h=>zn ?_
   exact zt hT h
 refine yG 2<|yp h fun _ h=>zm<|zn<|yg1 1 24 true [54] 54 h (fun _ T hT h=>?_) fun σ w h=>?_
 · refine yc h c64 fun _ w h=>zn ?_
   exact zt hT h
 refine yG 2<|yp h fun _ h=>zm<|zn<|yg1 1 27 true [57] 57 h (fun _ T hT h=>?_) fun σ w h=>?_
 · refine yc h c64 fun _ w h=>zn ?_
   exact zt hT h
 refine yG 2<|yp h fun _ h=>zm<|zn<|yg1 1 30 true [60] 60 h (fun _ T hT h=>?_) fun σ w h=>?_
 · refine yc h c62 fun _ w h=>zn ?_
   exact zt hT h
 refine yG 2<|yp h fun _ h=>zm<|zn<|yg1 1 33 true [63] 63 h (fun _ T hT h=>?_) fun σ w h=>?_
 · refine yc h c62 fun _ w h=>zn ?_
   exact zt hT h
 exact yG 2<|yp h fun _ h=>zm<|zn<|sim_end<|zk<|sim_ret<|body_ret1 rfl rfl h
def n129c1 (t6 t12:Value) (R:RT) (w:World):Prop :=
 opV Pg (Instr.extract t12 0) (panK R) w fun t13 w =>
 opV Pg (Instr.extract t12 1) (panK R) w fun t14 w =>
 opU Pg (Instr.storeAt 67 t6 t13) (panK R) w fun w =>
 qW Pg 67 t6 w fun r0 =>
 R (.returned (.tuple #[r0,t14])) w
def n129 (t0 t1 t2:Value) (R:RT) (w:World):Prop :=
 opV Pg (Instr.box 24 t0) (panK R) w fun t3 w =>
 opV Pg (Instr.box 3 t2) (panK R) w fun t5 w =>
 opV Pg (Instr.alloc 67 true (.tuple #[])) (panK R) w fun t6 w =>
 L0 24 t3 R w fun t8 w =>
 L0 3 t5 R w fun t10 w =>
 opV Pg (Instr.makeFunc (.func 66) #[] #[t5]) (panK R) w fun t11 w =>
 C0 65 #[t8,t1,t10,t11] R w fun t12 w =>
 n129c1 t6 t12 R w
theorem n129s {t0 t1 t2:Value} {R:RT} {w:World} (h:n129 t0 t1 t2 R w):Calls Pg 33 #[t0,t1,t2] w R:=by
 refine yD Tryz.func33 ?_
 refine zs<|zr<|yv h fun _ w h=>yv h fun _ w h=>yv h fun _ w h=>zm<|zn<|zk<|zs<|zr<|yv h fun _ w h=>zm<|yv h fun _ w h=>yF h fun _ w h=>yc h c65 fun _ w h=>?_
 exact yv h fun _ w h=>yv h fun _ w h=>yu h fun w h=>zm<|zn<|zk<|sim_ret<|body_retCT rfl rfl rfl h
def n136c1 (t6 t12:Value) (R:RT) (w:World):Prop :=
 opV Pg (Instr.extract t12 0) (panK R) w fun t13 w =>
 opV Pg (Instr.extract t12 1) (panK R) w fun t14 w =>
 opU Pg (Instr.storeAt 67 t6 t13) (panK R) w fun w =>
 qW Pg 67 t6 w fun r0 =>
 R (.returned (.tuple #[r0,t14])) w
def n136 (t0 t1 t2:Value) (R:RT) (w:World):Prop :=
 opV Pg (Instr.box 24 t0) (panK R) w fun t3 w =>
 opV Pg (Instr.box 3 t2) (panK R) w fun t5 w =>
 opV Pg (Instr.alloc 67 true (.tuple #[])) (panK R) w fun t6 w =>
 L0 24 t3 R w fun t8 w =>
 L0 3 t5 R w fun t10 w =>
 opV Pg (Instr.makeFunc (.func 68) #[] #[t5]) (panK R) w fun t11 w =>
 C0 65 #[t8,t1,t10,t11] R w fun t12 w =>
 n136c1 t6 t12 R w
theorem n136s {t0 t1 t2:Value} {R:RT} {w:World} (h:n136 t0 t1 t2 R w):Calls Pg 34 #[t0,t1,t2] w R:=by
 refine yD Tryz.func34 ?_
 refine zs<|zr<|yv h fun _ w h=>yv h fun _ w h=>yv h fun _ w h=>zm<|zn<|zk<|zs<|zr<|yv h fun _ w h=>zm<|yv h fun _ w h=>yF h fun _ w h=>yc h c65 fun _ w h=>?_
 exact yv h fun _ w h=>yv h fun _ w h=>yu h fun w h=>zm<|zn<|zk<|sim_ret<|body_retCT rfl rfl rfl h
def n43c1 (t3 t4 t6:Value) (next1:KW) (R:RT) (w:World):Prop :=
 L0 72 t6 R w fun t26 w =>
 opV Pg (Instr.buildSlice 70 1 #[(0,t26)]) (panK R) w fun t27 w =>
 opV Pg (Builtin.append_ #[70,70] 70 #[t3,t27]) (panK R) w fun t28 w =>
 B0 .add 3 true t4 (.int .i64 1) R w fun t13 w =>
 next1 t28 t13 w
def n43c2 (t22:Value) (C2:World→Prop) (K3:KV) (R:RT) (w:World):Prop :=
 qV Pg C2 (Instr.extract t22 0) fun t23 =>
 qV Pg C2 (Instr.extract t22 1) fun t24 =>
 opV Pg (Instr.alloc 72 true (.tuple #[])) (panK R) w fun t6 w =>
 C2 w∧(
 opU Pg (Instr.storeAt 72 t6 t24) (panK R) w fun w =>
 turnK w fun C4 w =>
 K3 t6 w)
def n43c3 (t6 t22:Value) (C2:World→Prop) (K3:KV) (R:RT) (w:World):Prop :=
 C2 w∧(
 qV Pg C2 (Instr.extract t22 0) fun t23 =>
 qV Pg C2 (Instr.extract t22 1) fun t24 =>
 opU Pg (Instr.storeAt 72 t6 t24) (panK R) w fun w =>
 turnK w fun C5 w =>
 K3 t6 w)
def n43c4 (t1 t3 t4:Value) (C2:World→Prop) (next1:KW) (R:RT) (w:World):Prop :=
 qV Pg C2 (Instr.loadAt 24 t1) fun t15 =>
 qV Pg C2 (Instr.fieldAt 24 t1 1) fun t16 =>
 qV Pg C2 (Instr.loadAt 22 t16) fun t17 =>
 qV Pg C2 (Instr.indexAt 22 t17 t4) fun t19 =>
 qV Pg C2 (Instr.loadAt 44 t19) fun t20 =>
 joinK (fun (t6:Value) (w:World) =>
 n43c1 t3 t4 t6 next1 R w) fun K3 =>
 (
 C0 36 #[t15,t20,t3] R w fun t22 w =>
 C2 w∧(
 n43c2 t22 C2 K3 R w))∧(
 opV Pg (Instr.alloc 72 true (.tuple #[])) (panK R) w fun t6 w =>
 C2 w∧(
 C0 36 #[t15,t20,t3] R w fun t22 w =>
 n43c3 t6 t22 C2 K3 R w))
def n43c5 (t1 t3 t4:Value) (next1:KW) (R:RT) (w:World):Prop :=
 F0 24 t1 1 R w fun t8 w =>
 L0 22 t8 R w fun t9 w =>
 opV Pg (Builtin.len_ #[22] 3 #[t9]) (panK R) w fun t10 w =>
 B0 .lss 3 false t4 t10 R w fun t11 w =>
 condP t11 (
 drawK w fun C2 w =>
 n43c4 t1 t3 t4 C2 next1 R w) (
 R (.returned t3) w)
def n43 (t0:Value) (R:RT) (w:World):Prop :=
 opV Pg (Instr.box 24 t0) (panK R) w fun t1 w =>
 loop2 (fun t3 t4 w next1 =>
 n43c5 t1 t3 t4 next1 R w) (Value.slice none 0 0) (.int .i64 0) w
theorem n43s {t0:Value} {R:RT} {w:World} (h:n43 t0 R w):Calls Pg 35 #[t0] w R:=by
 refine yD Tryz.func35 ?_
 refine zs<|zr<|yv h fun _ w h=>zm<|zn<|zk<|zs<|zr<|zm<|zn<|zk<|zs<|zs<|zr<|zm ?_
 refine zn<|zk<|sim_block<|yl2 [3,4,5,6,7,8,9,10,11,12,13,14,15,16,17,18,19,20,21,22,23,24,25,26,27,28] 3 4 h fun σ w next h=>zs<|zs<|zr<|zm<|yv h fun _ w h=>yv h fun _ w h=>yx h fun _ w h=>yb h fun _ w h=>zn<|zk<|yC h (fun h=>?_) fun h=>?_
 · refine sim_skip<|zk<|zs<|sim_block<|zs<|yh [5,6,14,15,16,17,18,19,20,21,22,23,24] h fun C hC h=>ye 0 hC h fun _ h=>?_
   refine ye 1 hC h fun _ h=>?_
   refine ye 2 hC h fun _ h=>?_
   refine yw 3 hC ?_
   refine ye 4 hC h fun _ h=>?_
   refine ye 5 hC h fun _ h=>?_
   refine yw 6 hC ?_
   refine joinK_elim h (fun K3 hK h=>?_)
   refine sim_dmeet [5,6,14,22,23,24] (fun ρ w=>K3 (ρ 6) w) (fun T hT=>?_) (fun σ w h=>?_)
   · obtain ⟨h0,h1⟩:=h
     refine sim_dloud2 7 11 rfl rfl (by kernel_rfl) (fun _ _=>rfl) (fun _ _=>rfl) ?_ ?_
     · have h:=h0
       refine yc h c36 fun _ w h=>zn ?_
       obtain ⟨hC,h⟩:=h
       refine ⟨_,fun _ h=>h,hC,?_⟩
       refine yw 8 hC ?_
       refine ye 9 hC h fun _ h=>?_
       refine ye 10 hC h fun _ h=>?_
       refine yo 11 ?_
       refine yv h fun _ w h=>zn ?_
       obtain ⟨hC,h⟩:=h
       refine ⟨hC,?_⟩
       refine yw 12 hC ?_
       refine yq 13 1 ?_
       refine yu h fun w h=>zn ?_
       obtain ⟨C4,hC,h⟩:=h
       refine ⟨C4,hC,?_⟩
       refine yz ?_
       exact zt hT h
     have h:=h1
     refine yv h fun _ w h=>zn ?_
     obtain ⟨hC,h⟩:=h
     refine ⟨_,fun _ h=>h,hC,?_⟩
     refine yo 7 ?_
     refine yc h c36 fun _ w h=>zn ?_
     obtain ⟨hC,h⟩:=h
     refine ⟨hC,?_⟩
     refine yw 8 hC ?_
     refine ye 9 hC h fun _ h=>?_
     refine ye 10 hC h fun _ h=>?_
     refine yw 12 hC ?_
     refine yq 13 1 ?_
     refine yu h fun w h=>zn ?_
     obtain ⟨C5,hC,h⟩:=h
     refine ⟨C5,hC,?_⟩
     refine yz ?_
     exact zt hT h
   subst hK
   refine zk<|zr<|zm<|yv h fun _ w h=>yS h fun _ w h=>yx h fun _ w h=>zm<|zn<|sim_block_normal<|zk<|zr<|zm<|yb h fun _ w h=>zm<|zn ?_
   exact zk<|⟨rfl,h⟩
 exact sim_exit<|sim_then_exit<|sim_then_exit<|sim_block_hit<|zk<|zs<|zr<|zm<|zm<|zn<|zk<|sim_ret<|body_ret1 rfl rfl h
def n44c1 (t9 t41 t43 t45:Value) (C3:World→Prop) (K2:World→Prop) (R:RT) (w:World):Prop :=
 C0 70 #[t43,t45] R w fun t46 w =>
 C3 w∧(
 qV Pg C3 (Instr.build 72 #[(0,t41),(1,t46)]) fun t47 =>
 opU Pg (Instr.storeAt 72 t9 t47) (panK R) w fun w =>
 turnK w fun C4 w =>
 K2 w)
def n44c2 (t9 t11:Value) (C3:World→Prop) (K2:World→Prop) (R:RT) (w:World):Prop :=
 qV Pg C3 (Instr.fieldAt 72 t9 0) fun t37 =>
 qV Pg C3 (Instr.loadAt 3 t37) fun t38 =>
 qV Pg C3 (Instr.fieldAt 38 t11 2) fun t39 =>
 qV Pg C3 (Instr.loadAt 3 t39) fun t40 =>
 qV Pg C3 (Instr.fieldAt 72 t9 1) fun t42 =>
 qV Pg C3 (Instr.loadAt 3 t42) fun t43 =>
 qV Pg C3 (Instr.fieldAt 38 t11 2) fun t44 =>
 qV Pg C3 (Instr.loadAt 3 t44) fun t45 =>
 C0 70 #[t38,t40] R w fun t41 w =>
 C3 w∧(
 n44c1 t9 t41 t43 t45 C3 K2 R w)
def n44c3 (t9 t52 t54 t56:Value) (C5:World→Prop) (K2:World→Prop) (R:RT) (w:World):Prop :=
 C0 71 #[t54,t56] R w fun t57 w =>
 C5 w∧(
 qV Pg C5 (Instr.build 72 #[(0,t52),(1,t57)]) fun t58 =>
 opU Pg (Instr.storeAt 72 t9 t58) (panK R) w fun w =>
 turnK w fun C6 w =>
 K2 w)
def n44c4 (t9 t12:Value) (C5:World→Prop) (K2:World→Prop) (R:RT) (w:World):Prop :=
 qV Pg C5 (Instr.fieldAt 72 t9 0) fun t48 =>
 qV Pg C5 (Instr.loadAt 3 t48) fun t49 =>
 qV Pg C5 (Instr.fieldAt 72 t12 0) fun t50 =>
 qV Pg C5 (Instr.loadAt 3 t50) fun t51 =>
 qV Pg C5 (Instr.fieldAt 72 t9 1) fun t53 =>
 qV Pg C5 (Instr.loadAt 3 t53) fun t54 =>
 qV Pg C5 (Instr.fieldAt 72 t12 1) fun t55 =>
 qV Pg C5 (Instr.loadAt 3 t55) fun t56 =>
 C0 71 #[t49,t51] R w fun t52 w =>
 C5 w∧(
 n44c3 t9 t52 t54 t56 C5 K2 R w)
def n44c5 (t9 t10 t11 t23 t33:Value) (next1:KW) (R:RT) (w:World):Prop :=
 opV Pg (Instr.alloc 72 true (.tuple #[])) (panK R) w fun t12 w =>
 opU Pg (Instr.storeAt 72 t12 t33) (panK R) w fun w =>
 F0 38 t11 1 R w fun t34 w =>
 L0 32 t34 R w fun t35 w =>
 B0 .eql 32 true t35 (.int .i64 10) R w fun t36 w =>
 joinK (fun (w:World) =>
 B0 .add 3 true t10 (.int .i64 1) R w fun t19 w =>
 next1 t23 t19 w) fun K2 =>
 condP t36 (
 drawK w fun C3 w =>
 n44c2 t9 t11 C3 K2 R w) (
 drawK w fun C5 w =>
 n44c4 t9 t12 C5 K2 R w)
def n44c6 (t7 t8 t9:Value) (C7:World→Prop) (R:RT) (w:World):Prop :=
 qV Pg C7 (Instr.loadAt 72 t9) fun t60 =>
 opU Pg (Instr.storeAt 72 t7 t60) (panK R) w fun w =>
 turnK w fun C8 w =>
 qW Pg 72 t7 w fun r1 =>
 R (.returned (.tuple #[t8,r1])) w
def n44c7 (t2 t3 t4 t8 t9 t10:Value) (next1:KW) (R:RT) (w:World):Prop :=
 L0 72 t9 R w fun t21 w =>
 opV Pg (Instr.buildSlice 70 1 #[(0,t21)]) (panK R) w fun t22 w =>
 opV Pg (Builtin.append_ #[70,70] 70 #[t8,t22]) (panK R) w fun t23 w =>
 F0 44 t4 1 R w fun t24 w =>
 L0 42 t24 R w fun t25 w =>
 X0 42 t25 t10 R w fun t27 w =>
 L0 38 t27 R w fun t28 w =>
 opV Pg (Instr.alloc 38 true (.tuple #[])) (panK R) w fun t11 w =>
 opU Pg (Instr.storeAt 38 t11 t28) (panK R) w fun w =>
 L0 24 t3 R w fun t29 w =>
 L0 44 t4 R w fun t30 w =>
 C0 38 #[t29,t30,t10,t2] R w fun t33 w =>
 n44c5 t9 t10 t11 t23 t33 next1 R w
def n44c8 (t2 t3 t4 t7 t8 t9 t10:Value) (next1:KW) (R:RT) (w:World):Prop :=
 F0 44 t4 1 R w fun t14 w =>
 L0 42 t14 R w fun t15 w =>
 opV Pg (Builtin.len_ #[42] 3 #[t15]) (panK R) w fun t16 w =>
 B0 .lss 3 false t10 t16 R w fun t17 w =>
 condP t17 (
 n44c7 t2 t3 t4 t8 t9 t10 next1 R w) (
 drawK w fun C7 w =>
 n44c6 t7 t8 t9 C7 R w)
def n44 (t0 t1 t2:Value) (R:RT) (w:World):Prop :=
 opV Pg (Instr.box 24 t0) (panK R) w fun t3 w =>
 opV Pg (Instr.box 44 t1) (panK R) w fun t4 w =>
 opV Pg (Instr.alloc 72 true (.tuple #[])) (panK R) w fun t7 w =>
 opV Pg (Instr.alloc 72 true (.tuple #[])) (panK R) w fun t9 w =>
 loop2 (fun t8 t10 w next1 =>
 n44c8 t2 t3 t4 t7 t8 t9 t10 next1 R w) (Value.slice none 0 0) (.int .i64 0) w
theorem n44s {t0 t1 t2:Value} {R:RT} {w:World} (h:n44 t0 t1 t2 R w):Calls Pg 36 #[t0,t1,t2] w R:=by
 refine yD Tryz.func36 ?_
 refine zs<|zr<|yv h fun _ w h=>yv h fun _ w h=>zm<|yv h fun _ w h=>zn<|zk<|zs<|zr<|zm<|zn<|zk<|zs<|zr ?_
 refine yv h fun _ w h=>zn<|zk<|zs<|zs<|zr<|zm<|zn<|zk<|sim_block<|yl2 [8,10,11,12,13,14,15,16,17,18,19,20,21,22,23,24,25,26,27,28,29,30,31,32,33,34,35,36,37,38,39,40,41,42,43,44,45,46,47,48,49,50,51,52,53,54,55,56,57,58] 8 10 h fun σ w next h=>zs<|zs<|zr<|zm ?_
 refine yv h fun _ w h=>yv h fun _ w h=>yx h fun _ w h=>yb h fun _ w h=>zn<|zk<|yC h (fun h=>?_) fun h=>?_
 · refine sim_skip<|zk<|zs<|sim_block<|zs<|zr<|zm<|yv h fun _ w h=>yS h fun _ w h=>yx h fun _ w h=>zm<|zn<|zk<|zs<|zr ?_
   refine yv h fun _ w h=>yv h fun _ w h=>zm<|yv h fun _ w h=>yv h fun _ w h=>yv h fun _ w h=>yu h fun w h=>zn<|zk<|zs<|zr<|yv h fun _ w h=>yv h fun _ w h=>zm<|zm ?_
   refine yc h c38 fun _ w h=>yv h fun _ w h=>yu h fun w h=>zn<|zk<|zs<|zr<|yv h fun _ w h=>yv h fun _ w h=>yb h fun _ w h=>zn<|zk<|yJ0 [37,38,39,40,41,42,43,44,45,46,47,48,49,50,51,52,53,54,55,56,57,58] h (fun _ _ hkK2 h=>?_) fun σ w h=>?_
   · refine yC h (fun h=>?_) fun h=>?_
     · refine yh [37,38,39,40,41,42,43,44,45,46,47] h fun C hC h=>ye 0 hC h fun _ h=>?_
       refine ye 1 hC h fun _ h=>?_
       refine ye 2 hC h fun _ h=>?_
       refine ye 3 hC h fun _ h=>?_
       refine ye 5 hC h fun _ h=>?_
       refine ye 6 hC h fun _ h=>?_
       refine ye 7 hC h fun _ h=>?_
       refine ye 8 hC h fun _ h=>?_
       refine yo 4 ?_
       refine yc h c70 fun _ w h=>zn ?_
       obtain ⟨hC,h⟩:=h
       refine ⟨hC,?_⟩
       refine yo 9 ?_
       refine yc h c70 fun _ w h=>zn ?_
       obtain ⟨hC,h⟩:=h
       refine ⟨hC,?_⟩
       refine ye 10 hC h fun _ h=>?_
       refine yq 11 1 ?_
       refine yu h fun w h=>zn ?_
       obtain ⟨C4,hC,h⟩:=h
       refine ⟨C4,hC,?_⟩
       refine yz<|zk ?_
       exact zt hkK2 h
     refine yh [48,49,50,51,52,53,54,55,56,57,58] h fun C hC h=>ye 0 hC h fun _ h=>?_
     refine ye 1 hC h fun _ h=>?_
     refine ye 2 hC h fun _ h=>?_
     refine ye 3 hC h fun _ h=>?_
     refine ye 5 hC h fun _ h=>?_
     refine ye 6 hC h fun _ h=>?_
     refine ye 7 hC h fun _ h=>?_
     refine ye 8 hC h fun _ h=>?_
     refine yo 4 ?_
     refine yc h c71 fun _ w h=>zn ?_
     obtain ⟨hC,h⟩:=h
     refine ⟨hC,?_⟩
     refine yo 9 ?_
     refine yc h c71 fun _ w h=>zn ?_
     obtain ⟨hC,h⟩:=h
     refine ⟨hC,?_⟩
     refine ye 10 hC h fun _ h=>?_
     refine yq 11 1 ?_
     refine yu h fun w h=>zn ?_
     obtain ⟨C6,hC,h⟩:=h
     refine ⟨C6,hC,?_⟩
     refine yz<|zk ?_
     exact zt hkK2 h
   exact sim_block_normal<|zk<|zr<|zm<|yb h fun _ w h=>zm<|zn<|zk<|⟨rfl,h⟩
 refine sim_exit<|sim_then_exit<|sim_then_exit<|sim_block_hit<|zk<|zs<|yh [6,59,60] h fun C hC h=>yw 0 hC ?_
 refine ye 1 hC h fun _ h=>?_
 refine yw 2 hC ?_
 refine yq 3 1 ?_
 refine yu h fun w h=>zn ?_
 obtain ⟨C8,hC,h⟩:=h
 refine ⟨C8,hC,?_⟩
 exact yz<|zk<|sim_ret<|body_retTC rfl rfl rfl h
def n13 (t0:Value) (R:RT) (w:World):Prop :=
 opV Pg (Instr.box 72 t0) (panK R) w fun t1 w =>
 opV Pg (Instr.alloc 67 true (.tuple #[])) (panK R) w fun t2 w =>
 F0 72 t1 0 R w fun t3 w =>
 L0 3 t3 R w fun t4 w =>
 F0 72 t1 1 R w fun t5 w =>
 L0 3 t5 R w fun t6 w =>
 opV Pg (Instr.build 67 #[(0,t4),(1,t6)]) (panK R) w fun t7 w =>
 opU Pg (Instr.storeAt 67 t2 t7) (panK R) w fun w =>
 qW Pg 67 t2 w fun r0 =>
 R (.returned r0) w
theorem n13s {t0:Value} {R:RT} {w:World} (h:n13 t0 R w):Calls Pg 37 #[t0] w R:=by
 refine yD Tryz.func37 ?_
 refine zs<|zr<|yv h fun _ w h=>yv h fun _ w h=>zn<|zk<|zs<|zr<|yv h fun _ w h=>yv h fun _ w h=>yv h fun _ w h=>yv h fun _ w h=>yB h fun _ w h=>yu h fun w h=>zn ?_
 exact zk<|sim_ret<|body_retC rfl rfl h
theorem OwnE.below {α:Type} {w w':World} {lo n:Nat} {T:TypeId} {enc:α→List Value} {v:Value} {l:List α} (h:OwnE w lo T n enc v l) (hh:∀ g:Nat,lo≤g→w'.heap[g]?=w.heap[g]?):OwnE w' lo T n enc v l:=by
 refine ⟨h.1,?_⟩
 rcases h.2 with h2 | ⟨g,cap,cur,h1,h2,h3,h4⟩
 · exact .inl h2
 · exact .inr ⟨g,cap,cur,h1,h2,(hh _ h2).trans h3,h4⟩
theorem OwnE.under {α:Type} {w:World} {lo n:Nat} {T:TypeId} {enc:α→List Value} {v x y:Value} {p o o':Nat} {l:List α} (h:OwnE w lo T n enc v l) (hp:p < lo):OwnE ((w.setCell ⟨p,o,none⟩ x).setCell ⟨p,o',none⟩ y) lo T n enc v l :=
 OwnE.below h fun g hg=>by rw [heap_setE (by omega),heap_setE (by omega)]
theorem Ext.cut (w:World) (n:Nat) (h:n≤w.heap.size):∃ a,Ext a w∧a.heap.size=n∧∀ g,g < n→a.heap[g]?=w.heap[g]?:=by
 have hb:∀ g,g < n→(w.heap.extract 0 n)[g]?=w.heap[g]?:=fun g hg=>by
  rw [Array.getElem?_extract]
  simp only [Nat.zero_add]
  rw [if_pos (by omega)]
 have hs:(w.heap.extract 0 n).size=n:=by rw [Array.size_extract];omega
 exact ⟨{ w with heap:=w.heap.extract 0 n },⟨rfl,rfl,rfl,by show (w.heap.extract 0 n).size≤_;omega,fun k hk=>(hb k (by rw [← hs];exact hk)).symm⟩,hs,hb⟩
def posL (sp:List (ByteArray×Int×Int)) (l:List FieldD) (n:Nat):List (ByteArray×Int×Int):=(List.range n).map fun k=>(ByteArray.empty,posS sp l k)
theorem range_snoc (sp:List (ByteArray×Int×Int)) (l:List FieldD) (n:Nat):posL sp l (n+1)=posL sp l n++[(ByteArray.empty,posS sp l n)]:=by unfold posL;rw [List.range_succ,List.map_append];rfl
theorem posL_len (sp:List (ByteArray×Int×Int)) (l:List FieldD) (n:Nat):(posL sp l n).length=n:=by simp [posL]
theorem rpositions_ret (w0:World) (v mv bv:Value) (d:DefD) (n:Nat) (m:MsgD) (hd:DefVal w0 v d) (hm:MsgVal w0 mv m) (hlm:m.fields.length≤1048576) (hn:n≤d.msgs.length) (hN:DistM (d.msgs.take n)) (hB:SpsOf w0 bv (spansD (d.msgs.take n))) (hb:BSp (spansD (d.msgs.take n))) (hv:∀ f∈m.fields,OkV (depsOf (d.msgs.take n)) m.fields f) (ok:OkM (spansD (d.msgs.take n)) m.fields) :
 Ret Pg 36 #[v,mv,bv] w0 fun r w'=>∃ sv,r = .tuple #[sv,rangeVal (posS (spansD (d.msgs.take n)) m.fields m.fields.length).1 (posS (spansD (d.msgs.take n)) m.fields m.fields.length).2]∧OwnE w' w0.heap.size 72 2 spCells sv (posL (spansD (d.msgs.take n)) m.fields m.fields.length)∧Ext w0 w':=by
 obtain ⟨dv,rfl,hD⟩:=hd
 have hd1:=SliceOf.oneCell hD
 obtain ⟨fv,rfl,hF⟩:=hm
 have hF0:=hF
 have hf1:=SliceOf.oneCell hF
 have hB1:=SliceOf.oneCell hB
 obtain ⟨A,c,rfl,hlc,hcm,hlm',hel⟩:=SliceOf.open hF
 refine n44s (R:=retR _) ?_;unfold n44
 simp (disch:=try exact DI) only [↓PR,QR,simprocAttr]
 simp only [World.size_alloc]
 generalize hX:World.alloc (World.alloc w0 _) _=X
 have eX:Ext w0 X:=by rw [← hX];exact ee
 have o3:X.heap[w0.heap.size]?=some (.cells (defCells d dv).toArray 24 (0,0)):=by rw [← hX];simp (disch:=try exact DI) only [↓PR,QR,simprocAttr]
 have o4:X.heap[w0.heap.size+1]?=some (.cells (msgCells m (.slice A m.fields.length c)).toArray 44 (0,0)):=by rw [← hX];simp (disch:=try exact DI) only [↓PR,QR,simprocAttr]
 have sX:X.heap.size=w0.heap.size+1+1:=by rw [← hX];simp
 clear hX
 rw [← sX]
 generalize hp4:w0.heap.size+1=p4 at o4 sX ⊢
 generalize hp3:w0.heap.size=p3 at o3 hp4 ⊢
 generalize hW:World.alloc (World.alloc X _) _=W
 have eW:Ext X W:=by rw [← hW];exact ee
 have o7:W.heap[X.heap.size]?=some (.cells #[.int .i64 0,.int .i64 0] 72 (0,0)):=by rw [← hW];simp (disch:=try exact DI) only [↓PR,QR,simprocAttr]
 have o9:W.heap[X.heap.size+1]?=some (.cells #[.int .i64 0,.int .i64 0] 72 (0,0)):=by rw [← hW];simp (disch:=try exact DI) only [↓PR,QR,simprocAttr]
 have sW:W.heap.size=X.heap.size+2:=by rw [← hW];simp
 clear hW
 generalize hp9:X.heap.size+1=p9 at o9 ⊢
 generalize hp7:X.heap.size=p7 at o7 ⊢
 have h79:p7≠p9:=by omega
 have hrs:=fun (w:World) (mv:Value) (hm:MsgVal w mv m) (e:Ext w0 w) (i:Nat) (f:FieldD) (hi:m.fields[i]?=some f)=>rspan_ret w (.agg (defCells d dv).toArray) mv bv d n i m f ⟨_,rfl,hD.ext e⟩ hm hi hlm hn hN (hB.ext e) hb (hv f (List.mem_of_getElem? hi))
 generalize spansD (d.msgs.take n)=sp at hB hb ok hrs ⊢
 refine loop2_intro (fun a b w=>∃ (k:Nat) (sv:Value),a=sv∧b = .int .i64 k∧k≤m.fields.length∧Ext X w∧(∃ z0 z1,w.heap[p7]?=some (.cells #[z0,z1] 72 (0,0)))∧w.heap[p9]?=some (.cells #[.int .i64 (posS sp m.fields k).1,.int .i64 (posS sp m.fields k).2] 72 (0,0))∧OwnE w (p7+2) 72 2 spCells sv (posL sp m.fields k)) (fun _ b _=>m.fields.length - (intOf b).toNat) ⟨0,_,rfl,rfl,by omega,eW,⟨_,_,o7⟩,o9,OwnE.nil _ _ _ _ _⟩ ?_
 rintro sv _ w ⟨k,_,rfl,rfl,hk,e,⟨z0,z1,x7⟩,x9,hO⟩
 have E:=eX.trans e
 have x3:=e.obj o3
 have x4:=e.obj o4
 have l7:=(Array.getElem?_eq_some_iff.1 x7).1
 have l9:=(Array.getElem?_eq_some_iff.1 x9).1
 have hin:=posS_in ok k
 unfold n44c8
 rcases drop_cases hk with ⟨f,hx,hdr,hlt,hdec⟩ | ⟨hk,hdr,hdec⟩
 · obtain ⟨b,o,cs,rfl,_,hA,hE⟩:=hel k f hx
   obtain ⟨tv,cv,rfl,hT,hC,ht1,hc1⟩:=hE.op
   have hfm:=List.mem_of_getElem? hx
   have hstp:=posS_step (sp:=sp) hx
   simp (disch:=try exact DI) only [↓PR,QR,simprocAttr,(cells_of_heap x4).1,hdec,↓n44c7,(cells_of_heap x9).1]
   generalize hQ:posS sp m.fields k=q at x9 hin hstp ⊢
   have hO1:=hO.ext ((Ext.refl w).alloc (Obj.cells #[.int .i64 q.1,.int .i64 q.2] 72))
   refine append_one Tryz.underlying70 ty72 by72 rfl (by decide) (fun _=>rfl) (ByteArray.empty,q) (by simp only [spCells,List.forall_mem_cons];exact ⟨rfl,rfl,by simp⟩) hO1 (ElemAt.new _ _) (by simp only [World.size_alloc];omega) (by rw [posL_len];omega) ?_
   intro sv2 w1 hO2 hext
   obtain ⟨a,ea,sa,ha⟩:=Ext.cut w (p7+2) (by omega)
   have e1:=hext a (ea.alloc _) (by omega)
   have E1:=eX.trans (hext X (e.alloc _) (by omega))
   have e2:=hext X (e.alloc _) (by omega)
   have y7:=e1.obj ((ha p7 (by omega)).trans x7)
   have y9:=e1.obj ((ha p9 (by omega)).trans x9)
   have x9:=y9
   have x7:=y7
   have hO2':OwnE w1 (p7+2) 72 2 spCells sv2 (posL sp m.fields (k+1)):=by rw [range_snoc,hQ];exact hO2
   clear hO2 hO1 hO
   have y3:=e2.obj o3
   have y4:=e2.obj o4
   simp (disch:=try exact DI) only [↓PR,QR,simprocAttr,(cells_of_heap y3).1,(cells_of_heap y4).1,hA.c15 E1]
   have o11:=heap_new w1 (fieldCells f tv cv).toArray 38
   have eV:Ext w1 (w1.alloc (.cells (fieldCells f tv cv).toArray 38)):=ee
   generalize hV:w1.alloc (.cells (fieldCells f tv cv).toArray 38)=V at o11 eV ⊢
   clear hV
   generalize hp11:w1.heap.size=p11 at o11 ⊢
   have z3:=eV.obj y3
   have z4:=eV.obj y4
   simp (disch:=try exact DI) only [↓PR,QR,simprocAttr,(cells_of_heap z3).1,(cells_of_heap z4).1]
   refine zcr (hrs _ _ ⟨_,rfl,hF0.ext (E1.trans eV)⟩ (E1.trans eV) k f hx) fun w2 e3=>?_
   have x11:=e3.obj o11
   have u7:=e3.obj (eV.obj y7)
   have u9:=e3.obj (eV.obj y9)
   have hO3:=hO2'.ext (eV.trans e3)
   have E3:=(e2.trans eV).trans e3
   clear x7 x9 y7 y9 y3 y4 z3 z4 o11 hO2'
   generalize hS:spanF sp m.fields f=sf at hstp ⊢
   unfold n44c5
   have eN:Ext w2 (w2.alloc (.cells #[.int .i64 sf.1,.int .i64 sf.2] 72)):=ee
   have o12:=heap_new w2 #[.int .i64 sf.1,.int .i64 sf.2] 72
   by_cases hk10:f.kind=10
   · have d1:(f.kind == 10)=true:=by simp [hk10]
     have hpad:=ok.pad f hfm hk10
     simp (disch:=try exact DI) only [↓PR,QR,simprocAttr,(cells_of_heap (eN.obj x11)).1,d1]
     generalize hZ:w2.alloc (.cells #[.int .i64 sf.1,.int .i64 sf.2] 72)=Z at eN o12 ⊢
     clear hZ
     generalize hp12:w2.heap.size=p12 at o12 ⊢
     have b7:=eN.obj u7
     have b9:=eN.obj u9
     have b11:=eN.obj x11
     have hO4:=hO3.ext eN
     have E4:=E3.trans eN
     refine drawK_intro ?_
     have eG:Ext Z Z.drew:=(Ext.refl _).wdrew
     unfold n44c2
     simp (disch:=try exact DI) only [↓PR,QR,simprocAttr,(cells_of_heap b9).1,(cells_of_heap b11).1,(cells_of_heap o12).1]
     refine zcr (rup_ret _ q.1 f.bits hin.1 hpad) fun w4 e4=>?_
     refine ⟨e4,?_⟩
     simp (disch:=try exact DI) only [↓PR,QR,simprocAttr,↓n44c1,↓n44c3]
     refine zcr (rup_ret _ q.2 f.bits hin.2 hpad) fun w5 e5=>?_
     refine ⟨e4.trans e5,?_⟩
     have eF:=eG.trans (e4.trans e5)
     have y9:=eF.obj b9
     have y7:=eF.obj b7
     have l9':=(Array.getElem?_eq_some_iff.1 y9).1
     simp (disch:=try exact DI) only [↓PR,QR,simprocAttr,(cells_of_heap y9).1,(cells_of_heap y9).2]
     refine turnK_intro ?_
     simp (disch:=try exact DI) only [↓PR,QR,simprocAttr]
     refine ⟨⟨k+1,sv2,rfl,rfl,by omega,ee,⟨z0,z1,by first | exact y7 | (rw [heap_setE h79,heap_setE h79];exact y7)⟩,?_,?_⟩,meas_lt hlt⟩
     · rw [hstp]
       simpa [stepQ,hk10,hS] using heap_set (o:=1) (heap_set (o:=0) y9 (.int .i64 (capF (upI q.1 f.bits)))) (.int .i64 (capF (upI q.2 f.bits)))
     · exact OwnE.under (hO4.ext eF) (by omega)
   · have d1:(f.kind == 10)=false:=by simp [hk10]
     have hsp:=ok.span f hfm hk10
     rw [hS] at hsp
     simp (disch:=try exact DI) only [↓PR,QR,simprocAttr,(cells_of_heap (eN.obj x11)).1,d1]
     generalize hZ:w2.alloc (.cells #[.int .i64 sf.1,.int .i64 sf.2] 72)=Z at eN o12 ⊢
     clear hZ
     generalize hp12:w2.heap.size=p12 at o12 ⊢
     have b7:=eN.obj u7
     have b9:=eN.obj u9
     have b11:=eN.obj x11
     have hO4:=hO3.ext eN
     have E4:=E3.trans eN
     refine drawK_intro ?_
     have eG:Ext Z Z.drew:=(Ext.refl _).wdrew
     unfold n44c4
     simp (disch:=try exact DI) only [↓PR,QR,simprocAttr,(cells_of_heap b9).1,(cells_of_heap b11).1,(cells_of_heap o12).1]
     refine zcr (rplus_ret _ q.1 sf.1 hin.1 hsp.1) fun w4 e4=>?_
     refine ⟨e4,?_⟩
     simp (disch:=try exact DI) only [↓PR,QR,simprocAttr,↓n44c1,↓n44c3]
     refine zcr (rplus_ret _ q.2 sf.2 hin.2 hsp.2) fun w5 e5=>?_
     refine ⟨e4.trans e5,?_⟩
     have eF:=eG.trans (e4.trans e5)
     have y9:=eF.obj b9
     have y7:=eF.obj b7
     have l9':=(Array.getElem?_eq_some_iff.1 y9).1
     simp (disch:=try exact DI) only [↓PR,QR,simprocAttr,(cells_of_heap y9).1,(cells_of_heap y9).2]
     refine turnK_intro ?_
     simp (disch:=try exact DI) only [↓PR,QR,simprocAttr]
     refine ⟨⟨k+1,sv2,rfl,rfl,by omega,ee,⟨z0,z1,by first | exact y7 | (rw [heap_setE h79,heap_setE h79];exact y7)⟩,?_,?_⟩,meas_lt hlt⟩
     · rw [hstp]
       simpa [stepQ,hk10,hS] using heap_set (o:=1) (heap_set (o:=0) y9 (.int .i64 (capF (q.1+sf.1)))) (.int .i64 (capF (q.2+sf.2)))
     · exact OwnE.under (hO4.ext eF) (by omega)
 · subst hk
   simp (disch:=try exact DI) only [↓PR,QR,simprocAttr,(cells_of_heap x4).1,hdec]
   refine drawK_intro ?_
   unfold n44c6
   simp (disch:=try exact DI) only [↓PR,QR,simprocAttr,(cells_of_heap x9).1,(cells_of_heap x7).1,(cells_of_heap x7).2]
   refine turnK_intro ?_
   simp (disch:=try exact DI) only [↓PR,QR,simprocAttr,(cells_of_heap x7).1,(cells_of_heap x7).2]
   exact ⟨_,rfl,(OwnE.under (hO.ext ((Ext.refl w).wdrew)) (by omega)).base (by omega),ee⟩
theorem elem_new {w:World} {p:Nat} (hp:p=w.heap.size) (cs:List Value) (T:TypeId):ElemAt (w.alloc (.cells cs.toArray T)) p 0 cs:=by subst hp;exact ElemAt.new cs T
theorem rmessages_ret (w0:World) (v:Value) (d:DefD) (hd:DefVal w0 v d) (hf:Fine d.msgs) (ht:∀ m∈d.msgs,∀ f∈m.fields,f.terms.length≤1048576) (hl:d.msgs.length≤1048576):Ret Pg 35 #[v] w0 fun r w'=>SpsOf w' r (spansD d.msgs)∧Ext w0 w':=by
 have hV:=hf.allV
 obtain ⟨dv,rfl,hD⟩:=hd
 have hD0:=hD
 have hd1:=SliceOf.oneCell hD
 obtain ⟨A,c,rfl,hlc,hcm,hlm,hel⟩:=SliceOf.open hD
 refine n43s (R:=retR _) ?_;unfold n43
 simp (disch:=try exact DI) only [↓PR,QR,simprocAttr]
 have hBW:=ElemAt.new (w:=w0) (defCells d (.slice A d.msgs.length c)) (24)
 have eW:Ext w0 (w0.alloc (Obj.cells (List.toArray (defCells d (.slice A d.msgs.length c))) (24))):=(Ext.refl _).alloc _
 generalize (w0.alloc (Obj.cells (List.toArray (defCells d (.slice A d.msgs.length c))) (24)))=W at hBW eW ⊢
 refine loop2_intro (fun a b w'=>∃ (k:Nat) (sv:Value),a=sv∧b = .int .i64 k∧k≤d.msgs.length∧Ext W w'∧OwnE w' W.heap.size 72 2 spCells sv (spansD (d.msgs.take k))) (fun _ b _=>d.msgs.length - (intOf b).toNat) ⟨0,_,rfl,rfl,by omega,Ext.refl _,OwnE.nil _ _ _ _ _⟩ ?_
 rintro sv _ w ⟨k,_,rfl,rfl,hk,e,hO⟩
 have E:=eW.trans e
 have sw:=e.size
 unfold n43c5
 rcases drop_cases hk with ⟨m,hx,hdr,hlt,hdec⟩ | ⟨hk,hdr,hdec⟩
 · obtain ⟨b,o,cs,rfl,_,hA,fv,rfl,hF⟩:=hel k m hx
   have hf1:=SliceOf.oneCell hF
   simp (disch:=try exact DI) only [↓PR,QR,simprocAttr,hBW.c3 e,hdec]
   refine drawK_intro ?_
   have eD:Ext w w.drew:=(Ext.refl _).wdrew
   have ED:=E.trans eD
   have sD:w.drew.heap.size=w.heap.size:=World.size_drew _
   have qi:∀ K:Value→Prop,qV Pg (EC w.drew) (Instr.indexAt 22 (.slice (some ⟨b,o,none⟩) d.msgs.length c) (.int .i64 (k:Int))) K=K (.pointer (some ⟨b,o+k*2,none⟩)):=fun K=>qV_of fun QP w' k'=>op_indexN Tryz.underlying22 ty44 b o d.msgs.length c .i64 k hlt
   have ql:∀ K:Value→Prop,qV Pg (EC w.drew) (Instr.loadAt 44 (.pointer (some ⟨b,o+k*2,none⟩))) K=K (.agg (msgCells m fv).toArray):=fun K=>qV_eqC fun w' e=>run_of_op fun QP k=>op_load ((hA.ext (ED.trans e)).loads ty44 rfl)
   unfold n43c4
   simp (disch:=try exact DI) only [↓PR,QR,simprocAttr,hBW.c3 e,hA.c2 E,qi]
   have hx':=hV k m hx
   have htm:=ht m (List.mem_of_getElem? hx)
   have hsp:=spans_in hV ht k (by omega)
   have hpos:∀ w1:World,Ext w0 w1→Ext w w1→_:=fun w1 e1 e2=>rpositions_ret w1 (.agg (defCells d (.slice (some ⟨b,o,none⟩) d.msgs.length c)).toArray) (.agg (msgCells m fv).toArray) sv d k m ⟨_,rfl,hD0.ext e1⟩ ⟨_,rfl,hF.ext e1⟩ (by omega) (by omega) (hf.take k).dist ((hO.ext e2).slice (E:=ESp) (fun _=>rfl) (fun _ _=>rfl)) hsp hx'.1 (okM_of hx'.1 htm hsp)
   refine ⟨?_,?_⟩
   · refine callK_ret (hpos _ ee ee) ?_
     rintro _ w1 ⟨sv1,rfl,_,e1⟩
     refine ⟨e1,?_⟩
     have E1:=(e.trans eD).trans e1
     unfold n43c2
     simp (disch:=try exact DI) only [↓PR,QR,simprocAttr]
     refine ⟨ee,turnK_intro ?_⟩
     simp (disch:=try exact DI) only [↓PR,QR,simprocAttr,↓n43c1]
     have s1:=e1.size
     refine append_one Tryz.underlying70 ty72 by72 rfl (by decide) (fun _=>rfl) (m.name,posS (spansD (d.msgs.take k)) m.fields m.fields.length) (by simp only [spCells,List.forall_mem_cons];exact ⟨rfl,rfl,by simp⟩) (hO.ext (((eD.trans e1).alloc _).alloc _)) (elem_new (by simp) _ _) (by simp only [World.size_alloc,World.size_setCell];omega) (by rw [spansD_len,List.length_take];omega) ?_
     intro v' w' hO' hext
     have eN:Ext W w':=hext W (e.trans (((eD.trans e1).alloc _).alloc _)) (Nat.le_refl _)
     simp (disch:=try exact DI) only [↓PR,QR,simprocAttr]
     refine ⟨⟨k+1,v',rfl,rfl,by omega,eN,?_⟩,meas_lt hlt⟩
     rw [spansD_step hx]
     exact hO'
   · refine ⟨ee,?_⟩
     refine callK_ret (hpos _ ee ee) ?_
     rintro _ w1 ⟨sv1,rfl,_,e1⟩
     have E1:=(e.trans eD).trans (((Ext.refl w.drew).alloc _).trans e1)
     have o6:(w.drew.alloc (.cells #[.int .i64 0,.int .i64 0] 72)).heap[w.heap.size]?=some (.cells #[.int .i64 0,.int .i64 0] 72 (0,0)):=by have:=heap_new w.drew #[.int .i64 0,.int .i64 0] 72;rwa [sD] at this
     have x6:=e1.obj o6
     have l6:=(Array.getElem?_eq_some_iff.1 x6).1
     unfold n43c3
     refine ⟨((Ext.refl w.drew).alloc _).trans e1,?_⟩
     simp (disch:=try exact DI) only [↓PR,QR,simprocAttr,(cells_of_heap x6).1,(cells_of_heap x6).2]
     refine turnK_intro ?_
     simp (disch:=try exact DI) only [↓PR,QR,simprocAttr,↓n43c1,(cells_of_heap x6).1]
     have s1:=e1.size
     have sA:=World.size_alloc w.drew (.cells #[.int .i64 0,.int .i64 0] 72)
     refine append_one Tryz.underlying70 ty72 by72 rfl (by decide) (fun _=>rfl) (m.name,posS (spansD (d.msgs.take k)) m.fields m.fields.length) (by simp only [spCells,List.forall_mem_cons];exact ⟨rfl,rfl,by simp⟩) (hO.ext (((((eD.trans (((Ext.refl w.drew).alloc _).trans e1)).setCell (p:=⟨w.heap.size,0,none⟩) (Nat.le_refl _) _).setCell (p:=⟨w.heap.size,1,none⟩) (Nat.le_refl _) _).alloc _))) (elem_new (by simp) _ _) (by simp only [World.size_alloc,World.size_setCell];omega) (by rw [spansD_len,List.length_take];omega) ?_
     intro v' w' hO' hext
     have eN:Ext W w':=hext W (e.trans (((((eD.trans (((Ext.refl w.drew).alloc _).trans e1)).setCell (p:=⟨w.heap.size,0,none⟩) (Nat.le_refl _) _).setCell (p:=⟨w.heap.size,1,none⟩) (Nat.le_refl _) _).alloc _))) (Nat.le_refl _)
     simp (disch:=try exact DI) only [↓PR,QR,simprocAttr]
     refine ⟨⟨k+1,v',rfl,rfl,by omega,eN,?_⟩,meas_lt hlt⟩
     rw [spansD_step hx]
     exact hO'
 · subst hk
   simp (disch:=try exact DI) only [↓PR,QR,simprocAttr,hBW.c3 e,hdec]
   rw [List.take_length] at hO
   exact ⟨hO.slice (E:=ESp) (fun _=>rfl) (fun _ _=>rfl),E⟩
def fieldV (d:DefD) (i fld:Int):Int×Int:=match d.msgs[i.toNat]? with
 | none=>(0,0)
 | some m=>match m.fields[fld.toNat]? with
  | none=>(0,0)
  | some f=>spanF (spansD d.msgs) m.fields f
def posV (d:DefD) (i fld:Int):Int×Int:=match d.msgs[i.toNat]? with
 | none=>(0,0)
 | some m=>posS (spansD d.msgs) m.fields fld.toNat
def msgV (d:DefD) (i:Int):Int×Int:=match d.msgs[i.toNat]? with
 | none=>(0,0)
 | some m=>lookS (spansD d.msgs) m.name
def getR (e:Int) (r:Int×Int):Value:=if e=0 then .tuple #[rangeVal r.1 r.2,.int .i64 0] else .tuple #[rangeVal 0 0,.int .i64 e]
theorem errG_zero {d:DefD} {i fld:Int} (h:errG d i fld=0):(checkP d).2.2=0∧∃ (k j:Nat) (m:MsgD) (f:FieldD),i=k∧fld=j∧d.msgs[k]?=some m∧m.fields[j]?=some f:=by
 unfold errG at h
 by_cases hE:msgE d i=0
 · rw [if_neg (by simp [hE])] at h
   obtain ⟨hc,k,m,rfl,hk,hm,hL⟩:=msgE_zero hE
   rw [hL] at h
   by_cases hf:fld < 0∨(m.fields.length:Int)≤fld
   · rw [if_pos hf] at h;exact absurd h (by decide)
   · obtain ⟨f,hfj⟩:=getElem?_lt (l:=m.fields) (k:=fld.toNat) (by omega)
     exact ⟨hc,k,fld.toNat,m,f,rfl,by omega,hm,hfj⟩
 · rw [if_pos hE] at h;exact absurd h hE
section
variable {w0:World} {d:DefD}
theorem field1_ret (w0:World) (m:MsgD) (fl:Value) (mr:Nat) (sp:List (ByteArray×Int×Int)) (p5 j:Nat) (f:FieldD) (hM:MapOf w0 mr (RP sp)) (hF:FieldsOf w0 fl m.fields) (hj:m.fields[j]?=some f) (ok:OkS sp m.fields f) (h5:w0.heap[p5]?=some (.cells #[.int .i64 (j:Int)] 3 (0,0))):Ret Pg 66 #[.agg (planCells m fl mr).toArray,.pointer (some ⟨p5,0,none⟩)] w0 fun r w'=>r=rangeVal (spanF sp m.fields f).1 (spanF sp m.fields f).2∧Ext w0 w':=by
 have hf1:=SliceOf.oneCell hF
 obtain ⟨A,c,rfl,hlc,hcm,hlm,hel⟩:=SliceOf.open hF
 obtain ⟨b,o,cs,rfl,hl,hA,hE⟩:=hel j f hj
 obtain ⟨tv,cv,rfl,hT,hC,ht1,hc1⟩:=hE.op
 have hjl:=(List.getElem?_eq_some_iff.1 hj).1
 have l5:=(Array.getElem?_eq_some_iff.1 h5).1
 refine n130s (R:=retR _) ?_;unfold n130
 simp (disch:=try exact DI) only [↓PR,QR,simprocAttr]
 generalize hW:World.alloc (World.alloc w0 _) _=W
 have e0:Ext w0 W:=by rw [← hW];exact ee
 have o2:W.heap[w0.heap.size]?=some (.cells (planCells m (.slice (some ⟨b,o,none⟩) m.fields.length c) mr).toArray 105 (0,0)):=by rw [← hW];simp (disch:=try exact DI) only [↓PR,QR,simprocAttr]
 have o3:W.heap[w0.heap.size+1]?=some (.cells #[.int .i64 0,.int .i64 0] 67 (0,0)):=by rw [← hW];simp (disch:=try exact DI) only [↓PR,QR,simprocAttr]
 clear hW
 refine drawK_intro ?_
 have eD:Ext W W.drew:=(Ext.refl _).wdrew
 have E:=e0.trans eD
 have x5:=e0.obj h5
 have qi:∀ K:Value→Prop,qV Pg (EC W.drew) (Instr.indexAt 42 (.slice (some ⟨b,o,none⟩) m.fields.length c) (.int .i64 (j:Int))) K=K (.pointer (some ⟨b,o+j*15,none⟩)):=fun K=>qV_of fun QP w' k=>op_indexN Tryz.underlying42 ty38 b o m.fields.length c .i64 j hjl
 have ql:∀ K:Value→Prop,qV Pg (EC W.drew) (Instr.loadAt 38 (.pointer (some ⟨b,o+j*15,none⟩))) K=K (.agg (fieldCells f tv cv).toArray):=fun K=>qV_eqC fun w' e=>run_of_op fun QP k=>op_load ((hA.ext (E.trans e)).loads ty38 rfl)
 unfold n130c1
 simp (disch:=try exact DI) only [↓PR,QR,simprocAttr,(cells_of_heap o2).1,(cells_of_heap x5).1,(cells_of_heap h5).1,qi,hA.c15 e0]
 refine zcr (of_ret _ m _ tv cv mr f sp (hM.ext E) (hF.ext E) (hT.ext E) (hC.ext E) ok) fun w1 e1=>?_
 refine ⟨e1,?_⟩
 have E1:=E.trans e1
 have x3:=e1.obj (eD.obj o3)
 have l3:=(Array.getElem?_eq_some_iff.1 x3).1
 simp (disch:=try exact DI) only [↓PR,QR,simprocAttr,(cells_of_heap x3).1,(cells_of_heap x3).2]
 refine turnK_intro ?_
 simp (disch:=try exact DI) only [↓PR,QR,simprocAttr,(cells_of_heap x3).1]
 exact ⟨by first | trivial | rfl,ee⟩
theorem FieldX_ret (v:Value) (i fld:Int) (hd:DefVal w0 v d) (ht:calm d) (hs:Sound d) (hl:d.msgs.length≤1048576):Ret Pg 33 #[v,.int .i64 i,.int .i64 fld] w0 fun r w'=>r=getR (errG d i fld) (fieldV d i fld)∧Ext w0 w':=by
 obtain ⟨mv,rfl,hM⟩:=hd
 have hm1:=SliceOf.oneCell hM
 refine n129s (R:=retR _) ?_;unfold n129
 simp (disch:=try exact DI) only [↓PR,QR,simprocAttr]
 generalize hW:World.alloc (World.alloc (World.alloc w0 _) _) _=W
 have e0:Ext w0 W:=by rw [← hW];exact ee
 have o5:W.heap[w0.heap.size+1]?=some (.cells #[.int .i64 fld] 3 (0,0)):=by rw [← hW];simp (disch:=try exact DI) only [↓PR,QR,simprocAttr]
 have o6:W.heap[w0.heap.size+1+1]?=some (.cells #[.int .i64 0,.int .i64 0] 67 (0,0)):=by rw [← hW];simp (disch:=try exact DI) only [↓PR,QR,simprocAttr]
 clear hW
 repeat rw [World.size_alloc]
 refine callK_ret (get_ret _ i fld ⟨_,rfl,hM.ext e0⟩ ht hs hl _ _ c66 (fieldV d i fld).1 (fieldV d i fld).2 ?_) ?_
 · intro m hm hG w fl mr e hF hMp
   obtain ⟨hck,k,j,m',f,rfl,rfl,hm',hf⟩:=errG_zero hG
   rw [Int.toNat_natCast] at hm
   rw [hm] at hm'
   injection hm' with hm'
   subst hm'
   have hV:fieldV d k j=spanF (spansD d.msgs) m.fields f:=by unfold fieldV;rw [Int.toNat_natCast,hm];simp only [Int.toNat_natCast,hf]
   rw [hV]
   exact field1_ret w m fl mr _ _ j f hMp hF hf ((hs.full hck m (List.mem_of_getElem? hm)).ok f (List.mem_of_getElem? hf)) (e.obj o5)
 rintro _ w1 ⟨rfl,e1⟩
 have x6:=e1.obj o6
 have E1:=e0.trans e1
 have l6:=(Array.getElem?_eq_some_iff.1 x6).1
 unfold n129c1
 unfold getR
 by_cases hG:errG d i fld=0
 · rw [if_pos hG]
   simp (disch:=try exact DI) only [↓PR,QR,simprocAttr,(cells_of_heap x6).1,(cells_of_heap x6).2]
   exact ⟨by first | trivial | rfl,ee⟩
 · rw [if_neg hG]
   simp (disch:=try exact DI) only [↓PR,QR,simprocAttr,(cells_of_heap x6).1,(cells_of_heap x6).2]
   exact ⟨by first | trivial | rfl,ee⟩
end
def pkR (e:Int) (r:Int×Int):Int×Int:=if e=0 then r else (0,0)
theorem getR_pk (e:Int) (r:Int×Int):getR e r = .tuple #[rangeVal (pkR e r).1 (pkR e r).2,.int .i64 e]:=by
 unfold getR pkR
 by_cases h:e=0
 · rw [if_pos h,if_pos h,h]
 · rw [if_neg h,if_neg h]
section
variable {w0:World} {d:DefD}
theorem pos1_ret (w0:World) (m:MsgD) (fl:Value) (mr:Nat) (sp:List (ByteArray×Int×Int)) (p5 j:Nat) (hM:MapOf w0 mr (RP sp)) (hF:FieldsOf w0 fl m.fields) (hj:j≤m.fields.length) (hl:m.fields.length≤1048576) (ok:OkM sp m.fields) (h5:w0.heap[p5]?=some (.cells #[.int .i64 (j:Int)] 3 (0,0))):Ret Pg 68 #[.agg (planCells m fl mr).toArray,.pointer (some ⟨p5,0,none⟩)] w0 fun r w'=>r=rangeVal (posS sp m.fields j).1 (posS sp m.fields j).2∧Ext w0 w':=by
 have hf1:=SliceOf.oneCell hF
 have l5:=(Array.getElem?_eq_some_iff.1 h5).1
 refine n137s (R:=retR _) ?_;unfold n137
 simp (disch:=try exact DI) only [↓PR,QR,simprocAttr]
 generalize hW:World.alloc (World.alloc w0 _) _=W
 have e0:Ext w0 W:=by rw [← hW];exact ee
 have o3:W.heap[w0.heap.size+1]?=some (.cells #[.int .i64 0,.int .i64 0] 67 (0,0)):=by rw [← hW];simp (disch:=try exact DI) only [↓PR,QR,simprocAttr]
 clear hW
 have x5:=e0.obj h5
 simp (disch:=try exact DI) only [↓PR,QR,simprocAttr,(cells_of_heap x5).1,(cells_of_heap h5).1]
 refine zcr (atS_ret _ m fl mr sp (hM.ext e0) (hF.ext e0) ok j hj hl) fun w1 e1=>?_
 have E1:=e0.trans e1
 have x3:=e1.obj o3
 have l3:=(Array.getElem?_eq_some_iff.1 x3).1
 simp (disch:=try exact DI) only [↓PR,QR,simprocAttr,(cells_of_heap x3).1,(cells_of_heap x3).2]
 exact ⟨by first | trivial | rfl,ee⟩
theorem PositionX_ret (v:Value) (i fld:Int) (hd:DefVal w0 v d) (ht:calm d) (hs:Sound d) (hl:d.msgs.length≤1048576) (hlf:∀ m∈d.msgs,m.fields.length≤1048576):Ret Pg 34 #[v,.int .i64 i,.int .i64 fld] w0 fun r w'=>r=getR (errG d i fld) (posV d i fld)∧Ext w0 w':=by
 obtain ⟨mv,rfl,hM⟩:=hd
 have hm1:=SliceOf.oneCell hM
 refine n136s (R:=retR _) ?_;unfold n136
 simp (disch:=try exact DI) only [↓PR,QR,simprocAttr]
 generalize hW:World.alloc (World.alloc (World.alloc w0 _) _) _=W
 have e0:Ext w0 W:=by rw [← hW];exact ee
 have o5:W.heap[w0.heap.size+1]?=some (.cells #[.int .i64 fld] 3 (0,0)):=by rw [← hW];simp (disch:=try exact DI) only [↓PR,QR,simprocAttr]
 have o6:W.heap[w0.heap.size+1+1]?=some (.cells #[.int .i64 0,.int .i64 0] 67 (0,0)):=by rw [← hW];simp (disch:=try exact DI) only [↓PR,QR,simprocAttr]
 clear hW
 repeat rw [World.size_alloc]
 refine callK_ret (get_ret _ i fld ⟨_,rfl,hM.ext e0⟩ ht hs hl _ _ c68 (posV d i fld).1 (posV d i fld).2 ?_) ?_
 · intro m hm hG w fl mr e hF hMp
   obtain ⟨hck,k,j,m',f,rfl,rfl,hm',hf⟩:=errG_zero hG
   rw [Int.toNat_natCast] at hm
   rw [hm] at hm'
   injection hm' with hm'
   subst hm'
   have hV:posV d k j=posS (spansD d.msgs) m.fields j:=by unfold posV;rw [Int.toNat_natCast,hm];simp only [Int.toNat_natCast]
   rw [hV]
   have hj:=(List.getElem?_eq_some_iff.1 hf).1
   exact pos1_ret w m fl mr _ _ j hMp hF (by omega) (hlf m (List.mem_of_getElem? hm)) (hs.full hck m (List.mem_of_getElem? hm)) (e.obj o5)
 rintro _ w1 ⟨rfl,e1⟩
 have x6:=e1.obj o6
 have E1:=e0.trans e1
 have l6:=(Array.getElem?_eq_some_iff.1 x6).1
 unfold n136c1
 unfold getR
 by_cases hG:errG d i fld=0
 · rw [if_pos hG]
   simp (disch:=try exact DI) only [↓PR,QR,simprocAttr,(cells_of_heap x6).1,(cells_of_heap x6).2]
   exact ⟨by first | trivial | rfl,ee⟩
 · rw [if_neg hG]
   simp (disch:=try exact DI) only [↓PR,QR,simprocAttr,(cells_of_heap x6).1,(cells_of_heap x6).2]
   exact ⟨by first | trivial | rfl,ee⟩
theorem msg1_ret (w0:World) (m:MsgD) (fl:Value) (mr:Nat) (sp:List (ByteArray×Int×Int)) (hM:MapOf w0 mr (RP sp)) (hF:FieldsOf w0 fl m.fields):Ret Pg 77 #[.agg (planCells m fl mr).toArray] w0 fun r w'=>r=rangeVal (lookS sp m.name).1 (lookS sp m.name).2∧Ext w0 w':=by
 have hf1:=SliceOf.oneCell hF
 refine n135s (R:=retR _) ?_;unfold n135
 simp (disch:=try exact DI) only [↓PR,QR,simprocAttr]
 generalize hW:World.alloc (World.alloc w0 _) _=W
 have e0:Ext w0 W:=by rw [← hW];exact ee
 have o3:W.heap[w0.heap.size+1]?=some (.cells #[.int .i64 0,.int .i64 0] 67 (0,0)):=by rw [← hW];simp (disch:=try exact DI) only [↓PR,QR,simprocAttr]
 clear hW
 rw [run_look (hM.ext e0)]
 have l3:=(Array.getElem?_eq_some_iff.1 o3).1
 simp (disch:=try exact DI) only [↓PR,QR,simprocAttr,(cells_of_heap o3).1,(cells_of_heap o3).2]
 exact ⟨by first | trivial | rfl,ee⟩
theorem MessageX_ret (v:Value) (i:Int) (hd:DefVal w0 v d) (ht:calm d) (hs:Sound d) (hl:d.msgs.length≤1048576):Ret Pg 39 #[v,.int .i64 i] w0 fun r w'=>r=getR (errG d i 0) (msgV d i)∧Ext w0 w':=by
 obtain ⟨mv,rfl,hM⟩:=hd
 have hm1:=SliceOf.oneCell hM
 refine n134s (R:=retR _) ?_;unfold n134
 simp (disch:=try exact DI) only [↓PR,QR,simprocAttr]
 generalize hW:World.alloc (World.alloc w0 _) _=W
 have e0:Ext w0 W:=by rw [← hW];exact ee
 have o6:W.heap[w0.heap.size+1]?=some (.cells #[.int .i64 0,.int .i64 0] 67 (0,0)):=by rw [← hW];simp (disch:=try exact DI) only [↓PR,QR,simprocAttr]
 clear hW
 repeat rw [World.size_alloc]
 refine callK_ret (get_ret _ i 0 ⟨_,rfl,hM.ext e0⟩ ht hs hl _ _ c77 (msgV d i).1 (msgV d i).2 ?_) ?_
 · intro m hm hG w fl mr e hF hMp
   have hV:msgV d i=lookS (spansD d.msgs) m.name:=by unfold msgV;rw [hm]
   rw [hV]
   exact msg1_ret w m fl mr _ hMp hF
 rintro _ w1 ⟨rfl,e1⟩
 have x6:=e1.obj o6
 have E1:=e0.trans e1
 have l6:=(Array.getElem?_eq_some_iff.1 x6).1
 unfold n134c1
 unfold getR
 by_cases hG:errG d i 0=0
 · rw [if_pos hG]
   simp (disch:=try exact DI) only [↓PR,QR,simprocAttr,(cells_of_heap x6).1,(cells_of_heap x6).2]
   exact ⟨by first | trivial | rfl,ee⟩
 · rw [if_neg hG]
   simp (disch:=try exact DI) only [↓PR,QR,simprocAttr,(cells_of_heap x6).1,(cells_of_heap x6).2]
   exact ⟨by first | trivial | rfl,ee⟩
theorem FixedX_ret (v:Value) (i:Int) (hd:DefVal w0 v d) (ht:calm d) (hs:Sound d) (hl:d.msgs.length≤1048576):Ret Pg 41 #[v,.int .i64 i] w0 fun r w'=>r = .tuple #[.bool (errG d i 0 == 0&&(msgV d i).1 == (msgV d i).2),.int .i64 (errG d i 0)]∧Ext w0 w':=by
 obtain ⟨mv,rfl,hM⟩:=hd
 have hm1:=SliceOf.oneCell hM
 refine n131s (R:=retR _) ?_;unfold n131
 simp (disch:=try exact DI) only [↓PR,QR,simprocAttr]
 generalize hW:World.alloc w0 _=W
 have e0:Ext w0 W:=by rw [← hW];exact ee
 clear hW
 refine zcr (MessageX_ret _ i ⟨_,rfl,hM.ext e0⟩ ht hs hl) fun w1 e1=>?_
 have E1:=e0.trans e1
 rw [getR_pk]
 unfold n131c1
 by_cases hG:errG d i 0=0
 · have d1:(errG d i 0 == 0)=true:=by simpa using hG
   rw [show pkR (errG d i 0) (msgV d i)=msgV d i by unfold pkR;rw [if_pos hG]]
   simp (disch:=try exact DI) only [↓PR,QR,simprocAttr,d1]
   exact ⟨by first | trivial | rfl,ee⟩
 · have d1:(errG d i 0 == 0)=false:=by simpa using hG
   simp (disch:=try exact DI) only [↓PR,QR,simprocAttr,d1]
   exact ⟨by first | trivial | rfl,ee⟩
theorem LengthX_ret (v:Value) (i:Int) (hd:DefVal w0 v d) (ht:calm d) (hs:Sound d) (hl:d.msgs.length≤1048576) (hb:errG d i 0=0→(0≤(msgV d i).1∧(msgV d i).1≤1099511627776)∧0≤(msgV d i).2∧(msgV d i).2≤1099511627776):Ret Pg 40 #[v,.int .i64 i] w0 fun r w'=>r=getR (errG d i 0) (((msgV d i).1+7).tdiv 8,((msgV d i).2+7).tdiv 8)∧Ext w0 w':=by
 obtain ⟨mv,rfl,hM⟩:=hd
 have hm1:=SliceOf.oneCell hM
 have hp:(0≤(pkR (errG d i 0) (msgV d i)).1∧(pkR (errG d i 0) (msgV d i)).1≤1099511627776)∧0≤(pkR (errG d i 0) (msgV d i)).2∧(pkR (errG d i 0) (msgV d i)).2≤1099511627776:=by
  unfold pkR
  split
  · rename_i h;exact hb h
  · decide
 have hq:pkR (errG d i 0) (((msgV d i).1+7).tdiv 8,((msgV d i).2+7).tdiv 8)=(((pkR (errG d i 0) (msgV d i)).1+7).tdiv 8,((pkR (errG d i 0) (msgV d i)).2+7).tdiv 8):=by unfold pkR;split<;>rfl
 refine n132s (R:=retR _) ?_;unfold n132
 simp (disch:=try exact DI) only [↓PR,QR,simprocAttr]
 generalize hW:World.alloc (World.alloc w0 _) _=W
 have e0:Ext w0 W:=by rw [← hW];exact ee
 have o4:W.heap[w0.heap.size+1]?=some (.cells #[.int .i64 0,.int .i64 0] 67 (0,0)):=by rw [← hW];simp (disch:=try exact DI) only [↓PR,QR,simprocAttr]
 clear hW
 refine zcr (MessageX_ret _ i ⟨_,rfl,hM.ext e0⟩ ht hs hl) fun w1 e1=>?_
 have E1:=e0.trans e1
 rw [getR_pk,getR_pk,hq]
 generalize pkR (errG d i 0) (msgV d i)=q at hp ⊢
 generalize errG d i 0=e
 obtain ⟨a,b⟩:=q
 dsimp only at hp ⊢
 have x4:=e1.obj o4
 unfold n132c2
 simp (disch:=try exact DI) only [↓PR,QR,simprocAttr]
 generalize hV:World.alloc w1 _=V
 have eV:Ext w1 V:=by rw [← hV];exact ee
 have oV:V.heap[w1.heap.size]?=some (.cells #[.int .i64 a,.int .i64 b] 67 (0,0)):=by rw [← hV];exact heap_new _ _ _
 clear hV
 have z4:=eV.obj x4
 have l4:=(Array.getElem?_eq_some_iff.1 z4).1
 have E2:=E1.trans eV
 refine drawK_intro ?_
 have eD:Ext V V.drew:=(Ext.refl _).wdrew
 simp (disch:=try exact DI) only [↓PR,QR,simprocAttr,(cells_of_heap oV).1]
 refine zcr (same_ret _ 8) fun w2 e2=>?_
 refine ⟨e2,?_⟩
 unfold n132c1
 refine zcr (both_ret _ a b 8 8 _ _ _ c80 (fun w _=>len1_ret w a hp.1) (fun w _=>len1_ret w b hp.2)) fun w3 e3=>?_
 refine ⟨e2.trans e3,?_⟩
 have E3:=((E2.trans eD).trans e2).trans e3
 have y4:=e3.obj (e2.obj (eD.obj z4))
 have l44:=(Array.getElem?_eq_some_iff.1 y4).1
 simp (disch:=try exact DI) only [↓PR,QR,simprocAttr,(cells_of_heap y4).1,(cells_of_heap y4).2]
 refine turnK_intro ?_
 simp (disch:=try exact DI) only [↓PR,QR,simprocAttr,(cells_of_heap y4).1,(cells_of_heap y4).2]
 exact ⟨by first | trivial | rfl,ee⟩
end
theorem spans_take (l:List MsgD) {k:Nat} (hk:k≤l.length):(spansD l).take k=spansD (l.take k):=by
 have key:∀ n,k+n≤l.length→(spansD (l.take (k+n))).take k=spansD (l.take k):=by
  intro n
  induction n with
  | zero =>
   intro _
   rw [Nat.add_zero,List.take_of_length_le]
   rw [spansD_len,List.length_take];omega
  | succ n ih =>
   intro h
   obtain ⟨m,hm⟩:=getElem?_lt (l:=l) (k:=k+n) (by omega)
   rw [← Nat.add_assoc,spansD_step hm,stepM,List.take_append_of_le_length (by rw [spansD_len,List.length_take];omega)]
   exact ih (by omega)
 have:=key (l.length - k) (by omega)
 rwa [show k+(l.length - k)=l.length by omega,List.take_length] at this
theorem look_at {l:List MsgD} (hN:DistM l) {k:Nat} {s:ByteArray} {q:Int×Int} (h:(spansD l)[k]?=some (s,q)):lookS (spansD l) s=q:=by
 have hlen:=spansD_len l
 have hk:=(List.getElem?_eq_some_iff.1 h).1
 have nm:∀ (j:Nat) (q:Int×Int),(spansD l)[j]?=some (s,q)→∃ m,l[j]?=some m∧m.name=s:=by
  intro j q hj
  have:=congrArg (fun x=>x[j]?) (keysP l)
  simp only [List.getElem?_map,hj,Option.map_some] at this
  cases hm:l[j]? with
  | none=>rw [hm] at this;simp at this
  | some m=>rw [hm] at this;simp at this;exact ⟨m,rfl,this.symm⟩
 obtain ⟨m,hm,hn⟩:=nm k q h
 rcases first_last (keysP l) hN s with ⟨_,h2⟩ | ⟨j,b,h1,h2,h3,h4⟩
 · exact absurd rfl (lastP_none.1 h2 _ (List.mem_of_getElem? h))
 · obtain ⟨m',hm',hn'⟩:=nm j b h3
   have hjk:j=k:=by
    rcases Nat.lt_trichotomy j k with hl | hl | hl
    · obtain ⟨h5,h6⟩:=List.getElem?_eq_some_iff.1 hm
      obtain ⟨h7,h8⟩:=List.getElem?_eq_some_iff.1 hm'
      exact absurd (by rw [h8,h6,hn,hn']) (List.pairwise_iff_getElem.1 hN j k h7 h5 hl)
    · exact hl
    · obtain ⟨h5,h6⟩:=List.getElem?_eq_some_iff.1 hm
      obtain ⟨h7,h8⟩:=List.getElem?_eq_some_iff.1 hm'
      exact absurd (by rw [h8,h6,hn,hn']) (List.pairwise_iff_getElem.1 hN k j h5 h7 hl)
   subst hjk
   rw [h] at h3
   injection h3 with h3
   injection h3 with _ h3
   unfold lookS
   rw [show lastR (spansD l) s=some b from h4,h3]
   rfl
theorem dist_take {l:List MsgD} (hN:DistM l) (k:Nat):DistM (l.take k):=List.Pairwise.sublist (List.take_sublist k l) hN
theorem look_more {l:List MsgD} (hN:DistM l) {k:Nat} (hk:k≤l.length) {s:ByteArray} (h:(lastP (depsOf (l.take k)) s).isSome=true):lookS (spansD l) s=lookS (spansD (l.take k)) s:=by
 obtain ⟨j,_,hj,hs⟩:=ref_at (dist_take hN k) h
 rw [← spans_take l hk,List.getElem?_take] at hs
 split at hs
 · rw [look_at hN hs,spans_take l hk]
 · cases hs
theorem span_at {l:List MsgD} {k:Nat} {m:MsgD} (hm:l[k]?=some m):(spansD l)[k]?=some (m.name,posS (spansD (l.take k)) m.fields m.fields.length):=by
 have hk:=(List.getElem?_eq_some_iff.1 hm).1
 have h1:(spansD (l.take (k+1)))[k]?=some (m.name,posS (spansD (l.take k)) m.fields m.fields.length):=by
  rw [spansD_step hm,stepM,List.getElem?_append_right (by rw [spansD_len,List.length_take];omega),spansD_len,List.length_take,Nat.min_eq_left (by omega),Nat.sub_self]
  rfl
 rw [← spans_take l (by omega),List.getElem?_take,if_pos (by omega)] at h1
 exact h1
theorem choice_congr {sp sp':List (ByteArray×Int×Int)} (l:List CaseD) (h:∀ c∈l,lookS sp c.of=lookS sp' c.of):choiceS sp l=choiceS sp' l:=by
 have key:∀ (l:List CaseD) (o:Int×Int),(∀ c∈l,lookS sp c.of=lookS sp' c.of)→l.foldl (stepC sp) o=l.foldl (stepC sp') o:=by
  intro l
  induction l with
  | nil=>intro o _;rfl
  | cons c l ih =>
   intro o h
   rw [List.foldl_cons,List.foldl_cons,show stepC sp o c=stepC sp' o c by unfold stepC;rw [h c (List.mem_cons_self ..)]]
   exact ih _ fun x hx=>h x (List.mem_cons_of_mem _ hx)
 cases l with
 | nil=>rfl
 | cons c l =>
  show (c::l).foldl (stepC sp) (lookS sp c.of)=(c::l).foldl (stepC sp') (lookS sp' c.of)
  rw [h c (List.mem_cons_self ..)]
  exact key _ _ h
theorem spanF_congr {sp sp':List (ByteArray×Int×Int)} {l:List FieldD} {f:FieldD} (h:∀ s∈refsF f,lookS sp s=lookS sp' s):spanF sp l f=spanF sp' l f:=by
 unfold spanF
 by_cases k7:f.kind=7
 · have:=h f.of (by unfold refsF;simp [k7]);simp [k7,this]
 by_cases k8:f.kind=8
 · have:=h f.of (by unfold refsF;simp [k8]);simp [k8,this]
 by_cases k9:f.kind=9
 · have:=choice_congr f.cases fun c hc=>h c.of (by unfold refsF;simp [k9];exact ⟨c,hc,rfl⟩)
   simp [k9,this]
 simp [k7,k8,k9]
theorem posS_congr {sp sp':List (ByteArray×Int×Int)} {l:List FieldD} (h:∀ f∈l,∀ s∈refsF f,lookS sp s=lookS sp' s) (k:Nat):posS sp l k=posS sp' l k:=by
 have key:∀ (r:List FieldD) (o:Int×Int),(∀ f∈r,f∈l)→r.foldl (stepQ sp l) o=r.foldl (stepQ sp' l) o:=by
  intro r
  induction r with
  | nil=>intro o _;rfl
  | cons f r ih =>
   intro o hr
   rw [List.foldl_cons,List.foldl_cons,show stepQ sp l o f=stepQ sp' l o f by unfold stepQ;rw [spanF_congr (h f (hr f (List.mem_cons_self ..)))]]
   exact ih _ fun x hx=>hr x (List.mem_cons_of_mem _ hx)
 exact key _ _ fun f hf=>List.mem_of_mem_take hf
theorem Fine.looks {l:List MsgD} (hf:Fine l) {k:Nat} {m:MsgD} (hm:l[k]?=some m):∀ f∈m.fields,∀ s∈refsF f,lookS (spansD l) s=lookS (spansD (l.take k)) s :=
 fun f hfm s hs=>look_more hf.dist (Nat.le_of_lt (List.getElem?_eq_some_iff.1 hm).1) (((hf.allV k m hm).1 f hfm).refs s hs)
theorem Fine.msgV {d:DefD} (hf:Fine d.msgs) {k:Nat} {m:MsgD} (hm:d.msgs[k]?=some m):msgV d k=posS (spansD (d.msgs.take k)) m.fields m.fields.length:=by
 unfold Go.Proofs.YtdfhjlggcdemhaaGreat.msgV
 rw [Int.toNat_natCast,hm]
 exact look_at hf.dist (span_at hm)
theorem Fine.fieldV {d:DefD} (hf:Fine d.msgs) {k j:Nat} {m:MsgD} {f:FieldD} (hm:d.msgs[k]?=some m) (hj:m.fields[j]?=some f):fieldV d k j=spanF (spansD (d.msgs.take k)) m.fields f:=by
 unfold Go.Proofs.YtdfhjlggcdemhaaGreat.fieldV
 rw [Int.toNat_natCast,hm]
 simp only [Int.toNat_natCast,hj]
 exact spanF_congr (hf.looks hm f (List.mem_of_getElem? hj))
theorem Fine.posV {d:DefD} (hf:Fine d.msgs) {k:Nat} (j:Nat) {m:MsgD} (hm:d.msgs[k]?=some m):posV d k j=posS (spansD (d.msgs.take k)) m.fields j:=by
 unfold Go.Proofs.YtdfhjlggcdemhaaGreat.posV
 rw [Int.toNat_natCast,hm]
 simp only [Int.toNat_natCast]
 exact posS_congr (hf.looks hm) j
theorem errG_0 (d:DefD) (i:Int):errG d i 0=msgE d i:=by
 unfold errG
 by_cases h:msgE d i=0
 · rw [if_neg (by simp [h]),h]
   obtain ⟨hc,k,m,rfl,hk,hm,hL⟩:=msgE_zero h
   rw [hL,if_neg]
   have:=((check_fine hc).2.2.1.allV k m hm).2.1
   omega
 · rw [if_pos h]
theorem rlength_ret (w0:World) (a b:Int) (ha:0≤a∧a≤1099511627776) (hb:0≤b∧b≤1099511627776):Ret Pg 42 #[rangeVal a b] w0 fun r w'=>r=rangeVal ((a+7).tdiv 8) ((b+7).tdiv 8)∧Ext w0 w':=by
 have hd:∀ v:Int,0≤v∧v≤1099511627776→IntKind.i64.wrap (v+7)=v+7∧IntKind.i64.wrap ((v+7).tdiv 8)=(v+7).tdiv 8:=fun v hv=>by
  refine ⟨wrap_ok (by omega) (by omega),?_⟩
  rw [Int.tdiv_eq_ediv_of_nonneg (by omega)]
  have h1:=Int.ediv_nonneg (show 0≤v+7 by omega) (show (0:Int)≤8 by decide)
  have h2:=Int.ediv_le_self 8 (show 0≤v+7 by omega)
  exact wrap_ok (by omega) (by omega)
 have h8:(8:Int)≠0:=by decide
 refine n42s (R:=retR _) ?_;unfold n42
 simp (disch:=try exact DI) only [↓PR,QR,simprocAttr,op_quo,(hd a ha).1,(hd a ha).2,(hd b hb).1,(hd b hb).2]
 exact ⟨by first | trivial | rfl,ee⟩
end Go.Proofs.YtdfhjlggcdemhaaGreat
