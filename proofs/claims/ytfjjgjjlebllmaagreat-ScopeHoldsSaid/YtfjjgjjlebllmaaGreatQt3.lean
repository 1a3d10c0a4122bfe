/-
  Lemmas for the claim.
-/
import Derived.Test.YtfjjgjjlebllmaaGreatQt2
set_option linter.all false
set_option maxHeartbeats 4000000
set_option maxRecDepth 100000
namespace Go.Proofs.YtfjjgjjlebllmaaGreat
open Sw
def n52c1 (t0 t17:Value) (C1:World→Prop) (R:RT) (w:World):Prop :=
 qV Pg C1 (Instr.extract t17 0) fun t18 =>
 qV Pg C1 (Instr.extract t17 1) fun t19 =>
 C0 122 #[t0,t19,(.int .i64 8)] R w fun t22 w =>
 R (.returned (.tuple #[])) w
def n52c2 (t0 t3:Value) (C1:World→Prop) (R:RT) (w:World):Prop :=
 qV Pg C1 (Instr.fieldAt 48 t3 10) fun t15 =>
 qV Pg C1 (Instr.loadAt 9 t15) fun t16 =>
 C0 184 #[t0] R w fun t13 w =>
 C1 w∧(
 qV Pg C1 (Instr.build 24 #[(1,t13)]) fun t14 =>
 C0 82 #[t14,t16] R w fun t17 w =>
 C1 w∧(
 n52c1 t0 t17 C1 R w))
def n52 (t0 t1:Value) (R:RT) (w:World):Prop :=
 opV Pg (Instr.box 48 t1) (panK R) w fun t3 w =>
 F0 48 t3 12 R w fun t7 w =>
 L0 3 t7 R w fun t8 w =>
 opV Pg (Instr.buildSlice 30 1 #[(0,t8)]) (panK R) w fun t9 w =>
 C0 196 #[t0,(.int .i64 1),(.int .i64 3),t9] R w fun t10 w =>
 drawK w fun C1 w =>
 n52c2 t0 t3 C1 R w
theorem n52s {t0 t1:Value} {R:RT} {w:World} (h:n52 t0 t1 R w):Calls Pg 217 #[t0,t1] w R:=by
 refine yD Tryz.func217 ?_
 refine zs<|zr<|yv h fun _ w h=>zn<|zk<|zs<|zr<|zm<|yv h fun _ w h=>yv h fun _ w h=>yS h fun _ w h=>yc h c196 fun _ w h=>zn<|zk<|zs ?_
 refine yh [4,5,11,12,13,14,15,16,17,18,19] h fun C hC h=>yw 0 hC ?_
 refine ye 3 hC h fun _ h=>?_
 refine ye 4 hC h fun _ h=>?_
 refine yo 1 ?_
 refine yc h c184 fun _ w h=>zn ?_
 obtain ⟨hC,h⟩:=h
 refine ⟨hC,?_⟩
 refine ye 2 hC h fun _ h=>?_
 refine yo 5 ?_
 refine yc h c82 fun _ w h=>zn ?_
 obtain ⟨hC,h⟩:=h
 refine ⟨hC,?_⟩
 refine yw 6 hC ?_
 refine ye 7 hC h fun _ h=>?_
 refine ye 8 hC h fun _ h=>?_
 refine yw 9 hC ?_
 refine yw 10 hC ?_
 exact yz<|zk<|zr<|zm<|zm<|yc h c122 fun _ w h=>zn<|body_normal<|body_ret0 rfl h
def n53 (t0:Value) (R:RT) (w:World):Prop :=
 opV Pg (Instr.build 45 #[]) (panK R) w fun t5 w =>
 opN Pg (nilN t0) (panK R) w fun t6 w =>
 F0 48 t6 8 R w fun t7 w =>
 opU Pg (Instr.storeAt 9 t7 (.string { data := #[] })) (panK R) w fun w =>
 opN Pg (nilN t0) (panK R) w fun t8 w =>
 F0 48 t8 7 R w fun t9 w =>
 opU Pg (Instr.storeAt 45 t9 t5) (panK R) w fun w =>
 opN Pg (nilN t0) (panK R) w fun t10 w =>
 F0 48 t10 13 R w fun t11 w =>
 opU Pg (Instr.storeAt 3 t11 (.int .i64 0)) (panK R) w fun w =>
 R (.returned (.tuple #[])) w
theorem n53s {t0:Value} {R:RT} {w:World} (h:n53 t0 R w):Calls Pg 218 #[t0] w R:=by
 refine yD Tryz.func218 ?_
 refine zr<|zm<|zm<|zm<|yB h fun _ w h=>yN h fun _ w h=>yv h fun _ w h=>yu h fun w h=>yN h fun _ w h=>yv h fun _ w h=>yu h fun w h=>yN h fun _ w h=>yv h fun _ w h=>yu h fun w h=>zn ?_
 exact body_normal<|body_ret0 rfl h
def n54c1 (t0 t3:Value) (C1:World→Prop) (R:RT) (w:World):Prop :=
 qN Pg C1 (nilN t0) fun t11 =>
 qV Pg C1 (Instr.fieldAt 164 t11 2) fun t12 =>
 qV Pg C1 (Instr.loadAt 162 t12) fun t13 =>
 qV Pg C1 (Instr.fieldAt 48 t3 8) fun t14 =>
 qV Pg C1 (Instr.loadAt 9 t14) fun t15 =>
 qV Pg C1 (Instr.lookup 162 t13 t15 false) fun t16 =>
 C0 122 #[t0,t16,(.int .i64 8)] R w fun t17 w =>
 C1 w∧(
 L0 48 t3 R w fun t19 w =>
 C0 202 #[t0,t19] R w fun t20 w =>
 R (.returned (.tuple #[])) w)
def n54 (t0 t1:Value) (R:RT) (w:World):Prop :=
 opV Pg (Instr.box 48 t1) (panK R) w fun t3 w =>
 F0 48 t3 13 R w fun t5 w =>
 L0 3 t5 R w fun t6 w =>
 opV Pg (Instr.buildSlice 30 1 #[(0,t6)]) (panK R) w fun t7 w =>
 C0 196 #[t0,(.int .i64 0),(.int .i64 4294967295),t7] R w fun t8 w =>
 drawK w fun C1 w =>
 n54c1 t0 t3 C1 R w
theorem n54s {t0 t1:Value} {R:RT} {w:World} (h:n54 t0 t1 R w):Calls Pg 219 #[t0,t1] w R:=by
 refine yD Tryz.func219 ?_
 refine zs<|zr<|yv h fun _ w h=>zn<|zk<|zs<|zr<|zm<|yv h fun _ w h=>yv h fun _ w h=>yS h fun _ w h=>yc h c196 fun _ w h=>zn<|zk<|zs ?_
 refine yh [9,10,11,12,13,14,15,16,17] h fun C hC h=>yw 0 hC ?_
 refine yw 1 hC ?_
 refine yn 2 hC h fun _ h=>?_
 refine ye 3 hC h fun _ h=>?_
 refine ye 4 hC h fun _ h=>?_
 refine ye 5 hC h fun _ h=>?_
 refine ye 6 hC h fun _ h=>?_
 refine ye 7 hC h fun _ h=>?_
 refine yo 8 ?_
 refine yc h c122 fun _ w h=>zn ?_
 obtain ⟨hC,h⟩:=h
 refine ⟨hC,?_⟩
 exact yz<|zk<|zr<|zm<|yv h fun _ w h=>yc h c202 fun _ w h=>zn<|body_normal<|body_ret0 rfl h
def n86c1 (t4 t19 t21:Value) (R:RT) (w:World):Prop :=
 opV Pg (Instr.build 74 #[(0,t19),(1,t21)]) (panK R) w fun t22 w =>
 opU Pg (Instr.storeAt 74 t4 t22) (panK R) w fun w =>
 qW Pg 74 t4 w fun r0 =>
 R (.returned (.tuple #[r0,(.int .i64 0)])) w
def n86c2 (t2 t3 t4:Value) (R:RT) (w:World):Prop :=
 opV Pg (Instr.makeFunc (.func 230) #[] #[t2,t3]) (panK R) w fun t17 w =>
 callV Pg t17 #[(.bool true)] (panK R) w fun t19 w =>
 callV Pg t17 #[(.bool false)] (panK R) w fun t21 w =>
 n86c1 t4 t19 t21 R w
def n86c3 (t2 t3 t4 t12:Value) (R:RT) (w:World):Prop :=
 B0 .neq 31 true t12 (.int .i64 0) R w fun t14 w =>
 condP t14 (
 opV Pg (Instr.build 74 #[]) (panK R) w fun t15 w =>
 opU Pg (Instr.storeAt 74 t4 t15) (panK R) w fun w =>
 qW Pg 74 t4 w fun r0 =>
 R (.returned (.tuple #[r0,t12])) w) (
 n86c2 t2 t3 t4 R w)
def n86 (t0 t1:Value) (R:RT) (w:World):Prop :=
 opV Pg (Instr.box 45 t0) (panK R) w fun t2 w =>
 opV Pg (Instr.box 122 t1) (panK R) w fun t3 w =>
 opV Pg (Instr.alloc 74 true (.tuple #[])) (panK R) w fun t4 w =>
 L0 45 t2 R w fun t9 w =>
 L0 122 t3 R w fun t10 w =>
 callK Pg 229 #[t9,(.string { data := #[] }),t10,(.func (.func 228) #[] #[])] (panK R) w fun t12 w =>
 n86c3 t2 t3 t4 t12 R w
theorem n86s {t0 t1:Value} {R:RT} {w:World} (h:n86 t0 t1 R w):Calls Pg 220 #[t0,t1] w R:=by
 refine yD Tryz.func220 ?_
 refine zs<|zr<|yv h fun _ w h=>yv h fun _ w h=>yv h fun _ w h=>zm<|zn<|zk<|zs<|zr<|zm<|zn<|zk<|zs<|zs ?_
 refine zr<|yv h fun _ w h=>yv h fun _ w h=>zm<|yc h c229 fun _ w h=>zm<|zn<|zk<|zs<|zr<|zm<|yb h fun _ w h=>zn<|zk<|yC h (fun h=>zs<|zr<|yB h fun _ w h=>zm<|yu h fun w h=>zm<|zn<|zk<|sim_ret<|sim_then_ret<|body_retCT rfl rfl rfl h) fun h=>?_
 refine sim_skip<|zk<|zs<|zr<|yF h fun _ w h=>zm<|zn<|zk<|zs<|zr<|zm<|yV h fun _ w h=>zm<|yV h fun _ w h=>yB h fun _ w h=>?_
 exact yu h fun w h=>zm<|zn<|zk<|sim_ret<|body_retCT rfl rfl rfl h
def n94c1 (t1 t6 t15:Value) (C1:World→Prop) (R:RT) (w:World):Prop :=
 joinK (fun (t21:Value) (w:World) =>
 pickK t15 t21 (.bool false) fun t22 =>
 R (.returned t22) w) fun K2 =>
 guardP t15 true (
 qV Pg C1 (Instr.fieldAt 45 t1 1) fun t17 =>
 qV Pg C1 (Instr.loadAt 43 t17) fun t18 =>
 C0 235 #[t18,t6] R w fun t20 w =>
 C1 w∧(
 qV Pg C1 (Op.unary .not t20) fun t21 =>
 K2 t21 w)) (
 K2 undef w)
def n94c2 (t1 t6 t9 t13:Value) (C1:World→Prop) (R:RT) (w:World):Prop :=
 C1 w∧(
 opV Pg (Instr.buildSlice 93 2 #[(0,t9),(1,t13)]) (panK R) w fun t14 w =>
 C1 w∧(
 C0 158 #[t14] R w fun t15 w =>
 C1 w∧(
 n94c1 t1 t6 t15 C1 R w)))
def n94c3 (t1 t6:Value) (C1:World→Prop) (R:RT) (w:World):Prop :=
 qV Pg C1 (Instr.fieldAt 45 t1 0) fun t7 =>
 qV Pg C1 (Instr.loadAt 3 t7) fun t8 =>
 qV Pg C1 (Instr.fieldAt 45 t1 1) fun t10 =>
 qV Pg C1 (Instr.loadAt 43 t10) fun t11 =>
 qV Pg C1 (Builtin.len_ #[43] 3 #[t11]) fun t12 =>
 qV Pg C1 (binS .leq 3 true t12 (.int .i64 4)) fun t13 =>
 C0 234 #[t8] R w fun t9 w =>
 n94c2 t1 t6 t9 t13 C1 R w
def n94 (t0:Value) (R:RT) (w:World):Prop :=
 opV Pg (Instr.box 45 t0) (panK R) w fun t1 w =>
 opV Pg (Instr.makeMap 162 none) (panK R) w fun t5 w =>
 opV Pg (Instr.alloc 162 true (.tuple #[])) (panK R) w fun t3 w =>
 opU Pg (Instr.storeAt 162 t3 t5) (panK R) w fun w =>
 opV Pg (Instr.makeFunc (.func 233) #[] #[t3]) (panK R) w fun t6 w =>
 drawK w fun C1 w =>
 n94c3 t1 t6 C1 R w
theorem n94s {t0:Value} {R:RT} {w:World} (h:n94 t0 R w):Calls Pg 223 #[t0] w R:=by
 refine yD Tryz.func223 ?_
 refine zs<|zr<|yv h fun _ w h=>zm<|zn<|zk<|zs<|zr<|yv h fun _ w h=>yv h fun _ w h=>yu h fun w h=>zn<|zk<|zs<|zr ?_
 refine yF h fun _ w h=>zm<|zn<|zk<|zs<|yh [2,7,8,9,10,11,12,13,14,15,16,17,18,19,20,21,22] h fun C hC h=>ye 0 hC h fun _ h=>?_
 refine ye 1 hC h fun _ h=>?_
 refine ye 3 hC h fun _ h=>?_
 refine ye 4 hC h fun _ h=>?_
 refine ye 5 hC h fun _ h=>?_
 refine ye 6 hC h fun _ h=>?_
 refine yo 2 ?_
 refine yc h c234 fun _ w h=>zn ?_
 obtain ⟨hC,h⟩:=h
 refine ⟨hC,?_⟩
 refine yo 7 ?_
 refine yS h fun _ w h=>zn ?_
 obtain ⟨hC,h⟩:=h
 refine ⟨hC,?_⟩
 refine yo 8 ?_
 refine yc h c158 fun _ w h=>zn ?_
 obtain ⟨hC,h⟩:=h
 refine ⟨hC,?_⟩
 refine yw 9 hC ?_
 refine yj1 2 [14,13,12,11,10,9,8,7,2,6,5,4,3,1,0] [17,18,19,20,21] 21 h (fun _ hT hb h=>?_) (fun _ hT hb h=>?_) fun σ w hC h=>?_
 · refine ye 10 hC h fun _ h=>?_
   refine ye 11 hC h fun _ h=>?_
   refine yw 12 hC ?_
   refine yo 13 ?_
   refine yc h c235 fun _ w h=>zn ?_
   obtain ⟨hC,h⟩:=h
   refine ⟨hC,?_⟩
   refine ye 14 hC h fun _ h=>?_
   exact yt hT hC h
 · refine yi 10 hC ?_
   refine yi 11 hC ?_
   refine yi 12 hC ?_
   refine yi 13 hC ?_
   refine yi 14 hC ?_
   exact yt hT hC h
 refine yP 15 hC h fun _ h=>?_
 refine yw 16 hC ?_
 exact yz<|zk<|sim_ret<|body_ret1 rfl rfl h
def n63c1 (t5 t6 t8:Value) (K2:World→Prop) (R:RT) (w:World):Prop :=
 F0 48 t5 0 R w fun t23 w =>
 L0 9 t23 R w fun t24 w =>
 L0 74 t6 R w fun t25 w =>
 opU Pg (Instr.mapUpdate 122 t8 t24 t25) (panK R) w fun w =>
 K2 w
def n63c2 (t5 t8 t11 t17:Value) (next1:KV) (R:RT) (w:World):Prop :=
 opV Pg (Instr.extract t17 0) (panK R) w fun t18 w =>
 opV Pg (Instr.extract t17 1) (panK R) w fun t19 w =>
 opV Pg (Instr.alloc 74 true (.tuple #[])) (panK R) w fun t6 w =>
 opU Pg (Instr.storeAt 74 t6 t18) (panK R) w fun w =>
 B0 .eql 31 true t19 (.int .i64 0) R w fun t21 w =>
 joinK (fun (w:World) =>
 B0 .add 3 true t11 (.int .i64 1) R w fun t26 w =>
 next1 t26 w) fun K2 =>
 condP t21 (
 n63c1 t5 t6 t8 K2 R w) (
 K2 w)
def n63c3 (t0 t8 t11:Value) (next1:KV) (R:RT) (w:World):Prop :=
 X0 22 t0 t11 R w fun t13 w =>
 L0 48 t13 R w fun t14 w =>
 opV Pg (Instr.alloc 48 true (.tuple #[])) (panK R) w fun t5 w =>
 opU Pg (Instr.storeAt 48 t5 t14) (panK R) w fun w =>
 L0 48 t5 R w fun t16 w =>
 C0 236 #[t16] R w fun t17 w =>
 n63c2 t5 t8 t11 t17 next1 R w
def n63 (t0:Value) (R:RT) (w:World):Prop :=
 opV Pg (Instr.makeMap 122 none) (panK R) w fun t8 w =>
 opV Pg (Builtin.len_ #[22] 3 #[t0]) (panK R) w fun t10 w =>
 loop1 (fun t11 w next1 =>
 B0 .lss 3 false t11 t10 R w fun t12 w =>
 condP t12 (
 n63c3 t0 t8 t11 next1 R w) (
 R (.returned t8) w)) (.int .i64 0) w
theorem n63s {t0:Value} {R:RT} {w:World} (h:n63 t0 R w):Calls Pg 224 #[t0] w R:=by
 refine yD Tryz.func224 ?_
 refine zs<|zr<|zm<|zn<|zk<|zs<|zr<|yv h fun _ w h=>zm<|zn<|zk<|zs<|zs<|zr<|zm ?_
 refine yx h fun _ w h=>zm<|zn<|zk<|sim_block<|yl1 [5,6,7,11,12,13,14,15,16,17,18,19,20,21,22,23,24,25,26] 11 h fun σ w next h=>zs<|zr<|yb h fun _ w h=>zn<|zk<|zs<|yC h (fun h=>?_) fun h=>?_
 · refine sim_skip<|zk<|zs<|sim_block<|zs<|zr<|yv h fun _ w h=>yv h fun _ w h=>yv h fun _ w h=>yu h fun w h=>zn<|zk<|zs<|zr<|yv h fun _ w h=>?_
   refine yc h c236 fun _ w h=>zm<|yv h fun _ w h=>yv h fun _ w h=>yv h fun _ w h=>yu h fun w h=>zm<|zn<|zk<|zs<|zr<|zm<|yb h fun _ w h=>zn<|zk ?_
   refine yJ0 [22,23,24,25] h (fun _ _ hkK2 h=>?_) fun σ w h=>?_
   · refine yC h (fun h=>?_) fun h=>?_
     · refine zr<|zm<|yv h fun _ w h=>yv h fun _ w h=>yv h fun _ w h=>yu h fun w h=>zn<|zk ?_
       exact zt hkK2 h
     refine sim_skip<|zk ?_
     exact zt hkK2 h
   exact sim_block_normal<|zk<|zr<|yb h fun _ w h=>zm<|zn<|zk<|⟨rfl,h⟩
 exact sim_exit<|sim_then_exit<|sim_then_exit<|sim_block_hit<|zk<|zs<|zr<|zm<|zm<|zn<|zk<|sim_ret<|body_ret1 rfl rfl h
def n92c1 (t1 t3:Value) (K1:World→Prop) (R:RT) (w:World):Prop :=
 F0 45 t1 1 R w fun t6 w =>
 L0 43 t6 R w fun t7 w =>
 C0 60 #[t7] R w fun t8 w =>
 opU Pg (Instr.storeAt 43 t3 t8) (panK R) w fun w =>
 K1 w
def n92 (t0:Value) (R:RT) (w:World):Prop :=
 opV Pg (Instr.box 45 t0) (panK R) w fun t1 w =>
 opV Pg (Instr.alloc 43 true (.tuple #[])) (panK R) w fun t3 w =>
 L0 45 t1 R w fun t4 w =>
 C0 223 #[t4] R w fun t5 w =>
 joinK (fun (w:World) =>
 opV Pg (Instr.makeFunc (.func 237) #[] #[t3]) (panK R) w fun t9 w =>
 R (.returned t9) w) fun K1 =>
 condP t5 (
 n92c1 t1 t3 K1 R w) (
 K1 w)
theorem n92s {t0:Value} {R:RT} {w:World} (h:n92 t0 R w):Calls Pg 225 #[t0] w R:=by
 refine yD Tryz.func225 ?_
 refine zs<|zr<|yv h fun _ w h=>zm<|zn<|zk<|zs<|zr<|yv h fun _ w h=>zn<|zk<|zs<|zs<|zr<|yv h fun _ w h=>?_
 refine yc h c223 fun _ w h=>zn<|zk<|yJ0 [6,7,8] h (fun _ _ hkK1 h=>?_) fun σ w h=>?_
 · refine yC h (fun h=>?_) fun h=>?_
   · refine zr<|yv h fun _ w h=>yv h fun _ w h=>yc h c60 fun _ w h=>yu h fun w h=>zn<|zk ?_
     exact zt hkK1 h
   refine sim_skip<|zk ?_
   exact zt hkK1 h
 exact zk<|zs<|zr<|yF h fun _ w h=>zm<|zn<|zk<|sim_ret<|body_ret1 rfl rfl h
def n106 (t0 t1:Value) (R:RT) (w:World):Prop :=
 C0 134 #[t0,t1] R w fun t7 w =>
 B0 .geq 3 true t7 (.int .i64 0) R w fun t8 w =>
 R (.returned t8) w
theorem n106s {t0 t1:Value} {R:RT} {w:World} (h:n106 t0 t1 R w):Calls Pg 226 #[t0,t1] w R:=by
 refine yD Tryz.func226 ?_
 refine zs<|zr<|zm<|zn<|zk<|zs<|zr<|zm<|zm<|yc h c134 fun _ w h=>yb h fun _ w h=>zm<|zn<|zk<|sim_ret ?_
 exact body_ret1 rfl rfl h
def n28 (t0 t1:Value) (R:RT) (w:World):Prop :=
 opV Pg (Instr.box 48 t0) (panK R) w fun t2 w =>
 F0 48 t2 1 R w fun t4 w =>
 L0 42 t4 R w fun t5 w =>
 B0 .eql 42 true t5 (.int .i64 9) R w fun t6 w =>
 joinK (fun (t12:Value) (w:World) =>
 pickK t6 t12 (.bool false) fun t13 =>
 R (.returned t13) w) fun K1 =>
 guardP t6 true (
 F0 48 t2 9 R w fun t8 w =>
 L0 9 t8 R w fun t9 w =>
 F0 48 t1 9 R w fun t10 w =>
 L0 9 t10 R w fun t11 w =>
 B0 .eql 9 false t9 t11 R w fun t12 w =>
 K1 t12 w) (
 K1 undef w)
theorem n28s {t0 t1:Value} {R:RT} {w:World} (h:n28 t0 t1 R w):Calls Pg 227 #[t0,t1] w R:=by
 refine yD Tryz.func227 ?_
 refine zs<|zr<|yv h fun _ w h=>zm<|zn<|zk<|zs<|sim_regionG<|yG 4<|yv h fun _ w h=>yv h fun _ w h=>yb h fun _ w h=>zm<|zn<|yg1 5 3 true [8,9,10,11,12] 12 h (fun _ T hT h=>?_) fun σ w h=>?_
 · refine yv h fun _ w h=>yv h fun _ w h=>yv h fun _ w h=>yv h fun _ w h=>yb h fun _ w h=>zn ?_
   exact zt hT h
 exact yG 2<|yp h fun _ h=>zm<|zn<|sim_end<|zk<|sim_ret<|body_ret1 rfl rfl h
def n87 (t0:Value) (R:RT) (w:World):Prop :=
 opV Pg (Instr.box 74 t0) (panK R) w fun t1 w =>
 F0 74 t1 0 R w fun t3 w =>
 L0 3 t3 R w fun t4 w =>
 B0 .geq 3 true t4 (.int .i64 0) R w fun t5 w =>
 F0 74 t1 0 R w fun t6 w =>
 L0 3 t6 R w fun t7 w =>
 F0 74 t1 1 R w fun t8 w =>
 L0 3 t8 R w fun t9 w =>
 B0 .leq 3 false t7 t9 R w fun t10 w =>
 F0 74 t1 1 R w fun t11 w =>
 L0 3 t11 R w fun t12 w =>
 B0 .lss 3 true t12 (.int .i64 34359738368) R w fun t13 w =>
 opV Pg (Instr.buildSlice 93 3 #[(0,t5),(1,t10),(2,t13)]) (panK R) w fun t14 w =>
 C0 158 #[t14] R w fun t15 w =>
 R (.returned t15) w
theorem n87s {t0:Value} {R:RT} {w:World} (h:n87 t0 R w):Calls Pg 228 #[t0] w R:=by
 refine yD Tryz.func228 ?_
 refine zs<|zr<|yv h fun _ w h=>zm<|zn<|zk<|zs<|zr<|yv h fun _ w h=>yv h fun _ w h=>yb h fun _ w h=>yv h fun _ w h=>yv h fun _ w h=>yv h fun _ w h=>yv h fun _ w h=>?_
 exact yb h fun _ w h=>yv h fun _ w h=>yv h fun _ w h=>yb h fun _ w h=>yS h fun _ w h=>yc h c158 fun _ w h=>zm<|zn<|zk<|sim_ret<|body_ret1 rfl rfl h
def n97c1 (t7 t8 t11:Value) (K2:World→Prop) (Qr1:List PanicEntry→World→Prop) (Xr1:Nat→World→Prop) (R:RT) (w:World):Prop :=
 opV Pg (Instr.loadAt 236 t7) Qr1 w fun t33 w =>
 opV Pg (Instr.loadAt 74 t11) Qr1 w fun t34 w =>
 callV Pg t33 #[t34] Qr1 w fun t35 w =>
 opV Pg (Op.unary .not t35) Qr1 w fun t36 w =>
 condP t36 (
 opU Pg (Instr.storeAt 31 t8 (.int .i64 2)) Qr1 w fun w =>
 Xr1 0 w) (
 K2 w)
def n97c2 (t5 t6 t7 t8 t9 t18:Value) (Kr1:World→Prop) (Qr1:List PanicEntry→World→Prop) (Xr1:Nat→World→Prop) (R:RT) (w:World):Prop :=
 opV Pg (Instr.loadAt 122 t6) Qr1 w fun t20 w =>
 opV Pg (Instr.lookup 122 t20 t18 true) Qr1 w fun t22 w =>
 opV Pg (Instr.extract t22 0) Qr1 w fun t23 w =>
 opV Pg (Instr.extract t22 1) Qr1 w fun t24 w =>
 opV Pg (Instr.alloc 74 true (.tuple #[])) Qr1 w fun t11 w =>
 opU Pg (Instr.storeAt 74 t11 t23) Qr1 w fun w =>
 opV Pg (Instr.loadAt 9 t5) Qr1 w fun t27 w =>
 opV Pg (binS .eql 9 false t18 t27) Qr1 w fun t28 w =>
 joinK (fun (w:World) =>
 Kr1 w) fun K2 =>
 condP t28 (
 K2 w) (
 opV Pg (Op.unary .not t24) Qr1 w fun t31 w =>
 condP t31 (
 opU Pg (Instr.storeAt 4 t9 (.bool true)) Qr1 w fun w =>
 K2 w) (
 n97c1 t7 t8 t11 K2 Qr1 Xr1 R w))
def n97c3 (t8 t9:Value) (ds:List Deferred) (R:RT) (w:World):Prop :=
 opV Pg (Instr.loadAt 4 t9) (outQ Pg ds [(some 31,t8)] R) w fun t37 w =>
 condP t37 (
 opU Pg (Instr.storeAt 31 t8 (.int .i64 9)) (outQ Pg ds [(some 31,t8)] R) w fun w =>
 outX Pg ds [(some 31,t8)] R w) (
 opU Pg (Instr.storeAt 31 t8 (.int .i64 0)) (outQ Pg ds [(some 31,t8)] R) w fun w =>
 outX Pg ds [(some 31,t8)] R w)
def n97c4 (t5 t6 t7 t8 t9 t17:Value) (ds:List Deferred) (R:RT) (w:World):Prop :=
 rangeN Pg t17 ds (fun l1 t18 w Kr1 Xr1 Qr1 =>
 busyK l1 w fun w =>
 n97c2 t5 t6 t7 t8 t9 t18 Kr1 Qr1 Xr1 R w) (fun ch ds w=>outQ Pg ds [(some 31,t8)] R ch w) w (fun ds w =>
 n97c3 t8 t9 ds R w) [fun ds w =>
 outX Pg ds [(some 31,t8)] R w]
def n97c5 (t4 t5 t6 t7 t8:Value) (ds:List Deferred) (R:RT) (w:World):Prop :=
 opV Pg (Instr.alloc 4 true (.tuple #[])) (outQ Pg ds [(some 31,t8)] R) w fun t9 w =>
 opU Pg (Instr.storeAt 4 t9 (.bool false)) (outQ Pg ds [(some 31,t8)] R) w fun w =>
 opV Pg (Instr.loadAt 45 t4) (outQ Pg ds [(some 31,t8)] R) w fun t16 w =>
 callK Pg 225 #[t16] (outQ Pg ds [(some 31,t8)] R) w fun t17 w =>
 n97c4 t5 t6 t7 t8 t9 t17 ds R w
def n97c6 (t4 t5 t6 t7 t8 t14:Value) (ds:List Deferred) (R:RT) (w:World):Prop :=
 opV Pg (Op.unary .not t14) (outQ Pg ds [(some 31,t8)] R) w fun t15 w =>
 condP t15 (
 opU Pg (Instr.storeAt 31 t8 (.int .i64 2)) (outQ Pg ds [(some 31,t8)] R) w fun w =>
 outX Pg ds [(some 31,t8)] R w) (
 n97c5 t4 t5 t6 t7 t8 ds R w)
def n97 (t0 t1 t2 t3:Value) (R:RT) (w:World):Prop :=
 (fun (ds:List Deferred) =>
 opV Pg (Instr.box 45 t0) (outQ Pg ds [(some 31,undef)] R) w fun t4 w =>
 opV Pg (Instr.box 9 t1) (outQ Pg ds [(some 31,undef)] R) w fun t5 w =>
 opV Pg (Instr.box 122 t2) (outQ Pg ds [(some 31,undef)] R) w fun t6 w =>
 opV Pg (Instr.box 236 t3) (outQ Pg ds [(some 31,undef)] R) w fun t7 w =>
 opV Pg (Instr.alloc 31 true (.tuple #[])) (outQ Pg ds [(some 31,undef)] R) w fun t8 w =>
 opV Pg (Instr.loadAt 45 t4) (outQ Pg ds [(some 31,t8)] R) w fun t13 w =>
 callK Pg 223 #[t13] (outQ Pg ds [(some 31,t8)] R) w fun t14 w =>
 n97c6 t4 t5 t6 t7 t8 t14 ds R w) []
theorem n97s {t0 t1 t2 t3:Value} {R:RT} {w:World} (h:n97 t0 t1 t2 t3 R w):Calls Pg 229 #[t0,t1,t2,t3] w R:=by
 refine yE Tryz.func229 ?_
 unfold n97 at h
 dsimp only at h
 refine zs<|zr<|yv h fun _ w h=>yv h fun _ w h=>yv h fun _ w h=>yv h fun _ w h=>yv h fun _ w h=>zn<|zk<|zs<|zs<|zr<|yv h fun _ w h=>yc h c223 fun _ w h=>yv h fun _ w h=>?_
 refine zn<|zk<|yC h (fun h=>zs<|zr<|yu h fun w h=>zn<|zk<|sim_ret<|sim_then_ret<|bodyM_ret rfl h) fun h=>sim_skip<|zk<|zs<|zr<|yv h fun _ w h=>yu h fun w h=>zn<|zk<|zs<|zs<|zr ?_
 refine yv h fun _ w h=>yc h c225 fun _ w h=>zn<|zk<|sim_block<|sim_range [.ret] h rfl (fun l1 t18 w Kr1 Xr1 Qr1 h=>?_) (fun ds w h=>?_) (fun c ds w h=>?_) (fun ch ds w h=>outQ_of rfl h)
 · refine zr<|zm<|zn<|zk ?_
   obtain ⟨hr,h⟩:=h
   refine ⟨rfl,hr,fun w hb=>?_⟩
   have h:=h w hb
   refine sim_block<|zs<|zr<|yv h fun _ w h=>zm<|yv h fun _ w h=>zm<|yv h fun _ w h=>yv h fun _ w h=>yv h fun _ w h=>yu h fun w h=>zm<|zn<|zk<|sim_block ?_
   refine zs<|zr<|zm<|yv h fun _ w h=>yb h fun _ w h=>zm<|zn<|zk<|yJ0 [29,30,31,32,33,34,35,36] h (fun _ _ hkK2 h=>?_) fun σ w h=>?_
   · refine yC h (fun h=>?_) fun h=>?_
     · refine sim_skip<|zk ?_
       exact zt hkK2 h
     refine zs<|zr<|zm<|yv h fun _ w h=>zm<|zn<|zk<|yC h (fun h=>?_) fun h=>?_
     · refine zr<|yu h fun w h=>zn<|zk ?_
       exact zt hkK2 h
     refine zs<|zr<|yv h fun _ w h=>yv h fun _ w h=>yV h fun _ w h=>yv h fun _ w h=>zm<|zn<|zk<|yC h (fun h=>zs<|zr<|yu h fun w h=>zn<|zk<|sim_ret<|sim_then_ret<|sim_block_ret<|sim_block_ret<|⟨rfl,0,rfl,h⟩) fun h=>sim_skip<|zk ?_
     exact zt hkK2 h
   exact sim_block_normal<|sim_block_normal<|⟨rfl,h⟩
 · refine sim_block_normal<|zk<|zs<|zs<|zr<|yv h fun _ w h=>zn<|zk<|yC h (fun h=>zs<|zr<|yu h fun w h=>zn<|zk<|sim_ret<|sim_then_ret<|bodyM_ret rfl h) fun h=>sim_skip<|zk<|zs<|zr<|yu h fun w h=>?_
   exact zn<|zk<|sim_ret<|bodyM_ret rfl h
 rcases c with _ | c
 · refine ⟨_,rfl,.inl ⟨rfl,?_⟩⟩
   exact sim_block_ret<|sim_then_ret<|bodyM_ret rfl h
 exact h.elim
def n88 (t0 t1 t2:Value) (R:RT) (w:World):Prop :=
 opV Pg (Instr.box 4 t0) (panK R) w fun t3 w =>
 L0 45 t1 R w fun t5 w =>
 opV Pg (Instr.makeFunc (.func 232) #[] #[t2,t3]) (panK R) w fun t6 w =>
 C0 231 #[t5,t6] R w fun t7 w =>
 R (.returned t7) w
theorem n88s {t0 t1 t2:Value} {R:RT} {w:World} (h:n88 t0 t1 t2 R w):Calls Pg 230 #[t0,t1,t2] w R:=by
 refine yD Tryz.func230 ?_
 refine zs<|zr<|yv h fun _ w h=>zm<|zn<|zk<|zs<|zr<|yv h fun _ w h=>yF h fun _ w h=>yc h c231 fun _ w h=>zm<|zn<|zk<|sim_ret ?_
 exact body_ret1 rfl rfl h
open Go.RowKit (intOf)
def letterB (c:UInt8):Bool:=(decide (65≤(c.toNat:Int))&&decide ((c.toNat:Int)≤90))||(decide (97≤(c.toNat:Int))&&decide ((c.toNat:Int)≤122))
def digitB (c:UInt8):Bool:=decide (48≤(c.toNat:Int))&&decide ((c.toNat:Int)≤57)
def wordB (c:UInt8):Bool:=letterB c||digitB c||((c.toNat:Int) == 95)
def smallB (v:Int):Bool:=decide (-1048576≤v)&&decide (v≤1048576)
def nameB (s:ByteArray):Bool:=decide (1≤(s.size:Int))&&decide ((s.size:Int)≤32)&&(match s.data.toList with | []=>false | c::_=>letterB c)&&s.data.toList.all wordB
theorem letter_ret (w0:World) (c:UInt8):Ret Pg 156 #[.int .u8 c.toNat] w0 fun r w'=>r = .bool (letterB c)∧Ext w0 w':=by
 refine n99s (R:=retR _) ?_;unfold n99
 simp (disch:=try exact DI) only [↓PR,QR,simprocAttr,↓n99c1,↓n99c2]
 unfold letterB
 have e:=Ext.refl w0
 generalize decide (65≤(c.toNat:Int))=b1
 generalize decide ((c.toNat:Int)≤90)=b2
 generalize decide (97≤(c.toNat:Int))=b3
 generalize decide ((c.toNat:Int)≤122)=b4
 cases b1<;>cases b2<;>cases b3<;>cases b4<;>simp (disch:=try exact DI) only [↓PR,QR,simprocAttr,↓n99c1,↓n99c2]<;>exact ⟨by trivial,e⟩
theorem digit_ret (w0:World) (c:UInt8):Ret Pg 157 #[.int .u8 c.toNat] w0 fun r w'=>r = .bool (digitB c)∧Ext w0 w':=by
 refine n98s (R:=retR _) ?_;unfold n98
 simp (disch:=try exact DI) only [↓PR,QR,simprocAttr,Sw.joinK_eq]
 unfold digitB
 have e:=Ext.refl w0
 generalize decide (48≤(c.toNat:Int))=b1
 generalize decide ((c.toNat:Int)≤57)=b2
 cases b1<;>cases b2<;>simp (disch:=try exact DI) only [↓PR,QR,simprocAttr,Sw.joinK_eq]<;>exact ⟨by trivial,e⟩
theorem small_ret (w0:World) (v:Int):Ret Pg 234 #[.int .i64 v] w0 fun r w'=>r = .bool (smallB v)∧Ext w0 w':=by
 refine n101s (R:=retR _) ?_;unfold n101
 simp (disch:=try exact DI) only [↓PR,QR,simprocAttr,Sw.joinK_eq]
 unfold smallB
 have e:=Ext.refl w0
 generalize decide (-1048576≤v)=b1
 generalize decide (v≤1048576)=b2
 cases b1<;>cases b2<;>simp (disch:=try exact DI) only [↓PR,QR,simprocAttr,Sw.joinK_eq]<;>exact ⟨by trivial,e⟩
def BoolsOf (w:World) (v:Value) (l:List Bool):Prop:=SliceOf w 1 EBool v l
theorem Index_bool_ret (w0:World) (v:Value) (l:List Bool) (x:Bool) (hs:BoolsOf w0 v l) :
 Ret Pg 192 #[v,.bool x] w0 fun r w'=>r = .int .i64 (idx (x == ·) l)∧Ext w0 w':=by
 obtain ⟨A,c,rfl,hlc,hcm,hlm,hel⟩:=SliceOf.open hs
 refine n120s (R:=retR _) ?_;unfold n120
 simp (disch:=try exact DI) only [↓PR,QR,simprocAttr]
 refine loop1_intro (fun i w=>∃ k:Nat,i = .int .i64 k∧k≤l.length∧Ext w0 w∧∀ (j:Nat) y,j < k→l[j]?=some y→(x == y)=false) (fun i _=>l.length - (intOf i).toNat) ⟨0,rfl,by omega,Ext.refl _,fun j y h=>by omega⟩ ?_
 rintro i w ⟨k,rfl,hk,e,hb⟩
 by_cases hlt:k < l.length
 · obtain ⟨y,hy⟩:=getElem?_lt hlt
   obtain ⟨b,o,cs,rfl,hl,hA,rfl⟩:=hel k y hy
   have hd:decide ((k:Int) < (l.length:Int))=true:=by simp;omega
   have hc:w.cell? ⟨b,o+k*1,none⟩=some (.bool y):=(hA.ext e).cell 0 rfl
   simp (disch:=try exact DI) only [↓PR,QR,simprocAttr,hd,hc,↓n120c1]
   cases hp:(x == y) with
   | true =>
    simp (disch:=try exact DI) only [↓PR,QR,simprocAttr]
    exact ⟨by rw [idx_here hy hp hb],e⟩
   | false =>
    simp (disch:=try exact DI) only [↓PR,QR,simprocAttr]
    exact ⟨⟨k+1,rfl,by omega,e,before_succ hb hy hp⟩,by simp [intOf];omega⟩
 · have hd:decide ((k:Int) < (l.length:Int))=false:=by simp;omega
   simp (disch:=try exact DI) only [↓PR,QR,simprocAttr,hd,↓n120c1]
   exact ⟨by rw [idx_none fun j y hy=>hb j y (by have:=(List.getElem?_eq_some_iff.1 hy).1;omega) hy],e⟩
theorem Contains_bool_ret (w0:World) (v:Value) (l:List Bool) (x:Bool) (hs:BoolsOf w0 v l) :
 Ret Pg 182 #[v,.bool x] w0 fun r w'=>r = .bool (l.any (x == ·))∧Ext w0 w':=by
 refine n109s (R:=retR _) ?_;unfold n109
 refine callK_ret (Index_bool_ret _ _ l x hs) ?_
 rintro r w' ⟨rfl,e⟩
 simp (disch:=try exact DI) only [↓PR,QR,simprocAttr,Sw.joinK_eq]
 exact ⟨by rw [idx_neg],e⟩
theorem all_ret (w0:World) (v:Value) (l:List Bool) (hs:BoolsOf w0 v l) :
 Ret Pg 158 #[v] w0 fun r w'=>r = .bool (l.all id)∧Ext w0 w':=by
 refine n96s (R:=retR _) ?_;unfold n96
 refine callK_ret (Contains_bool_ret _ _ l false hs) ?_
 rintro r w' ⟨rfl,e⟩
 simp (disch:=try exact DI) only [↓PR,QR,simprocAttr,Sw.joinK_eq]
 refine ⟨?_,e⟩
 congr 1
 clear hs
 induction l with
 | nil=>rfl
 | cons a l ih=>cases a<;>simp_all
theorem NameS1_ret (w0:World) (c:UInt8):Ret Pg 155 #[.int .u8 c.toNat] w0 fun r w'=>r = .bool (!wordB c)∧Ext w0 w':=by
 refine n91s (R:=retR _) ?_;unfold n91
 refine callK_ret (letter_ret _ c) ?_
 rintro r w' ⟨rfl,e⟩
 simp (disch:=try exact DI) only [↓PR,QR,simprocAttr,↓n91c1,↓n91c2]
 unfold wordB
 cases letterB c with
 | true=>simp (disch:=try exact DI) only [↓PR,QR,simprocAttr,↓n91c1,↓n91c2];exact ⟨by trivial,e⟩
 | false =>
  simp (disch:=try exact DI) only [↓PR,QR,simprocAttr,↓n91c1,↓n91c2]
  refine callK_ret (digit_ret _ c) ?_
  rintro r w2 ⟨rfl,e2⟩
  have e3:=e.trans e2
  cases digitB c with
  | true=>simp (disch:=try exact DI) only [↓PR,QR,simprocAttr,↓n91c1,↓n91c2];exact ⟨by trivial,e3⟩
  | false=>simp (disch:=try exact DI) only [↓PR,QR,simprocAttr,↓n91c1,↓n91c2];exact ⟨by trivial,e3⟩
def BytesOf (w:World) (v:Value) (l:List UInt8):Prop:=SliceOf w 1 EByte v l
theorem ContainsFunc_byte_ret (w0:World) (v:Value) (l:List UInt8) (g:FuncId) (caps:Array Value) (p:UInt8→Bool) (hs:BytesOf w0 v l) (hg:Callable Pg g) (hc:Tests w0 (fun _ v x=>v = .int .u8 (x.toNat:Int)) g caps p l) :
 Ret Pg 159 #[v,.func (.func g) #[] caps] w0 fun r w'=>r = .bool (l.any p)∧Ext w0 w':=by
 refine n108s (R:=retR _) ?_;unfold n108
 refine callK_ret (IndexFunc_byte_ret _ _ l g caps p hs hg hc) ?_
 rintro r w' ⟨rfl,e⟩
 simp (disch:=try exact DI) only [↓PR,QR,simprocAttr,Sw.joinK_eq]
 exact ⟨by rw [idx_neg],e⟩
theorem boolsNew (w:World) (l:List Bool) (T:TypeId) (hl:l.length≤9223372036854775807):BoolsOf (w.alloc (.cells (l.map Value.bool).toArray T)) (.slice (some ⟨w.heap.size,0,none⟩) l.length l.length) l:=SliceOf.new1 _ (fun _ _=>rfl) w l T hl
theorem all2_ret {w:World} {p:Nat} (hp:p=w.heap.size) (a b:Bool) (T:TypeId):Ret Pg 158 #[.slice (some ⟨p,0,none⟩) 2 2] (w.alloc (.cells #[.bool a,.bool b] T)) fun r w'=>r = .bool (a&&b)∧Ext (w.alloc (.cells #[.bool a,.bool b] T)) w':=by
 subst hp
 have h:=all_ret _ _ [a,b] (boolsNew w [a,b] T (by simp))
 simpa using h
theorem all3_ret {w:World} {p:Nat} (hp:p=w.heap.size) (a b c:Bool) (T:TypeId):Ret Pg 158 #[.slice (some ⟨p,0,none⟩) 3 3] (w.alloc (.cells #[.bool a,.bool b,.bool c] T)) fun r w'=>r = .bool (a&&b&&c)∧Ext (w.alloc (.cells #[.bool a,.bool b,.bool c] T)) w':=by
 subst hp
 have h:=all_ret _ _ [a,b,c] (boolsNew w [a,b,c] T (by simp))
 simpa [Bool.and_assoc] using h
theorem Name_ret (w0:World) (s:ByteArray):Ret Pg 123 #[.string s] w0 fun r w'=>r = .bool (nameB s)∧Ext w0 w':=by
 refine n90s (R:=retR _) ?_;unfold n90
 simp (disch:=try exact DI) only [↓PR,QR,simprocAttr,↓n90c1,↓n90c2]
 have e1:Ext w0 (w0.alloc (.cells #[.bool (decide (1≤(s.size:Int))),.bool (decide ((s.size:Int)≤32))] 4)):=(Ext.refl w0).alloc _
 refine callK_ret (all_ret _ _ [decide (1≤(s.size:Int)),decide ((s.size:Int)≤32)] (boolsNew w0 [decide (1≤(s.size:Int)),decide ((s.size:Int)≤32)] 4 (by simp))) ?_
 rintro r w1 ⟨rfl,e2⟩
 have e:=e1.trans e2
 have hall:[decide (1≤(s.size:Int)),decide ((s.size:Int)≤32)].all id=(decide (1≤(s.size:Int))&&decide ((s.size:Int)≤32)):=by simp
 rw [hall]
 unfold nameB
 cases h1:(decide (1≤(s.size:Int))&&decide ((s.size:Int)≤32)) with
 | false=>simp (disch:=try exact DI) only [↓PR,QR,simprocAttr,↓n90c1,↓n90c2];exact ⟨by trivial,e⟩
 | true =>
  simp (disch:=try exact DI) only [↓PR,QR,simprocAttr,↓n90c1,↓n90c2]
  have hlen:s.size≤9223372036854775807:=by simp only [Bool.and_eq_true,decide_eq_true_eq] at h1;omega
  obtain ⟨c,cs,hcs⟩:∃ c cs,s.data.toList=c::cs:=by
   simp only [Bool.and_eq_true,decide_eq_true_eq] at h1
   cases hd:s.data.toList with
   | nil =>
    have:s.data.size=0:=by rw [← Array.length_toList,hd];rfl
    have h0:s.size=s.data.size:=rfl
    omega
   | cons c cs=>exact ⟨c,cs,rfl⟩
  rw [op_indexS0 Tryz.underlying9 s .i64 (b:=c) (by rw [hcs];rfl)]
  refine callK_ret (letter_ret _ c) ?_
  rintro r w2 ⟨rfl,e3⟩
  have e:=e.trans e3
  rw [hcs]
  cases hl:letterB c with
  | false=>simp (disch:=try exact DI) only [↓PR,QR,simprocAttr,↓n90c1,↓n90c2];exact ⟨by rw [hl];rfl,e⟩
  | true =>
   simp (disch:=try exact DI) only [↓PR,QR,simprocAttr,↓n90c1,↓n90c2]
   refine op_bytes Tryz.underlying9 Tryz.underlying200 Tryz.underlying5 s hlen ?_
   rintro v w3 e4 ⟨A,cp,rfl,hc1,hc2,b,rfl,hcell⟩
   have hsz:s.data.toList.length=s.size:=by rw [Array.length_toList];rfl
   have hB:BytesOf w3 (.slice (some ⟨b,0,none⟩) s.size cp) s.data.toList:=by
    rw [← hsz]
    refine ⟨_,_,rfl,by omega,hc2,fun _=>⟨_,_,rfl,fun k x hx=>⟨[.int .u8 x.toNat],rfl,fun j v hv=>?_,rfl⟩⟩⟩
    cases j with
    | zero=>injection hv with hv;subst hv;simpa using hcell k x hx
    | succ j=>cases hv
   have e:=e.trans e4
   refine callK_ret (ContainsFunc_byte_ret _ _ s.data.toList _ _ (fun x=>!wordB x) hB c155 ?_) ?_
   · rintro w v x _ _ rfl
     exact NameS1_ret w x
   · rintro r w4 ⟨rfl,e5⟩
     simp (disch:=try exact DI) only [↓PR,QR,simprocAttr,↓n90c1,↓n90c2]
     refine ⟨?_,e.trans e5⟩
     rw [hcs,hl]
     congr 1
     generalize c::cs=l
     clear hall
     induction l with
     | nil=>rfl
     | cons a l ih=>simp only [List.any_cons,List.all_cons,Bool.not_or,Bool.not_not,Bool.true_and] at *;rw [ih]
def termB (t:TermD):Bool:=nameB t.field&&(t.factor != 0)&&smallB t.factor
theorem ValidS1_ret (w:World) (t:TermD) (pb r:Nat) (names:List ByteArray) (hcell:w.cell? ⟨pb,0,none⟩=some (.map (some r))) (hm:SetOf w r names) :
 Ret Pg 233 #[termVal t,.pointer (some ⟨pb,0,none⟩)] w fun v w'=>v = .bool (memB names t.field||!termB t)∧SetOf w' r (names++[t.field])∧w'.cell? ⟨pb,0,none⟩=some (.map (some r)) ∧
  ∀ w0,Ext w0 w→w0.heap.size≤r→Ext w0 w':=by
 have hpb:pb < w.heap.size:=World.block_lt_of_cell? w _ hcell
 obtain ⟨L,c,hM,hl⟩:=hm
 refine n95s (R:=retR _) ?_;unfold n95
 unfold termVal
 simp (disch:=try exact DI) only [↓PR,QR,simprocAttr,hcell]
 have e1:Ext w (w.alloc (.cells #[.string t.field,.int .i64 t.factor] 62)):=(Ext.refl w).alloc _
 rw [op_lookup1S Tryz.underlying162 Tryz.underlying9 ty4 (hM.ext e1)]
 simp (disch:=try exact DI) only [↓PR,QR,simprocAttr,hcell]
 rw [op_mapUpdateS Tryz.underlying162 Tryz.underlying9 (hM.ext e1)]
 obtain ⟨W,hW⟩:∃ W,((w.alloc (.cells #[.string t.field,.int .i64 t.factor] 62)).putObj r (mapObjS (putL L c t.field (.bool true)) (putC L c t.field)))=W:=⟨_,rfl⟩
 have hS:SetOf W r (names++[t.field]):=by rw [← hW];exact SetOf.put (hM.ext e1) hl _
 have hC:W.cell? ⟨pb,0,none⟩=some (.map (some r)):=by rw [← hW,cell_putMap (hM.ext e1)];exact e1.cell hcell
 have hE:∀ w0,Ext w0 w→w0.heap.size≤r→Ext w0 W:=fun w0 h0 hr=>by rw [← hW];exact (h0.trans e1).putObj hr _
 have hA0:W.cell? ⟨w.heap.size,0,none⟩=some (.string t.field):=by rw [← hW,cell_putMap (hM.ext e1),cell_new];rfl
 have hA1:W.cell? ⟨w.heap.size,1,none⟩=some (.int .i64 t.factor):=by rw [← hW,cell_putMap (hM.ext e1),cell_new];rfl
 rw [hW]
 refine drawK_intro ?_
 have ht8:(Sw.look L t.field).getD (.bool false) = .bool (memB names t.field):=by rw [hl];cases memB names t.field<;>rfl
 rw [ht8]
 have fin:∀ b w',Ext W w'→b=(memB names t.field||!termB t)→(Value.bool b = .bool (memB names t.field||!termB t)∧SetOf w' r (names++[t.field])∧w'.cell? ⟨pb,0,none⟩=some (.map (some r))∧∀ w0,Ext w0 w→w0.heap.size≤r→Ext w0 w') :=
  fun b w' e hb=>⟨by rw [hb],hS.ext e,e.cell hC,fun w0 h0 hr=>(hE w0 h0 hr).trans e⟩
 cases hmem:memB names t.field with
 | true =>
  simp (disch:=try exact DI) only [↓PR,QR,simprocAttr,↓n95c1,↓n95c2]
  exact ⟨trivial,(fin (true||!termB t) _ (Ext.refl _).wdrew (by rw [hmem])).2⟩
 | false =>
  simp (disch:=try exact DI) only [↓PR,QR,simprocAttr,↓n95c1,↓n95c2,hA0,hA1]
  refine zcr (Name_ret _ t.field) fun w1 e2=>?_
  refine ⟨e2,?_⟩
  refine zcr (small_ret _ t.factor) fun w2 e3=>?_
  refine ⟨e2.trans e3,?_⟩
  simp (disch:=try exact DI) only [↓PR,QR,simprocAttr,↓n95c1,↓n95c2]
  have e:=e2.trans e3
  refine ⟨e.alloc _,?_⟩
  refine zcr (all3_ret rfl _ _ _ _) fun w3 e4=>?_
  refine ⟨(e.alloc _).trans e4,?_⟩
  simp (disch:=try exact DI) only [↓PR,QR,simprocAttr,↓n95c1,↓n95c2]
  exact ⟨rfl,(fin (!termB t) w3 (((Ext.refl _).wdrew).trans ((e.alloc _).trans e4)) (by rw [hmem];rfl)).2⟩
def termsB:List ByteArray→List TermD→Bool
 | _,[]=>true
 | seen,t::ts=>!(memB seen t.field)&&termB t&&termsB (seen++[t.field]) ts
theorem termsB_iff:∀ (ts:List TermD) (seen:List ByteArray),termsB seen ts=true↔∀ k x,ts[k]?=some x→(memB (seen++(ts.take k).map (·.field)) x.field||!termB x)=false
 | [],seen=>by simp [termsB]
 | t::ts,seen=>by
  simp only [termsB,Bool.and_eq_true,termsB_iff ts]
  constructor
  · rintro ⟨⟨h1,h2⟩,h3⟩ k x hx
    cases k with
    | zero=>simp at hx;subst hx;simpa using ⟨by simpa using h1,h2⟩
    | succ k=>have:=h3 k x (by simpa using hx);simpa using this
  · intro h
    refine ⟨?_,fun k x hx=>by simpa using h (k+1) x (by simpa using hx)⟩
    have:=h 0 t rfl
    simp at this
    exact ⟨by rw [this.1];rfl,this.2⟩
theorem ContainsFunc_Term_st (w0 w1:World) (v:Value) (l:List TermD) (g:FuncId) (caps:Array Value) (p:Nat→Bool) (J:Nat→World→Prop) (hs:TermsOf w0 v l) (hg:Callable Pg g) (hJ:∀ k w,J k w→Ext w0 w) (h0:J 0 w1)
 (hc:∀ k x w u,l[k]?=some x→J k w→(fun _ v x=>v=termVal x) w u x→Ret Pg g (#[u]++caps) w fun r w'=>r = .bool (p k)∧J (k+1) w') :
 Ret Pg 235 #[v,.func (.func g) #[] caps] w1 fun r w'=>r = .bool ((List.range l.length).any p)∧∃ k,J k w':=by
 refine n107s (R:=retR _) ?_;unfold n107
 refine callK_ret (IndexFunc_Term_st w0 _ _ l g caps p J hs hg hJ h0 hc) ?_
 rintro r w' ⟨rfl,e⟩
 simp (disch:=try exact DI) only [↓PR,QR,simprocAttr,Sw.joinK_eq]
 exact ⟨by rw [idx_neg],e⟩
def sizeB (base:Int) (ts:List TermD):Bool:=smallB base&&decide (ts.length≤4)&&termsB [] ts
theorem Valid_ret (w0:World) (v:Value) (base:Int) (ts:List TermD) (hs:SizeVal w0 v base ts) :
 Ret Pg 223 #[v] w0 fun r w'=>r = .bool (sizeB base ts)∧Ext w0 w':=by
 obtain ⟨tv,rfl,hT⟩:=hs
 refine n94s (R:=retR _) ?_;unfold n94
 simp (disch:=try exact DI) only [↓PR,QR,simprocAttr]
 obtain ⟨A,c,rfl,hlc,hcm,hlm,hel⟩:=SliceOf.open hT
 obtain ⟨W1,hW1⟩:∃ W1,w0.alloc (.cells #[.int .i64 base,.slice A ts.length c] 45)=W1:=⟨_,rfl⟩
 have e0:Ext w0 W1:=by rw [← hW1];exact (Ext.refl w0).alloc _
 have hc0:W1.cell? ⟨w0.heap.size,0,none⟩=some (.int .i64 base):=by rw [← hW1];simp (disch:=try exact DI) only [↓PR,QR,simprocAttr]
 have hc1:W1.cell? ⟨w0.heap.size,1,none⟩=some (.slice A ts.length c):=by rw [← hW1];simp (disch:=try exact DI) only [↓PR,QR,simprocAttr]
 have hsz:w0.heap.size+1=W1.heap.size:=by rw [← hW1];simp (disch:=try exact DI) only [↓PR,QR,simprocAttr]
 simp only [hW1,hsz]
 refine drawK_introE (w1:=W1) (((Ext.refl W1).alloc _).alloc _) ?_
 simp (disch:=try exact DI) only [↓PR,QR,simprocAttr,↓n94c1,↓n94c2,↓n94c3,hc0,hc1]
 generalize hW:(World.drew _)=W
 have e1:Ext W1 W:=by rw [← hW];exact (((Ext.refl W1).alloc _).alloc _).wdrew
 have hpb:W.cell? ⟨W1.heap.size+1,0,none⟩=some (.map (some W1.heap.size)):=by rw [← hW];simp (disch:=try exact DI) only [↓PR,QR,simprocAttr]
 have hset:SetOf W W1.heap.size []:=by
  rw [← hW]
  have h:=(MapS.new W1).ext (((Ext.refl _).alloc (Obj.cells (#[Value.map none].setIfInBounds 0 (Value.map (some W1.heap.size))) 162)).wdrew)
  exact ⟨[],0,by simpa using h,fun s=>rfl⟩
 clear hW
 refine zcr (small_ret _ base) fun w1 e2=>?_
 refine ⟨e1.trans e2,?_⟩
 simp (disch:=try exact DI) only [↓PR,QR,simprocAttr]
 refine ⟨e1.trans (e2.alloc _),?_⟩
 refine zcr (all2_ret rfl _ _ _) fun w2 e3=>?_
 replace e2:=(e2.alloc _).trans e3
 refine ⟨e1.trans e2,?_⟩
 simp (disch:=try exact DI) only [↓PR,QR,simprocAttr,↓n94c1,↓n94c2,↓n94c3]
 unfold sizeB
 cases hb:(smallB base&&decide (ts.length≤4)) with
 | false =>
  have hb':(smallB base&&decide ((ts.length:Int)≤4))=false:=by rw [← hb];congr 1;simp;omega
  rw [hb']
  simp (disch:=try exact DI) only [↓PR,QR,simprocAttr,↓n94c1,↓n94c2,↓n94c3,hc0,hc1]
  exact ⟨by trivial,e0.trans (e1.trans e2)⟩
 | true =>
  have hb':(smallB base&&decide ((ts.length:Int)≤4))=true:=by rw [← hb];congr 1;simp;omega
  rw [hb']
  simp (disch:=try exact DI) only [↓PR,QR,simprocAttr,↓n94c1,↓n94c2,↓n94c3,hc0,hc1]
  refine callK_ret (ContainsFunc_Term_st W1 w2 _ ts 233 _ (fun k=>match ts[k]? with | some t=>memB ((ts.take k).map (·.field)) t.field||!termB t | none=>true) (fun k w=>SetOf w W1.heap.size ((ts.take k).map (·.field))∧w.cell? ⟨W1.heap.size+1,0,none⟩=some (.map (some W1.heap.size))∧Ext W1 w) (hT.ext e0) c233 (fun k w h=>h.2.2) ⟨hset.ext e2,e2.cell hpb,e1.trans e2⟩ ?_) ?_
  · rintro k x w u hx ⟨h1,h2,h3⟩ rfl
    simp only [hsz]
    refine Ret.mono (ValidS1_ret w x _ _ _ h2 h1) ?_
    rintro v w' ⟨rfl,h4,h5,h6⟩
    refine ⟨by rw [hx],?_,h5,h6 _ h3 (Nat.le_refl _)⟩
    rw [List.take_add_one,hx]
    simpa using h4
  · rintro _ w3 ⟨rfl,k,h1,h2,h3⟩
    refine ⟨h3,?_⟩
    simp (disch:=try exact DI) only [↓PR,QR,simprocAttr,↓n94c1,↓n94c2,↓n94c3]
    refine ⟨?_,e0.trans h3⟩
    congr 1
    rw [Bool.eq_iff_iff,termsB_iff,Bool.not_eq_true',List.any_eq_false]
    simp only [List.mem_range,List.nil_append]
    constructor
    · intro h k x hx
      have:=h k (List.getElem?_eq_some_iff.1 hx).1
      rw [hx] at this
      simpa using this
    · intro h k hk
      rw [List.getElem?_eq_getElem hk]
      have:=h k _ (List.getElem?_eq_getElem hk)
      simpa using this
def n68c1 (t7 t28 t40:Value) (C2:World→Prop) (next1:KV) (R:RT) (w:World):Prop :=
 qV Pg C2 (Instr.fieldAt 28 t7 1) fun t41 =>
 opU Pg (Instr.storeAt 26 t41 t40) (panK R) w fun w =>
 turnK w fun C3 w =>
 B0 .add 3 true t28 (.int .i64 1) R w fun t42 w =>
 next1 t42 w
def n68c2 (t6 t7 t28 t31:Value) (C2:World→Prop) (next1:KV) (R:RT) (w:World):Prop :=
 qV Pg C2 (Instr.fieldAt 28 t7 1) fun t32 =>
 qV Pg C2 (Instr.loadAt 26 t32) fun t33 =>
 qV Pg C2 (Instr.fieldAt 28 t6 1) fun t34 =>
 qV Pg C2 (Instr.loadAt 26 t34) fun t35 =>
 qV Pg C2 (Instr.indexAt 26 t35 t31) fun t37 =>
 qV Pg C2 (Instr.loadAt 24 t37) fun t38 =>
 opV Pg (Instr.buildSlice 26 1 #[(0,t38)]) (panK R) w fun t39 w =>
 C2 w∧(
 opV Pg (Builtin.append_ #[26,26] 26 #[t33,t39]) (panK R) w fun t40 w =>
 C2 w∧(
 n68c1 t7 t28 t40 C2 next1 R w))
def n68c3 (t2 t7:Value) (R:RT) (w:World):Prop :=
 L0 28 t7 R w fun t43 w =>
 opU Pg (Instr.storeAt 28 t2 t43) (panK R) w fun w =>
 qW Pg 28 t2 w fun r0 =>
 R (.returned (.tuple #[r0,(.int .i64 0)])) w
def n68c4 (t6 t7 t13 t28:Value) (next1:KV) (R:RT) (w:World):Prop :=
 X0 30 t13 t28 R w fun t30 w =>
 L0 3 t30 R w fun t31 w =>
 drawK w fun C2 w =>
 n68c2 t6 t7 t28 t31 C2 next1 R w
def n68c5 (t1 t2 t13 t20:Value) (R:RT) (w:World):Prop :=
 opV Pg (Instr.alloc 28 true (.tuple #[])) (panK R) w fun t6 w =>
 opU Pg (Instr.storeAt 28 t6 t20) (panK R) w fun w =>
 F0 28 t1 0 R w fun t21 w =>
 L0 9 t21 R w fun t22 w =>
 F0 28 t1 2 R w fun t23 w =>
 L0 9 t23 R w fun t24 w =>
 opV Pg (Instr.build 28 #[(0,t22),(2,t24)]) (panK R) w fun t25 w =>
 opV Pg (Instr.alloc 28 true (.tuple #[])) (panK R) w fun t7 w =>
 opU Pg (Instr.storeAt 28 t7 t25) (panK R) w fun w =>
 opV Pg (Builtin.len_ #[30] 3 #[t13]) (panK R) w fun t27 w =>
 loop1 (fun t28 w next1 =>
 B0 .lss 3 false t28 t27 R w fun t29 w =>
 condP t29 (
 n68c4 t6 t7 t13 t28 next1 R w) (
 n68c3 t2 t7 R w)) (.int .i64 0) w
def n68c6 (t1 t2 t12:Value) (R:RT) (w:World):Prop :=
 opV Pg (Instr.extract t12 0) (panK R) w fun t13 w =>
 opV Pg (Instr.extract t12 1) (panK R) w fun t14 w =>
 B0 .neq 31 true t14 (.int .i64 0) R w fun t16 w =>
 condP t16 (
 opV Pg (Instr.build 28 #[]) (panK R) w fun t17 w =>
 opU Pg (Instr.storeAt 28 t2 t17) (panK R) w fun w =>
 qW Pg 28 t2 w fun r0 =>
 R (.returned (.tuple #[r0,t14])) w) (
 L0 28 t1 R w fun t19 w =>
 C0 28 #[t19] R w fun t20 w =>
 n68c5 t1 t2 t13 t20 R w)
def n68 (t0:Value) (R:RT) (w:World):Prop :=
 opV Pg (Instr.box 28 t0) (panK R) w fun t1 w =>
 opV Pg (Instr.alloc 28 true (.tuple #[])) (panK R) w fun t2 w =>
 L0 28 t1 R w fun t11 w =>
 C0 20 #[t11] R w fun t12 w =>
 n68c6 t1 t2 t12 R w
theorem n68s {t0:Value} {R:RT} {w:World} (h:n68 t0 R w):Calls Pg 26 #[t0] w R:=by
 refine yD Tryz.func26 ?_
 refine zs<|zr<|yv h fun _ w h=>yv h fun _ w h=>zm<|zn<|zk<|zs<|zr<|yv h fun _ w h=>yc h c20 fun _ w h=>zm<|yv h fun _ w h=>yv h fun _ w h=>zm ?_
 refine zm<|zn<|zk<|zs<|zs<|zr<|zm<|yb h fun _ w h=>zn<|zk<|yC h (fun h=>zs<|zr<|yB h fun _ w h=>zm<|yu h fun w h=>zm<|zn<|zk<|sim_ret<|sim_then_ret<|body_retCT rfl rfl rfl h) fun h=>sim_skip<|zk<|zs ?_
 refine zr<|yv h fun _ w h=>yc h c28 fun _ w h=>yv h fun _ w h=>yu h fun w h=>zn<|zk<|zs<|zr<|yv h fun _ w h=>yv h fun _ w h=>yv h fun _ w h=>yv h fun _ w h=>yB h fun _ w h=>yv h fun _ w h=>?_
 refine yu h fun w h=>zn<|zk<|zs<|zs<|zr<|zm<|yx h fun _ w h=>zm<|zn<|zk<|sim_block<|yl1 [9,28,29,30,31,32,33,34,35,36,37,38,39,40,41,42] 28 h fun σ w next h=>zs<|zr ?_
 refine yb h fun _ w h=>zn<|zk<|zs<|yC h (fun h=>?_) fun h=>?_
 · refine sim_skip<|zk<|zs<|sim_block<|zs<|zr<|yv h fun _ w h=>yv h fun _ w h=>zm<|zn<|zk<|yh [32,33,34,35,36,37,38,39,40,41] h fun C hC h=>ye 0 hC h fun _ h=>?_
   refine ye 1 hC h fun _ h=>?_
   refine ye 2 hC h fun _ h=>?_
   refine ye 3 hC h fun _ h=>?_
   refine yw 4 hC ?_
   refine ye 5 hC h fun _ h=>?_
   refine ye 6 hC h fun _ h=>?_
   refine yo 7 ?_
   refine yS h fun _ w h=>zn ?_
   obtain ⟨hC,h⟩:=h
   refine ⟨hC,?_⟩
   refine yo 8 ?_
   refine yx h fun _ w h=>zn ?_
   obtain ⟨hC,h⟩:=h
   refine ⟨hC,?_⟩
   refine ye 9 hC h fun _ h=>?_
   refine yq 10 1 ?_
   refine yu h fun w h=>zn ?_
   obtain ⟨C3,hC,h⟩:=h
   refine ⟨C3,hC,?_⟩
   exact yz<|sim_block_normal<|zk<|zr<|yb h fun _ w h=>zm<|zn<|zk<|⟨rfl,h⟩
 exact sim_exit<|sim_then_exit<|sim_then_exit<|sim_block_hit<|zk<|zs<|zr<|yv h fun _ w h=>yu h fun w h=>zm<|zn<|zk<|sim_ret<|body_retCT rfl rfl rfl h
def n12c1 (t34 t42 t55:Value) (C4:World→Prop) (next2:KV) (R:RT) (w:World):Prop :=
 qN Pg C4 (nilN t42) fun t59 =>
 qV Pg C4 (Instr.fieldAt 48 t59 11) fun t60 =>
 opU Pg (Instr.storeAt 46 t60 t55) (panK R) w fun w =>
 turnK w fun C5 w =>
 B0 .add 3 true t34 (.int .i64 1) R w fun t61 w =>
 next2 t61 w
def n12c2 (t34 t42 t50 t55:Value) (C3:World→Prop) (next2:KV) (R:RT) (w:World):Prop :=
 qN Pg C3 (nilN t42) fun t56 =>
 qV Pg C3 (Instr.fieldAt 48 t56 7) fun t57 =>
 qV Pg C3 (Instr.fieldAt 45 t57 1) fun t58 =>
 opU Pg (Instr.storeAt 43 t58 t50) (panK R) w fun w =>
 turnK w fun C4 w =>
 n12c1 t34 t42 t55 C4 next2 R w
def n12c3 (t34 t42:Value) (C3:World→Prop) (next2:KV) (R:RT) (w:World):Prop :=
 qN Pg C3 (nilN t42) fun t46 =>
 qV Pg C3 (Instr.fieldAt 48 t46 7) fun t47 =>
 qV Pg C3 (Instr.fieldAt 45 t47 1) fun t48 =>
 qV Pg C3 (Instr.loadAt 43 t48) fun t49 =>
 qN Pg C3 (nilN t42) fun t52 =>
 qV Pg C3 (Instr.fieldAt 48 t52 11) fun t53 =>
 qV Pg C3 (Instr.loadAt 46 t53) fun t54 =>
 C0 60 #[t49] R w fun t50 w =>
 C3 w∧(
 C0 61 #[t54] R w fun t55 w =>
 C3 w∧(
 n12c2 t34 t42 t50 t55 C3 next2 R w))
def n12c4 (t20 t34:Value) (next2:KV) (R:RT) (w:World):Prop :=
 opN Pg (nilN t20) (panK R) w fun t38 w =>
 F0 24 t38 1 R w fun t39 w =>
 L0 22 t39 R w fun t40 w =>
 X0 22 t40 t34 R w fun t42 w =>
 drawK w fun C3 w =>
 n12c3 t34 t42 C3 next2 R w
def n12c5 (t14 t20 t33 t34:Value) (next1:KV) (next2:KV) (R:RT) (w:World):Prop :=
 B0 .lss 3 false t34 t33 R w fun t35 w =>
 condP t35 (
 n12c4 t20 t34 next2 R w) (
 B0 .add 3 true t14 (.int .i64 1) R w fun t62 w =>
 next1 t62 w)
def n12c6 (t14 t20 t26:Value) (next1:KV) (R:RT) (w:World):Prop :=
 opN Pg (nilN t20) (panK R) w fun t27 w =>
 F0 24 t27 1 R w fun t28 w =>
 opU Pg (Instr.storeAt 22 t28 t26) (panK R) w fun w =>
 opN Pg (nilN t20) (panK R) w fun t30 w =>
 F0 24 t30 1 R w fun t31 w =>
 L0 22 t31 R w fun t32 w =>
 opV Pg (Builtin.len_ #[22] 3 #[t32]) (panK R) w fun t33 w =>
 loop1 (fun t34 w next2 =>
 n12c5 t14 t20 t33 t34 next1 next2 R w) (.int .i64 0) w
def n12c7 (t1 t14:Value) (next1:KV) (R:RT) (w:World):Prop :=
 F0 28 t1 1 R w fun t17 w =>
 L0 26 t17 R w fun t18 w =>
 X0 26 t18 t14 R w fun t20 w =>
 opN Pg (nilN t20) (panK R) w fun t23 w =>
 F0 24 t23 1 R w fun t24 w =>
 L0 22 t24 R w fun t25 w =>
 C0 59 #[t25] R w fun t26 w =>
 n12c6 t14 t20 t26 next1 R w
def n12c8 (t1 t2 t13 t14:Value) (next1:KV) (R:RT) (w:World):Prop :=
 B0 .lss 3 false t14 t13 R w fun t15 w =>
 condP t15 (
 n12c7 t1 t14 next1 R w) (
 L0 28 t1 R w fun t63 w =>
 opU Pg (Instr.storeAt 28 t2 t63) (panK R) w fun w =>
 qW Pg 28 t2 w fun r0 =>
 R (.returned r0) w)
def n12c9 (t1 t2 t9:Value) (R:RT) (w:World):Prop :=
 F0 28 t1 1 R w fun t10 w =>
 opU Pg (Instr.storeAt 26 t10 t9) (panK R) w fun w =>
 F0 28 t1 1 R w fun t11 w =>
 L0 26 t11 R w fun t12 w =>
 opV Pg (Builtin.len_ #[26] 3 #[t12]) (panK R) w fun t13 w =>
 loop1 (fun t14 w next1 =>
 n12c8 t1 t2 t13 t14 next1 R w) (.int .i64 0) w
def n12 (t0:Value) (R:RT) (w:World):Prop :=
 opV Pg (Instr.box 28 t0) (panK R) w fun t1 w =>
 opV Pg (Instr.alloc 28 true (.tuple #[])) (panK R) w fun t2 w =>
 F0 28 t1 1 R w fun t7 w =>
 L0 26 t7 R w fun t8 w =>
 C0 58 #[t8] R w fun t9 w =>
 n12c9 t1 t2 t9 R w
theorem n12s {t0:Value} {R:RT} {w:World} (h:n12 t0 R w):Calls Pg 28 #[t0] w R:=by
 refine yD Tryz.func28 ?_
 refine zs<|zr<|yv h fun _ w h=>yv h fun _ w h=>zn<|zk<|zs<|zr<|yv h fun _ w h=>yv h fun _ w h=>yc h c58 fun _ w h=>yv h fun _ w h=>yu h fun w h=>zn<|zk ?_
 refine zs<|zs<|zr<|yv h fun _ w h=>yv h fun _ w h=>yx h fun _ w h=>zm<|zn<|zk<|sim_block<|yl1 [3,4,5,6,14,15,16,17,18,19,20,21,22,23,24,25,26,27,28,29,30,31,32,33,34,35,36,37,38,39,40,41,42,43,44,45,46,47,48,49,50,51,52,53,54,55,56,57,58,59,60,61,62] 14 h fun σ w next h=>zs<|zr<|yb h fun _ w h=>zn ?_
 refine zk<|zs<|yC h (fun h=>?_) fun h=>?_
 · refine sim_skip<|zk<|zs<|sim_block<|zs<|zr<|zm<|zm<|zn<|zk<|zs<|zr<|yv h fun _ w h=>yv h fun _ w h=>zm ?_
   refine yv h fun _ w h=>zm<|zn<|zk<|zs<|zr<|zm<|zm<|yN h fun _ w h=>yv h fun _ w h=>yv h fun _ w h=>yc h c59 fun _ w h=>yN h fun _ w h=>yv h fun _ w h=>yu h fun w h=>?_
   refine zn<|zk<|zs<|zr<|zm<|yN h fun _ w h=>yv h fun _ w h=>yv h fun _ w h=>yx h fun _ w h=>zm<|zn<|zk<|sim_block<|yl1 [5,6,34,35,36,37,38,39,40,41,42,43,44,45,46,47,48,49,50,51,52,53,54,55,56,57,58,59,60,61] 34 h fun σ w next h=>zs ?_
   refine zr<|yb h fun _ w h=>zn<|zk<|zs<|yC h (fun h=>?_) fun h=>?_
   · refine sim_skip<|zk<|zs<|sim_block<|zs<|zr<|zm<|zm<|zn<|zk<|zs<|zr<|zm<|yN h fun _ w h=>yv h fun _ w h=>?_
     refine yv h fun _ w h=>zm<|yv h fun _ w h=>zm<|zn<|zk<|yh [43,44,45,46,47,48,49,50,51,52,53,54,55,56,57,58,59,60] h fun C hC h=>yw 0 hC ?_
     refine yw 1 hC ?_
     refine yw 2 hC ?_
     refine yn 3 hC h fun _ h=>?_
     refine ye 4 hC h fun _ h=>?_
     refine ye 5 hC h fun _ h=>?_
     refine ye 6 hC h fun _ h=>?_
     refine yw 8 hC ?_
     refine yn 9 hC h fun _ h=>?_
     refine ye 10 hC h fun _ h=>?_
     refine ye 11 hC h fun _ h=>?_
     refine yo 7 ?_
     refine yc h c60 fun _ w h=>zn ?_
     obtain ⟨hC,h⟩:=h
     refine ⟨hC,?_⟩
     refine yo 12 ?_
     refine yc h c61 fun _ w h=>zn ?_
     obtain ⟨hC,h⟩:=h
     refine ⟨hC,?_⟩
     refine yn 13 hC h fun _ h=>?_
     refine ye 14 hC h fun _ h=>?_
     refine ye 15 hC h fun _ h=>?_
     refine yq 16 3 ?_
     refine yu h fun w h=>zn ?_
     obtain ⟨C4,hC,h⟩:=h
     refine ⟨C4,hC,?_⟩
     refine yn 17 hC h fun _ h=>?_
     refine ye 18 hC h fun _ h=>?_
     refine yq 19 2 ?_
     refine yu h fun w h=>zn ?_
     obtain ⟨C5,hC,h⟩:=h
     refine ⟨C5,hC,?_⟩
     exact yz<|sim_block_normal<|zk<|zr<|yb h fun _ w h=>zm<|zn<|zk<|⟨rfl,h⟩
   exact sim_exit<|sim_then_exit<|sim_then_exit<|sim_block_hit<|sim_block_normal<|zk<|zr<|yb h fun _ w h=>zm<|zn<|zk<|⟨rfl,h⟩
 exact sim_exit<|sim_then_exit<|sim_then_exit<|sim_block_hit<|zk<|zs<|zr<|yv h fun _ w h=>yu h fun w h=>zn<|zk<|sim_ret<|body_retC rfl rfl h
def n24c1 (t7:Value) (R:RT) (w:World):Prop :=
 opV Pg (Instr.extract t7 0) (panK R) w fun t8 w =>
 opV Pg (Instr.extract t7 1) (panK R) w fun t9 w =>
 opV Pg (Instr.alloc 90 true (.tuple #[])) (panK R) w fun t3 w =>
 opU Pg (Instr.storeAt 90 t3 t8) (panK R) w fun w =>
 opV Pg (Op.unary .not t9) (panK R) w fun t11 w =>
 R (.returned t11) w
def n24 (t0:Value) (R:RT) (w:World):Prop :=
 opV Pg (Instr.box 28 t0) (panK R) w fun t1 w =>
 L0 28 t1 R w fun t6 w =>
 C0 62 #[t6] R w fun t7 w =>
 n24c1 t7 R w
theorem n24s {t0:Value} {R:RT} {w:World} (h:n24 t0 R w):Calls Pg 29 #[t0] w R:=by
 refine yD Tryz.func29 ?_
 refine zs<|zr<|yv h fun _ w h=>zm<|zn<|zk<|zs<|zr<|yv h fun _ w h=>yc h c62 fun _ w h=>zm<|yv h fun _ w h=>yv h fun _ w h=>yv h fun _ w h=>yu h fun w h=>?_
 exact zm<|zn<|zk<|zs<|zr<|zm<|yv h fun _ w h=>zm<|zn<|zk<|sim_ret<|body_ret1 rfl rfl h
def n13c1 (t2 t3 t9 t15:Value) (R:RT) (w:World):Prop :=
 pickK t9 t15 (.bool false) fun t16 =>
 joinK (fun (t22:Value) (w:World) =>
 pickK t16 t22 (.bool false) fun t23 =>
 R (.returned t23) w) fun K2 =>
 guardP t16 true (
 F0 28 t2 1 R w fun t18 w =>
 L0 26 t18 R w fun t19 w =>
 F0 28 t3 1 R w fun t20 w =>
 L0 26 t20 R w fun t21 w =>
 callK Pg 63 #[t19,t21,(.func (.func 64) #[] #[])] (panK R) w fun t22 w =>
 K2 t22 w) (
 K2 undef w)
def n13 (t0 t1:Value) (R:RT) (w:World):Prop :=
 opV Pg (Instr.box 28 t0) (panK R) w fun t2 w =>
 opV Pg (Instr.box 28 t1) (panK R) w fun t3 w =>
 F0 28 t2 0 R w fun t5 w =>
 L0 9 t5 R w fun t6 w =>
 F0 28 t3 0 R w fun t7 w =>
 L0 9 t7 R w fun t8 w =>
 B0 .eql 9 false t6 t8 R w fun t9 w =>
 joinK (fun (t15:Value) (w:World) =>
 n13c1 t2 t3 t9 t15 R w) fun K1 =>
 guardP t9 true (
 F0 28 t2 2 R w fun t11 w =>
 L0 9 t11 R w fun t12 w =>
 F0 28 t3 2 R w fun t13 w =>
 L0 9 t13 R w fun t14 w =>
 B0 .eql 9 false t12 t14 R w fun t15 w =>
 K1 t15 w) (
 K1 undef w)
theorem n13s {t0 t1:Value} {R:RT} {w:World} (h:n13 t0 t1 R w):Calls Pg 30 #[t0,t1] w R:=by
 refine yD Tryz.func30 ?_
 refine zs<|zr<|yv h fun _ w h=>yv h fun _ w h=>zm<|zn<|zk<|zs<|sim_regionG<|yG 6<|yv h fun _ w h=>yv h fun _ w h=>yv h fun _ w h=>yv h fun _ w h=>yb h fun _ w h=>?_
 refine zm<|zn<|yg1 5 5 true [11,12,13,14,15] 15 h (fun _ T hT h=>?_) fun σ w h=>?_
 · refine yv h fun _ w h=>yv h fun _ w h=>yv h fun _ w h=>yv h fun _ w h=>yb h fun _ w h=>zn ?_
   exact zt hT h
 refine yG 2<|yp h fun _ h=>zm<|zn<|yg1 5 12 true [18,19,20,21,22] 22 h (fun _ T hT h=>?_) fun σ w h=>?_
 · refine yv h fun _ w h=>yv h fun _ w h=>yv h fun _ w h=>yv h fun _ w h=>yc h c63 fun _ w h=>zn ?_
   exact zt hT h
 exact yG 2<|yp h fun _ h=>zm<|zn<|sim_end<|zk<|sim_ret<|body_ret1 rfl rfl h
def n17 (t0 t1:Value) (R:RT) (w:World):Prop :=
 opV Pg (Instr.box 28 t0) (panK R) w fun t2 w =>
 opV Pg (Instr.box 9 t1) (panK R) w fun t3 w =>
 F0 28 t2 1 R w fun t6 w =>
 L0 26 t6 R w fun t7 w =>
 opV Pg (Instr.makeFunc (.func 68) #[] #[t3]) (panK R) w fun t8 w =>
 C0 67 #[t7,t8] R w fun t9 w =>
 opV Pg (Instr.extract t9 0) (panK R) w fun t10 w =>
 opV Pg (Instr.extract t9 1) (panK R) w fun t11 w =>
 R (.returned (.tuple #[t10,t11])) w
theorem n17s {t0 t1:Value} {R:RT} {w:World} (h:n17 t0 t1 R w):Calls Pg 31 #[t0,t1] w R:=by
 refine yD Tryz.func31 ?_
 refine zs<|zr<|yv h fun _ w h=>yv h fun _ w h=>zm<|zm<|zn<|zk<|zs<|zr<|yv h fun _ w h=>yv h fun _ w h=>yF h fun _ w h=>yc h c67 fun _ w h=>yv h fun _ w h=>?_
 exact yv h fun _ w h=>zm<|zm<|zn<|zk<|sim_ret<|body_ret2 rfl rfl rfl h
def n8 (R:RT) (w:World):Prop :=
 opV Pg (Instr.alloc 28 true (.tuple #[])) (panK R) w fun t0 w =>
 opV Pg (Instr.build 48 #[(0,(.string { data := #[110] })),(1,(.int .i64 1)),(2,(.int .i64 8)),(6,(.int .i64 9))]) (panK R) w fun t2 w =>
 opV Pg (Instr.alloc 48 true (.tuple #[])) (panK R) w fun t1 w =>
 opU Pg (Instr.storeAt 48 t1 t2) (panK R) w fun w =>
 L0 48 t1 R w fun t3 w =>
 opV Pg (Instr.buildSlice 22 1 #[(0,t3)]) (panK R) w fun t4 w =>
 opV Pg (Instr.build 24 #[(0,(.string { data := #[97] })),(1,t4)]) (panK R) w fun t5 w =>
 opV Pg (Instr.build 48 #[(0,(.string { data := #[120] })),(1,(.int .i64 8)),(8,(.string { data := #[97] }))]) (panK R) w fun t6 w =>
 opV Pg (Instr.buildSlice 22 1 #[(0,t6)]) (panK R) w fun t7 w =>
 opV Pg (Instr.build 24 #[(0,(.string { data := #[98] })),(1,t7)]) (panK R) w fun t8 w =>
 L0 48 t1 R w fun t9 w =>
 opV Pg (Instr.build 48 #[(0,(.string { data := #[116] })),(1,(.int .i64 3)),(6,(.int .i64 9))]) (panK R) w fun t10 w =>
 opV Pg (Instr.build 62 #[(0,(.string { data := #[110] })),(1,(.int .i64 2))]) (panK R) w fun t11 w =>
 opV Pg (Instr.buildSlice 43 1 #[(0,t11)]) (panK R) w fun t12 w =>
 opV Pg (Instr.build 45 #[(1,t12)]) (panK R) w fun t13 w =>
 opV Pg (Instr.build 48 #[(0,(.string { data := #[108] })),(1,(.int .i64 7)),(8,(.string { data := #[98] })),(7,t13)]) (panK R) w fun t14 w =>
 opV Pg (Instr.build 60 #[(2,(.string { data := #[97] }))]) (panK R) w fun t15 w =>
 opV Pg (Instr.build 60 #[(0,(.int .i64 1)),(1,(.int .i64 1)),(2,(.string { data := #[98] }))]) (panK R) w fun t16 w =>
 opV Pg (Instr.buildSlice 46 2 #[(0,t15),(1,t16)]) (panK R) w fun t17 w =>
 opV Pg (Instr.build 48 #[(0,(.string { data := #[115] })),(1,(.int .i64 9)),(9,(.string { data := #[116] })),(11,t17)]) (panK R) w fun t18 w =>
 opV Pg (Instr.build 48 #[(0,(.string { data := #[107] })),(1,(.int .i64 11)),(12,(.int .i64 1)),(10,(.string { data := #[108] }))]) (panK R) w fun t19 w =>
 opV Pg (Instr.buildSlice 22 5 #[(0,t9),(1,t10),(2,t14),(3,t18),(4,t19)]) (panK R) w fun t20 w =>
 opV Pg (Instr.build 24 #[(0,(.string { data := #[99] })),(1,t20)]) (panK R) w fun t21 w =>
 L0 48 t1 R w fun t22 w =>
 opV Pg (Instr.buildSlice 22 1 #[(0,t22)]) (panK R) w fun t23 w =>
 opV Pg (Instr.build 24 #[(0,(.string { data := #[122] })),(1,t23)]) (panK R) w fun t24 w =>
 opV Pg (Instr.buildSlice 26 4 #[(0,t5),(1,t8),(2,t21),(3,t24)]) (panK R) w fun t25 w =>
 opV Pg (Instr.build 28 #[(0,(.string { data := #[100] })),(2,(.string { data := #[99] })),(1,t25)]) (panK R) w fun t26 w =>
 opU Pg (Instr.storeAt 28 t0 t26) (panK R) w fun w =>
 qW Pg 28 t0 w fun r0 =>
 R (.returned r0) w
theorem n8s {R:RT} {w:World} (h:n8 R w):Calls Pg 38 #[] w R:=by
 refine yD Tryz.func38 ?_
 refine zs<|zr<|yv h fun _ w h=>zn<|zk<|zs<|zr<|yB h fun _ w h=>yv h fun _ w h=>yu h fun w h=>zn<|zk<|zs<|zr<|yv h fun _ w h=>?_
 refine yS h fun _ w h=>yB h fun _ w h=>yB h fun _ w h=>yS h fun _ w h=>yB h fun _ w h=>yv h fun _ w h=>yB h fun _ w h=>yB h fun _ w h=>yS h fun _ w h=>yB h fun _ w h=>yB h fun _ w h=>yB h fun _ w h=>yB h fun _ w h=>yS h fun _ w h=>yB h fun _ w h=>?_
 exact yB h fun _ w h=>yS h fun _ w h=>yB h fun _ w h=>yv h fun _ w h=>yS h fun _ w h=>yB h fun _ w h=>yS h fun _ w h=>yB h fun _ w h=>yu h fun w h=>zn<|zk<|sim_ret<|body_retC rfl rfl h
def n76 (t0 t1:Value) (R:RT) (w:World):Prop :=
 opV Pg (Instr.box 24 t0) (panK R) w fun t2 w =>
 B0 .geq 3 true t1 (.int .i64 0) R w fun t6 w =>
 joinK (fun (t12:Value) (w:World) =>
 pickK t6 t12 (.bool false) fun t13 =>
 R (.returned t13) w) fun K1 =>
 guardP t6 true (
 F0 24 t2 1 R w fun t9 w =>
 L0 22 t9 R w fun t10 w =>
 opV Pg (Builtin.len_ #[22] 3 #[t10]) (panK R) w fun t11 w =>
 B0 .lss 3 false t1 t11 R w fun t12 w =>
 K1 t12 w) (
 K1 undef w)
theorem n76s {t0 t1:Value} {R:RT} {w:World} (h:n76 t0 t1 R w):Calls Pg 39 #[t0,t1] w R:=by
 refine yD Tryz.func39 ?_
 refine zs<|zr<|yv h fun _ w h=>zm<|zn<|zk<|zs<|sim_regionG<|yG 3<|zm<|yb h fun _ w h=>zm<|zn<|yg1 5 2 true [8,9,10,11,12] 12 h (fun _ T hT h=>?_) fun σ w h=>?_
 · refine zm<|yv h fun _ w h=>yv h fun _ w h=>yx h fun _ w h=>yb h fun _ w h=>zn ?_
   exact zt hT h
 exact yG 2<|yp h fun _ h=>zm<|zn<|sim_end<|zk<|sim_ret<|body_ret1 rfl rfl h
def n79c1 (t8 t37 t44:Value) (next3:KW) (R:RT) (w:World):Prop :=
 opV Pg (Instr.extract t44 0) (panK R) w fun t45 w =>
 opV Pg (Instr.extract t44 1) (panK R) w fun t46 w =>
 joinK (fun (t8:Value) (w:World) =>
 B0 .add 3 true t37 (.int .i64 1) R w fun t52 w =>
 next3 t8 t52 w) fun K4 =>
 condP t46 (
 opV Pg (Instr.buildSlice 30 1 #[(0,t45)]) (panK R) w fun t50 w =>
 opV Pg (Builtin.append_ #[30,30] 30 #[t8,t50]) (panK R) w fun t51 w =>
 K4 t51 w) (
 K4 t8 w)
def n79c2 (t8 t9 t35 t37:Value) (next3:KW) (R:RT) (w:World):Prop :=
 X0 82 t35 t37 R w fun t39 w =>
 L0 9 t39 R w fun t40 w =>
 L0 24 t9 R w fun t42 w =>
 C0 82 #[t42,t40] R w fun t44 w =>
 n79c1 t8 t37 t44 next3 R w
def n79c3 (t8 t9 t35 t36 t37:Value) (next3:KW) (R:RT) (w:World):Prop :=
 B0 .lss 3 false t37 t36 R w fun t38 w =>
 condP t38 (
 n79c2 t8 t9 t35 t37 next3 R w) (
 C0 83 #[t8] R w fun t54 w =>
 C0 84 #[t8] R w fun t56 w =>
 R (.returned t56) w)
def n79c4 (t1 t2 t5 t24:Value) (R:RT) (w:World):Prop :=
 F0 24 t2 1 R w fun t28 w =>
 L0 22 t28 R w fun t29 w =>
 opV Pg (Instr.sliceAt 22 t29 none (some t1) none) (panK R) w fun t31 w =>
 opV Pg (Instr.build 24 #[(1,t31)]) (panK R) w fun t32 w =>
 opV Pg (Instr.alloc 24 true (.tuple #[])) (panK R) w fun t9 w =>
 opU Pg (Instr.storeAt 24 t9 t32) (panK R) w fun w =>
 L0 48 t5 R w fun t34 w =>
 callV Pg t24 #[t34] (panK R) w fun t35 w =>
 opV Pg (Builtin.len_ #[82] 3 #[t35]) (panK R) w fun t36 w =>
 loop2 (fun t8 t37 w next3 =>
 n79c3 t8 t9 t35 t36 t37 next3 R w) (Value.slice none 0 0) (.int .i64 0) w
def n79c5 (t1 t2 t5 t20 t22:Value) (C2:World→Prop) (R:RT) (w:World):Prop :=
 qV Pg C2 (Instr.lookup 128 t20 t22 true) fun t23 =>
 qV Pg C2 (Instr.extract t23 0) fun t24 =>
 qV Pg C2 (Instr.extract t23 1) fun t25 =>
 opV Pg (Op.unary .not t25) (panK R) w fun t27 w =>
 condP t27 (
 R (.returned (Value.slice none 0 0)) w) (
 n79c4 t1 t2 t5 t24 R w)
def n79c6 (t1 t2 t5:Value) (C1:World→Prop) (R:RT) (w:World):Prop :=
 qV Pg C1 (Instr.fieldAt 48 t5 1) fun t21 =>
 qV Pg C1 (Instr.loadAt 42 t21) fun t22 =>
 C0 81 #[] R w fun t20 w =>
 narrowK C1 w fun C2 w =>
 n79c5 t1 t2 t5 t20 t22 C2 R w
def n79 (t0 t1:Value) (R:RT) (w:World):Prop :=
 opV Pg (Instr.box 24 t0) (panK R) w fun t2 w =>
 F0 24 t2 1 R w fun t14 w =>
 L0 22 t14 R w fun t15 w =>
 X0 22 t15 t1 R w fun t17 w =>
 L0 48 t17 R w fun t18 w =>
 opV Pg (Instr.alloc 48 true (.tuple #[])) (panK R) w fun t5 w =>
 opU Pg (Instr.storeAt 48 t5 t18) (panK R) w fun w =>
 drawK w fun C1 w =>
 n79c6 t1 t2 t5 C1 R w
theorem n79s {t0 t1:Value} {R:RT} {w:World} (h:n79 t0 t1 R w):Calls Pg 40 #[t0,t1] w R:=by
 refine yD Tryz.func40 ?_
 refine zs<|zr<|yv h fun _ w h=>zm<|zn<|zk<|zs<|zr<|yv h fun _ w h=>yv h fun _ w h=>zm<|yv h fun _ w h=>yv h fun _ w h=>yv h fun _ w h=>yu h fun w h=>?_
 refine zn<|zk<|zs<|yh [6,7,19,20,21,22,23,24,25] h fun C hC h=>ye 1 hC h fun _ h=>?_
 refine ye 2 hC h fun _ h=>?_
 refine yr 0 ?_
 refine yc h c81 fun _ w h=>zn ?_
 obtain ⟨C2,hs,hC,h⟩:=h
 refine ⟨C2,hs,hC,?_⟩
 refine ye 3 hC h fun _ h=>?_
 refine yw 4 hC ?_
 refine ye 5 hC h fun _ h=>?_
 refine ye 6 hC h fun _ h=>?_
 refine yw 7 hC ?_
 refine yw 8 hC ?_
 refine yz<|zk<|zs<|zs<|zr<|zm<|yv h fun _ w h=>zn<|zk<|yC h (fun h=>zs<|zr<|zm<|zn<|zk<|sim_ret<|sim_then_ret<|body_ret1 rfl rfl h) fun h=>sim_skip<|zk<|zs<|zr ?_
 refine zm<|zn<|zk<|zs<|zr<|yv h fun _ w h=>yv h fun _ w h=>zm<|yv h fun _ w h=>yB h fun _ w h=>yv h fun _ w h=>yu h fun w h=>zn<|zk<|zs ?_
 refine zs<|zr<|zm<|yv h fun _ w h=>yV h fun _ w h=>yx h fun _ w h=>zm<|zn<|zk<|sim_block<|yl2 [8,11,12,13,37,38,39,40,41,42,43,44,45,46,47,48,49,50,51,52] 8 37 h fun σ w next h=>zs<|zr<|yb h fun _ w h=>zn ?_
 refine zk<|zs<|yC h (fun h=>?_) fun h=>?_
 · refine sim_skip<|zk<|zs<|sim_block<|zs<|zr<|yv h fun _ w h=>yv h fun _ w h=>zm<|zn<|zk<|zs<|zr<|yv h fun _ w h=>zm ?_
   refine yc h c82 fun _ w h=>zm<|yv h fun _ w h=>yv h fun _ w h=>zm<|zm<|zn<|zk<|zs<|zr<|zm<|zn<|zk<|yJ1 [8,48,49,50,51] 8 h (fun _ _ hkK4 h=>?_) fun σ w h=>?_
   · refine yC h (fun h=>?_) fun h=>?_
     · refine zr<|zm<|zm<|yS h fun _ w h=>yx h fun _ w h=>zm<|zn<|zk ?_
       exact zt hkK4 h
     refine sim_skip<|zk ?_
     exact zt hkK4 h
   exact sim_block_normal<|zk<|zr<|yb h fun _ w h=>zm<|zn<|zk<|⟨rfl,h⟩
 refine sim_exit<|sim_then_exit<|sim_then_exit<|sim_block_hit<|zk<|zs<|zr<|zm<|yc h c83 fun _ w h=>zn<|zk<|zs<|zr<|zm<|yc h c84 fun _ w h=>?_
 exact zm<|zn<|zk<|sim_ret<|body_ret1 rfl rfl h
def n84c1 (t4 t9 t17:Value) (next1:KW) (R:RT) (w:World):Prop :=
 joinK (fun (t4:Value) (w:World) =>
 B0 .add 3 true t9 (.int .i64 1) R w fun t22 w =>
 next1 t4 t22 w) fun K2 =>
 condP t17 (
 opV Pg (Instr.buildSlice 30 1 #[(0,t9)]) (panK R) w fun t20 w =>
 opV Pg (Builtin.append_ #[30,30] 30 #[t4,t20]) (panK R) w fun t21 w =>
 K2 t21 w) (
 K2 t4 w)
def n84c2 (t0 t1 t4 t9:Value) (next1:KW) (R:RT) (w:World):Prop :=
 X0 22 t0 t9 R w fun t12 w =>
 L0 48 t12 R w fun t13 w =>
 opV Pg (Instr.alloc 48 true (.tuple #[])) (panK R) w fun t6 w =>
 opU Pg (Instr.storeAt 48 t6 t13) (panK R) w fun w =>
 L0 48 t6 R w fun t16 w =>
 callV Pg t1 #[t9,t16] (panK R) w fun t17 w =>
 n84c1 t4 t9 t17 next1 R w
def n84 (t0 t1:Value) (R:RT) (w:World):Prop :=
 opV Pg (Builtin.len_ #[22] 3 #[t0]) (panK R) w fun t8 w =>
 loop2 (fun t4 t9 w next1 =>
 B0 .lss 3 false t9 t8 R w fun t10 w =>
 condP t10 (
 n84c2 t0 t1 t4 t9 next1 R w) (
 R (.returned t4) w)) (Value.slice none 0 0) (.int .i64 0) w
theorem n84s {t0 t1:Value} {R:RT} {w:World} (h:n84 t0 t1 R w):Calls Pg 41 #[t0,t1] w R:=by
 refine yD Tryz.func41 ?_
 refine zs<|zr<|zm<|zn<|zk<|zs<|zs<|zr<|zm<|yx h fun _ w h=>zm<|zn<|zk<|sim_block<|yl2 [4,5,6,9,10,11,12,13,14,15,16,17,18,19,20,21,22] 4 9 h fun σ w next h=>?_
 refine zs<|zr<|yb h fun _ w h=>zn<|zk<|zs<|yC h (fun h=>?_) fun h=>?_
 · refine sim_skip<|zk<|zs<|sim_block<|zs<|zr<|zm<|yv h fun _ w h=>yv h fun _ w h=>yv h fun _ w h=>zm<|yu h fun w h=>zn<|zk<|zs ?_
   refine zr<|zm<|zm<|yv h fun _ w h=>yV h fun _ w h=>zn<|zk<|yJ1 [4,18,19,20,21] 4 h (fun _ _ hkK2 h=>?_) fun σ w h=>?_
   · refine yC h (fun h=>?_) fun h=>?_
     · refine zr<|zm<|zm<|yS h fun _ w h=>yx h fun _ w h=>zm<|zn<|zk ?_
       exact zt hkK2 h
     refine sim_skip<|zk ?_
     exact zt hkK2 h
   exact sim_block_normal<|zk<|zr<|yb h fun _ w h=>zm<|zn<|zk<|⟨rfl,h⟩
 exact sim_exit<|sim_then_exit<|sim_then_exit<|sim_block_hit<|zk<|zs<|zr<|zm<|zm<|zn<|zk<|sim_ret<|body_ret1 rfl rfl h
def n72c1 (t0 t2 t3:Value) (C1:World→Prop) (R:RT) (w:World):Prop :=
 qV Pg C1 (Instr.loadAt 24 t2) fun t7 =>
 qV Pg C1 (Instr.loadAt 3 t3) fun t10 =>
 C0 40 #[t7,t0] R w fun t9 w =>
 C1 w∧(
 C0 43 #[t9,t10] R w fun t11 w =>
 C1 w∧(
 R (.returned t11) w))
def n72 (t0 t1 t2 t3:Value) (R:RT) (w:World):Prop :=
 opV Pg (Instr.box 48 t1) (panK R) w fun t5 w =>
 drawK w fun C1 w =>
 n72c1 t0 t2 t3 C1 R w
theorem n72s {t0 t1 t2 t3:Value} {R:RT} {w:World} (h:n72 t0 t1 t2 t3 R w):Calls Pg 42 #[t0,t1,t2,t3] w R:=by
 refine yD Tryz.func42 ?_
 refine zs<|zr<|yv h fun _ w h=>zm<|zn<|zk<|zs<|yh [6,7,8,9,10,11] h fun C hC h=>ye 0 hC h fun _ h=>?_
 refine yw 1 hC ?_
 refine ye 3 hC h fun _ h=>?_
 refine yo 2 ?_
 refine yc h c40 fun _ w h=>zn ?_
 obtain ⟨hC,h⟩:=h
 refine ⟨hC,?_⟩
 refine yo 4 ?_
 refine yc h c43 fun _ w h=>zn ?_
 obtain ⟨hC,h⟩:=h
 refine ⟨hC,?_⟩
 refine yw 5 hC ?_
 exact yz<|zk<|sim_ret<|body_ret1 rfl rfl h
def n110 (t0 t1:Value) (R:RT) (w:World):Prop :=
 C0 85 #[t0,t1] R w fun t7 w =>
 B0 .geq 3 true t7 (.int .i64 0) R w fun t8 w =>
 R (.returned t8) w
theorem n110s {t0 t1:Value} {R:RT} {w:World} (h:n110 t0 t1 R w):Calls Pg 43 #[t0,t1] w R:=by
 refine yD Tryz.func43 ?_
 refine zs<|zr<|zm<|zn<|zk<|zs<|zr<|zm<|zm<|yc h c85 fun _ w h=>yb h fun _ w h=>zm<|zn<|zk<|sim_ret ?_
 exact body_ret1 rfl rfl h
def n66c1 (t12 t15:Value) (R:RT) (w:World):Prop :=
 joinK (fun (t19:Value) (w:World) =>
 pickK t15 t19 (.bool false) fun t20 =>
 R (.returned t20) w) fun K1 =>
 guardP t15 true (
 opV Pg (Builtin.len_ #[30] 3 #[t12]) (panK R) w fun t18 w =>
 B0 .eql 3 true t18 (.int .i64 0) R w fun t19 w =>
 K1 t19 w) (
 K1 undef w)
def n66c2 (t4 t11:Value) (R:RT) (w:World):Prop :=
 opV Pg (Instr.extract t11 0) (panK R) w fun t12 w =>
 opV Pg (Instr.extract t11 1) (panK R) w fun t13 w =>
 L0 48 t4 R w fun t14 w =>
 C0 49 #[t14] R w fun t15 w =>
 n66c1 t12 t15 R w
def n66 (t0 t1 t2:Value) (R:RT) (w:World):Prop :=
 opV Pg (Instr.box 48 t1) (panK R) w fun t4 w =>
 L0 24 t2 R w fun t9 w =>
 C0 13 #[t9,t0] R w fun t11 w =>
 n66c2 t4 t11 R w
theorem n66s {t0 t1 t2:Value} {R:RT} {w:World} (h:n66 t0 t1 t2 R w):Calls Pg 48 #[t0,t1,t2] w R:=by
 refine yD Tryz.func48 ?_
 refine zs<|zr<|yv h fun _ w h=>zm<|zn<|zk<|zs<|zr<|yv h fun _ w h=>zm<|yc h c13 fun _ w h=>zm<|yv h fun _ w h=>yv h fun _ w h=>zm ?_
 refine zm<|zn<|zk<|zs<|sim_regionG<|yG 3<|yv h fun _ w h=>yc h c49 fun _ w h=>zm<|zn<|yg1 3 2 true [17,18,19] 19 h (fun _ T hT h=>?_) fun σ w h=>?_
 · refine zm<|yx h fun _ w h=>yb h fun _ w h=>zn ?_
   exact zt hT h
 exact yG 2<|yp h fun _ h=>zm<|zn<|sim_end<|zk<|sim_ret<|body_ret1 rfl rfl h
def n19c1 (t1 t5 t9:Value) (R:RT) (w:World):Prop :=
 pickK t5 (.bool true) t9 fun t10 =>
 joinK (fun (t14:Value) (w:World) =>
 pickK t10 (.bool true) t14 fun t15 =>
 R (.returned t15) w) fun K2 =>
 guardP t10 false (
 F0 48 t1 1 R w fun t12 w =>
 L0 42 t12 R w fun t13 w =>
 B0 .eql 42 true t13 (.int .i64 3) R w fun t14 w =>
 K2 t14 w) (
 K2 undef w)
def n19 (t0:Value) (R:RT) (w:World):Prop :=
 opV Pg (Instr.box 48 t0) (panK R) w fun t1 w =>
 F0 48 t1 1 R w fun t3 w =>
 L0 42 t3 R w fun t4 w =>
 B0 .eql 42 true t4 (.int .i64 1) R w fun t5 w =>
 joinK (fun (t9:Value) (w:World) =>
 n19c1 t1 t5 t9 R w) fun K1 =>
 guardP t5 false (
 F0 48 t1 1 R w fun t7 w =>
 L0 42 t7 R w fun t8 w =>
 B0 .eql 42 true t8 (.int .i64 2) R w fun t9 w =>
 K1 t9 w) (
 K1 undef w)
theorem n19s {t0:Value} {R:RT} {w:World} (h:n19 t0 R w):Calls Pg 49 #[t0] w R:=by
 refine yD Tryz.func49 ?_
 refine zs<|zr<|yv h fun _ w h=>zm<|zn<|zk<|zs<|sim_regionG<|yG 4<|yv h fun _ w h=>yv h fun _ w h=>yb h fun _ w h=>zm<|zn<|yg1 3 3 false [7,8,9] 9 h (fun _ T hT h=>?_) fun σ w h=>?_
 · refine yv h fun _ w h=>yv h fun _ w h=>yb h fun _ w h=>zn ?_
   exact zt hT h
 refine yG 2<|yp h fun _ h=>zm<|zn<|yg1 3 8 false [12,13,14] 14 h (fun _ T hT h=>?_) fun σ w h=>?_
 · refine yv h fun _ w h=>yv h fun _ w h=>yb h fun _ w h=>zn ?_
   exact zt hT h
 exact yG 2<|yp h fun _ h=>zm<|zn<|sim_end<|zk<|sim_ret<|body_ret1 rfl rfl h
def n64c1 (t2 t3 t9 t17:Value) (C1:World→Prop) (R:RT) (w:World):Prop :=
 pickK t9 t17 (.bool false) fun t18 =>
 joinK (fun (t24:Value) (w:World) =>
 pickK t18 t24 (.bool false) fun t25 =>
 R (.returned t25) w) fun K3 =>
 guardP t18 true (
 qV Pg C1 (Instr.fieldAt 48 t2 11) fun t20 =>
 qV Pg C1 (Instr.loadAt 46 t20) fun t21 =>
 qV Pg C1 (Instr.fieldAt 48 t3 11) fun t22 =>
 qV Pg C1 (Instr.loadAt 46 t22) fun t23 =>
 C0 96 #[t21,t23] R w fun t24 w =>
 C1 w∧(
 K3 t24 w)) (
 K3 undef w)
def n64c2 (t2 t3 t6 t8:Value) (C1:World→Prop) (R:RT) (w:World):Prop :=
 qV Pg C1 (binS .eql 144 false t6 t8) fun t9 =>
 joinK (fun (t17:Value) (w:World) =>
 n64c1 t2 t3 t9 t17 C1 R w) fun K2 =>
 guardP t9 true (
 qV Pg C1 (Instr.fieldAt 48 t2 7) fun t11 =>
 qV Pg C1 (Instr.fieldAt 45 t11 1) fun t12 =>
 qV Pg C1 (Instr.loadAt 43 t12) fun t13 =>
 qV Pg C1 (Instr.fieldAt 48 t3 7) fun t14 =>
 qV Pg C1 (Instr.fieldAt 45 t14 1) fun t15 =>
 qV Pg C1 (Instr.loadAt 43 t15) fun t16 =>
 C0 95 #[t13,t16] R w fun t17 w =>
 C1 w∧(
 K2 t17 w)) (
 K2 undef w)
def n64c3 (t2 t3:Value) (C1:World→Prop) (R:RT) (w:World):Prop :=
 qV Pg C1 (Instr.loadAt 48 t2) fun t5 =>
 qV Pg C1 (Instr.loadAt 48 t3) fun t7 =>
 C0 94 #[t5] R w fun t6 w =>
 C1 w∧(
 C0 94 #[t7] R w fun t8 w =>
 C1 w∧(
 n64c2 t2 t3 t6 t8 C1 R w))
def n64 (t0 t1:Value) (R:RT) (w:World):Prop :=
 opV Pg (Instr.box 48 t0) (panK R) w fun t2 w =>
 opV Pg (Instr.box 48 t1) (panK R) w fun t3 w =>
 drawK w fun C1 w =>
 n64c3 t2 t3 C1 R w
theorem n64s {t0 t1:Value} {R:RT} {w:World} (h:n64 t0 t1 R w):Calls Pg 66 #[t0,t1] w R:=by
 refine yD Tryz.func66 ?_
 refine zs<|zr<|yv h fun _ w h=>yv h fun _ w h=>zm<|zn<|zk<|zs<|yh [4,5,6,7,8,9,10,11,12,13,14,15,16,17,18,19,20,21,22,23,24,25] h fun C hC h=>ye 0 hC h fun _ h=>?_
 refine ye 2 hC h fun _ h=>?_
 refine yo 1 ?_
 refine yc h c94 fun _ w h=>zn ?_
 obtain ⟨hC,h⟩:=h
 refine ⟨hC,?_⟩
 refine yo 3 ?_
 refine yc h c94 fun _ w h=>zn ?_
 obtain ⟨hC,h⟩:=h
 refine ⟨hC,?_⟩
 refine ye 4 hC h fun _ h=>?_
 refine yw 5 hC ?_
 refine yj1 9 [12,11,10,9,8,7,6,5,4,3,1,2,0] [11,12,13,14,15,16,17] 17 h (fun _ hT hb h=>?_) (fun _ hT hb h=>?_) fun σ w hC h=>?_
 · refine ye 6 hC h fun _ h=>?_
   refine ye 7 hC h fun _ h=>?_
   refine ye 8 hC h fun _ h=>?_
   refine ye 9 hC h fun _ h=>?_
   refine ye 10 hC h fun _ h=>?_
   refine ye 11 hC h fun _ h=>?_
   refine yo 12 ?_
   refine yc h c95 fun _ w h=>zn ?_
   obtain ⟨hC,h⟩:=h
   refine ⟨hC,?_⟩
   exact yt hT hC h
 · refine yi 6 hC ?_
   refine yi 7 hC ?_
   refine yi 8 hC ?_
   refine yi 9 hC ?_
   refine yi 10 hC ?_
   refine yi 11 hC ?_
   refine yi 12 hC ?_
   exact yt hT hC h
 refine yP 13 hC h fun _ h=>?_
 refine yw 14 hC ?_
 refine yj1 2 [19,18,17,16,15,14,13,12,11,10,9,8,7,6,5,4,3,1,2,0] [20,21,22,23,24] 24 h (fun _ hT hb h=>?_) (fun _ hT hb h=>?_) fun σ w hC h=>?_
 · refine ye 15 hC h fun _ h=>?_
   refine ye 16 hC h fun _ h=>?_
   refine ye 17 hC h fun _ h=>?_
   refine ye 18 hC h fun _ h=>?_
   refine yo 19 ?_
   refine yc h c96 fun _ w h=>zn ?_
   obtain ⟨hC,h⟩:=h
   refine ⟨hC,?_⟩
   exact yt hT hC h
 · refine yi 15 hC ?_
   refine yi 16 hC ?_
   refine yi 17 hC ?_
   refine yi 18 hC ?_
   refine yi 19 hC ?_
   exact yt hT hC h
 refine yP 20 hC h fun _ h=>?_
 refine yw 21 hC ?_
 exact yz<|zk<|sim_ret<|body_ret1 rfl rfl h
def n38c1 (t9:Value) (R:RT) (w:World):Prop :=
 opV Pg (Builtin.max_ #[3,3] 3 #[t9,(.int .i64 0)]) (panK R) w fun t11 w =>
 B0 .geq 3 true t9 (.int .i64 0) R w fun t13 w =>
 R (.returned (.tuple #[t11,t13])) w
def n38 (t0 t1:Value) (R:RT) (w:World):Prop :=
 C0 97 #[t0,t1] R w fun t9 w =>
 n38c1 t9 R w
theorem n38s {t0 t1:Value} {R:RT} {w:World} (h:n38 t0 t1 R w):Calls Pg 67 #[t0,t1] w R:=by
 refine yD Tryz.func67 ?_
 refine zs<|zr<|zm<|zm<|zn<|zk<|zs<|zr<|zm<|zm<|yc h c97 fun _ w h=>zm<|zn<|zk<|zs ?_
 exact zr<|zm<|yx h fun _ w h=>zm<|yb h fun _ w h=>zm<|zm<|zn<|zk<|sim_ret<|body_ret2 rfl rfl rfl h
def n18 (t0 t1:Value) (R:RT) (w:World):Prop :=
 opV Pg (Instr.box 24 t0) (panK R) w fun t2 w =>
 F0 24 t2 0 R w fun t4 w =>
 L0 9 t4 R w fun t5 w =>
 L0 9 t1 R w fun t6 w =>
 B0 .eql 9 false t5 t6 R w fun t7 w =>
 R (.returned t7) w
theorem n18s {t0 t1:Value} {R:RT} {w:World} (h:n18 t0 t1 R w):Calls Pg 68 #[t0,t1] w R:=by
 refine yD Tryz.func68 ?_
 refine zs<|zr<|yv h fun _ w h=>zm<|zn<|zk<|zs<|zr<|yv h fun _ w h=>yv h fun _ w h=>yv h fun _ w h=>yb h fun _ w h=>zm<|zn<|zk ?_
 exact sim_ret<|body_ret1 rfl rfl h
def n23c1 (t0 t7 t11 t16:Value) (next1:KV) (R:RT) (w:World):Prop :=
 opV Pg (Op.unary .not t16) (panK R) w fun t17 w =>
 joinK (fun (t22:Value) (w:World) =>
 pickK t17 t22 (.bool false) fun t23 =>
 condP t23 (
 R (.returned (.tuple #[])) w) (
 B0 .add 3 true t7 (.int .i64 1) R w fun t24 w =>
 next1 t24 w)) fun K2 =>
 guardP t17 true (
 callV Pg t0 #[t11] (panK R) w fun t21 w =>
 opV Pg (Op.unary .not t21) (panK R) w fun t22 w =>
 K2 t22 w) (
 K2 undef w)
def n23c2 (t0 t1 t5 t7:Value) (next1:KV) (R:RT) (w:World):Prop :=
 X0 82 t5 t7 R w fun t10 w =>
 L0 9 t10 R w fun t11 w =>
 L0 82 t1 R w fun t12 w =>
 opV Pg (Instr.sliceAt 82 t12 none (some t7) none) (panK R) w fun t14 w =>
 C0 70 #[t14,t11] R w fun t16 w =>
 n23c1 t0 t7 t11 t16 next1 R w
def n23 (t0 t1:Value) (R:RT) (w:World):Prop :=
 L0 82 t1 R w fun t5 w =>
 opV Pg (Builtin.len_ #[82] 3 #[t5]) (panK R) w fun t6 w =>
 loop1 (fun t7 w next1 =>
 B0 .lss 3 false t7 t6 R w fun t8 w =>
 condP t8 (
 n23c2 t0 t1 t5 t7 next1 R w) (
 R (.returned (.tuple #[])) w)) (.int .i64 0) w
theorem n23s {t0 t1:Value} {R:RT} {w:World} (h:n23 t0 t1 R w):Calls Pg 69 #[t0,t1] w R:=by
 refine yD Tryz.func69 ?_
 refine zs<|zr<|yv h fun _ w h=>yx h fun _ w h=>zm<|zn<|zk<|sim_block<|yl1 [3,4,7,8,9,10,11,12,13,14,15,16,17,18,19,20,21,22,23,24] 7 h fun σ w next h=>zs<|zr<|yb h fun _ w h=>zn<|zk<|zs ?_
 refine yC h (fun h=>?_) fun h=>?_
 · refine sim_skip<|zk<|zs<|sim_block<|zs<|zr<|zm<|yv h fun _ w h=>yv h fun _ w h=>zm<|zm<|zn<|zk<|zs<|sim_regionG ?_
   refine yG 7<|yv h fun _ w h=>zm<|yv h fun _ w h=>zm<|yc h c70 fun _ w h=>yv h fun _ w h=>zm<|zn<|yg1 4 6 true [19,20,21,22] 22 h (fun _ T hT h=>?_) fun σ w h=>?_
   · refine zm<|zm<|yV h fun _ w h=>yv h fun _ w h=>zn ?_
     exact zt hT h
   refine yG 1<|yp h fun _ h=>zn<|sim_end<|zk<|yC h (fun h=>sim_ret<|sim_block_ret<|sim_then_ret<|sim_then_ret<|sim_block_ret<|body_ret0 rfl h) fun h=>sim_skip<|sim_block_normal<|zk<|zr<|yb h fun _ w h=>zm<|zn<|zk ?_
   exact ⟨rfl,h⟩
 exact sim_exit<|sim_then_exit<|sim_then_exit<|sim_block_hit<|body_normal<|body_ret0 rfl h
def n111 (t0 t1:Value) (R:RT) (w:World):Prop :=
 C0 98 #[t0,t1] R w fun t7 w =>
 B0 .geq 3 true t7 (.int .i64 0) R w fun t8 w =>
 R (.returned t8) w
theorem n111s {t0 t1:Value} {R:RT} {w:World} (h:n111 t0 t1 R w):Calls Pg 70 #[t0,t1] w R:=by
 refine yD Tryz.func70 ?_
 refine zs<|zr<|zm<|zn<|zk<|zs<|zr<|zm<|zm<|yc h c98 fun _ w h=>yb h fun _ w h=>zm<|zn<|zk<|sim_ret ?_
 exact body_ret1 rfl rfl h
def n80 (R:RT) (w:World):Prop :=
 opV Pg (Instr.makeMap 128 none) (panK R) w fun t2 w =>
 opU Pg (Instr.mapUpdate 128 t2 (.int .i64 4) (.func (.func 110) #[] #[])) (panK R) w fun w =>
 opU Pg (Instr.mapUpdate 128 t2 (.int .i64 7) (.func (.func 110) #[] #[])) (panK R) w fun w =>
 opU Pg (Instr.mapUpdate 128 t2 (.int .i64 12) (.func (.func 110) #[] #[])) (panK R) w fun w =>
 opU Pg (Instr.mapUpdate 128 t2 (.int .i64 9) (.func (.func 111) #[] #[])) (panK R) w fun w =>
 opU Pg (Instr.mapUpdate 128 t2 (.int .i64 11) (.func (.func 112) #[] #[])) (panK R) w fun w =>
 R (.returned t2) w
theorem n80s {R:RT} {w:World} (h:n80 R w):Calls Pg 81 #[] w R:=by
 refine yD Tryz.func81 ?_
 refine zs<|zr<|zm<|zn<|zk<|zs<|zr<|zm<|zn<|zk<|zs<|zr<|yv h fun _ w h=>zm<|yu h fun w h=>?_
 exact zm<|yu h fun w h=>zm<|yu h fun w h=>yu h fun w h=>yu h fun w h=>zm<|zm<|zn<|zk<|sim_ret<|body_ret1 rfl rfl h
def n15 (t0 t1:Value) (R:RT) (w:World):Prop :=
 opV Pg (Instr.box 24 t0) (panK R) w fun t2 w =>
 opV Pg (Instr.box 9 t1) (panK R) w fun t3 w =>
 F0 24 t2 1 R w fun t6 w =>
 L0 22 t6 R w fun t7 w =>
 opV Pg (Instr.makeFunc (.func 114) #[] #[t3]) (panK R) w fun t8 w =>
 C0 113 #[t7,t8] R w fun t9 w =>
 opV Pg (Instr.extract t9 0) (panK R) w fun t10 w =>
 opV Pg (Instr.extract t9 1) (panK R) w fun t11 w =>
 R (.returned (.tuple #[t10,t11])) w
theorem n15s {t0 t1:Value} {R:RT} {w:World} (h:n15 t0 t1 R w):Calls Pg 82 #[t0,t1] w R:=by
 refine yD Tryz.func82 ?_
 refine zs<|zr<|yv h fun _ w h=>yv h fun _ w h=>zm<|zm<|zn<|zk<|zs<|zr<|yv h fun _ w h=>yv h fun _ w h=>yF h fun _ w h=>yc h c113 fun _ w h=>yv h fun _ w h=>?_
 exact yv h fun _ w h=>zm<|zm<|zn<|zk<|sim_ret<|body_ret2 rfl rfl rfl h
def n121c1 (t0 t1 t8:Value) (next1:KV) (R:RT) (w:World):Prop :=
 X0 30 t0 t8 R w fun t14 w =>
 L0 3 t14 R w fun t15 w =>
 B0 .eql 3 false t1 t15 R w fun t16 w =>
 condP t16 (
 R (.returned t8) w) (
 B0 .add 3 true t8 (.int .i64 1) R w fun t18 w =>
 next1 t18 w)
def n121 (t0 t1:Value) (R:RT) (w:World):Prop :=
 opV Pg (Builtin.len_ #[30] 3 #[t0]) (panK R) w fun t7 w =>
 loop1 (fun t8 w next1 =>
 B0 .lss 3 false t8 t7 R w fun t9 w =>
 condP t9 (
 n121c1 t0 t1 t8 next1 R w) (
 R (.returned (.int .i64 (-1))) w)) (.int .i64 0) w
theorem n121s {t0 t1:Value} {R:RT} {w:World} (h:n121 t0 t1 R w):Calls Pg 85 #[t0,t1] w R:=by
 refine yD Tryz.func85 ?_
 refine zs<|zr<|zm<|zn<|zk<|zs<|zs<|zr<|zm<|yx h fun _ w h=>zm<|zn<|zk<|sim_block<|yl1 [4,5,8,9,10,11,12,13,14,15,16,17,18] 8 h fun σ w next h=>?_
 refine zs<|zr<|yb h fun _ w h=>zn<|zk<|zs<|yC h (fun h=>?_) fun h=>?_
 · refine sim_skip<|zk<|zs<|sim_block<|zs<|zr<|zm<|zm<|zn<|zk<|zs<|zr<|zm<|zm<|zm ?_
   refine yv h fun _ w h=>yv h fun _ w h=>yb h fun _ w h=>zn<|zk<|yC h (fun h=>zs<|zr<|zm<|zm<|zn<|zk<|sim_ret<|sim_block_ret<|sim_then_ret<|sim_then_ret<|sim_block_ret<|sim_then_ret<|body_ret1 rfl rfl h) fun h=>sim_skip<|sim_block_normal<|zk<|zr<|yb h fun _ w h=>zm<|zn<|zk ?_
   exact ⟨rfl,h⟩
 exact sim_exit<|sim_then_exit<|sim_then_exit<|sim_block_hit<|zk<|zs<|zr<|zm<|zn<|zk<|sim_ret<|body_ret1 rfl rfl h
def n124c1 (t7 t13:Value) (next1:KV) (R:RT) (w:World):Prop :=
 opV Pg (Op.unary .not t13) (panK R) w fun t14 w =>
 condP t14 (
 R (.returned (.tuple #[])) w) (
 B0 .add 3 true t7 (.int .i64 1) R w fun t15 w =>
 next1 t15 w)
def n124c2 (t0 t5 t7:Value) (next1:KV) (R:RT) (w:World):Prop :=
 X0 30 t5 t7 R w fun t9 w =>
 L0 3 t9 R w fun t10 w =>
 callV Pg t0 #[t10] (panK R) w fun t13 w =>
 n124c1 t7 t13 next1 R w
def n124 (t0 t1:Value) (R:RT) (w:World):Prop :=
 L0 30 t1 R w fun t5 w =>
 opV Pg (Builtin.len_ #[30] 3 #[t5]) (panK R) w fun t6 w =>
 loop1 (fun t7 w next1 =>
 B0 .lss 3 false t7 t6 R w fun t8 w =>
 condP t8 (
 n124c2 t0 t5 t7 next1 R w) (
 R (.returned (.tuple #[])) w)) (.int .i64 0) w
theorem n124s {t0 t1:Value} {R:RT} {w:World} (h:n124 t0 t1 R w):Calls Pg 86 #[t0,t1] w R:=by
 refine yD Tryz.func86 ?_
 refine zs<|zr<|yv h fun _ w h=>yx h fun _ w h=>zm<|zn<|zk<|sim_block<|yl1 [4,7,8,9,10,11,12,13,14,15] 7 h fun σ w next h=>zs<|zr<|yb h fun _ w h=>zn<|zk<|zs ?_
 refine yC h (fun h=>?_) fun h=>?_
 · refine sim_skip<|zk<|zs<|sim_block<|zs<|zr<|yv h fun _ w h=>yv h fun _ w h=>zm<|zn<|zk<|zs<|zr<|zm<|zm ?_
   exact yV h fun _ w h=>yv h fun _ w h=>zn<|zk<|yC h (fun h=>sim_ret<|sim_block_ret<|sim_then_ret<|sim_then_ret<|sim_block_ret<|body_ret0 rfl h) fun h=>sim_skip<|sim_block_normal<|zk<|zr<|yb h fun _ w h=>zm<|zn<|zk<|⟨rfl,h⟩
 exact sim_exit<|sim_then_exit<|sim_then_exit<|sim_block_hit<|body_normal<|body_ret0 rfl h
def n85c1 (t4 t9 t17:Value) (next1:KW) (R:RT) (w:World):Prop :=
 joinK (fun (t4:Value) (w:World) =>
 B0 .add 3 true t9 (.int .i64 1) R w fun t22 w =>
 next1 t4 t22 w) fun K2 =>
 condP t17 (
 opV Pg (Instr.buildSlice 30 1 #[(0,t9)]) (panK R) w fun t20 w =>
 opV Pg (Builtin.append_ #[30,30] 30 #[t4,t20]) (panK R) w fun t21 w =>
 K2 t21 w) (
 K2 t4 w)
def n85c2 (t0 t1 t4 t9:Value) (next1:KW) (R:RT) (w:World):Prop :=
 X0 93 t0 t9 R w fun t12 w =>
 L0 4 t12 R w fun t13 w =>
 callV Pg t1 #[t9,t13] (panK R) w fun t17 w =>
 n85c1 t4 t9 t17 next1 R w
def n85 (t0 t1:Value) (R:RT) (w:World):Prop :=
 opV Pg (Builtin.len_ #[93] 3 #[t0]) (panK R) w fun t8 w =>
 loop2 (fun t4 t9 w next1 =>
 B0 .lss 3 false t9 t8 R w fun t10 w =>
 condP t10 (
 n85c2 t0 t1 t4 t9 next1 R w) (
 R (.returned t4) w)) (Value.slice none 0 0) (.int .i64 0) w
theorem n85s {t0 t1:Value} {R:RT} {w:World} (h:n85 t0 t1 R w):Calls Pg 87 #[t0,t1] w R:=by
 refine yD Tryz.func87 ?_
 refine zs<|zr<|zm<|zn<|zk<|zs<|zs<|zr<|zm<|yx h fun _ w h=>zm<|zn<|zk<|sim_block<|yl2 [4,5,6,9,10,11,12,13,14,15,16,17,18,19,20,21,22] 4 9 h fun σ w next h=>?_
 refine zs<|zr<|yb h fun _ w h=>zn<|zk<|zs<|yC h (fun h=>?_) fun h=>?_
 · refine sim_skip<|zk<|zs<|sim_block<|zs<|zr<|zm<|yv h fun _ w h=>yv h fun _ w h=>zm<|zm<|zn<|zk<|zs<|zr ?_
   refine zm<|zm<|zm<|yV h fun _ w h=>zn<|zk<|yJ1 [4,18,19,20,21] 4 h (fun _ _ hkK2 h=>?_) fun σ w h=>?_
   · refine yC h (fun h=>?_) fun h=>?_
     · refine zr<|zm<|zm<|yS h fun _ w h=>yx h fun _ w h=>zm<|zn<|zk ?_
       exact zt hkK2 h
     refine sim_skip<|zk ?_
     exact zt hkK2 h
   exact sim_block_normal<|zk<|zr<|yb h fun _ w h=>zm<|zn<|zk<|⟨rfl,h⟩
 exact sim_exit<|sim_then_exit<|sim_then_exit<|sim_block_hit<|zk<|zs<|zr<|zm<|zm<|zn<|zk<|sim_ret<|body_ret1 rfl rfl h
def n75 (t0 t1 t2:Value) (R:RT) (w:World):Prop :=
 L0 4 t2 R w fun t7 w =>
 B0 .eql 4 false t1 t7 R w fun t8 w =>
 R (.returned t8) w
theorem n75s {t0 t1 t2:Value} {R:RT} {w:World} (h:n75 t0 t1 t2 R w):Calls Pg 88 #[t0,t1,t2] w R:=by
 refine yD Tryz.func88 ?_
 exact zs<|zr<|zm<|zn<|zk<|zs<|zr<|zm<|yv h fun _ w h=>yb h fun _ w h=>zm<|zn<|zk<|sim_ret<|body_ret1 rfl rfl h
def numberB (f:FieldD):Bool:=f.kind == 1||f.kind == 2||f.kind == 3
def highOf (f:FieldD):Int:=if f.kind == 2 then f.low else f.high
abbrev rangeVal (lo hi:Int):Value := .agg #[.int .i64 lo,.int .i64 hi]
theorem Number_ret (w0:World) (v:Value) (f:FieldD) (hf:FieldVal w0 v f):Ret Pg 49 #[v] w0 fun r w'=>r = .bool (numberB f)∧Ext w0 w':=by
 obtain ⟨tv,cv,rfl,hT,hC⟩:=hf
 refine n19s (R:=retR _) ?_;unfold n19
 simp (disch:=try exact DI) only [↓PR,QR,simprocAttr,↓n19c1]
 exact ⟨by first | trivial | rfl,ee⟩
theorem Range_ret (w0:World) (v:Value) (f:FieldD) (hf:FieldVal w0 v f):Ret Pg 236 #[v] w0 fun r w'=>r = .tuple #[if numberB f then rangeVal f.low (highOf f) else rangeVal 0 0,.int .i64 (if numberB f then 0 else 2)]∧Ext w0 w':=by
 obtain ⟨tv,cv,rfl,hT,hC⟩:=hf
 refine n21s (R:=retR _) ?_;unfold n21
 simp (disch:=try exact DI) only [↓PR,QR,simprocAttr,↓n21c1,↓n21c2,↓n21c3,↓n21c4]
 refine zcr (Number_ret _ _ f ⟨tv,cv,rfl,TermsOf.ext hT ee,CasesOf.ext hC ee⟩) fun w1 e1=>?_
 have s1:=e1.size
 try simp only [World.size_alloc,World.size_setCell,World.size_drew,World.putObj_size,Sw.putW_size] at s1
 cases hn:numberB f with
 | false =>
  simp (disch:=try exact DI) only [↓PR,QR,simprocAttr,↓n21c1,↓n21c2,↓n21c3,↓n21c4,e1.cellQ,e1.frozenQ]
  exact ⟨by first | trivial | rfl,ee⟩
 | true =>
  simp (disch:=try exact DI) only [↓PR,QR,simprocAttr,↓n21c1,↓n21c2,↓n21c3,↓n21c4,e1.cellQ,e1.frozenQ]
  unfold highOf
  cases f.kind == 2
  · simp (disch:=try exact DI) only [↓PR,QR,simprocAttr,↓n21c1,↓n21c2,↓n21c3,↓n21c4,e1.cellQ,e1.frozenQ]
    exact ⟨by first | trivial | rfl,ee⟩
  · simp (disch:=try exact DI) only [↓PR,QR,simprocAttr,↓n21c1,↓n21c2,↓n21c3,↓n21c4,e1.cellQ,e1.frozenQ]
    exact ⟨by first | trivial | rfl,ee⟩
theorem found_Message_ret (w0:World) (v:Value) (l:List MsgD) (g:FuncId) (caps:Array Value) (p:MsgD→Bool) (hs:MsgsOf w0 v l) (hg:Callable Pg g) (hc:Tests w0 MsgVal g caps p l) :
 Ret Pg 67 #[v,.func (.func g) #[] caps] w0 fun r w'=>r = .tuple #[.int .i64 (if idx p l < 0 then 0 else idx p l),.bool (l.any p)]∧Ext w0 w':=by
 refine n38s (R:=retR _) ?_;unfold n38
 refine zcr (IndexFunc_Message_ret _ _ l g caps p hs hg hc) fun w1 e1=>?_
 have s1:=e1.size
 try simp only [World.size_alloc,World.size_setCell,World.size_drew,World.putObj_size,Sw.putW_size] at s1
 simp (disch:=try exact DI) only [↓PR,QR,simprocAttr,↓n38c1]
 exact ⟨by rw [idx_neg],e1⟩
theorem found_Field_ret (w0:World) (v:Value) (l:List FieldD) (g:FuncId) (caps:Array Value) (p:FieldD→Bool) (hs:FieldsOf w0 v l) (hg:Callable Pg g) (hc:Tests w0 FieldVal g caps p l) :
 Ret Pg 113 #[v,.func (.func g) #[] caps] w0 fun r w'=>r = .tuple #[.int .i64 (if idx p l < 0 then 0 else idx p l),.bool (l.any p)]∧Ext w0 w':=by
 refine n37s (R:=retR _) ?_;unfold n37
 refine zcr (IndexFunc_Field_ret _ _ l g caps p hs hg hc) fun w1 e1=>?_
 have s1:=e1.size
 try simp only [World.size_alloc,World.size_setCell,World.size_drew,World.putObj_size,Sw.putW_size] at s1
 simp (disch:=try exact DI) only [↓PR,QR,simprocAttr,↓n37c1]
 exact ⟨by rw [idx_neg],e1⟩
def idx0 {α:Type} (p:α→Bool) (l:List α):Int:=if idx p l < 0 then 0 else idx p l
theorem FieldS1_ret (w0:World) (v:Value) (f:FieldD) (pb:Nat) (s:ByteArray) (hf:FieldVal w0 v f) (hp:w0.cell? ⟨pb,0,none⟩=some (.string s)):Ret Pg 114 #[v,.pointer (some ⟨pb,0,none⟩)] w0 fun r w'=>r = .bool (decide (f.name=s))∧Ext w0 w':=by
 obtain ⟨tv,cv,rfl,hT,hC⟩:=hf
 have hb:=World.block_lt_of_cell? w0 _ hp
 simp only at hb
 refine n16s (R:=retR _) ?_;unfold n16
 simp (disch:=try exact DI) only [↓PR,QR,simprocAttr,Sw.joinK_eq,hp]
 exact ⟨by first | trivial | rfl,ee⟩
theorem FindS1_ret (w0:World) (v:Value) (m:MsgD) (pb:Nat) (s:ByteArray) (hf:MsgVal w0 v m) (hp:w0.cell? ⟨pb,0,none⟩=some (.string s)):Ret Pg 68 #[v,.pointer (some ⟨pb,0,none⟩)] w0 fun r w'=>r = .bool (decide (m.name=s))∧Ext w0 w':=by
 obtain ⟨fv,rfl,hF⟩:=hf
 have hb:=World.block_lt_of_cell? w0 _ hp
 simp only at hb
 refine n18s (R:=retR _) ?_;unfold n18
 simp (disch:=try exact DI) only [↓PR,QR,simprocAttr,Sw.joinK_eq,hp]
 exact ⟨by first | trivial | rfl,ee⟩
theorem Field_ret (w0:World) (v:Value) (m:MsgD) (s:ByteArray) (hm:MsgVal w0 v m):Ret Pg 82 #[v,.string s] w0 fun r w'=>r = .tuple #[.int .i64 (idx0 (fun f=>decide (f.name=s)) m.fields),.bool (m.fields.any fun f=>decide (f.name=s))]∧Ext w0 w':=by
 obtain ⟨fv,rfl,hF⟩:=hm
 refine n15s (R:=retR _) ?_;unfold n15
 simp (disch:=try exact DI) only [↓PR,QR,simprocAttr,Sw.joinK_eq]
 refine callK_ret (found_Field_ret _ _ m.fields _ _ (fun f=>decide (f.name=s)) (hF.ext ee) c114 ?_) ?_
 · intro w v f hf e hv
   exact FieldS1_ret w v f _ s hv (e.cell (by simp (disch:=try exact DI) only [↓PR,QR,simprocAttr]))
 rintro _ w1 ⟨rfl,e1⟩
 simp (disch:=try exact DI) only [↓PR,QR,simprocAttr,Sw.joinK_eq]
 exact ⟨by first | trivial | rfl,ee⟩
theorem Find_ret (w0:World) (v:Value) (d:DefD) (s:ByteArray) (hd:DefVal w0 v d):Ret Pg 31 #[v,.string s] w0 fun r w'=>r = .tuple #[.int .i64 (idx0 (fun m=>decide (m.name=s)) d.msgs),.bool (d.msgs.any fun m=>decide (m.name=s))]∧Ext w0 w':=by
 obtain ⟨fv,rfl,hF⟩:=hd
 refine n17s (R:=retR _) ?_;unfold n17
 simp (disch:=try exact DI) only [↓PR,QR,simprocAttr,Sw.joinK_eq]
 refine callK_ret (found_Message_ret _ _ d.msgs _ _ (fun m=>decide (m.name=s)) (hF.ext ee) c68 ?_) ?_
 · intro w v f hf e hv
   exact FindS1_ret w v f _ s hv (e.cell (by simp (disch:=try exact DI) only [↓PR,QR,simprocAttr]))
 rintro _ w1 ⟨rfl,e1⟩
 simp (disch:=try exact DI) only [↓PR,QR,simprocAttr,Sw.joinK_eq]
 exact ⟨by first | trivial | rfl,ee⟩
def n104 (t0:Value) (R:RT) (w:World):Prop :=
 opV Pg (binS .eql 26 true t0 (Value.slice none 0 0)) (panK R) w fun t4 w =>
 condP t4 (
 R (.returned (Value.slice none 0 0)) w) (
 opV Pg (Instr.buildSlice 26 0 #[]) (panK R) w fun t5 w =>
 opV Pg (Builtin.append_ #[26,26] 26 #[t5,t0]) (panK R) w fun t7 w =>
 R (.returned t7) w)
theorem n104s {t0:Value} {R:RT} {w:World} (h:n104 t0 R w):Calls Pg 58 #[t0] w R:=by
 refine yD Tryz.func58 ?_
 refine zs<|zr<|zm<|zn<|zk<|zs<|zs<|zr<|zm<|yb h fun _ w h=>zn<|zk<|yC h (fun h=>zs<|zr<|zm<|zn<|zk<|sim_ret<|sim_then_ret<|body_ret1 rfl rfl h) fun h=>sim_skip ?_
 exact zk<|zs<|zr<|yS h fun _ w h=>zm<|yx h fun _ w h=>zm<|zn<|zk<|sim_ret<|body_ret1 rfl rfl h
def n103 (t0:Value) (R:RT) (w:World):Prop :=
 opV Pg (binS .eql 22 true t0 (Value.slice none 0 0)) (panK R) w fun t4 w =>
 condP t4 (
 R (.returned (Value.slice none 0 0)) w) (
 opV Pg (Instr.buildSlice 22 0 #[]) (panK R) w fun t5 w =>
 opV Pg (Builtin.append_ #[22,22] 22 #[t5,t0]) (panK R) w fun t7 w =>
 R (.returned t7) w)
theorem n103s {t0:Value} {R:RT} {w:World} (h:n103 t0 R w):Calls Pg 59 #[t0] w R:=by
 refine yD Tryz.func59 ?_
 refine zs<|zr<|zm<|zn<|zk<|zs<|zs<|zr<|zm<|yb h fun _ w h=>zn<|zk<|yC h (fun h=>zs<|zr<|zm<|zn<|zk<|sim_ret<|sim_then_ret<|body_ret1 rfl rfl h) fun h=>sim_skip ?_
 exact zk<|zs<|zr<|yS h fun _ w h=>zm<|yx h fun _ w h=>zm<|zn<|zk<|sim_ret<|body_ret1 rfl rfl h
def n105 (t0:Value) (R:RT) (w:World):Prop :=
 opV Pg (binS .eql 43 true t0 (Value.slice none 0 0)) (panK R) w fun t4 w =>
 condP t4 (
 R (.returned (Value.slice none 0 0)) w) (
 opV Pg (Instr.buildSlice 43 0 #[]) (panK R) w fun t5 w =>
 opV Pg (Builtin.append_ #[43,43] 43 #[t5,t0]) (panK R) w fun t7 w =>
 R (.returned t7) w)
theorem n105s {t0:Value} {R:RT} {w:World} (h:n105 t0 R w):Calls Pg 60 #[t0] w R:=by
 refine yD Tryz.func60 ?_
 refine zs<|zr<|zm<|zn<|zk<|zs<|zs<|zr<|zm<|yb h fun _ w h=>zn<|zk<|yC h (fun h=>zs<|zr<|zm<|zn<|zk<|sim_ret<|sim_then_ret<|body_ret1 rfl rfl h) fun h=>sim_skip ?_
 exact zk<|zs<|zr<|yS h fun _ w h=>zm<|yx h fun _ w h=>zm<|zn<|zk<|sim_ret<|body_ret1 rfl rfl h
def n102 (t0:Value) (R:RT) (w:World):Prop :=
 opV Pg (binS .eql 46 true t0 (Value.slice none 0 0)) (panK R) w fun t4 w =>
 condP t4 (
 R (.returned (Value.slice none 0 0)) w) (
 opV Pg (Instr.buildSlice 46 0 #[]) (panK R) w fun t5 w =>
 opV Pg (Builtin.append_ #[46,46] 46 #[t5,t0]) (panK R) w fun t7 w =>
 R (.returned t7) w)
theorem n102s {t0:Value} {R:RT} {w:World} (h:n102 t0 R w):Calls Pg 61 #[t0] w R:=by
 refine yD Tryz.func61 ?_
 refine zs<|zr<|zm<|zn<|zk<|zs<|zs<|zr<|zm<|yb h fun _ w h=>zn<|zk<|yC h (fun h=>zs<|zr<|zm<|zn<|zk<|sim_ret<|sim_then_ret<|body_ret1 rfl rfl h) fun h=>sim_skip ?_
 exact zk<|zs<|zr<|yS h fun _ w h=>zm<|yx h fun _ w h=>zm<|zn<|zk<|sim_ret<|body_ret1 rfl rfl h
def n11c1 (t2 t9:Value) (R:RT) (w:World):Prop :=
 opV Pg (Instr.extract t9 0) (panK R) w fun t10 w =>
 opV Pg (Instr.extract t9 1) (panK R) w fun t11 w =>
 opV Pg (Instr.extract t9 2) (panK R) w fun t12 w =>
 opV Pg (Instr.alloc 90 true (.tuple #[])) (panK R) w fun t5 w =>
 opU Pg (Instr.storeAt 90 t5 t11) (panK R) w fun w =>
 L0 90 t5 R w fun t13 w =>
 opU Pg (Instr.storeAt 90 t2 t13) (panK R) w fun w =>
 qW Pg 90 t2 w fun r0 =>
 R (.returned (.tuple #[r0,t12])) w
def n11 (t0:Value) (R:RT) (w:World):Prop :=
 opV Pg (Instr.box 28 t0) (panK R) w fun t1 w =>
 opV Pg (Instr.alloc 90 true (.tuple #[])) (panK R) w fun t2 w =>
 L0 28 t1 R w fun t8 w =>
 C0 93 #[t8] R w fun t9 w =>
 n11c1 t2 t9 R w
theorem n11s {t0:Value} {R:RT} {w:World} (h:n11 t0 R w):Calls Pg 62 #[t0] w R:=by
 refine yD Tryz.func62 ?_
 refine zs<|zr<|yv h fun _ w h=>yv h fun _ w h=>zm<|zn<|zk<|zs<|zr<|yv h fun _ w h=>yc h c93 fun _ w h=>zm<|yv h fun _ w h=>yv h fun _ w h=>yv h fun _ w h=>?_
 refine yv h fun _ w h=>zm<|yu h fun w h=>zm<|zn<|zk<|zs<|zr<|yv h fun _ w h=>zm<|yu h fun w h=>zm<|zn<|zk<|sim_ret ?_
 exact body_retCT rfl rfl rfl h
def n113c1 (t17 t29:Value) (next1:KV) (R:RT) (w:World):Prop :=
 opV Pg (Op.unary .not t29) (panK R) w fun t30 w =>
 condP t30 (
 R (.returned (.bool false)) w) (
 B0 .add 3 true t17 (.int .i64 1) R w fun t31 w =>
 next1 t31 w)
def n113c2 (t0 t1 t2 t17:Value) (next1:KV) (R:RT) (w:World):Prop :=
 X0 26 t0 t17 R w fun t20 w =>
 L0 24 t20 R w fun t21 w =>
 opV Pg (Instr.alloc 24 true (.tuple #[])) (panK R) w fun t8 w =>
 opU Pg (Instr.storeAt 24 t8 t21) (panK R) w fun w =>
 X0 26 t1 t17 R w fun t24 w =>
 L0 24 t24 R w fun t25 w =>
 opV Pg (Instr.alloc 24 true (.tuple #[])) (panK R) w fun t9 w =>
 opU Pg (Instr.storeAt 24 t9 t25) (panK R) w fun w =>
 L0 24 t8 R w fun t27 w =>
 L0 24 t9 R w fun t28 w =>
 callV Pg t2 #[t27,t28] (panK R) w fun t29 w =>
 n113c1 t17 t29 next1 R w
def n113c3 (t0 t1 t2:Value) (R:RT) (w:World):Prop :=
 opV Pg (Builtin.len_ #[26] 3 #[t0]) (panK R) w fun t16 w =>
 loop1 (fun t17 w next1 =>
 B0 .lss 3 false t17 t16 R w fun t18 w =>
 condP t18 (
 n113c2 t0 t1 t2 t17 next1 R w) (
 R (.returned (.bool true)) w)) (.int .i64 0) w
def n113 (t0 t1 t2:Value) (R:RT) (w:World):Prop :=
 opV Pg (Builtin.len_ #[26] 3 #[t0]) (panK R) w fun t11 w =>
 opV Pg (Builtin.len_ #[26] 3 #[t1]) (panK R) w fun t13 w =>
 B0 .neq 3 false t11 t13 R w fun t14 w =>
 condP t14 (
 R (.returned (.bool false)) w) (
 n113c3 t0 t1 t2 R w)
theorem n113s {t0 t1 t2:Value} {R:RT} {w:World} (h:n113 t0 t1 t2 R w):Calls Pg 63 #[t0,t1,t2] w R:=by
 refine yD Tryz.func63 ?_
 refine zs<|zr<|zm<|zn<|zk<|zs<|zs<|zr<|zm<|yx h fun _ w h=>zm<|yx h fun _ w h=>yb h fun _ w h=>zn<|zk ?_
 refine yC h (fun h=>zs<|zr<|zm<|zn<|zk<|sim_ret<|sim_then_ret<|body_ret1 rfl rfl h) fun h=>sim_skip<|zk<|zs<|zs<|zr<|zm<|yx h fun _ w h=>zm<|zn<|zk<|sim_block<|yl1 [6,7,8,9,17,18,19,20,21,22,23,24,25,26,27,28,29,30,31] 17 h fun σ w next h=>zs ?_
 refine zr<|yb h fun _ w h=>zn<|zk<|zs<|yC h (fun h=>?_) fun h=>?_
 · refine sim_skip<|zk<|zs<|sim_block<|zs<|zr<|zm<|yv h fun _ w h=>yv h fun _ w h=>yv h fun _ w h=>zm<|yu h fun w h=>zn<|zk<|zs ?_
   refine zr<|zm<|zm<|yv h fun _ w h=>yv h fun _ w h=>yv h fun _ w h=>yu h fun w h=>zn<|zk<|zs<|zr<|zm<|yv h fun _ w h=>yv h fun _ w h=>yV h fun _ w h=>?_
   exact yv h fun _ w h=>zn<|zk<|yC h (fun h=>zs<|zr<|zm<|zn<|zk<|sim_ret<|sim_block_ret<|sim_then_ret<|sim_then_ret<|sim_block_ret<|sim_then_ret<|body_ret1 rfl rfl h) fun h=>sim_skip<|sim_block_normal<|zk<|zr<|yb h fun _ w h=>zm<|zn<|zk<|⟨rfl,h⟩
 exact sim_exit<|sim_then_exit<|sim_then_exit<|sim_block_hit<|zk<|zs<|zr<|zm<|zn<|zk<|sim_ret<|body_ret1 rfl rfl h
def n14 (t0 t1:Value) (R:RT) (w:World):Prop :=
 opV Pg (Instr.box 24 t0) (panK R) w fun t2 w =>
 opV Pg (Instr.box 24 t1) (panK R) w fun t3 w =>
 F0 24 t2 0 R w fun t5 w =>
 L0 9 t5 R w fun t6 w =>
 F0 24 t3 0 R w fun t7 w =>
 L0 9 t7 R w fun t8 w =>
 B0 .eql 9 false t6 t8 R w fun t9 w =>
 joinK (fun (t15:Value) (w:World) =>
 pickK t9 t15 (.bool false) fun t16 =>
 R (.returned t16) w) fun K1 =>
 guardP t9 true (
 F0 24 t2 1 R w fun t11 w =>
 L0 22 t11 R w fun t12 w =>
 F0 24 t3 1 R w fun t13 w =>
 L0 22 t13 R w fun t14 w =>
 callK Pg 65 #[t12,t14,(.func (.func 66) #[] #[])] (panK R) w fun t15 w =>
 K1 t15 w) (
 K1 undef w)
theorem n14s {t0 t1:Value} {R:RT} {w:World} (h:n14 t0 t1 R w):Calls Pg 64 #[t0,t1] w R:=by
 refine yD Tryz.func64 ?_
 refine zs<|zr<|yv h fun _ w h=>yv h fun _ w h=>zm<|zn<|zk<|zs<|sim_regionG<|yG 6<|yv h fun _ w h=>yv h fun _ w h=>yv h fun _ w h=>yv h fun _ w h=>yb h fun _ w h=>?_
 refine zm<|zn<|yg1 5 5 true [11,12,13,14,15] 15 h (fun _ T hT h=>?_) fun σ w h=>?_
 · refine yv h fun _ w h=>yv h fun _ w h=>yv h fun _ w h=>yv h fun _ w h=>yc h c65 fun _ w h=>zn ?_
   exact zt hT h
 exact yG 2<|yp h fun _ h=>zm<|zn<|sim_end<|zk<|sim_ret<|body_ret1 rfl rfl h
def n112c1 (t17 t29:Value) (next1:KV) (R:RT) (w:World):Prop :=
 opV Pg (Op.unary .not t29) (panK R) w fun t30 w =>
 condP t30 (
 R (.returned (.bool false)) w) (
 B0 .add 3 true t17 (.int .i64 1) R w fun t31 w =>
 next1 t31 w)
def n112c2 (t0 t1 t2 t17:Value) (next1:KV) (R:RT) (w:World):Prop :=
 X0 22 t0 t17 R w fun t20 w =>
 L0 48 t20 R w fun t21 w =>
 opV Pg (Instr.alloc 48 true (.tuple #[])) (panK R) w fun t8 w =>
 opU Pg (Instr.storeAt 48 t8 t21) (panK R) w fun w =>
 X0 22 t1 t17 R w fun t24 w =>
 L0 48 t24 R w fun t25 w =>
 opV Pg (Instr.alloc 48 true (.tuple #[])) (panK R) w fun t9 w =>
 opU Pg (Instr.storeAt 48 t9 t25) (panK R) w fun w =>
 L0 48 t8 R w fun t27 w =>
 L0 48 t9 R w fun t28 w =>
 callV Pg t2 #[t27,t28] (panK R) w fun t29 w =>
 n112c1 t17 t29 next1 R w
def n112c3 (t0 t1 t2:Value) (R:RT) (w:World):Prop :=
 opV Pg (Builtin.len_ #[22] 3 #[t0]) (panK R) w fun t16 w =>
 loop1 (fun t17 w next1 =>
 B0 .lss 3 false t17 t16 R w fun t18 w =>
 condP t18 (
 n112c2 t0 t1 t2 t17 next1 R w) (
 R (.returned (.bool true)) w)) (.int .i64 0) w
def n112 (t0 t1 t2:Value) (R:RT) (w:World):Prop :=
 opV Pg (Builtin.len_ #[22] 3 #[t0]) (panK R) w fun t11 w =>
 opV Pg (Builtin.len_ #[22] 3 #[t1]) (panK R) w fun t13 w =>
 B0 .neq 3 false t11 t13 R w fun t14 w =>
 condP t14 (
 R (.returned (.bool false)) w) (
 n112c3 t0 t1 t2 R w)
theorem n112s {t0 t1 t2:Value} {R:RT} {w:World} (h:n112 t0 t1 t2 R w):Calls Pg 65 #[t0,t1,t2] w R:=by
 refine yD Tryz.func65 ?_
 refine zs<|zr<|zm<|zn<|zk<|zs<|zs<|zr<|zm<|yx h fun _ w h=>zm<|yx h fun _ w h=>yb h fun _ w h=>zn<|zk ?_
 refine yC h (fun h=>zs<|zr<|zm<|zn<|zk<|sim_ret<|sim_then_ret<|body_ret1 rfl rfl h) fun h=>sim_skip<|zk<|zs<|zs<|zr<|zm<|yx h fun _ w h=>zm<|zn<|zk<|sim_block<|yl1 [6,7,8,9,17,18,19,20,21,22,23,24,25,26,27,28,29,30,31] 17 h fun σ w next h=>zs ?_
 refine zr<|yb h fun _ w h=>zn<|zk<|zs<|yC h (fun h=>?_) fun h=>?_
 · refine sim_skip<|zk<|zs<|sim_block<|zs<|zr<|zm<|yv h fun _ w h=>yv h fun _ w h=>yv h fun _ w h=>zm<|yu h fun w h=>zn<|zk<|zs ?_
   refine zr<|zm<|zm<|yv h fun _ w h=>yv h fun _ w h=>yv h fun _ w h=>yu h fun w h=>zn<|zk<|zs<|zr<|zm<|yv h fun _ w h=>yv h fun _ w h=>yV h fun _ w h=>?_
   exact yv h fun _ w h=>zn<|zk<|yC h (fun h=>zs<|zr<|zm<|zn<|zk<|sim_ret<|sim_block_ret<|sim_then_ret<|sim_then_ret<|sim_block_ret<|sim_then_ret<|body_ret1 rfl rfl h) fun h=>sim_skip<|sim_block_normal<|zk<|zr<|yb h fun _ w h=>zm<|zn<|zk<|⟨rfl,h⟩
 exact sim_exit<|sim_then_exit<|sim_then_exit<|sim_block_hit<|zk<|zs<|zr<|zm<|zn<|zk<|sim_ret<|body_ret1 rfl rfl h
open Go.RowKit (intOf Below)
theorem Clone_Term_ret (w0:World) (v:Value) (css:List (Cs 2)) (hs:SliceOf w0 2 (fun _ cs x=>cs=x.1) v css) (h1:∀ x∈css,∀ u∈x.1,u.oneCell'=true) (hb:css.length≤1048576) :
 Ret Pg 60 #[v] w0 fun r w'=>OwnE w' w0.heap.size 62 2 Subtype.val r css∧Ext w0 w':=by
 obtain ⟨A,c,rfl,hlc,hcm,hlm,hel⟩:=SliceOf.open hs
 refine n105s (R:=retR _) ?_;unfold n105
 simp (disch:=try exact DI) only [↓PR,QR,simprocAttr]
 cases A with
 | none =>
  have:css=[]:=by
   cases css with
   | nil=>rfl
   | cons x l=>obtain ⟨_,_,_,h,_⟩:=hel 0 x rfl;cases h
  subst this
  simp only [Option.isNone_none]
  simp (disch:=try exact DI) only [↓PR,QR,simprocAttr]
  exact ⟨OwnE.nil _ _ _ _ _,ee⟩
 | some a =>
  simp only [Option.isNone_some]
  simp (disch:=try exact DI) only [↓PR,QR,simprocAttr]
  have hO:=OwnE.new w0 62 2 (Subtype.val:Cs 2→List Value) [] (fun x=>x.2) (by simp)
  simp only [List.flatMap_nil,List.length_nil] at hO
  have eW:Ext w0 (w0.alloc (.cells #[] 62)):=ee
  have hsz:w0.heap.size≤(w0.alloc (.cells #[] 62)).heap.size:=eW.size
  generalize w0.alloc (.cells #[] 62)=W at hO eW hsz ⊢
  cases hcs:css with
  | nil =>
   subst hcs
   simp only [List.length_nil]
   rw [op_append0 Tryz.underlying43 ty62 _ _ _ _ _ (Nat.le_refl 0)]
   simp (disch:=try exact DI) only [↓PR,QR,simprocAttr]
   exact ⟨hO,eW⟩
  | cons x0 l0 =>
   obtain ⟨b,o,_,hA,_⟩:=hel 0 x0 (by rw [hcs];rfl)
   injection hA with hA
   subst hA
   rw [← hcs]
   refine op_appendE Tryz.underlying43 ty62 rfl (by decide) (fun x=>x.2) h1 hO (fun j x hx=>?_) hsz ?_ (by simp;omega) ?_
   · obtain ⟨b',o',cs,hA',hl',hE,rfl⟩:=hel j x hx
     injection hA' with hA'
     injection hA' with h3 h4
     subst h3 h4
     exact hE.ext eW
   · have:=by62
     rw [List.length_nil,Nat.zero_add]
     exact Nat.le_trans (Nat.mul_le_mul hb this) (by decide)
   · intro v' w' ho hg
     simp (disch:=try exact DI) only [↓PR,QR,simprocAttr]
     refine ⟨ho,eW.grown hg ?_⟩
     intro k hk
     have h:=hO.lt k hk
     exact h.1
theorem Clone_Case_ret (w0:World) (v:Value) (css:List (Cs 3)) (hs:SliceOf w0 3 (fun _ cs x=>cs=x.1) v css) (h1:∀ x∈css,∀ u∈x.1,u.oneCell'=true) (hb:css.length≤1048576) :
 Ret Pg 61 #[v] w0 fun r w'=>OwnE w' w0.heap.size 60 3 Subtype.val r css∧Ext w0 w':=by
 obtain ⟨A,c,rfl,hlc,hcm,hlm,hel⟩:=SliceOf.open hs
 refine n102s (R:=retR _) ?_;unfold n102
 simp (disch:=try exact DI) only [↓PR,QR,simprocAttr]
 cases A with
 | none =>
  have:css=[]:=by
   cases css with
   | nil=>rfl
   | cons x l=>obtain ⟨_,_,_,h,_⟩:=hel 0 x rfl;cases h
  subst this
  simp only [Option.isNone_none]
  simp (disch:=try exact DI) only [↓PR,QR,simprocAttr]
  exact ⟨OwnE.nil _ _ _ _ _,ee⟩
 | some a =>
  simp only [Option.isNone_some]
  simp (disch:=try exact DI) only [↓PR,QR,simprocAttr]
  have hO:=OwnE.new w0 60 3 (Subtype.val:Cs 3→List Value) [] (fun x=>x.2) (by simp)
  simp only [List.flatMap_nil,List.length_nil] at hO
  have eW:Ext w0 (w0.alloc (.cells #[] 60)):=ee
  have hsz:w0.heap.size≤(w0.alloc (.cells #[] 60)).heap.size:=eW.size
  generalize w0.alloc (.cells #[] 60)=W at hO eW hsz ⊢
  cases hcs:css with
  | nil =>
   subst hcs
   simp only [List.length_nil]
   rw [op_append0 Tryz.underlying46 ty60 _ _ _ _ _ (Nat.le_refl 0)]
   simp (disch:=try exact DI) only [↓PR,QR,simprocAttr]
   exact ⟨hO,eW⟩
  | cons x0 l0 =>
   obtain ⟨b,o,_,hA,_⟩:=hel 0 x0 (by rw [hcs];rfl)
   injection hA with hA
   subst hA
   rw [← hcs]
   refine op_appendE Tryz.underlying46 ty60 rfl (by decide) (fun x=>x.2) h1 hO (fun j x hx=>?_) hsz ?_ (by simp;omega) ?_
   · obtain ⟨b',o',cs,hA',hl',hE,rfl⟩:=hel j x hx
     injection hA' with hA'
     injection hA' with h3 h4
     subst h3 h4
     exact hE.ext eW
   · have:=by60
     rw [List.length_nil,Nat.zero_add]
     exact Nat.le_trans (Nat.mul_le_mul hb this) (by decide)
   · intro v' w' ho hg
     simp (disch:=try exact DI) only [↓PR,QR,simprocAttr]
     refine ⟨ho,eW.grown hg ?_⟩
     intro k hk
     have h:=hO.lt k hk
     exact h.1
theorem Clone_Field_ret (w0:World) (v:Value) (css:List (Cs 15)) (hs:SliceOf w0 15 (fun _ cs x=>cs=x.1) v css) (h1:∀ x∈css,∀ u∈x.1,u.oneCell'=true) (hb:css.length≤1048576) :
 Ret Pg 59 #[v] w0 fun r w'=>OwnE w' w0.heap.size 48 15 Subtype.val r css∧Ext w0 w':=by
 obtain ⟨A,c,rfl,hlc,hcm,hlm,hel⟩:=SliceOf.open hs
 refine n103s (R:=retR _) ?_;unfold n103
 simp (disch:=try exact DI) only [↓PR,QR,simprocAttr]
 cases A with
 | none =>
  have:css=[]:=by
   cases css with
   | nil=>rfl
   | cons x l=>obtain ⟨_,_,_,h,_⟩:=hel 0 x rfl;cases h
  subst this
  simp only [Option.isNone_none]
  simp (disch:=try exact DI) only [↓PR,QR,simprocAttr]
  exact ⟨OwnE.nil _ _ _ _ _,ee⟩
 | some a =>
  simp only [Option.isNone_some]
  simp (disch:=try exact DI) only [↓PR,QR,simprocAttr]
  have hO:=OwnE.new w0 48 15 (Subtype.val:Cs 15→List Value) [] (fun x=>x.2) (by simp)
  simp only [List.flatMap_nil,List.length_nil] at hO
  have eW:Ext w0 (w0.alloc (.cells #[] 48)):=ee
  have hsz:w0.heap.size≤(w0.alloc (.cells #[] 48)).heap.size:=eW.size
  generalize w0.alloc (.cells #[] 48)=W at hO eW hsz ⊢
  cases hcs:css with
  | nil =>
   subst hcs
   simp only [List.length_nil]
   rw [op_append0 Tryz.underlying22 ty48 _ _ _ _ _ (Nat.le_refl 0)]
   simp (disch:=try exact DI) only [↓PR,QR,simprocAttr]
   exact ⟨hO,eW⟩
  | cons x0 l0 =>
   obtain ⟨b,o,_,hA,_⟩:=hel 0 x0 (by rw [hcs];rfl)
   injection hA with hA
   subst hA
   rw [← hcs]
   refine op_appendE Tryz.underlying22 ty48 rfl (by decide) (fun x=>x.2) h1 hO (fun j x hx=>?_) hsz ?_ (by simp;omega) ?_
   · obtain ⟨b',o',cs,hA',hl',hE,rfl⟩:=hel j x hx
     injection hA' with hA'
     injection hA' with h3 h4
     subst h3 h4
     exact hE.ext eW
   · have:=by48
     rw [List.length_nil,Nat.zero_add]
     exact Nat.le_trans (Nat.mul_le_mul hb this) (by decide)
   · intro v' w' ho hg
     simp (disch:=try exact DI) only [↓PR,QR,simprocAttr]
     refine ⟨ho,eW.grown hg ?_⟩
     intro k hk
     have h:=hO.lt k hk
     exact h.1
theorem Clone_Message_ret (w0:World) (v:Value) (css:List (Cs 2)) (hs:SliceOf w0 2 (fun _ cs x=>cs=x.1) v css) (h1:∀ x∈css,∀ u∈x.1,u.oneCell'=true) (hb:css.length≤1048576) :
 Ret Pg 58 #[v] w0 fun r w'=>OwnE w' w0.heap.size 24 2 Subtype.val r css∧Ext w0 w':=by
 obtain ⟨A,c,rfl,hlc,hcm,hlm,hel⟩:=SliceOf.open hs
 refine n104s (R:=retR _) ?_;unfold n104
 simp (disch:=try exact DI) only [↓PR,QR,simprocAttr]
 cases A with
 | none =>
  have:css=[]:=by
   cases css with
   | nil=>rfl
   | cons x l=>obtain ⟨_,_,_,h,_⟩:=hel 0 x rfl;cases h
  subst this
  simp only [Option.isNone_none]
  simp (disch:=try exact DI) only [↓PR,QR,simprocAttr]
  exact ⟨OwnE.nil _ _ _ _ _,ee⟩
 | some a =>
  simp only [Option.isNone_some]
  simp (disch:=try exact DI) only [↓PR,QR,simprocAttr]
  have hO:=OwnE.new w0 24 2 (Subtype.val:Cs 2→List Value) [] (fun x=>x.2) (by simp)
  simp only [List.flatMap_nil,List.length_nil] at hO
  have eW:Ext w0 (w0.alloc (.cells #[] 24)):=ee
  have hsz:w0.heap.size≤(w0.alloc (.cells #[] 24)).heap.size:=eW.size
  generalize w0.alloc (.cells #[] 24)=W at hO eW hsz ⊢
  cases hcs:css with
  | nil =>
   subst hcs
   simp only [List.length_nil]
   rw [op_append0 Tryz.underlying26 ty24 _ _ _ _ _ (Nat.le_refl 0)]
   simp (disch:=try exact DI) only [↓PR,QR,simprocAttr]
   exact ⟨hO,eW⟩
  | cons x0 l0 =>
   obtain ⟨b,o,_,hA,_⟩:=hel 0 x0 (by rw [hcs];rfl)
   injection hA with hA
   subst hA
   rw [← hcs]
   refine op_appendE Tryz.underlying26 ty24 rfl (by decide) (fun x=>x.2) h1 hO (fun j x hx=>?_) hsz ?_ (by simp;omega) ?_
   · obtain ⟨b',o',cs,hA',hl',hE,rfl⟩:=hel j x hx
     injection hA' with hA'
     injection hA' with h3 h4
     subst h3 h4
     exact hE.ext eW
   · have:=by24
     rw [List.length_nil,Nat.zero_add]
     exact Nat.le_trans (Nat.mul_le_mul hb this) (by decide)
   · intro v' w' ho hg
     simp (disch:=try exact DI) only [↓PR,QR,simprocAttr]
     refine ⟨ho,eW.grown hg ?_⟩
     intro k hk
     have h:=hO.lt k hk
     exact h.1
abbrev TT:TypeId:=62
abbrev TC:TypeId:=60
abbrev TF:TypeId:=48
abbrev TM:TypeId:=24
def EFieldN (w:World) (lo hi:Nat) (cs:List Value) (f:FieldD):Prop:=∃ tv cv,cs=fieldCells f tv cv∧OwnR w lo hi TT 2 (fun t:TermD=>termCells t) tv f.terms∧OwnR w lo hi TC 3 (fun c:CaseD=>caseCells c) cv f.cases
def FieldsN (w:World) (lo hi:Nat) (v:Value) (l:List FieldD):Prop:=∃ css:List (Cs 15),OwnR w lo hi TF 15 Subtype.val v css∧Mates 15 (EFieldN w lo hi) css l
def EMsgN (w:World) (lo hi:Nat) (cs:List Value) (m:MsgD):Prop:=∃ fv,cs=msgCells m fv∧FieldsN w lo hi fv m.fields
def MsgsN (w:World) (lo hi:Nat) (v:Value) (l:List MsgD):Prop:=∃ css:List (Cs 2),OwnR w lo hi TM 2 Subtype.val v css∧Mates 2 (EMsgN w lo hi) css l
def DefN (w:World) (lo hi:Nat) (v:Value) (d:DefD):Prop:=∃ mv,v = .agg (defCells d mv).toArray∧MsgsN w lo hi mv d.msgs
section
variable {w w':World} {lo hi lo' hi':Nat}
theorem EFieldN.ext {cs:List Value} {f:FieldD} (h:EFieldN w lo hi cs f) (e:Ext w w'):EFieldN w' lo hi cs f:=by obtain ⟨tv,cv,h1,h2,h3⟩:=h;exact ⟨tv,cv,h1,h2.ext e,h3.ext e⟩
theorem FieldsN.ext {v:Value} {l:List FieldD} (h:FieldsN w lo hi v l) (e:Ext w w'):FieldsN w' lo hi v l:=by obtain ⟨css,h1,h2⟩:=h;exact ⟨css,h1.ext e,h2.imp fun _ _ h=>h.ext e⟩
theorem EMsgN.ext {cs:List Value} {m:MsgD} (h:EMsgN w lo hi cs m) (e:Ext w w'):EMsgN w' lo hi cs m:=by obtain ⟨fv,h1,h2⟩:=h;exact ⟨fv,h1,h2.ext e⟩
theorem EFieldN.mono {cs:List Value} {f:FieldD} (h:EFieldN w lo hi cs f) (h1:lo'≤lo) (h2:hi≤hi'):EFieldN w lo' hi' cs f:=by obtain ⟨tv,cv,a,b,c⟩:=h;exact ⟨tv,cv,a,b.mono h1 h2,c.mono h1 h2⟩
theorem FieldsN.mono {v:Value} {l:List FieldD} (h:FieldsN w lo hi v l) (h1:lo'≤lo) (h2:hi≤hi'):FieldsN w lo' hi' v l:=by obtain ⟨css,a,b⟩:=h;exact ⟨css,a.mono h1 h2,b.imp fun _ _ h=>h.mono h1 h2⟩
theorem EMsgN.mono {cs:List Value} {m:MsgD} (h:EMsgN w lo hi cs m) (h1:lo'≤lo) (h2:hi≤hi'):EMsgN w lo' hi' cs m:=by obtain ⟨fv,a,b⟩:=h;exact ⟨fv,a,b.mono h1 h2⟩
theorem MsgsN.mono {v:Value} {l:List MsgD} (h:MsgsN w lo hi v l) (h1:lo'≤lo) (h2:hi≤hi'):MsgsN w lo' hi' v l:=by obtain ⟨css,a,b⟩:=h;exact ⟨css,a.mono h1 h2,b.imp fun _ _ h=>h.mono h1 h2⟩
def Harmless (w:World) (lo hi b:Nat) (Ts:List TypeId):Prop:=hi≤b∨b < lo∨∃ T',TypeAt w b T'∧∀ T∈Ts,T'≠T
theorem Harmless.one {b:Nat} {Ts:List TypeId} (h:Harmless w lo hi b Ts) {T:TypeId} (hT:T∈Ts):hi≤b∨b < lo∨∃ T',TypeAt w b T'∧T'≠T:=by
 rcases h with h | h | ⟨T',h1,h2⟩
 · exact .inl h
 · exact .inr (.inl h)
 · exact .inr (.inr ⟨T',h1,h2 T hT⟩)
theorem Harmless.sub {b:Nat} {Ts Ts':List TypeId} (h:Harmless w lo hi b Ts) (hs:∀ T∈Ts',T∈Ts):Harmless w lo hi b Ts':=by
 rcases h with h | h | ⟨T',h1,h2⟩
 · exact .inl h
 · exact .inr (.inl h)
 · exact .inr (.inr ⟨T',h1,fun T hT=>h2 T (hs T hT)⟩)
theorem EFieldN.only {b:Nat} {cs:List Value} {f:FieldD} (h:EFieldN w lo hi cs f) (ho:Only b w w') (hb:Harmless w lo hi b [TT,TC]):EFieldN w' lo hi cs f:=by
 obtain ⟨tv,cv,h1,h2,h3⟩:=h
 exact ⟨tv,cv,h1,h2.only ho (hb.one (by simp)),h3.only ho (hb.one (by simp))⟩
theorem FieldsN.only {b:Nat} {v:Value} {l:List FieldD} (h:FieldsN w lo hi v l) (ho:Only b w w') (hb:Harmless w lo hi b [TT,TC,TF]):FieldsN w' lo hi v l:=by
 obtain ⟨css,h1,h2⟩:=h
 exact ⟨css,h1.only ho (hb.one (by simp)),h2.imp fun _ _ h=>h.only ho (hb.sub (by simp))⟩
theorem EMsgN.only {b:Nat} {cs:List Value} {m:MsgD} (h:EMsgN w lo hi cs m) (ho:Only b w w') (hb:Harmless w lo hi b [TT,TC,TF]):EMsgN w' lo hi cs m:=by
 obtain ⟨fv,h1,h2⟩:=h;exact ⟨fv,h1,h2.only ho hb⟩
theorem EFieldN.plain {cs:List Value} {f:FieldD} (h:EFieldN w lo hi cs f):EField w cs f:=by
 obtain ⟨tv,cv,h1,h2,h3⟩:=h
 exact ⟨tv,cv,h1,h2.1.slice (fun _=>rfl) (fun _ _=>rfl),h3.1.slice (fun _=>rfl) (fun _ _=>rfl)⟩
theorem FieldsN.plain {v:Value} {l:List FieldD} (h:FieldsN w lo hi v l):FieldsOf w v l:=by
 obtain ⟨css,h1,h2⟩:=h;exact h1.1.reads (h2.imp fun _ _ h=>h.plain)
theorem EMsgN.plain {cs:List Value} {m:MsgD} (h:EMsgN w lo hi cs m):EMsg w cs m:=by
 obtain ⟨fv,h1,h2⟩:=h;exact ⟨fv,h1,h2.plain⟩
theorem MsgsN.plain {v:Value} {l:List MsgD} (h:MsgsN w lo hi v l):MsgsOf w v l:=by
 obtain ⟨css,h1,h2⟩:=h;exact h1.1.reads (h2.imp fun _ _ h=>h.plain)
end
def tameF (f:FieldD):Prop:=f.terms.length≤1048576∧f.cases.length≤1048576
def tameM (m:MsgD):Prop:=m.fields.length≤1048576∧∀ f∈m.fields,tameF f
def tame (d:DefD):Prop:=d.msgs.length≤1048576∧∀ m∈d.msgs,tameM m
theorem MsgsN.only {w w':World} {lo hi b:Nat} {v:Value} {l:List MsgD} (h:MsgsN w lo hi v l) (ho:Only b w w') (hb:Harmless w lo hi b [TT,TC,TF,TM]):MsgsN w' lo hi v l:=by
 obtain ⟨css,h1,h2⟩:=h
 exact ⟨css,h1.only ho (hb.one (by simp)),h2.imp fun _ _ h=>h.only ho (hb.sub (by simp))⟩
theorem EMsg.one {w:World} {cs:List Value} {m:MsgD} (h:EMsg w cs m):∀ u∈cs,u.oneCell'=true:=by
 obtain ⟨fv,rfl,h1⟩:=h
 have:=h1.oneCell
 intro u hu
 simp only [List.mem_cons,List.not_mem_nil,or_false] at hu
 rcases hu with rfl | rfl
 · rfl
 · exact this
theorem EField.one {w:World} {cs:List Value} {f:FieldD} (h:EField w cs f):∀ u∈cs,u.oneCell'=true:=by
 obtain ⟨tv,cv,rfl,h1,h2⟩:=h
 have h1:=h1.oneCell
 have h2:=h2.oneCell
 intro u hu
 simp only [List.mem_cons,List.not_mem_nil,or_false] at hu
 rcases hu with rfl | rfl | rfl | rfl | rfl | rfl | rfl | rfl | rfl | rfl | rfl | rfl | rfl | rfl | rfl<;>first | rfl | assumption
theorem ETerm.one {w:World} {cs:List Value} {t:TermD} (h:ETerm w cs t):∀ u∈cs,u.oneCell'=true:=by
 obtain rfl:=h
 intro u hu
 simp only [List.mem_cons,List.not_mem_nil,or_false] at hu
 rcases hu with rfl | rfl<;>rfl
theorem ECase.one {w:World} {cs:List Value} {t:CaseD} (h:ECase w cs t):∀ u∈cs,u.oneCell'=true:=by
 obtain rfl:=h
 intro u hu
 simp only [List.mem_cons,List.not_mem_nil,or_false] at hu
 rcases hu with rfl | rfl | rfl<;>rfl
def own1 (cs:List Value):Option Nat:=(cs[1]?).bind Value.ownBlock
def ApartM (css:List (Cs 2)) (k:Nat):Prop:=∀ (i j:Nat) (ci cj:Cs 2) (a b:Nat),i < j→j < k→css[i]?=some ci→css[j]?=some cj→own1 ci.1=some a→own1 cj.1=some b→a < b
def MsgsA (w:World) (lo hi:Nat) (v:Value) (l:List MsgD):Prop:=∃ css:List (Cs 2),OwnR w lo hi TM 2 Subtype.val v css∧Mates 2 (EMsgN w lo hi) css l∧ApartM css css.length
theorem MsgsA.toN {w:World} {lo hi:Nat} {v:Value} {l:List MsgD} (h:MsgsA w lo hi v l):MsgsN w lo hi v l:=by obtain ⟨css,h1,h2,_⟩:=h;exact ⟨css,h1,h2⟩
theorem MsgsA.mono {w:World} {lo hi lo' hi':Nat} {v:Value} {l:List MsgD} (h:MsgsA w lo hi v l) (h1:lo'≤lo) (h2:hi≤hi'):MsgsA w lo' hi' v l:=by obtain ⟨css,a,b,c⟩:=h;exact ⟨css,a.mono h1 h2,b.imp fun _ _ h=>h.mono h1 h2,c⟩
theorem MsgsA.only {w w':World} {lo hi b:Nat} {v:Value} {l:List MsgD} (h:MsgsA w lo hi v l) (ho:Only b w w') (hb:Harmless w lo hi b [TT,TC,TF,TM]):MsgsA w' lo hi v l:=by
 obtain ⟨css,h1,h2,h3⟩:=h
 exact ⟨css,h1.only ho (hb.one (by simp)),h2.imp fun _ _ h=>h.only ho (hb.sub (by simp)),h3⟩
theorem Copy_retA (w0:World) (v:Value) (d:DefD) (hd:DefVal w0 v d) (ht:tame d) :
 Ret Pg 28 #[v] w0 fun r w'=>(∃ mv,r = .agg (defCells d mv).toArray∧MsgsA w' w0.heap.size w'.heap.size mv d.msgs)∧Ext w0 w':=by
 obtain ⟨mv,rfl,hM⟩:=hd
 refine n12s (R:=retR _) ?_;unfold n12
 simp (disch:=try exact DI) only [↓PR,QR,simprocAttr]
 obtain ⟨cssM,hraw,hmates⟩:=SliceOf.raw hM
 generalize hW:(World.alloc (World.alloc w0 _) _)=W
 have eW:Ext w0 W:=by rw [← hW];exact ee
 have hsz:W.heap.size=w0.heap.size+1+1:=by rw [← hW];simp only [World.size_alloc]
 have hX:W.heap[w0.heap.size]?=some (.cells #[.string d.name,mv,.string d.start] 28 (0,0)):=by
  rw [← hW];exact ((Ext.refl _).alloc _).obj (heap_new w0 _ _)
 have hR:W.heap[w0.heap.size+1]?=some (.cells #[.string ByteArray.empty,.slice none 0 0,.string ByteArray.empty] 28 (0,0)):=by
  rw [← hW]
  have:=heap_new (w0.alloc (Obj.cells (defCells d mv).toArray 28)) #[.string ByteArray.empty,.slice none 0 0,.string ByteArray.empty] 28
  rw [World.size_alloc] at this
  exact this
 clear hW
 refine callK_ret (Clone_Message_ret W mv cssM (hraw.ext keptRaw eW) (fun x hx=>by obtain ⟨m,_,hm⟩:=hmates.mem hx;exact hm.one) (by rw [hmates.1];exact ht.1)) ?_
 rintro t9 w1 ⟨hO,e1⟩
 obtain ⟨A,c,rfl,hlc,hcm,hlm,hel⟩:=SliceOf.open (hO.slice (E:=fun _ cs x=>cs=x.1) (fun x=>x.2) (fun _ _=>rfl))
 clear hel
 have s1:=e1.size
 have hX1:=e1.obj hX
 have hX2:(w1.setCell ⟨w0.heap.size,1,none⟩ (.slice A cssM.length c)).heap[w0.heap.size]?=some (.cells #[.string d.name,.slice A cssM.length c,.string d.start] 28 (0,0)):=by
  have:=heap_set (o:=1) hX1 (.slice A cssM.length c)
  simpa using this
 have hR2:(w1.setCell ⟨w0.heap.size,1,none⟩ (.slice A cssM.length c)).heap[w0.heap.size+1]?=some (.cells #[.string ByteArray.empty,.slice none 0 0,.string ByteArray.empty] 28 (0,0)):=by
  rw [Only.setCell w1 w0.heap.size 1 _ _ (by omega)];exact e1.obj hR
 have hO2:OwnE (w1.setCell ⟨w0.heap.size,1,none⟩ (.slice A cssM.length c)) W.heap.size TM 2 Subtype.val (.slice A cssM.length c) cssM:=(hO.range.only (Only.setCell w1 w0.heap.size 1 _) (.inr (.inl (by omega)))).1
 have e02:Ext w0 (w1.setCell ⟨w0.heap.size,1,none⟩ (.slice A cssM.length c)):=(eW.trans e1).setCell (Nat.le_refl _) _
 simp (disch:=try exact DI) only [↓PR,QR,simprocAttr,↓n12c1,↓n12c2,↓n12c3,↓n12c4,↓n12c5,↓n12c6,↓n12c7,↓n12c8,↓n12c9,(cells_of_heap hX1).1,(cells_of_heap hX1).2]
 generalize (World.setCell w1 ⟨w0.heap.size,1,none⟩ (.slice A cssM.length c))=w2 at hX2 hR2 hO2 e02 ⊢
 simp only [hmates.1] at *
 refine loop1_intro (fun a0 w=>∃ (k:Nat) , a0 = .int .i64 (k:Int)∧k≤d.msgs.length∧Ext w0 w∧(∃ css:List (Cs 2),OwnE w W.heap.size TM 2 Subtype.val (.slice A d.msgs.length c) css∧css.length=d.msgs.length∧(∀ (i:Nat) (m:MsgD) (cs:Cs 2),d.msgs[i]?=some m→css[i]?=some cs→if i < k then EMsgN w W.heap.size w.heap.size cs.1 m else EMsg w0 cs.1 m)∧Below W.heap.size w2 w∧ApartM css k)) (fun a0 _=>d.msgs.length - (intOf a0).toNat) ⟨0,rfl,Nat.zero_le _,ee,⟨cssM,hO2,hmates.1,fun i m cs hm hcs=>hmates.2 i m cs hm hcs,Below.refl _ _,fun _ _ _ _ _ _ _ hj=>absurd hj (Nat.not_lt_zero _)⟩⟩ ?_
 rintro _ w ⟨k,rfl,hk,e,hI⟩
 have se:=e.size
 rcases drop_cases hk with ⟨x,hx,hd,hlt,hdec⟩ | ⟨hk,hd,hdec⟩
 · obtain ⟨css,hOc,hlen,hE,hBel,hAp⟩:=hI
   obtain ⟨cs,hcs⟩:=getElem?_lt (l:=css) (k:=k) (by omega)
   have hEk:=hE k x cs hx hcs
   rw [if_neg (by omega)] at hEk
   obtain ⟨fv,hfv,hF⟩:=hEk
   obtain ⟨g,cap,hv,hglo,hglt,hTy,hfrz,hEl⟩:=hOc.row (fun x=>x.2) (by omega)
   injection hv with hv hv' hv''
   subst hv hv''
   have hEk:=hEl k cs hcs
   rw [hfv] at hEk
   have er:=Ext.refl w
   have hXw:w.heap[w0.heap.size]?=some (.cells #[.string d.name,.slice (some ⟨g,0,none⟩) d.msgs.length c,.string d.start] 28 (0,0)):=(hBel.block _ (by omega)).trans hX2
   simp (disch:=try exact DI) only [↓PR,QR,simprocAttr,↓n12c1,↓n12c2,↓n12c3,↓n12c4,↓n12c5,↓n12c6,↓n12c7,↓n12c8,↓n12c9,(cells_of_heap hXw).1,hdec,hEk.c2]
   obtain ⟨cssF,hrawF,hmatesF⟩:=SliceOf.raw hF
   have htx:=ht.2 x (List.mem_of_getElem? hx)
   refine callK_ret (Clone_Field_ret w fv cssF (hrawF.ext keptRaw e) (fun y hy=>by obtain ⟨m,_,hm⟩:=hmatesF.mem hy;exact hm.one) (by rw [hmatesF.1];exact htx.1)) ?_
   rintro t26 w3 ⟨hOF,e3⟩
   obtain ⟨AF,cF,rfl,hlcF,hcmF,hlmF,helF⟩:=SliceOf.open (hOF.slice (E:=fun _ cs x=>cs=x.1) (fun x=>x.2) (fun _ _=>rfl))
   clear helF
   have s3:=e3.size
   have hO3:=hOc.ext e3
   have hcsl:k < css.length:=(List.getElem?_eq_some_iff.1 hcs).1
   simp only [hv'] at hO3
   have hO4:=hO3.set hcs (show 1 < 2 by decide) (.slice AF cssF.length cF)
   simp only [← hv'] at hO4
   have oG:=Only.setCell w3 g (k*2+1) (.slice AF cssF.length cF)
   have hF4:=(hOF.range.only oG (.inr (.inr ⟨TM,hTy.ext e3,by decide⟩))).1
   have e4:Ext w0 (w3.setCell ⟨g,k*2+1,none⟩ (.slice AF cssF.length cF)):=(e.trans e3).setCell (show w0.heap.size≤g by omega) _
   have hBel4:Below W.heap.size w2 (w3.setCell ⟨g,k*2+1,none⟩ (.slice AF cssF.length cF)):=(hBel.trans (e3.below.mono (by omega))).setCell hglo _
   have hTy4:TypeAt (w3.setCell ⟨g,k*2+1,none⟩ (.slice AF cssF.length cF)) g TM:=by
    obtain ⟨cur,fr,h⟩:=hTy.ext e3
    exact ⟨_,fr,heap_set h _⟩
   have hprev:∀ (i:Nat) (m:MsgD) (cs:Cs 2),i≠k→d.msgs[i]?=some m→css[i]?=some cs→if i < k then EMsgN (w3.setCell ⟨g,k*2+1,none⟩ (.slice AF cssF.length cF)) W.heap.size w.heap.size cs.1 m else EMsg w0 cs.1 m:=by
    intro i m cs' hik hm hcs'
    have h:=hE i m cs' hm hcs'
    by_cases hlt':i < k
    · rw [if_pos hlt'] at h ⊢
      exact (h.ext e3).only oG (.inr (.inr ⟨TM,hTy.ext e3,by decide⟩))
    · rw [if_neg hlt'] at h ⊢;exact h
   have hfrz3:∀ o,w3.frozen? ⟨g,o,none⟩=false:=fun o=>by rw [e3.frozenQ hglt];exact hfrz o
   simp (disch:=try exact DI) only [↓PR,QR,simprocAttr,↓n12c1,↓n12c2,↓n12c3,↓n12c4,↓n12c5,↓n12c6,↓n12c7,↓n12c8,↓n12c9,hEk.c2,hfrz3]
   have hsz4:w.heap.size≤(w3.setCell ⟨g,k*2+1,none⟩ (.slice AF cssF.length cF)).heap.size:=by simpa using s3
   generalize (World.setCell w3 ⟨g,k*2+1,none⟩ (.slice AF cssF.length cF))=w4 at hO4 hF4 e4 hBel4 hTy4 hprev hsz4 ⊢
   simp only [hmatesF.1] at *
   refine loop1_intro (fun a0 wa=>∃ (ka:Nat) , a0 = .int .i64 (ka:Int)∧ka≤x.fields.length∧Ext w0 wa∧(∃ cF':List (Cs 15),OwnE wa w.heap.size TF 15 Subtype.val (.slice AF x.fields.length cF) cF'∧cF'.length=x.fields.length∧(∀ (i:Nat) (f:FieldD) (cs:Cs 15),x.fields[i]?=some f→cF'[i]?=some cs→if i < ka then EFieldN wa W.heap.size wa.heap.size cs.1 f else EField w0 cs.1 f)∧OwnE wa W.heap.size TM 2 Subtype.val (.slice (some ⟨g,0,none⟩) d.msgs.length c) (css.set k ⟨cs.1.set 1 (.slice AF x.fields.length cF),by simp [cs.2]⟩)∧(∀ (i:Nat) (m:MsgD) (cs:Cs 2),i≠k→d.msgs[i]?=some m→css[i]?=some cs→if i < k then EMsgN wa W.heap.size w.heap.size cs.1 m else EMsg w0 cs.1 m)∧Below W.heap.size w2 wa∧TypeAt wa g TM∧w.heap.size≤wa.heap.size)) (fun a0 _=>x.fields.length - (intOf a0).toNat) ⟨0,rfl,Nat.zero_le _,ee,⟨cssF,hF4,hmatesF.1,fun i m cs hm hcs=>hmatesF.2 i m cs hm hcs,hO4,hprev,hBel4,hTy4,hsz4⟩⟩ ?_
   rintro _ wa ⟨ka,rfl,hka,ea,hIa⟩
   have sea:=ea.size
   rcases drop_cases hka with ⟨xa,hxa,hda,hlta,hdeca⟩ | ⟨hka,hda,hdeca⟩
   · obtain ⟨cF',h1,h2,h3,h4,h5,h6,h7,h8⟩:=hIa
     obtain ⟨cf,hcf⟩:=getElem?_lt (l:=cF') (k:=ka) (by omega)
     have hEf:=h3 ka xa cf hxa hcf
     rw [if_neg (by omega)] at hEf
     obtain ⟨tv,cv,hcfv,hT,hC⟩:=hEf
     obtain ⟨gF,capF,hvF,hgFlo,hgFlt,hTyF,hfrzF,hElF⟩:=h1.row (fun x=>x.2) (by omega)
     injection hvF with hvF hvF' hvF''
     subst hvF hvF''
     have hEfk:=hElF ka cf hcf
     rw [hcfv] at hEfk
     have era:=Ext.refl wa
     obtain ⟨g',cap',hv2,_,hgltA,_,_,hElM⟩:=h4.row (fun x=>x.2) (by simp;omega)
     injection hv2 with hv2 hv2' hv2''
     injection hv2 with hv2
     injection hv2 with hv2
     subst hv2
     have hEm:=hElM k _ (List.getElem?_set_self hcsl)
     simp only [hfv,List.set_cons_succ,List.set_cons_zero] at hEm
     simp (disch:=try exact DI) only [↓PR,QR,simprocAttr,↓n12c1,↓n12c2,↓n12c3,↓n12c4,↓n12c5,↓n12c6,↓n12c7,↓n12c8,↓n12c9,hdeca,hEm.c2,hEfk.c15]
     refine drawK_intro ?_
     simp (disch:=try exact DI) only [↓PR,QR,simprocAttr,↓n12c1,↓n12c2,↓n12c3,↓n12c4,↓n12c5,↓n12c6,↓n12c7,↓n12c8,↓n12c9,hEfk.c15]
     obtain ⟨cssT,hrawT,hmatesT⟩:=SliceOf.raw hT
     obtain ⟨cssC,hrawC,hmatesC⟩:=SliceOf.raw hC
     have htf:=htx.2 xa (List.mem_of_getElem? hxa)
     refine callK_ret (Clone_Term_ret wa.drew tv cssT (hrawT.ext keptRaw ea.wdrew) (fun y hy=>by obtain ⟨m,_,hm⟩:=hmatesT.mem hy;exact hm.one) (by rw [hmatesT.1];exact htf.1)) ?_
     rintro t50 w5 ⟨hOT,e5⟩
     refine ⟨e5,?_⟩
     refine callK_ret (Clone_Case_ret w5 cv cssC (hrawC.ext keptRaw (ea.wdrew.trans e5)) (fun y hy=>by obtain ⟨m,_,hm⟩:=hmatesC.mem hy;exact hm.one) (by rw [hmatesC.1];exact htf.2)) ?_
     rintro t55 w6 ⟨hOC,e6⟩
     refine ⟨e5.trans e6,?_⟩
     have s5:=e5.size
     have s6:=e6.size
     simp only [World.size_drew] at s5
     have eA6:Ext wa w6:=era.wdrew.trans (e5.trans e6)
     have hTy6:=hTyF.ext eA6
     have hfrz6:∀ o,w6.frozen? ⟨gF,o,none⟩=false:=fun o=>by rw [eA6.frozenQ hgFlt];exact hfrzF o
     obtain ⟨AT,cT,rfl,_⟩:=SliceOf.open (hOT.slice (E:=fun _ cs x=>cs=x.1) (fun x=>x.2) (fun _ _=>rfl))
     obtain ⟨AC,cC,rfl,_⟩:=SliceOf.open (hOC.slice (E:=fun _ cs x=>cs=x.1) (fun x=>x.2) (fun _ _=>rfl))
     simp (disch:=try exact DI) only [↓PR,QR,simprocAttr,↓n12c1,↓n12c2,↓n12c3,↓n12c4,↓n12c5,↓n12c6,↓n12c7,↓n12c8,↓n12c9,hEfk.c15,hfrz6]
     obtain ⟨w7,hw7⟩:∃ w7,w6.setCell ⟨gF,ka*15+8,none⟩ (.slice AT cssT.length cT)=w7:=⟨_,rfl⟩
     have o7:Only gF w6 w7:=by rw [← hw7];exact Only.setCell _ _ _ _
     have hE7:∀ j,w7.frozen? ⟨gF,j,none⟩=false:=fun j=>by rw [← hw7,frozen_set];exact hfrz6 j
     have hc7:w7.cell? ⟨gF,ka*15+12,none⟩=some cv:=by
      rw [← hw7,cell_set_other (by omega)];exact eA6.cell (hEfk.c15 era).2.2.2.2.2.2.2.2.2.2.2.2.1
     have hTy7:TypeAt w7 gF TF:=by
      obtain ⟨cur,fr,h⟩:=hTy6
      exact ⟨_,fr,by rw [← hw7];exact heap_set h _⟩
     have s7:w7.heap.size=w6.heap.size:=by rw [← hw7];simp
     have h16:=h1.ext eA6
     have hcfl:ka < cF'.length:=(List.getElem?_eq_some_iff.1 hcf).1
     simp only [hvF'] at h16
     have hF7:=h16.set hcf (show 8 < 15 by decide) (.slice AT cssT.length cT)
     rw [hw7] at hF7
     have e07:Ext w0 w7:=by rw [← hw7];exact (ea.trans eA6).setCell (show w0.heap.size≤gF by omega) _
     have hB7:Below W.heap.size w2 w7:=by rw [← hw7];exact (h6.trans (eA6.below.mono (by omega))).setCell (show W.heap.size≤gF by omega) _
     rw [hw7]
     refine turnK_intro ?_
     simp (disch:=try exact DI) only [↓PR,QR,simprocAttr,↓n12c1,↓n12c2,↓n12c3,↓n12c4,↓n12c5,↓n12c6,↓n12c7,↓n12c8,↓n12c9,hc7,hE7]
     obtain ⟨w8,hw8⟩:∃ w8,w7.setCell ⟨gF,ka*15+12,none⟩ (.slice AC cssC.length cC)=w8:=⟨_,rfl⟩
     have o8:Only gF w7 w8:=by rw [← hw8];exact Only.setCell _ _ _ _
     have hF8:=hF7.set (List.getElem?_set_self hcfl) (show 12 < 15 by decide) (.slice AC cssC.length cC)
     rw [hw8] at hF8
     have s8:w8.heap.size=w7.heap.size:=by rw [← hw8];simp
     have hTy8:TypeAt w8 g TM:=((h7.ext eA6).only o7 (by rintro rfl;obtain ⟨_,_,a⟩:=h7;obtain ⟨_,_,b⟩:=hTyF;rw [a] at b;injection b with b;injection b with _ b _;exact absurd b (by decide))).only o8 (by rintro rfl;obtain ⟨_,_,a⟩:=h7;obtain ⟨_,_,b⟩:=hTyF;rw [a] at b;injection b with b;injection b with _ b _;exact absurd b (by decide))
     have e08:Ext w0 w8:=by rw [← hw8];exact e07.setCell (show w0.heap.size≤gF by omega) _
     have hB8:Below W.heap.size w2 w8:=by rw [← hw8];exact hB7.setCell (show W.heap.size≤gF by omega) _
     have hM8:=((((h4.ext eA6).range.only o7 (.inr (.inr ⟨TF,hTy6,by decide⟩))).1).range.only o8 (.inr (.inr ⟨TF,hTy7,by decide⟩))).1
     have hT8:OwnR w8 W.heap.size w8.heap.size TT 2 (fun t:TermD=>termCells t) (.slice AT cssT.length cT) xa.terms:=by
      have h:=(((hOT.ext e6).range.only o7 (.inr (.inr ⟨TF,hTy6,by decide⟩))).only o8 (.inr (.inr ⟨TF,hTy7,by decide⟩)))
      refine ⟨(OwnE.mates h.1 (hmatesT.imp fun _ _ h=>h)).base (by simp only [World.size_drew];omega),fun b hb=>?_⟩
      have:=h.2 b hb
      omega
     have hC8:OwnR w8 W.heap.size w8.heap.size TC 3 (fun c:CaseD=>caseCells c) (.slice AC cssC.length cC) xa.cases:=by
      have h:=((hOC.range.only o7 (.inr (.inr ⟨TF,hTy6,by decide⟩))).only o8 (.inr (.inr ⟨TF,hTy7,by decide⟩)))
      refine ⟨(OwnE.mates h.1 (hmatesC.imp fun _ _ h=>h)).base (by omega),fun b hb=>?_⟩
      have:=h.2 b hb
      omega
     rw [hw8]
     refine turnK_intro ?_
     simp (disch:=try exact DI) only [↓PR,QR,simprocAttr]
     have hf8:∀ (i:Nat) (f:FieldD) (cs'':Cs 15),xa.name=xa.name→x.fields[i]?=some f→((cF'.set ka ⟨cf.1.set 8 (.slice AT cssT.length cT),by simp [cf.2]⟩).set ka ⟨(cf.1.set 8 (.slice AT cssT.length cT)).set 12 (.slice AC cssC.length cC),by simp [cf.2]⟩)[i]?=some cs''→if i < ka+1 then EFieldN w8 W.heap.size w8.heap.size cs''.1 f else EField w0 cs''.1 f:=by
      intro i f cs'' _ hf hcs''
      by_cases hik:i=ka
      · subst hik
        rw [if_pos (by omega)]
        rw [List.getElem?_set_self (by simp;omega)] at hcs''
        injection hcs'' with hcs''
        subst hcs''
        rw [hxa] at hf
        injection hf with hf
        subst hf
        exact ⟨_,_,by show (cf.1.set 8 _).set 12 _=_;rw [hcfv];rfl,hT8,hC8⟩
      · rw [List.getElem?_set_ne (Ne.symm hik),List.getElem?_set_ne (Ne.symm hik)] at hcs''
        have h:=h3 i f cs'' hf hcs''
        by_cases hlt':i < ka
        · rw [if_pos hlt'] at h
          rw [if_pos (by omega)]
          exact (((h.ext eA6).only o7 (.inr (.inr ⟨TF,hTy6,by decide⟩))).only o8 (.inr (.inr ⟨TF,hTy7,by decide⟩))).mono (Nat.le_refl _) (by omega)
        · rw [if_neg hlt'] at h
          rw [if_neg (by omega)]
          exact h
     have hm8:∀ (i:Nat) (m:MsgD) (cs:Cs 2),i≠k→d.msgs[i]?=some m→css[i]?=some cs→if i < k then EMsgN w8 W.heap.size w.heap.size cs.1 m else EMsg w0 cs.1 m:=by
      intro i m cs' hik hm hcs'
      have h:=h5 i m cs' hik hm hcs'
      by_cases hlt':i < k
      · rw [if_pos hlt'] at h ⊢
        exact (((h.ext eA6).only o7 (.inl hgFlo)).only o8 (.inl hgFlo))
      · rw [if_neg hlt'] at h ⊢;exact h
     simp only [← hvF'] at hF8
     exact ⟨⟨ka+1,rfl,by omega,ee,⟨_,hF8,by simp [h2],fun i f cs'' hf hc=>hf8 i f cs'' rfl hf hc,hM8,hm8,hB8,hTy8,by omega⟩⟩,meas_lt (kd := .i64) hlta⟩
   · subst hka
     obtain ⟨cF',h1,h2,h3,h4,h5,h6,h7,h8⟩:=hIa
     simp (disch:=try exact DI) only [↓PR,QR,simprocAttr,↓n12c1,↓n12c2,↓n12c3,↓n12c4,↓n12c5,↓n12c6,↓n12c7,↓n12c8,↓n12c9,hdeca]
     have hfin:∀ (i:Nat) (m:MsgD) (cs':Cs 2),d.msgs[i]?=some m→(css.set k ⟨cs.1.set 1 (.slice AF x.fields.length cF),by simp [cs.2]⟩)[i]?=some cs'→if i < k+1 then EMsgN wa W.heap.size wa.heap.size cs'.1 m else EMsg w0 cs'.1 m:=by
      intro i m cs' hm hcs'
      by_cases hik:i=k
      · subst hik
        rw [if_pos (by omega)]
        rw [List.getElem?_set_self (by omega)] at hcs'
        injection hcs' with hcs'
        subst hcs'
        rw [hx] at hm
        injection hm with hm
        subst hm
        refine ⟨.slice AF x.fields.length cF,by show cs.1.set 1 _=_;rw [hfv];rfl,cF',⟨h1.base (by omega),h1.range.2⟩,h2,fun j f cs'' hf hcs''=>?_⟩
        have:=h3 j f cs'' hf hcs''
        rw [if_pos (List.getElem?_eq_some_iff.1 hf).1] at this
        exact this
      · rw [List.getElem?_set_ne (Ne.symm hik)] at hcs'
        have h:=h5 i m cs' hik hm hcs'
        by_cases hlt':i < k
        · rw [if_pos hlt'] at h
          rw [if_pos (by omega)]
          exact h.mono (Nat.le_refl _) h8
        · rw [if_neg hlt'] at h
          rw [if_neg (by omega)]
          exact h
     have hap:ApartM (css.set k ⟨cs.1.set 1 (.slice AF x.fields.length cF),by simp [cs.2]⟩) (k+1):=by
      intro i j ci cj a b hij hjk hci hcj ha hb
      have hik:i≠k:=by omega
      rw [List.getElem?_set_ne (Ne.symm hik)] at hci
      by_cases hjk':j=k
      · subst hjk'
        rw [List.getElem?_set_self (by omega)] at hcj
        injection hcj with hcj
        subst hcj
        have hb':(Value.slice AF x.fields.length cF).ownBlock=some b:=by
         unfold own1 at hb
         simp only [hfv,List.set_cons_succ,List.set_cons_zero] at hb
         exact hb
        have h1b:=(h1.lt b hb').1
        obtain ⟨mi,hmi⟩:=getElem?_lt (l:=d.msgs) (k:=i) (by omega)
        have h:=h5 i mi ci hik hmi hci
        rw [if_pos hij] at h
        obtain ⟨fvi,hcs,_,hOi,_⟩:=h
        have:=hOi.2 a (by unfold own1 at ha;rw [hcs] at ha;exact ha)
        omega
      · rw [List.getElem?_set_ne (Ne.symm hjk')] at hcj
        exact hAp i j ci cj a b hij (by omega) hci hcj ha hb
     exact ⟨⟨k+1,rfl,by omega,ee,⟨_,h4,by simp [hlen],hfin,h6,hap⟩⟩,meas_lt (kd := .i64) hlt⟩
 · subst hk
   obtain ⟨css,hOc,hlen,hE,hBel,hAp⟩:=hI
   have hXw:w.heap[w0.heap.size]?=some (.cells #[.string d.name,.slice A d.msgs.length c,.string d.start] 28 (0,0)):=(hBel.block _ (by omega)).trans hX2
   have hRw:w.heap[w0.heap.size+1]?=some (.cells #[.string ByteArray.empty,.slice none 0 0,.string ByteArray.empty] 28 (0,0)):=(hBel.block _ (by omega)).trans hR2
   have hN:MsgsA w W.heap.size w.heap.size (.slice A d.msgs.length c) d.msgs:=by
    refine ⟨css,hOc.range,⟨hlen,fun i m cs hm hcs=>?_⟩,by rw [hlen];exact hAp⟩
    have:=hE i m cs hm hcs
    rw [if_pos (List.getElem?_eq_some_iff.1 hm).1] at this
    exact this
   have ho:∀ (w':World) o v,MsgsA w' W.heap.size w.heap.size (.slice A d.msgs.length c) d.msgs→MsgsA (w'.setCell ⟨w0.heap.size+1,o,none⟩ v) W.heap.size w.heap.size (.slice A d.msgs.length c) d.msgs:=fun w' o v h=>h.only (Only.setCell w' _ o v) (.inr (.inl (by omega)))
   simp (disch:=try exact DI) only [↓PR,QR,simprocAttr,↓n12c1,↓n12c2,↓n12c3,↓n12c4,↓n12c5,↓n12c6,↓n12c7,↓n12c8,↓n12c9,hdec,(cells_of_heap hXw).1,(cells_of_heap hRw).1,(cells_of_heap hRw).2]
   refine ⟨⟨_,rfl,(ho _ _ _ (ho _ _ _ (ho _ _ _ hN))).mono (by omega) (by simp)⟩,ee⟩
theorem Copy_ret (w0:World) (v:Value) (d:DefD) (hd:DefVal w0 v d) (ht:tame d) :
 Ret Pg 28 #[v] w0 fun r w'=>DefN w' w0.heap.size w'.heap.size r d∧Ext w0 w' :=
 (Copy_retA w0 v d hd ht).mono fun _ _ ⟨⟨mv,h1,h2⟩,e⟩=>⟨⟨mv,h1,h2.toN⟩,e⟩
def numPairs (l:List FieldD):List (ByteArray×Value):=(l.filter numberB).map fun f=>(f.name,rangeVal f.low (highOf f))
theorem numPairs_snoc (l:List FieldD) (f:FieldD):numPairs (l++[f])=numPairs l++(if numberB f then [(f.name,rangeVal f.low (highOf f))] else []):=by
 unfold numPairs
 rw [List.filter_append,List.map_append]
 cases h:numberB f<;>simp [List.filter_cons,h]
theorem take_snoc {α:Type} {l:List α} {k:Nat} {x:α} (hx:l[k]?=some x):l.take (k+1)=l.take k++[x]:=by
 rw [List.take_add_one,hx];rfl
theorem ranges_ret (w0:World) (v:Value) (l:List FieldD) (hs:FieldsOf w0 v l) :
 Ret Pg 224 #[v] w0 fun r w'=>∃ m,r = .map (some m)∧w0.heap.size≤m∧MapOf w' m (numPairs l)∧Ext w0 w':=by
 obtain ⟨A,c,rfl,hlc,hcm,hlm,hel⟩:=SliceOf.open hs
 refine n63s (R:=retR _) ?_;unfold n63
 simp (disch:=try exact DI) only [↓PR,QR,simprocAttr]
 have hM0:=MapOf.new w0
 have e0:Ext w0 (w0.alloc (.map #[] 0)):=ee
 refine loop1_intro (fun a0 w=>∃ (k:Nat) , a0 = .int .i64 (k:Int)∧k≤l.length∧Ext w0 w∧MapOf w w0.heap.size (numPairs (l.take k))) (fun a0 _=>l.length - (intOf a0).toNat) ⟨0,rfl,Nat.zero_le _,ee,hM0⟩ ?_
 rintro _ w ⟨k,rfl,hk,e,hI⟩
 have se:=e.size
 rcases drop_cases hk with ⟨x,hx,hd,hlt,hdec⟩ | ⟨hk,hd,hdec⟩
 · obtain ⟨b,o,cs,rfl,hl,hA,hE⟩:=hel k x hx
   obtain ⟨tv,cv,rfl,hT,hC,ht1,hc1⟩:=hE.op
   have hlt2:=hI.lt
   simp (disch:=try exact DI) only [↓PR,QR,simprocAttr,↓n63c1,↓n63c2,↓n63c3,hdec,hA.c15]
   refine zcr (Range_ret _ _ x ⟨tv,cv,rfl,TermsOf.ext hT ee,CasesOf.ext hC ee⟩) fun w1 e1=>?_
   have s1:=e1.size
   try simp only [World.size_alloc,World.size_setCell,World.size_drew,World.putObj_size,Sw.putW_size] at s1
   have hI1:=(hI.ext ((Ext.refl w).alloc _)).ext e1
   have hI2:∀ o,MapOf (w1.alloc o) w0.heap.size (numPairs (l.take k)):=fun o=>hI1.ext ((Ext.refl w1).alloc _)
   cases hn:numberB x with
   | false =>
    simp (disch:=try exact DI) only [↓PR,QR,simprocAttr,↓n63c1,↓n63c2,↓n63c3,e1.cellQ,e1.frozenQ,rangeVal]
    have hf:=hI2 (.cells #[.int .i64 0,.int .i64 0] 74)
    rw [show numPairs (l.take k)=numPairs (l.take (k+1)) by rw [take_snoc hx,numPairs_snoc,hn];simp] at hf
    exact ⟨⟨k+1,rfl,by omega,ee,hf⟩,meas_lt (kd := .i64) hlt⟩
   | true =>
    simp (disch:=try exact DI) only [↓PR,QR,simprocAttr,↓n63c1,↓n63c2,↓n63c3,e1.cellQ,e1.frozenQ,rangeVal]
    have hf:=hI2 (.cells #[.int .i64 x.low,.int .i64 (highOf x)] 74)
    rw [op_updateO Tryz.underlying122 Tryz.underlying9 hf]
    have hg:=hf.put x.name (rangeVal x.low (highOf x))
    have eg:Ext w0 (putW (w1.alloc (.cells #[.int .i64 x.low,.int .i64 (highOf x)] 74)) w0.heap.size (numPairs (l.take k)) x.name (rangeVal x.low (highOf x))):=Ext.putW ee (Nat.le_refl _) _ _
    rw [show numPairs (l.take k)++[(x.name,rangeVal x.low (highOf x))]=numPairs (l.take (k+1)) by rw [take_snoc hx,numPairs_snoc,hn];simp] at hg
    simp (disch:=try exact DI) only [↓PR,QR,simprocAttr,↓n63c1,↓n63c2,↓n63c3]
    exact ⟨⟨k+1,rfl,by omega,ee,hg⟩,meas_lt (kd := .i64) hlt⟩
 · subst hk
   simp (disch:=try exact DI) only [↓PR,QR,simprocAttr,↓n63c1,↓n63c2,↓n63c3,hdec]
   rw [List.take_length] at hI
   exact ⟨_,rfl,Nat.le_refl _,hI,e⟩
def TermsAt (w:World) (pb:Nat) (tv:Value) (ts:List TermD):Prop:=w.cell? ⟨pb,0,none⟩=some tv∧TermsOf w tv ts∧∀ A m c,tv = .slice (some A) m c→pb < A.block
theorem TermsAt.ext {w w':World} {pb:Nat} {tv:Value} {ts:List TermD} (h:TermsAt w pb tv ts) (e:Ext w w'):TermsAt w' pb tv ts:=⟨e.cell h.1,TermsOf.ext h.2.1 e,h.2.2⟩
theorem TermsAt.set {w:World} {pb:Nat} {tv:Value} {ts:List TermD} (h:TermsAt w pb tv ts) {b o:Nat} (hb:b < pb) (u:Value):TermsAt (w.setCell ⟨b,o,none⟩ u) pb tv ts :=
 ⟨by rw [cell_set_other (by omega)];exact h.1,SliceOf.setOther h.2.1 u (fun A m c e=>by have:=h.2.2 A m c e;omega) (fun _ _ h=>h),h.2.2⟩
theorem Names_ret (w0:World) (v:Value) (base:Int) (ts:List TermD) (hs:SizeVal w0 v base ts) (hb:ts.length≤1048576) :
 Ret Pg 225 #[v] w0 fun r w'=>∃ pb tv,r = .func (.func 237) #[] #[.pointer (some ⟨pb,0,none⟩)]∧TermsAt w' pb tv (if sizeB base ts then ts else [])∧w0.heap.size≤pb∧Ext w0 w':=by
 obtain ⟨tv,rfl,hT⟩:=hs
 have ht1:=SliceOf.oneCell hT
 refine n92s (R:=retR _) ?_;unfold n92
 simp (disch:=try exact DI) only [↓PR,QR,simprocAttr,↓n92c1]
 refine zcr (Valid_ret _ _ base ts ⟨tv,rfl,TermsOf.ext hT ee⟩) fun w1 e1=>?_
 have s1:=e1.size
 try simp only [World.size_alloc,World.size_setCell,World.size_drew,World.putObj_size,Sw.putW_size] at s1
 cases hv:sizeB base ts with
 | false =>
  simp (disch:=try exact DI) only [↓PR,QR,simprocAttr,↓n92c1]
  refine ⟨_,_,rfl,⟨e1.cell (by simp (disch:=try exact DI) only [↓PR,QR,simprocAttr]),SliceOf.nil _ _ _,fun A m c e=>by cases e⟩,by omega,ee⟩
 | true =>
  simp (disch:=try exact DI) only [↓PR,QR,simprocAttr,↓n92c1,e1.cellQ,e1.frozenQ]
  obtain ⟨cssT,hrawT,hmatesT⟩:=SliceOf.raw hT
  refine callK_ret (Clone_Term_ret _ tv cssT (hrawT.ext keptRaw ee) (fun y hy=>by obtain ⟨m,_,hm⟩:=hmatesT.mem hy;exact hm.one) (by rw [hmatesT.1];exact hb)) ?_
  rintro t8 w2 ⟨hO,e2⟩
  have s2:=e2.size
  have hO':=OwnE.mates hO (hmatesT.imp fun _ _ h=>h)
  have hS:=hO'.slice (E:=ETerm) (fun _=>rfl) (fun _ _=>rfl)
  have h8:=SliceOf.oneCell hS
  have hTy:TypeAt w2 (w0.heap.size+1) 43:=(TypeAt.ext (w:=(w0.alloc _).alloc (.cells #[.slice none 0 0] 43)) ⟨_,_,by have:=heap_new (w0.alloc (.cells #[.int .i64 base,tv] 45)) #[.slice none 0 0] 43;rw [World.size_alloc] at this;exact this⟩ (e1.trans e2))
  simp (disch:=try exact DI) only [↓PR,QR,simprocAttr,↓n92c1,e1.cellQ,e1.frozenQ,e2.cellQ,e2.frozenQ]
  have hS2:=((hO'.range.only (Only.setCell w2 (w0.heap.size+1) 0 t8) (.inr (.inl (by omega)))).1).slice (E:=ETerm) (fun _=>rfl) (fun _ _=>rfl)
  refine ⟨_,t8,rfl,⟨?_,hS2,fun A m c e=>by subst e;have:=hO'.lt A.block rfl;omega⟩,by omega,ee⟩
  simp (disch:=try exact DI) only [↓PR,QR,simprocAttr,e1.cellQ,e1.frozenQ,e2.cellQ,e2.frozenQ]
def namesX (ts:List TermD) (k:Nat):Value:=match ts[k]? with
 | some t => .string t.field
 | none=>undef
theorem Names_seq (pb:Nat) (tv:Value) (ts:List TermD):SeqIt Pg 237 #[.pointer (some ⟨pb,0,none⟩)] ts.length (namesX ts) (fun w=>TermsAt w pb tv ts):=by
 intro yv J Jx Jp w hFP hJe hJx hstep h0
 obtain ⟨hc,hT,_⟩:=hFP 0 w h0
 obtain ⟨A,c,rfl,hlc,hcm,hlm,hel⟩:=SliceOf.open hT
 refine n93s (t0:=yv) (t1 := .pointer (some ⟨pb,0,none⟩)) ?_
 unfold n93
 simp (disch:=try exact DI) only [↓PR,QR,simprocAttr,hc]
 refine loop1_intro (fun i w=>∃ k:Nat,i = .int .i64 k∧k≤ts.length∧J k w) (fun i _=>ts.length - (intOf i).toNat) ⟨0,rfl,by omega,h0⟩ ?_
 rintro i w' ⟨k,rfl,hk,hJ⟩
 rcases drop_cases hk with ⟨x,hx,hd,hlt,hdec⟩ | ⟨hk,hd,hdec⟩
 · obtain ⟨_,hT',_⟩:=hFP k w' hJ
   obtain ⟨A',c',hv,_,_,_,hel'⟩:=SliceOf.open hT'
   injection hv with hv _ hv'
   subst hv hv'
   obtain ⟨b,o,cs,rfl,hl,hA,rfl⟩:=hel' k x hx
   have er:=Ext.refl w'
   simp (disch:=try exact DI) only [↓PR,QR,simprocAttr,↓n93c1,↓n93c2,hdec,hA.c2]
   have hs:=hstep k hlt _ (hJe k w' _ hJ ((Ext.refl w').alloc (.cells #[.string x.field,.int .i64 x.factor] 62)))
   rw [show namesX ts k = .string x.field by unfold namesX;rw [hx]] at hs
   refine callV_mono hs (fun ch w h=>h) ?_
   rintro v w2 (⟨rfl,h2⟩ | ⟨rfl,h2⟩)
   · simp (disch:=try exact DI) only [↓PR,QR,simprocAttr,↓n93c1,↓n93c2]
     exact ⟨⟨k+1,rfl,by omega,h2⟩,meas_lt (kd := .i64) hlt⟩
   · simp (disch:=try exact DI) only [↓PR,QR,simprocAttr,↓n93c1,↓n93c2]
     exact .inr h2
 · subst hk
   simp (disch:=try exact DI) only [↓PR,QR,simprocAttr,↓n93c1,↓n93c2,hdec]
   exact .inl hJ
theorem TermsAt.lasts (B pb:Nat) (tv:Value) (ts:List TermD):Lasts B (fun w=>TermsAt w pb tv ts) :=
 Lasts.and (Lasts.cell B) (Lasts.and ⟨fun _ _ h e=>TermsOf.ext h e,fun _ _ _ _ _ h hl=>SliceOf.putLoop (fun _ _ h=>h) hl h⟩ (Lasts.const _ _))
def checkedF (but:ByteArray) (ps:List (ByteArray×Value)) (p:Value→Bool):List TermD→Bool→Int
 | [],no=>if no then 9 else 0
 | t::ts,no=>if t.field=but then checkedF but ps p ts no else match lastOf ps t.field with
  | none=>checkedF but ps p ts true
  | some v=>if p v then checkedF but ps p ts no else 2
theorem checked_Range_ret (w0:World) (v:Value) (base:Int) (ts:List TermD) (but:ByteArray) (m:Nat) (ps:List (ByteArray×Value)) (g:FuncId) (caps:Array Value) (p:Value→Bool) (hs:SizeVal w0 v base ts) (hb:ts.length≤1048576)
 (hm:MapOf w0 m ps) (hr:∀ k v,lastOf ps k=some v→∃ lo hi,v=rangeVal lo hi) (hg:Callable Pg g) (hc:∀ w lo hi,Ext w0 w→Ret Pg g (#[rangeVal lo hi]++caps) w fun r w'=>r = .bool (p (rangeVal lo hi))∧Ext w w') :
 Ret Pg 229 #[v,.string but,.map (some m),.func (.func g) #[] caps] w0 fun r w'=>r = .int .i64 (if sizeB base ts then checkedF but ps p ts false else 2)∧Ext w0 w':=by
 obtain ⟨tv,rfl,hT⟩:=hs
 have ht1:=SliceOf.oneCell hT
 have hmlt:=hm.lt
 refine n97s (R:=retR _) ?_;unfold n97
 simp (disch:=try exact DI) only [↓PR,QR,simprocAttr,↓n97c1,↓n97c2,↓n97c3,↓n97c4,↓n97c5,↓n97c6]
 refine zcr (Valid_ret _ _ base ts ⟨tv,rfl,TermsOf.ext hT ee⟩) fun w1 e1=>?_
 have s1:=e1.size
 try simp only [World.size_alloc,World.size_setCell,World.size_drew,World.putObj_size,Sw.putW_size] at s1
 cases hv:sizeB base ts with
 | false =>
  simp (disch:=try exact DI) only [↓PR,QR,simprocAttr,↓n97c1,↓n97c2,↓n97c3,↓n97c4,↓n97c5,↓n97c6,e1.cellQ,e1.frozenQ,outX_nil,retV,resOne]
  exact ⟨by first | trivial | rfl,ee⟩
 | true =>
  simp (disch:=try exact DI) only [↓PR,QR,simprocAttr,↓n97c1,↓n97c2,↓n97c3,↓n97c4,↓n97c5,↓n97c6,e1.cellQ,e1.frozenQ]
  refine callK_ret (Names_ret _ _ base ts ⟨tv,rfl,TermsOf.ext hT ee⟩ hb) ?_
  rintro _ w2 ⟨pb,tv2,rfl,hTA,hpb,e2⟩
  rw [hv] at hTA
  simp only [if_true] at hTA
  have s2:=e2.size
  simp only [World.size_alloc] at s2 hpb
  have o5:w2.heap[w0.heap.size+1]?=some (.cells #[.string but] 9 (0,0)):=by simp (disch:=try exact DI) only [↓PR,QR,simprocAttr,e1.heapQ,e2.heapQ]
  have o6:w2.heap[w0.heap.size+1+1]?=some (.cells #[.map (some m)] 122 (0,0)):=by simp (disch:=try exact DI) only [↓PR,QR,simprocAttr,e1.heapQ,e2.heapQ]
  have o7:w2.heap[w0.heap.size+1+1+1]?=some (.cells #[.func (.func g) #[] caps] 236 (0,0)):=by simp (disch:=try exact DI) only [↓PR,QR,simprocAttr,e1.heapQ,e2.heapQ]
  have o8:w2.heap[w0.heap.size+1+1+1+1]?=some (.cells #[.int .i64 0] 31 (0,0)):=by simp (disch:=try exact DI) only [↓PR,QR,simprocAttr,e1.heapQ,e2.heapQ]
  have o9:w2.heap[w1.heap.size]?=some (.cells #[.bool false] 4 (0,0)):=by simp (disch:=try exact DI) only [↓PR,QR,simprocAttr,e1.heapQ,e2.heapQ]
  have eW:Ext w0 w2:=ee
  simp only [World.size_alloc]
  unfold n97c4
  let I:Nat→World→Prop:=fun k w=>Ext w0 w∧w.heap[w0.heap.size+1]?=some (.cells #[.string but] 9 (0,0))∧w.heap[w0.heap.size+1+1]?=some (.cells #[.map (some m)] 122 (0,0)) ∧
   w.heap[w0.heap.size+1+1+1]?=some (.cells #[.func (.func g) #[] caps] 236 (0,0))∧TermsAt w pb tv2 ts ∧
   ∃ nb x,w.heap[w0.heap.size+1+1+1+1]?=some (.cells #[.int .i64 x] 31 (0,0))∧w.heap[w1.heap.size]?=some (.cells #[.bool nb] 4 (0,0))∧checkedF but ps p (ts.drop k) nb=checkedF but ps p ts false
  let Ix:Nat→World→Prop:=fun c w=>c=0∧Ext w0 w∧w.heap[w0.heap.size+1+1+1+1]?=some (.cells #[.int .i64 2] 31 (0,0))∧checkedF but ps p ts false=2
  have hLI:∀ k,Lasts w2.heap.size (I k):=fun k=>Lasts.and (Lasts.from (by omega)) (Lasts.and (Lasts.has _ (by simp)) (Lasts.and (Lasts.has _ (by simp)) (Lasts.and (Lasts.has _ (by simp)) (Lasts.and (TermsAt.lasts _ _ _ _)
   (Lasts.ex fun nb=>Lasts.ex fun x=>Lasts.and (Lasts.has _ (by simp)) (Lasts.and (Lasts.has _ (by simp)) (Lasts.const _ _)))))))
  have hLX:∀ k,Lasts w2.heap.size (Ix k):=fun k=>Lasts.and (Lasts.const _ _)<|Lasts.and (Lasts.from (by omega)) (Lasts.and (Lasts.has _ (by simp)) (Lasts.const _ _))
  refine ⟨_,_,ts.length,namesX ts,fun w=>TermsAt w pb tv2 ts,I,Ix,fun _ _=>False,rfl,c237,Names_seq pb tv2 ts,⟨eW,o5,o6,o7,hTA,false,0,o8,o9,rfl⟩,fun k w h=>h.2.2.2.2.1,hLI,hLX,?_,?_,?_,?_⟩
  · intro rec j w3 hj hI3 hrec hready
    refine ⟨hready,fun w4 hbz=>?_⟩
    have hrec4:=hrec.busied hbz
    have hI4:=(hLI j).busied hbz (Nat.le_succ _) hI3
    clear hI3 hrec hready hbz
    obtain ⟨e4,o5,o6,o7,hTA4,nb,x,o8,o9,hF⟩:=hI4
    obtain ⟨t,hx⟩:=getElem?_lt hj
    rw [show namesX ts j = .string t.field by unfold namesX;rw [hx]]
    have hd:ts.drop j=t::ts.drop (j+1):=by
     rw [List.drop_eq_getElem_cons hj]
     congr 1
     exact (List.getElem?_eq_some_iff.1 hx).2
    rw [hd] at hF
    simp only [checkedF] at hF
    have hm4:=hm.ext e4
    have s4:=e4.size
    have l9:w1.heap.size < w4.heap.size:=(Array.getElem?_eq_some_iff.1 o9).1
    have l8:w0.heap.size+1+1+1+1 < w4.heap.size:=(Array.getElem?_eq_some_iff.1 o8).1
    simp (disch:=try exact DI) only [↓PR,QR,simprocAttr,↓n97c1,↓n97c2,↓n97c3,↓n97c4,↓n97c5,↓n97c6,(cells_of_heap o5).1,(cells_of_heap o6).1]
    rw [op_lookupO Tryz.underlying122 Tryz.underlying9 ty74 hm4]
    have next:∀ nb' w5,Ext w4 w5→checkedF but ps p (ts.drop (j+1)) nb'=checkedF but ps p ts false→nb'=nb→I (j+1) w5:=fun nb' w5 e5 h hn=>(hLI (j+1)).ext _ _ ⟨e4,o5,o6,o7,hTA4,nb,x,o8,o9,hn ▸ h⟩ e5
    cases hl:lastOf ps t.field with
    | none =>
     rw [hl] at hF
     simp (disch:=try exact DI) only [↓PR,QR,simprocAttr,↓n97c1,↓n97c2,↓n97c3,↓n97c4,↓n97c5,↓n97c6,(cells_of_heap o5).1]
     by_cases hbut:t.field=but
     · rw [if_pos hbut] at hF
       simp only [hbut,decide_true]
       simp (disch:=try exact DI) only [↓PR,QR,simprocAttr]
       exact ⟨hrec4.alloc _,next nb _ ee hF rfl⟩
     · rw [if_neg hbut] at hF
       simp only [hbut,decide_false]
       simp (disch:=try exact DI) only [↓PR,QR,simprocAttr,↓n97c1,↓n97c2,↓n97c3,↓n97c4,↓n97c5,↓n97c6,(cells_of_heap o9).1,(cells_of_heap o9).2]
       refine ⟨(hrec4.setCell _ _).alloc _,ee,by simp (disch:=try exact DI) only [↓PR,QR,simprocAttr,o5],by simp (disch:=try exact DI) only [↓PR,QR,simprocAttr,o6],by simp (disch:=try exact DI) only [↓PR,QR,simprocAttr,o7],(hTA4.set (by omega) _).ext ((Ext.refl _).alloc _),true,x,by simp (disch:=try exact DI) only [↓PR,QR,simprocAttr,o8],?_,hF⟩
       have:=((Ext.refl _).alloc (.cells #[.int .i64 0,.int .i64 0] 74)).obj (heap_set (o:=0) o9 (.bool true))
       simpa using this
    | some v =>
     obtain ⟨lo,hi,rfl⟩:=hr _ _ hl
     rw [hl] at hF
     simp (disch:=try exact DI) only [↓PR,QR,simprocAttr,↓n97c1,↓n97c2,↓n97c3,↓n97c4,↓n97c5,↓n97c6,(cells_of_heap o5).1,rangeVal]
     by_cases hbut:t.field=but
     · rw [if_pos hbut] at hF
       simp only [hbut,decide_true]
       simp (disch:=try exact DI) only [↓PR,QR,simprocAttr]
       exact ⟨hrec4.alloc _,next nb _ ee hF rfl⟩
     · rw [if_neg hbut] at hF
       simp only [hbut,decide_false]
       simp (disch:=try exact DI) only [↓PR,QR,simprocAttr,↓n97c1,↓n97c2,↓n97c3,↓n97c4,↓n97c5,↓n97c6,(cells_of_heap o7).1]
       rw [callV_func hg]
       refine zcr (hc _ lo hi ee) fun w6 e6=>?_
       have s6:=e6.size
       simp only [World.size_alloc] at s6
       cases hp:p (rangeVal lo hi) with
       | true =>
        simp only [hp,if_true] at hF
        simp (disch:=try exact DI) only [↓PR,QR,simprocAttr,↓n97c1,↓n97c2,↓n97c3,↓n97c4,↓n97c5,↓n97c6]
        exact ⟨(hrec4.alloc _).ext e6,next nb _ ee hF rfl⟩
       | false =>
        simp only [hp,Bool.false_eq_true,if_false] at hF
        simp (disch:=try exact DI) only [↓PR,QR,simprocAttr,↓n97c1,↓n97c2,↓n97c3,↓n97c4,↓n97c5,↓n97c6,e6.cellQ,e6.frozenQ,(cells_of_heap o8).1,(cells_of_heap o8).2]
        refine ⟨((hrec4.alloc _).ext e6).setCell _ _,rfl,ee,?_,hF.symm⟩
        have:=heap_set (o:=0) ((((Ext.refl w4).alloc (.cells #[.int .i64 lo,.int .i64 hi] 74)).trans e6).obj o8) (.int .i64 2)
        simpa using this
  · rintro w3 ⟨e3,o5,o6,o7,hTA3,nb,x,o8,o9,hF⟩ hmk
    rw [List.drop_length] at hF
    simp only [checkedF] at hF
    have l2:w2.heap.size < w3.heap.size:=(Array.getElem?_eq_some_iff.1 hmk).1
    cases nb with
    | true =>
     simp (disch:=try exact DI) only [↓PR,QR,simprocAttr,↓n97c1,↓n97c2,↓n97c3,↓n97c4,↓n97c5,↓n97c6,(cells_of_heap o8).1,(cells_of_heap o8).2,(cells_of_heap o9).1]
     refine outX_mark (hmk.setCell _ _) ?_
     simp (disch:=try exact DI) only [↓PR,QR,simprocAttr,outX_nil,retV,resOne,cell_putMark (hmk.setCell _ _),(cells_of_heap o8).1]
     exact ⟨by rw [← hF];rfl,ee⟩
    | false =>
     simp (disch:=try exact DI) only [↓PR,QR,simprocAttr,↓n97c1,↓n97c2,↓n97c3,↓n97c4,↓n97c5,↓n97c6,(cells_of_heap o8).1,(cells_of_heap o8).2,(cells_of_heap o9).1]
     refine outX_mark (hmk.setCell _ _) ?_
     simp (disch:=try exact DI) only [↓PR,QR,simprocAttr,outX_nil,retV,resOne,cell_putMark (hmk.setCell _ _),(cells_of_heap o8).1]
     exact ⟨by rw [← hF];rfl,ee⟩
  · rintro c w3 ⟨rfl,e3,o8,hF⟩ hmk
    have l2:w2.heap.size < w3.heap.size:=(Array.getElem?_eq_some_iff.1 hmk).1
    show outX _ _ _ _ _
    refine outX_mark hmk ?_
    simp (disch:=try exact DI) only [↓PR,QR,simprocAttr,outX_nil,retV,resOne,cell_putMark hmk,(cells_of_heap o8).1]
    exact ⟨by rw [hF],ee⟩
  · rintro _ _ h
    exact h.elim
def numW (base:Int) (vf:TermD→Int) (ts:List TermD):Int:=ts.foldl (fun n t=>IntKind.i64.wrap (n+IntKind.i64.wrap (t.factor*vf t))) base
theorem number_ret (w0:World) (v:Value) (base:Int) (ts:List TermD) (g:FuncId) (caps:Array Value) (vf:TermD→Int) (hs:SizeVal w0 v base ts) (hg:Callable Pg g)
 (hc:∀ w t,Ext w0 w→Ret Pg g (#[termVal t]++caps) w fun r w'=>r = .int .i64 (vf t)∧Ext w w') :
 Ret Pg 231 #[v,.func (.func g) #[] caps] w0 fun r w'=>r = .int .i64 (numW base vf ts)∧Ext w0 w':=by
 obtain ⟨tv,rfl,hT⟩:=hs
 obtain ⟨A,c,rfl,hlc,hcm,hlm,hel⟩:=SliceOf.open hT
 refine n100s (R:=retR _) ?_;unfold n100
 simp (disch:=try exact DI) only [↓PR,QR,simprocAttr,↓n100c1,↓n100c2,↓n100c3]
 refine loop2_intro (fun a0 a1 w=>∃ (k:Nat) (n:Int),a0 = .int .i64 n∧a1 = .int .i64 (k:Int)∧k≤ts.length∧Ext w0 w∧numW n vf (ts.drop k)=numW base vf ts) (fun a0 a1 _=>ts.length - (intOf a1).toNat) ⟨0,base,rfl,rfl,Nat.zero_le _,ee,rfl⟩ ?_
 rintro _ _ w ⟨k,n,rfl,rfl,hk,e,hI⟩
 have se:=e.size
 rcases drop_cases hk with ⟨x,hx,hd,hlt,hdec⟩ | ⟨hk,hd,hdec⟩
 · obtain ⟨b,o,cs,rfl,hl,hA,rfl⟩:=hel k x hx
   rw [hd] at hI
   simp (disch:=try exact DI) only [↓PR,QR,simprocAttr,↓n100c1,↓n100c2,↓n100c3,hdec,hA.c2]
   refine drawK_intro ?_
   simp (disch:=try exact DI) only [↓PR,QR,simprocAttr,↓n100c1,↓n100c2,↓n100c3]
   rw [callV_func hg]
   refine zcr (hc _ x ee) fun w1 e1=>?_
   refine ⟨e1,?_⟩
   simp (disch:=try exact DI) only [↓PR,QR,simprocAttr,↓n100c1,↓n100c2,↓n100c3]
   exact ⟨⟨k+1,_,rfl,rfl,by omega,ee,hI⟩,meas_lt (kd := .i64) hlt⟩
 · subst hk
   simp (disch:=try exact DI) only [↓PR,QR,simprocAttr,↓n100c1,↓n100c2,↓n100c3,hdec]
   rw [hd] at hI
   exact ⟨by rw [← hI];rfl,e⟩
def RP (rp:List (ByteArray×Int×Int)):List (ByteArray×Value):=rp.map fun p=>(p.1,rangeVal p.2.1 p.2.2)
def lastR (rp:List (ByteArray×Int×Int)) (s:ByteArray):Option (Int×Int):=(rp.reverse.find? (fun p=>decide (p.1=s))).map (·.2)
theorem lastOf_RP (rp:List (ByteArray×Int×Int)) (s:ByteArray):lastOf (RP rp) s=(lastR rp s).map fun q=>rangeVal q.1 q.2:=by
 unfold lastOf RP lastR
 rw [← List.map_reverse,List.find?_map]
 simp only [Option.map_map]
 rfl
def numR (l:List FieldD):List (ByteArray×Int×Int):=(l.filter numberB).map fun f=>(f.name,f.low,highOf f)
theorem numPairs_RP (l:List FieldD):numPairs l=RP (numR l):=by
 unfold numPairs RP numR
 rw [List.map_map]
 rfl
def endF (rp:List (ByteArray×Int×Int)) (least:Bool) (t:TermD):Int:=match lastR rp t.field with
 | some (lo,hi)=>if least == decide (t.factor > 0) then lo else hi
 | none=>0
theorem end_ret (w0:World) (t:TermD) (pm pl m:Nat) (rp:List (ByteArray×Int×Int)) (least:Bool) (h1:w0.cell? ⟨pm,0,none⟩=some (.map (some m))) (h2:w0.cell? ⟨pl,0,none⟩=some (.bool least)) (hm:MapOf w0 m (RP rp)) :
 Ret Pg 232 #[termVal t,.pointer (some ⟨pm,0,none⟩),.pointer (some ⟨pl,0,none⟩)] w0 fun r w'=>r = .int .i64 (endF rp least t)∧Ext w0 w':=by
 have hb1:=World.block_lt_of_cell? w0 _ h1
 have hb2:=World.block_lt_of_cell? w0 _ h2
 simp only at hb1 hb2
 unfold termVal
 refine n89s (R:=retR _) ?_;unfold n89
 simp (disch:=try exact DI) only [↓PR,QR,simprocAttr,h1,h2]
 rw [op_lookup1O Tryz.underlying122 Tryz.underlying9 ty74 (hm.ext ee),lastOf_RP]
 unfold endF
 cases hl:lastR rp t.field with
 | none =>
  simp (disch:=try exact DI) only [↓PR,QR,simprocAttr,↓n89c1,h1,h2,Option.map_none]
  cases (least == decide (0 < t.factor)) with
  | true=>simp (disch:=try exact DI) only [↓PR,QR,simprocAttr,↓n89c1,h1,h2];exact ⟨by first | trivial | rfl,ee⟩
  | false =>
   simp (disch:=try exact DI) only [↓PR,QR,simprocAttr,↓n89c1,h1,h2]
   rw [op_lookup1O Tryz.underlying122 Tryz.underlying9 ty74 (hm.ext ee),lastOf_RP,hl]
   simp (disch:=try exact DI) only [↓PR,QR,simprocAttr,↓n89c1,Option.map_none]
   exact ⟨by first | trivial | rfl,ee⟩
 | some q =>
  obtain ⟨lo,hi⟩:=q
  simp (disch:=try exact DI) only [↓PR,QR,simprocAttr,↓n89c1,h1,h2,rangeVal]
  cases (least == decide (0 < t.factor)) with
  | true=>simp (disch:=try exact DI) only [↓PR,QR,simprocAttr,↓n89c1,h1,h2];exact ⟨by first | trivial | rfl,ee⟩
  | false =>
   simp (disch:=try exact DI) only [↓PR,QR,simprocAttr,↓n89c1,h1,h2]
   rw [op_lookup1O Tryz.underlying122 Tryz.underlying9 ty74 (hm.ext ee),lastOf_RP,hl]
   simp (disch:=try exact DI) only [↓PR,QR,simprocAttr,↓n89c1,rangeVal]
   exact ⟨by first | trivial | rfl,ee⟩
def wideB (lo hi:Int):Bool:=decide (0≤lo)&&decide (lo≤hi)&&decide (hi < 34359738368)
def wideV:Value→Bool
 | .agg a=>match a.toList with
  | [.int _ lo,.int _ hi]=>wideB lo hi
  | _=>false
 | _=>false
theorem fine_ret (w0:World) (lo hi:Int):Ret Pg 228 #[rangeVal lo hi] w0 fun r w'=>r = .bool (wideV (rangeVal lo hi))∧Ext w0 w':=by
 unfold rangeVal
 refine n87s (R:=retR _) ?_;unfold n87
 simp (disch:=try exact DI) only [↓PR,QR,simprocAttr,Sw.joinK_eq]
 refine zcr (all3_ret (by simp only [World.size_alloc]) _ _ _ _) fun w1 e1=>?_
 have s1:=e1.size
 try simp only [World.size_alloc,World.size_setCell,World.size_drew,World.putObj_size,Sw.putW_size] at s1
 simp (disch:=try exact DI) only [↓PR,QR,simprocAttr,Sw.joinK_eq]
 exact ⟨rfl,ee⟩
theorem ends_ret (w0:World) (pm ps m:Nat) (rp:List (ByteArray×Int×Int)) (least:Bool) (base:Int) (tv:Value) (ts:List TermD) (h0:w0.cell? ⟨ps,0,none⟩=some (.int .i64 base)) (h0':w0.cell? ⟨ps,1,none⟩=some tv) (hT:TermsOf w0 tv ts)
 (h1:w0.cell? ⟨pm,0,none⟩=some (.map (some m))) (hm:MapOf w0 m (RP rp)) :
 Ret Pg 230 #[.bool least,.pointer (some ⟨ps,0,none⟩),.pointer (some ⟨pm,0,none⟩)] w0 fun r w'=>r = .int .i64 (numW base (endF rp least) ts)∧Ext w0 w':=by
 have hb1:=World.block_lt_of_cell? w0 _ h0
 have hb2:=World.block_lt_of_cell? w0 _ h1
 simp only at hb1 hb2
 refine n88s (R:=retR _) ?_;unfold n88
 simp (disch:=try exact DI) only [↓PR,QR,simprocAttr,h0,h0']
 refine callK_ret (number_ret _ _ base ts _ _ (endF rp least) ⟨tv,rfl,TermsOf.ext hT ee⟩ c232 ?_) ?_
 · intro w t e
   exact end_ret w t pm w0.heap.size m rp least (((Ext.refl w0).alloc _).trans e |>.cell h1) (e.cell (by simp (disch:=try exact DI) only [↓PR,QR,simprocAttr])) (hm.ext (((Ext.refl w0).alloc _).trans e))
 rintro _ w1 ⟨rfl,e1⟩
 simp (disch:=try exact DI) only [↓PR,QR,simprocAttr,Sw.joinK_eq]
 exact ⟨by first | trivial | rfl,ee⟩
def intervalE (base:Int) (ts:List TermD) (rp:List (ByteArray×Int×Int)):Int:=if sizeB base ts then checkedF ByteArray.empty (RP rp) wideV ts false else 2
def intervalL (base:Int) (ts:List TermD) (rp:List (ByteArray×Int×Int)):Int:=if intervalE base ts rp=0 then numW base (endF rp true) ts else 0
def intervalH (base:Int) (ts:List TermD) (rp:List (ByteArray×Int×Int)):Int:=if intervalE base ts rp=0 then numW base (endF rp false) ts else 0
theorem Interval_ret (w0:World) (v:Value) (base:Int) (ts:List TermD) (m:Nat) (rp:List (ByteArray×Int×Int)) (hs:SizeVal w0 v base ts) (hb:ts.length≤1048576) (hm:MapOf w0 m (RP rp)) :
 Ret Pg 220 #[v,.map (some m)] w0 fun r w'=>r = .tuple #[rangeVal (intervalL base ts rp) (intervalH base ts rp),.int .i64 (intervalE base ts rp)]∧Ext w0 w':=by
 obtain ⟨tv,rfl,hT⟩:=hs
 have hT1:=SliceOf.oneCell hT
 have hmlt:=hm.lt
 refine n86s (R:=retR _) ?_;unfold n86
 simp (disch:=try exact DI) only [↓PR,QR,simprocAttr,↓n86c1,↓n86c2,↓n86c3]
 refine callK_ret (checked_Range_ret _ _ base ts ByteArray.empty m (RP rp) _ _ wideV ⟨tv,rfl,TermsOf.ext hT ee⟩ hb (hm.ext ee) (fun k v hv=>?_) c228 (fun w lo hi e=>by simpa using fine_ret w lo hi)) ?_
 · rw [lastOf_RP] at hv
   obtain ⟨q,_,rfl⟩:=Option.map_eq_some_iff.1 hv
   exact ⟨q.1,q.2,rfl⟩
 rintro _ w1 ⟨rfl,e1⟩
 have s1:=e1.size
 simp only [World.size_alloc] at s1
 show n86c3 _ _ _ (.int .i64 (intervalE base ts rp)) _ w1
 unfold intervalL intervalH
 by_cases hE:intervalE base ts rp=0
 · rw [hE]
   simp (disch:=try exact DI) only [↓PR,QR,simprocAttr,↓n86c1,↓n86c2,↓n86c3]
   have c0:w1.cell? ⟨w0.heap.size,0,none⟩=some (.int .i64 base):=by simp (disch:=try exact DI) only [↓PR,QR,simprocAttr,e1.cellQ]
   have c1:w1.cell? ⟨w0.heap.size,1,none⟩=some tv:=by simp (disch:=try exact DI) only [↓PR,QR,simprocAttr,e1.cellQ]
   have c2:w1.cell? ⟨w0.heap.size+1,0,none⟩=some (.map (some m)):=by simp (disch:=try exact DI) only [↓PR,QR,simprocAttr,e1.cellQ]
   have eW:Ext w0 w1:=ee
   rw [callV_func c230]
   refine zcr (ends_ret w1 _ _ m rp true base tv ts c0 c1 (hT.ext eW) c2 (hm.ext eW)) fun w2 e2=>?_
   have s2:=e2.size
   simp only [World.size_alloc]
   rw [callV_func c230]
   refine zcr (ends_ret w2 _ _ m rp false base tv ts (e2.cell c0) (e2.cell c1) ((TermsOf.ext hT eW).ext e2) (e2.cell c2) ((hm.ext eW).ext e2)) fun w3 e3=>?_
   have s3:=e3.size
   simp (disch:=try exact DI) only [↓PR,QR,simprocAttr,↓n86c1,↓n86c2,↓n86c3,e1.cellQ,e1.frozenQ,e2.cellQ,e2.frozenQ,e3.cellQ,e3.frozenQ]
   exact ⟨by first | trivial | rfl,ee⟩
 · have hne:(intervalE base ts rp != 0)=true:=by simpa using hE
   simp (disch:=try exact DI) only [↓PR,QR,simprocAttr,↓n86c1,↓n86c2,↓n86c3,hne,e1.cellQ,e1.frozenQ]
   simp only [hE,if_false]
   exact ⟨by first | trivial | rfl,ee⟩
def n33c1 (t2 t4 t21:Value) (Kr2:World→Prop) (Qr2:List PanicEntry→World→Prop) (R:RT) (w:World):Prop :=
 opV Pg (Instr.loadAt 122 t4) Qr2 w fun t23 w =>
 opV Pg (Instr.lookup 122 t23 t21 true) Qr2 w fun t25 w =>
 opV Pg (Instr.extract t25 0) Qr2 w fun t26 w =>
 opV Pg (Instr.extract t25 1) Qr2 w fun t27 w =>
 opV Pg (Instr.alloc 74 true (.tuple #[])) Qr2 w fun t6 w =>
 opU Pg (Instr.storeAt 74 t6 t26) Qr2 w fun w =>
 opV Pg (Instr.loadAt 140 t2) Qr2 w fun t28 w =>
 callK Pg 122 #[t28,t27,(.int .i64 8)] Qr2 w fun t30 w =>
 Kr2 w
def n33c2 (t8 t38 t40 t44:Value) (ds:List Deferred) (R:RT) (w:World):Prop :=
 pickK t40 t44 (.bool false) fun t45 =>
 joinK (fun (t49:Value) (w:World) =>
 pickK t45 t49 (.bool false) fun t50 =>
 callK Pg 122 #[t38,t50,(.int .i64 9)] (outQ Pg ds [] R) w fun t51 w =>
 outX Pg ds [] R w) fun K4 =>
 guardP t45 true (
 opV Pg (Instr.fieldAt 74 t8 1) (outQ Pg ds [] R) w fun t47 w =>
 opV Pg (Instr.loadAt 3 t47) (outQ Pg ds [] R) w fun t48 w =>
 opV Pg (binS .leq 3 true t48 (.int .i64 1048576)) (outQ Pg ds [] R) w fun t49 w =>
 K4 t49 w) (
 K4 undef w)
def n33c3 (t2 t35:Value) (ds:List Deferred) (R:RT) (w:World):Prop :=
 opV Pg (Instr.extract t35 0) (outQ Pg ds [] R) w fun t36 w =>
 opV Pg (Instr.extract t35 1) (outQ Pg ds [] R) w fun t37 w =>
 opV Pg (Instr.alloc 74 true (.tuple #[])) (outQ Pg ds [] R) w fun t8 w =>
 opU Pg (Instr.storeAt 74 t8 t36) (outQ Pg ds [] R) w fun w =>
 opV Pg (Instr.loadAt 140 t2) (outQ Pg ds [] R) w fun t38 w =>
 opV Pg (binS .eql 31 true t37 (.int .i64 0)) (outQ Pg ds [] R) w fun t40 w =>
 joinK (fun (t44:Value) (w:World) =>
 n33c2 t8 t38 t40 t44 ds R w) fun K3 =>
 guardP t40 true (
 opV Pg (Instr.fieldAt 74 t8 0) (outQ Pg ds [] R) w fun t42 w =>
 opV Pg (Instr.loadAt 3 t42) (outQ Pg ds [] R) w fun t43 w =>
 opV Pg (binS .geq 3 true t43 (.int .i64 0)) (outQ Pg ds [] R) w fun t44 w =>
 K3 t44 w) (
 K3 undef w)
def n33c4 (t2 t3 t4:Value) (ds:List Deferred) (R:RT) (w:World):Prop :=
 opV Pg (Instr.fieldAt 48 t3 7) (outQ Pg ds [] R) w fun t32 w =>
 opV Pg (Instr.loadAt 45 t32) (outQ Pg ds [] R) w fun t33 w =>
 opV Pg (Instr.loadAt 122 t4) (outQ Pg ds [] R) w fun t34 w =>
 callK Pg 220 #[t33,t34] (outQ Pg ds [] R) w fun t35 w =>
 n33c3 t2 t35 ds R w
def n33c5 (t2 t3 t4 t20:Value) (ds:List Deferred) (R:RT) (w:World):Prop :=
 rangeN Pg t20 ds (fun l2 t21 w Kr2 Xr2 Qr2 =>
 busyK l2 w fun w =>
 n33c1 t2 t4 t21 Kr2 Qr2 R w) (fun ch ds w=>outQ Pg ds [] R ch w) w (fun ds w =>
 n33c4 t2 t3 t4 ds R w) []
def n33c6 (t2 t3 t17:Value) (ds:List Deferred) (R:RT) (w:World):Prop :=
 opV Pg (Instr.alloc 122 true (.tuple #[])) (outQ Pg ds [] R) w fun t4 w =>
 opU Pg (Instr.storeAt 122 t4 t17) (outQ Pg ds [] R) w fun w =>
 opV Pg (Instr.fieldAt 48 t3 7) (outQ Pg ds [] R) w fun t18 w =>
 opV Pg (Instr.loadAt 45 t18) (outQ Pg ds [] R) w fun t19 w =>
 callK Pg 225 #[t19] (outQ Pg ds [] R) w fun t20 w =>
 n33c5 t2 t3 t4 t20 ds R w
def n33c7 (t2 t3:Value) (ds:List Deferred) (R:RT) (w:World):Prop :=
 opV Pg (Instr.loadAt 140 t2) (outQ Pg ds [] R) w fun t15 w =>
 callK Pg 184 #[t15] (outQ Pg ds [] R) w fun t16 w =>
 callK Pg 224 #[t16] (outQ Pg ds [] R) w fun t17 w =>
 n33c6 t2 t3 t17 ds R w
def n33c8 (t2 t3:Value) (C1:World→Prop) (ds:List Deferred) (R:RT) (w:World):Prop :=
 qV Pg C1 (Instr.loadAt 140 t2) fun t10 =>
 qV Pg C1 (Instr.fieldAt 48 t3 7) fun t11 =>
 qV Pg C1 (Instr.loadAt 45 t11) fun t12 =>
 callK Pg 223 #[t12] (outQ Pg ds [] R) w fun t13 w =>
 C1 w∧(
 callK Pg 122 #[t10,t13,(.int .i64 9)] (outQ Pg ds [] R) w fun t14 w =>
 C1 w∧(
 n33c7 t2 t3 ds R w))
def n33 (t0 t1:Value) (R:RT) (w:World):Prop :=
 (fun (ds:List Deferred) =>
 opV Pg (Instr.box 140 t0) (outQ Pg ds [] R) w fun t2 w =>
 opV Pg (Instr.box 48 t1) (outQ Pg ds [] R) w fun t3 w =>
 drawK w fun C1 w =>
 n33c8 t2 t3 C1 ds R w) []
theorem n33s {t0 t1:Value} {R:RT} {w:World} (h:n33 t0 t1 R w):Calls Pg 202 #[t0,t1] w R:=by
 refine yE Tryz.func202 ?_
 unfold n33 at h
 dsimp only at h
 refine zs<|zr<|yv h fun _ w h=>yv h fun _ w h=>zn<|zk<|zs<|yh [10,11,12,13,14] h fun C hC h=>ye 0 hC h fun _ h=>?_
 refine ye 1 hC h fun _ h=>?_
 refine ye 2 hC h fun _ h=>?_
 refine yo 3 ?_
 refine yc h c223 fun _ w h=>zn ?_
 obtain ⟨hC,h⟩:=h
 refine ⟨hC,?_⟩
 refine yo 4 ?_
 refine yc h c122 fun _ w h=>zn ?_
 obtain ⟨hC,h⟩:=h
 refine ⟨hC,?_⟩
 refine yz<|zk<|zs<|zr<|yv h fun _ w h=>yc h c184 fun _ w h=>yc h c224 fun _ w h=>yv h fun _ w h=>yu h fun w h=>zn<|zk<|zs<|zs<|zr<|yv h fun _ w h=>?_
 refine yv h fun _ w h=>yc h c225 fun _ w h=>zn<|zk<|sim_block<|sim_range [] h rfl (fun l2 t21 w Kr2 Xr2 Qr2 h=>?_) (fun ds w h=>?_) (fun c ds w h=>?_) (fun ch ds w h=>outQ_of rfl h)
 · refine zr<|zm<|zn<|zk ?_
   obtain ⟨hr,h⟩:=h
   refine ⟨rfl,hr,fun w hb=>?_⟩
   have h:=h w hb
   refine sim_block<|zs<|zr<|yv h fun _ w h=>zm<|yv h fun _ w h=>zm<|yv h fun _ w h=>yv h fun _ w h=>yv h fun _ w h=>yu h fun w h=>zm<|zn<|zk<|zr ?_
   exact yv h fun _ w h=>zm<|yc h c122 fun _ w h=>zn<|sim_block_normal<|⟨rfl,h⟩
 · refine sim_block_normal<|zk<|zs<|zr<|yv h fun _ w h=>yv h fun _ w h=>yv h fun _ w h=>yc h c220 fun _ w h=>zm<|yv h fun _ w h=>yv h fun _ w h=>yv h fun _ w h=>yu h fun w h=>zm<|zn ?_
   refine zk<|sim_regionG<|yG 4<|yv h fun _ w h=>zm<|yb h fun _ w h=>zm<|zn<|yg1 3 3 true [42,43,44] 44 h (fun _ T hT h=>?_) fun σ w h=>?_
   · refine yv h fun _ w h=>yv h fun _ w h=>yb h fun _ w h=>zn ?_
     exact zt hT h
   refine yG 2<|yp h fun _ h=>zm<|zn<|yg1 3 8 true [47,48,49] 49 h (fun _ T hT h=>?_) fun σ w h=>?_
   · refine yv h fun _ w h=>yv h fun _ w h=>yb h fun _ w h=>zn ?_
     exact zt hT h
   exact yG 2<|yp h fun _ h=>yc h c122 fun _ w h=>zn<|sim_end<|bodyM_normal<|bodyM_ret rfl h
 exact h.elim
def n60 (t0:Value) (R:RT) (w:World):Prop :=
 opN Pg (nilN t0) (panK R) w fun t4 w =>
 F0 48 t4 5 R w fun t5 w =>
 opU Pg (Instr.storeAt 3 t5 (.int .i64 0)) (panK R) w fun w =>
 opN Pg (nilN t0) (panK R) w fun t6 w =>
 F0 48 t6 6 R w fun t7 w =>
 opU Pg (Instr.storeAt 3 t7 (.int .i64 0)) (panK R) w fun w =>
 R (.returned (.tuple #[])) w
theorem n60s {t0:Value} {R:RT} {w:World} (h:n60 t0 R w):Calls Pg 203 #[t0] w R:=by
 refine yD Tryz.func203 ?_
 exact zr<|zm<|zm<|yN h fun _ w h=>yv h fun _ w h=>yu h fun w h=>yN h fun _ w h=>yv h fun _ w h=>yu h fun w h=>zn<|body_normal<|body_ret0 rfl h
def n61c1 (t0 t3:Value) (R:RT) (w:World):Prop :=
 F0 48 t3 6 R w fun t10 w =>
 L0 3 t10 R w fun t11 w =>
 opV Pg (Instr.buildSlice 30 1 #[(0,t11)]) (panK R) w fun t12 w =>
 C0 196 #[t0,(.int .i64 0),(.int .i64 1048576),t12] R w fun t13 w =>
 R (.returned (.tuple #[])) w
def n61 (t0 t1:Value) (R:RT) (w:World):Prop :=
 opV Pg (Instr.box 48 t1) (panK R) w fun t3 w =>
 F0 48 t3 5 R w fun t5 w =>
 L0 3 t5 R w fun t6 w =>
 opV Pg (Instr.buildSlice 30 1 #[(0,t6)]) (panK R) w fun t7 w =>
 C0 196 #[t0,(.int .i64 0),(.int .i64 255),t7] R w fun t8 w =>
 n61c1 t0 t3 R w
theorem n61s {t0 t1:Value} {R:RT} {w:World} (h:n61 t0 t1 R w):Calls Pg 204 #[t0,t1] w R:=by
 refine yD Tryz.func204 ?_
 refine zs<|zr<|yv h fun _ w h=>zn<|zk<|zs<|zr<|zm<|yv h fun _ w h=>yv h fun _ w h=>yS h fun _ w h=>yc h c196 fun _ w h=>zn<|zk<|zr ?_
 exact zm<|yv h fun _ w h=>yv h fun _ w h=>yS h fun _ w h=>yc h c196 fun _ w h=>zn<|body_normal<|body_ret0 rfl h
def n41 (t0:Value) (R:RT) (w:World):Prop :=
 opN Pg (nilN t0) (panK R) w fun t4 w =>
 F0 48 t4 4 R w fun t5 w =>
 opU Pg (Instr.storeAt 4 t5 (.bool false)) (panK R) w fun w =>
 opN Pg (nilN t0) (panK R) w fun t6 w =>
 F0 48 t6 6 R w fun t7 w =>
 opU Pg (Instr.storeAt 3 t7 (.int .i64 0)) (panK R) w fun w =>
 R (.returned (.tuple #[])) w
theorem n41s {t0:Value} {R:RT} {w:World} (h:n41 t0 R w):Calls Pg 205 #[t0] w R:=by
 refine yD Tryz.func205 ?_
 exact zr<|zm<|zm<|yN h fun _ w h=>yv h fun _ w h=>yu h fun w h=>yN h fun _ w h=>yv h fun _ w h=>yu h fun w h=>zn<|body_normal<|body_ret0 rfl h
def n42 (t0 t1:Value) (R:RT) (w:World):Prop :=
 opV Pg (Instr.box 48 t1) (panK R) w fun t3 w =>
 F0 48 t3 6 R w fun t5 w =>
 L0 3 t5 R w fun t6 w =>
 opV Pg (Instr.buildSlice 30 1 #[(0,t6)]) (panK R) w fun t7 w =>
 C0 196 #[t0,(.int .i64 2),(.int .i64 1048576),t7] R w fun t8 w =>
 R (.returned (.tuple #[])) w
theorem n42s {t0 t1:Value} {R:RT} {w:World} (h:n42 t0 t1 R w):Calls Pg 206 #[t0,t1] w R:=by
 refine yD Tryz.func206 ?_
 exact zs<|zr<|yv h fun _ w h=>zn<|zk<|zr<|zm<|yv h fun _ w h=>yv h fun _ w h=>yS h fun _ w h=>yc h c196 fun _ w h=>zn<|body_normal<|body_ret0 rfl h
def n43 (t0:Value) (R:RT) (w:World):Prop :=
 opV Pg (Instr.build 45 #[]) (panK R) w fun t4 w =>
 opN Pg (nilN t0) (panK R) w fun t5 w =>
 F0 48 t5 8 R w fun t6 w =>
 opU Pg (Instr.storeAt 9 t6 (.string { data := #[] })) (panK R) w fun w =>
 opN Pg (nilN t0) (panK R) w fun t7 w =>
 F0 48 t7 7 R w fun t8 w =>
 opU Pg (Instr.storeAt 45 t8 t4) (panK R) w fun w =>
 R (.returned (.tuple #[])) w
theorem n43s {t0:Value} {R:RT} {w:World} (h:n43 t0 R w):Calls Pg 207 #[t0] w R:=by
 refine yD Tryz.func207 ?_
 exact zr<|zm<|zm<|yB h fun _ w h=>yN h fun _ w h=>yv h fun _ w h=>yu h fun w h=>yN h fun _ w h=>yv h fun _ w h=>yu h fun w h=>zn<|body_normal<|body_ret0 rfl h
def n44 (t0 t1:Value) (R:RT) (w:World):Prop :=
 opV Pg (Instr.box 48 t1) (panK R) w fun t3 w =>
 F0 48 t3 8 R w fun t5 w =>
 L0 9 t5 R w fun t6 w =>
 C0 209 #[t0,t6] R w fun t7 w =>
 L0 48 t3 R w fun t9 w =>
 C0 202 #[t0,t9] R w fun t10 w =>
 R (.returned (.tuple #[])) w
theorem n44s {t0 t1:Value} {R:RT} {w:World} (h:n44 t0 t1 R w):Calls Pg 208 #[t0,t1] w R:=by
 refine yD Tryz.func208 ?_
 refine zs<|zr<|yv h fun _ w h=>zn<|zk<|zs<|zr<|zm<|yv h fun _ w h=>yv h fun _ w h=>yc h c209 fun _ w h=>zn<|zk<|zr<|zm ?_
 exact yv h fun _ w h=>yc h c202 fun _ w h=>zn<|body_normal<|body_ret0 rfl h
def n32 (t0 t1:Value) (R:RT) (w:World):Prop :=
 opN Pg (nilN t0) (panK R) w fun t8 w =>
 F0 164 t8 1 R w fun t9 w =>
 L0 161 t9 R w fun t10 w =>
 opV Pg (Instr.lookup 161 t10 t1 true) (panK R) w fun t12 w =>
 opV Pg (Instr.extract t12 0) (panK R) w fun t13 w =>
 opV Pg (Instr.extract t12 1) (panK R) w fun t14 w =>
 C0 122 #[t0,t14,(.int .i64 8)] R w fun t17 w =>
 R (.returned (.tuple #[])) w
theorem n32s {t0 t1:Value} {R:RT} {w:World} (h:n32 t0 t1 R w):Calls Pg 209 #[t0,t1] w R:=by
 refine yD Tryz.func209 ?_
 refine zs<|zr<|zm<|yN h fun _ w h=>yv h fun _ w h=>yv h fun _ w h=>zm<|yv h fun _ w h=>zm<|yv h fun _ w h=>yv h fun _ w h=>zm<|zm<|zn<|zk ?_
 exact zr<|zm<|zm<|yc h c122 fun _ w h=>zn<|body_normal<|body_ret0 rfl h
def n45 (t0:Value) (R:RT) (w:World):Prop :=
 opN Pg (nilN t0) (panK R) w fun t3 w =>
 F0 48 t3 8 R w fun t4 w =>
 opU Pg (Instr.storeAt 9 t4 (.string { data := #[] })) (panK R) w fun w =>
 R (.returned (.tuple #[])) w
theorem n45s {t0:Value} {R:RT} {w:World} (h:n45 t0 R w):Calls Pg 210 #[t0] w R:=by
 refine yD Tryz.func210 ?_
 exact zr<|zm<|yN h fun _ w h=>yv h fun _ w h=>yu h fun w h=>zn<|body_normal<|body_ret0 rfl h
def n46 (t0 t1:Value) (R:RT) (w:World):Prop :=
 opV Pg (Instr.box 48 t1) (panK R) w fun t3 w =>
 F0 48 t3 8 R w fun t5 w =>
 L0 9 t5 R w fun t6 w =>
 C0 209 #[t0,t6] R w fun t7 w =>
 R (.returned (.tuple #[])) w
theorem n46s {t0 t1:Value} {R:RT} {w:World} (h:n46 t0 t1 R w):Calls Pg 211 #[t0,t1] w R:=by
 refine yD Tryz.func211 ?_
 exact zs<|zr<|yv h fun _ w h=>zn<|zk<|zr<|zm<|yv h fun _ w h=>yv h fun _ w h=>yc h c209 fun _ w h=>zn<|body_normal<|body_ret0 rfl h
def n47 (t0:Value) (R:RT) (w:World):Prop :=
 opN Pg (nilN t0) (panK R) w fun t4 w =>
 F0 48 t4 9 R w fun t5 w =>
 opU Pg (Instr.storeAt 9 t5 (.string { data := #[] })) (panK R) w fun w =>
 opN Pg (nilN t0) (panK R) w fun t6 w =>
 F0 48 t6 11 R w fun t7 w =>
 opU Pg (Instr.storeAt 46 t7 (Value.slice none 0 0)) (panK R) w fun w =>
 R (.returned (.tuple #[])) w
theorem n47s {t0:Value} {R:RT} {w:World} (h:n47 t0 R w):Calls Pg 212 #[t0] w R:=by
 refine yD Tryz.func212 ?_
 exact zr<|zm<|zm<|yN h fun _ w h=>yv h fun _ w h=>yu h fun w h=>yN h fun _ w h=>yv h fun _ w h=>yu h fun w h=>zn<|body_normal<|body_ret0 rfl h
def n27c1 (t9 t47:Value) (next5:KW) (R:RT) (w:World):Prop :=
 F0 60 t9 1 R w fun t65 w =>
 L0 3 t65 R w fun t66 w =>
 B0 .add 3 true t66 (.int .i64 1) R w fun t67 w =>
 B0 .add 3 true t47 (.int .i64 1) R w fun t68 w =>
 next5 t67 t68 w
def n27c2 (t0 t9 t47:Value) (next5:KW) (R:RT) (w:World):Prop :=
 F0 60 t9 2 R w fun t62 w =>
 L0 9 t62 R w fun t63 w =>
 C0 209 #[t0,t63] R w fun t64 w =>
 n27c1 t9 t47 next5 R w
def n27c3 (t0 t4 t7 t45 t47:Value) (next5:KW) (R:RT) (w:World):Prop :=
 X0 46 t45 t47 R w fun t49 w =>
 L0 60 t49 R w fun t50 w =>
 opV Pg (Instr.alloc 60 true (.tuple #[])) (panK R) w fun t9 w =>
 opU Pg (Instr.storeAt 60 t9 t50) (panK R) w fun w =>
 F0 74 t4 1 R w fun t53 w =>
 L0 3 t53 R w fun t54 w =>
 F0 60 t9 0 R w fun t55 w =>
 L0 3 t55 R w fun t56 w =>
 F0 60 t9 1 R w fun t57 w =>
 L0 3 t57 R w fun t58 w =>
 opV Pg (Instr.buildSlice 30 2 #[(0,t56),(1,t58)]) (panK R) w fun t59 w =>
 C0 196 #[t0,t7,t54,t59] R w fun t60 w =>
 n27c2 t0 t9 t47 next5 R w
def n27c4 (t0 t3 t4:Value) (R:RT) (w:World):Prop :=
 F0 74 t4 0 R w fun t42 w =>
 L0 3 t42 R w fun t43 w =>
 F0 48 t3 11 R w fun t44 w =>
 L0 46 t44 R w fun t45 w =>
 opV Pg (Builtin.len_ #[46] 3 #[t45]) (panK R) w fun t46 w =>
 loop2 (fun t7 t47 w next5 =>
 B0 .lss 3 false t47 t46 R w fun t48 w =>
 condP t48 (
 n27c3 t0 t4 t7 t45 t47 next5 R w) (
 R (.returned (.tuple #[])) w)) t43 (.int .i64 0) w
def n27c5 (t0 t3 t4:Value) (R:RT) (w:World):Prop :=
 F0 48 t3 11 R w fun t31 w =>
 L0 46 t31 R w fun t32 w =>
 opV Pg (Builtin.len_ #[46] 3 #[t32]) (panK R) w fun t33 w =>
 B0 .geq 3 true t33 (.int .i64 1) R w fun t34 w =>
 joinK (fun (t39:Value) (w:World) =>
 pickK t34 t39 (.bool false) fun t40 =>
 C0 122 #[t0,t40,(.int .i64 3)] R w fun t41 w =>
 n27c4 t0 t3 t4 R w) fun K4 =>
 guardP t34 true (
 F0 48 t3 11 R w fun t36 w =>
 L0 46 t36 R w fun t37 w =>
 opV Pg (Builtin.len_ #[46] 3 #[t37]) (panK R) w fun t38 w =>
 B0 .leq 3 true t38 (.int .i64 40) R w fun t39 w =>
 K4 t39 w) (
 K4 undef w)
def n27c6 (t0 t3 t4 t5 t22:Value) (R:RT) (w:World):Prop :=
 joinK (fun (t27:Value) (w:World) =>
 pickK t5 t27 (.bool false) fun t28 =>
 C0 122 #[t0,t28,(.int .i64 8)] R w fun t29 w =>
 n27c5 t0 t3 t4 R w) fun K3 =>
 guardP t5 true (
 opV Pg (Op.unary .not t22) (panK R) w fun t27 w =>
 K3 t27 w) (
 K3 undef w)
def n27c7 (t0 t3 t4 t5:Value) (R:RT) (w:World):Prop :=
 C0 184 #[t0] R w fun t20 w =>
 opV Pg (Instr.makeFunc (.func 227) #[] #[t3]) (panK R) w fun t21 w =>
 C0 226 #[t20,t21] R w fun t22 w =>
 n27c6 t0 t3 t4 t5 t22 R w
def n27c8 (t13 t15:Value) (C7:World→Prop) (K2:KW) (R:RT) (w:World):Prop :=
 qV Pg C7 (Instr.lookup 122 t13 t15 true) fun t16 =>
 qV Pg C7 (Instr.extract t16 0) fun t17 =>
 qV Pg C7 (Instr.extract t16 1) fun t18 =>
 opV Pg (Instr.alloc 74 true (.tuple #[])) (panK R) w fun t4 w =>
 C7 w∧(
 opU Pg (Instr.storeAt 74 t4 t17) (panK R) w fun w =>
 C7 w∧(
 K2 t4 t18 w))
def n27c9 (t4 t13 t15:Value) (C8:World→Prop) (K2:KW) (R:RT) (w:World):Prop :=
 qV Pg C8 (Instr.lookup 122 t13 t15 true) fun t16 =>
 qV Pg C8 (Instr.extract t16 0) fun t17 =>
 qV Pg C8 (Instr.extract t16 1) fun t18 =>
 opU Pg (Instr.storeAt 74 t4 t17) (panK R) w fun w =>
 C8 w∧(
 K2 t4 t18 w)
def n27c10 (t12 t15:Value) (C6:World→Prop) (K2:KW) (R:RT) (w:World):Prop :=
 (
 C0 224 #[t12] R w fun t13 w =>
 narrowK C6 w fun C7 w =>
 n27c8 t13 t15 C7 K2 R w)∧(
 opV Pg (Instr.alloc 74 true (.tuple #[])) (panK R) w fun t4 w =>
 C6 w∧(
 C0 224 #[t12] R w fun t13 w =>
 narrowK C6 w fun C8 w =>
 n27c9 t4 t13 t15 C8 K2 R w))
def n27c11 (t4 t13 t15:Value) (C10:World→Prop) (K2:KW) (R:RT) (w:World):Prop :=
 qV Pg C10 (Instr.lookup 122 t13 t15 true) fun t16 =>
 qV Pg C10 (Instr.extract t16 0) fun t17 =>
 qV Pg C10 (Instr.extract t16 1) fun t18 =>
 opU Pg (Instr.storeAt 74 t4 t17) (panK R) w fun w =>
 C10 w∧(
 K2 t4 t18 w)
def n27c12 (t0 t4 t15:Value) (C1:World→Prop) (K2:KW) (R:RT) (w:World):Prop :=
 C0 184 #[t0] R w fun t12 w =>
 narrowK C1 w fun C9 w =>
 C0 224 #[t12] R w fun t13 w =>
 narrowK C9 w fun C10 w =>
 n27c11 t4 t13 t15 C10 K2 R w
def n27c13 (t0 t3:Value) (C1:World→Prop) (R:RT) (w:World):Prop :=
 qV Pg C1 (Instr.fieldAt 48 t3 9) fun t14 =>
 qV Pg C1 (Instr.loadAt 9 t14) fun t15 =>
 joinK (fun (t4:Value) (t5:Value) (w:World) =>
 n27c7 t0 t3 t4 t5 R w) fun K2 =>
 (
 C0 184 #[t0] R w fun t12 w =>
 narrowK C1 w fun C6 w =>
 n27c10 t12 t15 C6 K2 R w)∧(
 opV Pg (Instr.alloc 74 true (.tuple #[])) (panK R) w fun t4 w =>
 C1 w∧(
 n27c12 t0 t4 t15 C1 K2 R w))
def n27 (t0 t1:Value) (R:RT) (w:World):Prop :=
 opV Pg (Instr.box 48 t1) (panK R) w fun t3 w =>
 drawK w fun C1 w =>
 n27c13 t0 t3 C1 R w
set_option maxHeartbeats 40000000 in
theorem n27s {t0 t1:Value} {R:RT} {w:World} (h:n27 t0 t1 R w):Calls Pg 213 #[t0,t1] w R:=by
 refine yD Tryz.func213 ?_
 refine zs<|zr<|yv h fun _ w h=>zn<|zk<|zs<|yh [4,5,10,11,12,13,14,15,16,17,18] h fun C hC h=>yw 0 hC ?_
 refine ye 3 hC h fun _ h=>?_
 refine ye 4 hC h fun _ h=>?_
 refine joinK_elim h (fun K2 hK h=>?_)
 refine sim_dmeet [4,5,10,12,13,16,17,18] (fun ρ w=>K2 (ρ 4) (ρ 5) w) (fun T hT=>?_) (fun σ w h=>?_)
 · obtain ⟨h0,h1⟩:=h
   refine sim_dloud2 1 9 rfl rfl (by kernel_rfl) (fun _ _=>rfl) (fun _ _=>rfl) ?_ ?_
   · have h:=h0
     refine yc h c184 fun _ w h=>zn ?_
     obtain ⟨C6,hs,hC,h⟩:=h
     refine ⟨C6,hs,hC,?_⟩
     obtain ⟨h0,h1⟩:=h
     refine sim_dloud2 2 9 rfl rfl (by kernel_rfl) (fun _ _=>rfl) (fun _ _=>rfl) ?_ ?_
     · have h:=h0
       refine yc h c224 fun _ w h=>zn ?_
       obtain ⟨C7,hs,hC,h⟩:=h
       refine ⟨C7,hs,hC,?_⟩
       refine ye 5 hC h fun _ h=>?_
       refine yw 6 hC ?_
       refine ye 7 hC h fun _ h=>?_
       refine ye 8 hC h fun _ h=>?_
       refine yo 9 ?_
       refine yv h fun _ w h=>zn ?_
       obtain ⟨hC,h⟩:=h
       refine ⟨hC,?_⟩
       refine yo 10 ?_
       refine yu h fun w h=>zn ?_
       obtain ⟨hC,h⟩:=h
       refine ⟨hC,?_⟩
       refine yw 11 hC ?_
       refine yz ?_
       exact zt hT h
     have h:=h1
     refine yv h fun _ w h=>zn ?_
     obtain ⟨hC,h⟩:=h
     refine ⟨_,fun _ h=>h,hC,?_⟩
     refine yr 2 ?_
     refine yc h c224 fun _ w h=>zn ?_
     obtain ⟨C8,hs,hC,h⟩:=h
     refine ⟨C8,hs,hC,?_⟩
     refine ye 5 hC h fun _ h=>?_
     refine yw 6 hC ?_
     refine ye 7 hC h fun _ h=>?_
     refine ye 8 hC h fun _ h=>?_
     refine yo 10 ?_
     refine yu h fun w h=>zn ?_
     obtain ⟨hC,h⟩:=h
     refine ⟨hC,?_⟩
     refine yw 11 hC ?_
     refine yz ?_
     exact zt hT h
   have h:=h1
   refine yv h fun _ w h=>zn ?_
   obtain ⟨hC,h⟩:=h
   refine ⟨_,fun _ h=>h,hC,?_⟩
   refine yr 1 ?_
   refine yc h c184 fun _ w h=>zn ?_
   obtain ⟨C9,hs,hC,h⟩:=h
   refine ⟨C9,hs,hC,?_⟩
   refine yr 2 ?_
   refine yc h c224 fun _ w h=>zn ?_
   obtain ⟨C10,hs,hC,h⟩:=h
   refine ⟨C10,hs,hC,?_⟩
   refine ye 5 hC h fun _ h=>?_
   refine yw 6 hC ?_
   refine ye 7 hC h fun _ h=>?_
   refine ye 8 hC h fun _ h=>?_
   refine yo 10 ?_
   refine yu h fun w h=>zn ?_
   obtain ⟨hC,h⟩:=h
   refine ⟨hC,?_⟩
   refine yw 11 hC ?_
   refine yz ?_
   exact zt hT h
 subst hK
 refine zk<|zs<|zr<|zm<|yc h c184 fun _ w h=>yF h fun _ w h=>yc h c226 fun _ w h=>zm<|zn<|zk<|zs<|sim_regionG<|yG 3<|zm<|zm ?_
 refine zm<|zn<|yg1 2 2 true [26,27] 27 h (fun _ T hT h=>?_) fun σ w h=>?_
 · refine zm<|yv h fun _ w h=>zn ?_
   exact zt hT h
 refine yG 2<|yp h fun _ h=>yc h c122 fun _ w h=>zn<|sim_end<|zk<|zs<|sim_regionG<|yG 6<|zm<|yv h fun _ w h=>yv h fun _ w h=>yx h fun _ w h=>yb h fun _ w h=>zm ?_
 refine zn<|yg1 4 5 true [36,37,38,39] 39 h (fun _ T hT h=>?_) fun σ w h=>?_
 · refine yv h fun _ w h=>yv h fun _ w h=>yx h fun _ w h=>yb h fun _ w h=>zn ?_
   exact zt hT h
 refine yG 2<|yp h fun _ h=>yc h c122 fun _ w h=>zn<|sim_end<|zk<|zs<|zr<|yv h fun _ w h=>yv h fun _ w h=>zm<|zn<|zk<|zs<|zr ?_
 refine yv h fun _ w h=>yv h fun _ w h=>yx h fun _ w h=>zm<|zn<|zk<|sim_block<|yl2 [7,9,47,48,49,50,51,52,53,54,55,56,57,58,59,60,61,62,63,64,65,66,67,68] 7 47 h fun σ w next h=>zs<|zr<|yb h fun _ w h=>zn<|zk<|zs<|yC h (fun h=>?_) fun h=>?_
 · refine sim_skip<|zk<|zs<|sim_block<|zs<|zr<|yv h fun _ w h=>yv h fun _ w h=>yv h fun _ w h=>yu h fun w h=>zn<|zk<|zs<|zr<|zm ?_
   refine zm<|yv h fun _ w h=>yv h fun _ w h=>yv h fun _ w h=>yv h fun _ w h=>yv h fun _ w h=>yv h fun _ w h=>yS h fun _ w h=>yc h c196 fun _ w h=>zn<|zk<|zs<|zr<|zm<|yv h fun _ w h=>?_
   refine yv h fun _ w h=>yc h c209 fun _ w h=>zn<|zk<|zr<|yv h fun _ w h=>yv h fun _ w h=>yb h fun _ w h=>zm<|zn<|sim_block_normal<|zk<|zr<|yb h fun _ w h=>zm ?_
   exact zn<|zk<|⟨rfl,h⟩
 exact sim_exit<|sim_then_exit<|sim_then_exit<|sim_block_hit<|body_normal<|body_ret0 rfl h
def n48 (t0:Value) (R:RT) (w:World):Prop :=
 opN Pg (nilN t0) (panK R) w fun t3 w =>
 F0 48 t3 2 R w fun t4 w =>
 opU Pg (Instr.storeAt 3 t4 (.int .i64 0)) (panK R) w fun w =>
 R (.returned (.tuple #[])) w
theorem n48s {t0:Value} {R:RT} {w:World} (h:n48 t0 R w):Calls Pg 214 #[t0] w R:=by
 refine yD Tryz.func214 ?_
 exact zr<|zm<|yN h fun _ w h=>yv h fun _ w h=>yu h fun w h=>zn<|body_normal<|body_ret0 rfl h
def n49c1 (t0 t12 t22 t26:Value) (R:RT) (w:World):Prop :=
 joinK (fun (t27:Value) (w:World) =>
 pickK t12 (.bool true) t27 fun t28 =>
 C0 122 #[t0,t28,(.int .i64 6)] R w fun t29 w =>
 R (.returned (.tuple #[])) w) fun K6 =>
 guardP t12 false (
 pickK t22 t26 (.bool false) fun t27 =>
 K6 t27 w) (
 K6 undef w)
def n49c2 (t0 t3 t12 t22:Value) (R:RT) (w:World):Prop :=
 joinK (fun (t26:Value) (w:World) =>
 n49c1 t0 t12 t22 t26 R w) fun K5 =>
 guardP t22 true (
 F0 48 t3 2 R w fun t23 w =>
 L0 3 t23 R w fun t24 w =>
 B0 .rem 3 true t24 (.int .i64 8) R w fun t25 w =>
 B0 .eql 3 true t25 (.int .i64 0) R w fun t26 w =>
 K5 t26 w) (
 K5 undef w)
def n49c3 (t0 t3 t12 t17:Value) (R:RT) (w:World):Prop :=
 joinK (fun (t20:Value) (w:World) =>
 joinK (fun (t22:Value) (w:World) =>
 n49c2 t0 t3 t12 t22 R w) fun K4 =>
 guardP t12 false (
 pickK t17 t20 (.bool false) fun t21 =>
 K4 t21 w) (
 K4 undef w)) fun K3 =>
 guardP t17 true (
 F0 48 t3 2 R w fun t18 w =>
 L0 3 t18 R w fun t19 w =>
 B0 .leq 3 true t19 (.int .i64 512) R w fun t20 w =>
 K3 t20 w) (
 K3 undef w)
def n49c4 (t0 t3 t7 t11:Value) (R:RT) (w:World):Prop :=
 pickK t7 (.bool true) t11 fun t12 =>
 joinK (fun (t17:Value) (w:World) =>
 n49c3 t0 t3 t12 t17 R w) fun K2 =>
 guardP t12 false (
 F0 48 t3 2 R w fun t14 w =>
 L0 3 t14 R w fun t15 w =>
 B0 .geq 3 true t15 (.int .i64 8) R w fun t16 w =>
 K2 t16 w) (
 K2 undef w)
def n49 (t0 t1:Value) (R:RT) (w:World):Prop :=
 opV Pg (Instr.box 48 t1) (panK R) w fun t3 w =>
 F0 48 t3 2 R w fun t5 w =>
 L0 3 t5 R w fun t6 w =>
 B0 .eql 3 true t6 (.int .i64 2) R w fun t7 w =>
 joinK (fun (t11:Value) (w:World) =>
 n49c4 t0 t3 t7 t11 R w) fun K1 =>
 guardP t7 false (
 F0 48 t3 2 R w fun t9 w =>
 L0 3 t9 R w fun t10 w =>
 B0 .eql 3 true t10 (.int .i64 4) R w fun t11 w =>
 K1 t11 w) (
 K1 undef w)
theorem n49s {t0 t1:Value} {R:RT} {w:World} (h:n49 t0 t1 R w):Calls Pg 215 #[t0,t1] w R:=by
 refine yD Tryz.func215 ?_
 refine zs<|zr<|yv h fun _ w h=>zn<|zk<|sim_regionG<|yG 5<|zm<|yv h fun _ w h=>yv h fun _ w h=>yb h fun _ w h=>zm<|zn<|yg1 3 4 false [9,10,11] 11 h (fun _ T hT h=>?_) fun σ w h=>?_
 · refine yv h fun _ w h=>yv h fun _ w h=>yb h fun _ w h=>zn ?_
   exact zt hT h
 refine yG 2<|yp h fun _ h=>zm<|zn<|yg1 4 9 false [14,15,16,17] 17 h (fun _ T hT h=>?_) fun σ w h=>?_
 · refine yv h fun _ w h=>yv h fun _ w h=>yb h fun _ w h=>zm<|zn ?_
   exact zt hT h
 refine yg1 3 13 true [18,19,20] 20 h (fun _ T hT h=>?_) fun σ w h=>?_
 · refine yv h fun _ w h=>yv h fun _ w h=>yb h fun _ w h=>zn ?_
   exact zt hT h
 refine yg1 2 9 false [21,22] 22 h (fun _ T hT h=>?_) fun σ w h=>?_
 · refine yp h fun _ h=>zm<|zn ?_
   exact zt hT h
 refine yg1 4 18 true [23,24,25,26] 26 h (fun _ T hT h=>?_) fun σ w h=>?_
 · refine yv h fun _ w h=>yv h fun _ w h=>yb h fun _ w h=>yb h fun _ w h=>zn ?_
   exact zt hT h
 refine yg1 1 9 false [27] 27 h (fun _ T hT h=>?_) fun σ w h=>?_
 · refine yp h fun _ h=>zn ?_
   exact zt hT h
 exact yG 2<|yp h fun _ h=>yc h c122 fun _ w h=>zn<|sim_end<|body_normal<|body_ret0 rfl h
def n50 (t0:Value) (R:RT) (w:World):Prop :=
 opN Pg (nilN t0) (panK R) w fun t4 w =>
 F0 48 t4 10 R w fun t5 w =>
 opU Pg (Instr.storeAt 9 t5 (.string { data := #[] })) (panK R) w fun w =>
 opN Pg (nilN t0) (panK R) w fun t6 w =>
 F0 48 t6 12 R w fun t7 w =>
 opU Pg (Instr.storeAt 3 t7 (.int .i64 0)) (panK R) w fun w =>
 R (.returned (.tuple #[])) w
theorem n50s {t0:Value} {R:RT} {w:World} (h:n50 t0 R w):Calls Pg 216 #[t0] w R:=by
 refine yD Tryz.func216 ?_
 exact zr<|zm<|zm<|yN h fun _ w h=>yv h fun _ w h=>yu h fun w h=>yN h fun _ w h=>yv h fun _ w h=>yu h fun w h=>zn<|body_normal<|body_ret0 rfl h
abbrev flawVal (a f c:Int):Value := .agg #[.int .i64 a,.int .i64 f,.int .i64 c]
def flawEntry (a f c:Int):PanicEntry:={ v := .iface 90 (flawVal a f c),recovered:=false }
def flwR (w:World) (a f c:Int):Ending→World→Prop:=fun e w'=>Ext w w'∧(c=0∧e = .returned (.tuple #[])∨c≠0∧e = .panicked [flawEntry a f c])
theorem callK_flw {f:FuncId} {args:Array Value} {QP:List PanicEntry→World→Prop} {w:World} {k:Value→World→Prop} {a fl c:Int} (h:Calls Pg f args w (flwR w a fl c)) (hk:∀ w',Ext w w'→c=0→k (.tuple #[]) w') (hp:∀ w',Ext w w'→c≠0→QP [flawEntry a fl c] w'):callK Pg f args QP w k :=
 callK_calls h (fun v w' h=>by rcases h with ⟨e,⟨h1,h2⟩ | ⟨_,h2⟩⟩<;>cases h2;exact hk w' e h1) (fun ch w' h=>by rcases h with ⟨e,⟨_,h2⟩ | ⟨h1,h2⟩⟩<;>cases h2;exact hp w' e h1) (fun w' h=>by rcases h with ⟨_,⟨_,h2⟩ | ⟨_,h2⟩⟩<;>cases h2)
theorem flwR_ret {w w':World} {a f c:Int} (e:Ext w w') (h:c=0):flwR w a f c (.returned (.tuple #[])) w':=⟨e,.inl ⟨h,rfl⟩⟩
theorem flwR_pan {w w':World} {a f c c':Int} (e:Ext w w') (h:c=c') (h0:c'≠0):panK (flwR w a f c) [flawEntry a f c'] w':=⟨e,.inr ⟨by rw [h];exact h0,by rw [h]⟩⟩
def orC (a b:Int):Int:=if a=0 then b else a
theorem orC_zero (b:Int):orC 0 b=b:=rfl
theorem orC_ne {a b:Int} (h:a≠0):orC a b=a:=by unfold orC;rw [if_neg h]
def needC (b:Bool) (c:Int):Int:=if b then 0 else c
structure Chk (w:World) (cb md ms:Nat) (deps:List (ByteArray×Value)) (strs:List (ByteArray×Value)) (at_ fld:Int) (fs:List FieldD):Prop where
 obj:∃ dn mv ds mn fv,w.heap[cb]?=some (.cells #[.string dn,mv,.string ds,.map (some md),.map (some ms),.int .i64 at_,.int .i64 fld,.string mn,fv] 164 (0,0))∧FieldsOf w fv fs
 mdeps:MapOf w md deps
 mstrs:MapOf w ms strs
 dint:∀ k v,lastOf deps k=some v→∃ n,v = .int .i64 n
 sbool:∀ k v,lastOf strs k=some v→∃ b,v = .bool b
def strB (strs:List (ByteArray×Value)) (s:ByteArray):Bool:=match lastOf strs s with
 | some (.bool b)=>b
 | _=>false
theorem Chk.strV {w:World} {cb md ms:Nat} {deps strs:List (ByteArray×Value)} {at_ fld:Int} {fs:List FieldD} (h:Chk w cb md ms deps strs at_ fld fs) (s:ByteArray):(lastOf strs s).getD (.bool false) = .bool (strB strs s):=by
 unfold strB
 cases hl:lastOf strs s with
 | none=>rfl
 | some v=>obtain ⟨b,rfl⟩:=h.sbool s v hl;rfl
theorem Chk.ext {w w':World} {cb md ms:Nat} {deps strs:List (ByteArray×Value)} {at_ fld:Int} {fs:List FieldD} (h:Chk w cb md ms deps strs at_ fld fs) (e:Ext w w'):Chk w' cb md ms deps strs at_ fld fs:=by
 obtain ⟨⟨dn,mv,ds,mn,fv,h1,h2⟩,h3,h4,h5,h6⟩:=h
 exact ⟨⟨dn,mv,ds,mn,fv,e.obj h1,h2.ext e⟩,h3.ext e,h4.ext e,h5,h6⟩
section
variable {w0:World} {cb md ms:Nat} {deps strs:List (ByteArray×Value)} {at_ fld:Int} {fs:List FieldD}
theorem need_flw (h:Chk w0 cb md ms deps strs at_ fld fs) (b:Bool) (c:Int) (hc:c≠0):Calls Pg 122 #[.pointer (some ⟨cb,0,none⟩),.bool b,.int .i64 c] w0 (flwR w0 at_ fld (needC b c)):=by
 obtain ⟨⟨dn,mv,ds,mn,fv,h1,h2⟩,h3,h4,h5,h6⟩:=h
 refine n30s ?_;unfold n30
 cases b with
 | true =>
  simp (disch:=try exact DI) only [↓PR,QR,simprocAttr,↓n30c1]
  exact flwR_ret (Ext.refl _) rfl
 | false =>
  simp (disch:=try exact DI) only [↓PR,QR,simprocAttr,↓n30c1]
  refine drawK_intro ?_
  simp (disch:=try exact DI) only [↓PR,QR,simprocAttr,↓n30c1,(cells_of_heap h1).1]
  rw [op_panic]
  exact flwR_pan (Ext.refl _).drew rfl hc
theorem before_ret (h:Chk w0 cb md ms deps strs at_ fld fs) (i:Nat) (hi:fld=i) (hlt:i < fs.length):Ret Pg 184 #[.pointer (some ⟨cb,0,none⟩)] w0 fun r w'=>FieldsOf w' r (fs.take i)∧Ext w0 w':=by
 obtain ⟨⟨dn,mv,ds,mn,fv,h1,h2⟩,h3,h4,h5,h6⟩:=h
 obtain ⟨A,c,rfl,hlc,hcm,hlm,hel⟩:=SliceOf.open h2
 obtain ⟨x,hx⟩:=getElem?_lt hlt
 obtain ⟨b,o,_,rfl,_⟩:=hel i x hx
 subst hi
 refine n25s (R:=retR _) ?_;unfold n25
 refine drawK_intro ?_
 simp (disch:=try exact DI) only [↓PR,QR,simprocAttr,↓n25c1,(cells_of_heap h1).1]
 rw [qV_of fun QP w' k=>op_sliceTo Tryz.underlying22 ty48 b o fs.length c .i64 i (by omega)]
 simp (disch:=try exact DI) only [↓PR,QR,simprocAttr]
 refine ⟨?_,ee⟩
 have hlen:(fs.take i).length=i:=by rw [List.length_take];omega
 refine ⟨_,c,by rw [hlen],by rw [hlen];omega,hcm,fun _=>⟨b,o,rfl,fun k y hy=>?_⟩⟩
 rw [List.getElem?_take] at hy
 split at hy
 · obtain ⟨b',o',cs,hA,hl,hA2,hE⟩:=hel k y hy
   injection hA with hA
   injection hA with h5 h6
   subst h5 h6
   have e:Ext w0 (drew w0):=(Ext.refl w0).drew
   exact ⟨cs,hl,hA2.ext e,keptField _ _ _ _ e hE⟩
 · cases hy
theorem refer_flw (h:Chk w0 cb md ms deps strs at_ fld fs) (s:ByteArray):Calls Pg 209 #[.pointer (some ⟨cb,0,none⟩),.string s] w0 (flwR w0 at_ fld (needC (lastOf deps s).isSome 8)):=by
 have h':=h
 obtain ⟨⟨dn,mv,ds,mn,fv,h1,h2⟩,h3,h4,h5,h6⟩:=h
 refine n32s ?_;unfold n32
 simp (disch:=try exact DI) only [↓PR,QR,simprocAttr,Sw.joinK_eq,(cells_of_heap h1).1]
 rw [op_lookupO Tryz.underlying161 Tryz.underlying9 ty3 h3]
 simp (disch:=try exact DI) only [↓PR,QR,simprocAttr]
 refine callK_flw (need_flw h' _ 8 (by decide)) (fun w' e h0=>?_) (fun w' e h0=>?_)
 · exact flwR_ret e h0
 · exact flwR_pan e rfl h0
def withinC (high:Int):Int→List Int→Int
 | _,[]=>0
 | low,n::l=>orC (needC (decide (low≤n)&&decide (n≤high)) 7) (withinC high n l)
def IntsOf (w:World) (v:Value) (l:List Int):Prop:=SliceOf w 1 EInt v l
theorem ints1 {w:World} {p:Nat} (hp:p=w.heap.size) (a:Int) (T:TypeId):IntsOf (w.alloc (.cells #[.int .i64 a] T)) (.slice (some ⟨p,0,none⟩) 1 1) [a]:=by
 subst hp;exact SliceOf.new1 (E:=EInt) (fun n:Int => .int .i64 n) (fun _ _=>rfl) w [a] T (by simp)
theorem ints2 {w:World} {p:Nat} (hp:p=w.heap.size) (a b:Int) (T:TypeId):IntsOf (w.alloc (.cells #[.int .i64 a,.int .i64 b] T)) (.slice (some ⟨p,0,none⟩) 2 2) [a,b]:=by
 subst hp;exact SliceOf.new1 (E:=EInt) (fun n:Int => .int .i64 n) (fun _ _=>rfl) w [a,b] T (by simp)
theorem within_flw (h:Chk w0 cb md ms deps strs at_ fld fs) (low high:Int) (v:Value) (l:List Int) (hs:IntsOf w0 v l):Calls Pg 196 #[.pointer (some ⟨cb,0,none⟩),.int .i64 low,.int .i64 high,v] w0 (flwR w0 at_ fld (withinC high low l)):=by
 obtain ⟨A,c,rfl,hlc,hcm,hlm,hel⟩:=SliceOf.open hs
 refine n34s ?_;unfold n34
 simp (disch:=try exact DI) only [↓PR,QR,simprocAttr]
 refine loop2_intro (fun a0 a1 w=>∃ (k:Nat) (n:Int),a0 = .int .i64 n∧a1 = .int .i64 (k:Int)∧k≤l.length∧Ext w0 w∧withinC high n (l.drop k)=withinC high low l) (fun a0 a1 _=>l.length - (intOf a1).toNat) ⟨0,low,rfl,rfl,Nat.zero_le _,ee,rfl⟩ ?_
 rintro _ _ w ⟨k,n,rfl,rfl,hk,e,hI⟩
 have se:=e.size
 rcases drop_cases hk with ⟨x,hx,hd,hlt,hdec⟩ | ⟨hk,hd,hdec⟩
 · obtain ⟨b,o,cs,rfl,hl,hA,rfl⟩:=hel k x hx
   rw [hd] at hI
   simp only [withinC] at hI
   simp (disch:=try exact DI) only [↓PR,QR,simprocAttr,↓n34c1,↓n34c2,hdec,hA.c1]
   refine callK_flw (need_flw (h.ext e) _ 7 (by decide)) (fun w' e1 h0=>?_) (fun w' e1 h0=>?_)
   · rw [h0,orC_zero] at hI
     simp (disch:=try exact DI) only [↓PR,QR,simprocAttr,↓n34c1,↓n34c2]
     exact ⟨⟨k+1,_,rfl,rfl,by omega,ee,hI⟩,meas_lt (kd := .i64) hlt⟩
   · rw [orC_ne h0] at hI
     exact flwR_pan (e.trans e1) hI.symm h0
 · subst hk
   simp (disch:=try exact DI) only [↓PR,QR,simprocAttr,↓n34c1,↓n34c2,hdec]
   rw [hd] at hI
   exact flwR_ret e hI.symm
def bitsB (f:FieldD):Bool:=decide (1≤f.bits)&&decide (f.bits≤32)&&(!f.little||(decide (8 < f.bits)&&(f.bits.tmod 8 == 0)))
theorem bits_flw (h:Chk w0 cb md ms deps strs at_ fld fs) (v:Value) (f:FieldD) (hf:FieldVal w0 v f):Calls Pg 195 #[.pointer (some ⟨cb,0,none⟩),v] w0 (flwR w0 at_ fld (needC (bitsB f) 6)):=by
 obtain ⟨tv,cv,rfl,hT,hC,ht1,hc1⟩:=hf.op
 refine n26s ?_;unfold n26
 simp (disch:=try exact DI) only [↓PR,QR,simprocAttr,↓n26c1,↓n26c2,↓n26c3,↓n26c4]
 have e0:Ext w0 (w0.alloc (Obj.cells (fieldCells f tv cv).toArray 48)):=ee
 have fin:∀ b,b=bitsB f→callK Pg 122 #[.pointer (some ⟨cb,0,none⟩),.bool b,.int .i64 6] (panK (flwR w0 at_ fld (needC (bitsB f) 6))) (w0.alloc (Obj.cells (fieldCells f tv cv).toArray 48)) (fun _ w=>flwR w0 at_ fld (needC (bitsB f) 6) (.returned (.tuple #[])) w):=by
  rintro b rfl
  exact callK_flw (need_flw (h.ext e0) _ 6 (by decide)) (fun w' e1 h0=>flwR_ret (e0.trans e1) h0) (fun w' e1 h0=>flwR_pan (e0.trans e1) rfl h0)
 unfold bitsB at fin ⊢
 generalize decide (1≤f.bits)=b1 at fin ⊢
 generalize decide (f.bits≤32)=b2 at fin ⊢
 generalize f.little=b3 at fin ⊢
 generalize decide (8 < f.bits)=b4 at fin ⊢
 generalize (f.bits.tmod 8 == 0)=b5 at fin ⊢
 cases b1<;>cases b2<;>cases b3<;>cases b4<;>cases b5<;>simp (disch:=try exact DI) only [↓PR,QR,simprocAttr,↓n26c1,↓n26c2,↓n26c3,↓n26c4]<;>exact fin _ rfl
def namesC (rp:List (ByteArray×Int×Int)):List TermD→Int
 | []=>0
 | t::ts=>orC (needC (lastR rp t.field).isSome 8) (namesC rp ts)
def lenB (base:Int) (ts:List TermD) (rp:List (ByteArray×Int×Int)):Bool:=(intervalE base ts rp == 0)&&decide (0≤intervalL base ts rp)&&decide (intervalH base ts rp≤1048576)
def sizedC (rp:List (ByteArray×Int×Int)) (f:FieldD):Int:=orC (needC (sizeB f.base f.terms) 9) (orC (namesC rp f.terms) (needC (lenB f.base f.terms rp) 9))
theorem sized_flw (h:Chk w0 cb md ms deps strs at_ fld fs) (i:Nat) (hi:fld=i) (hlt:i < fs.length) (v:Value) (f:FieldD) (hf:FieldVal w0 v f) (ht:f.terms.length≤1048576) :
 Calls Pg 202 #[.pointer (some ⟨cb,0,none⟩),v] w0 (flwR w0 at_ fld (sizedC (numR (fs.take i)) f)):=by
 obtain ⟨tv,cv,rfl,hT,hC,ht1,hc1⟩:=hf.op
 refine n33s ?_;unfold n33
 simp (disch:=try exact DI) only [↓PR,QR,simprocAttr,↓n33c1,↓n33c2,↓n33c3,↓n33c4,↓n33c5,↓n33c6,↓n33c7,↓n33c8]
 generalize hW:World.alloc (World.alloc w0 _) _=W
 have e0:Ext w0 W:=by rw [← hW];exact ee
 have o2:W.heap[w0.heap.size]?=some (.cells #[.pointer (some ⟨cb,0,none⟩)] 140 (0,0)):=by rw [← hW];simp (disch:=try exact DI) only [↓PR,QR,simprocAttr]
 have o3:W.heap[w0.heap.size+1]?=some (.cells (fieldCells f tv cv).toArray 48 (0,0)):=by rw [← hW];simp (disch:=try exact DI) only [↓PR,QR,simprocAttr]
 clear hW
 simp only [World.size_alloc]
 refine drawK_intro ?_
 simp (disch:=try exact DI) only [↓PR,QR,simprocAttr,↓n33c1,↓n33c2,↓n33c3,↓n33c4,↓n33c5,↓n33c6,↓n33c7,↓n33c8,(cells_of_heap o2).1,(cells_of_heap o3).1]
 refine zcr (Valid_ret _ _ f.base f.terms ⟨tv,rfl,TermsOf.ext hT ee⟩) fun w1 e1=>?_
 refine ⟨e1,?_⟩
 unfold sizedC
 refine callK_flw (need_flw (h.ext (e0.wdrew.trans e1)) _ 9 (by decide)) (fun w2 e2 h0=>?_) (fun w2 e2 h0=>?_)
 · rw [h0,orC_zero]
   refine ⟨e1.trans e2,?_⟩
   have e3:Ext W w2:=(Ext.refl W).wdrew.trans (e1.trans e2)
   have hv:sizeB f.base f.terms=true:=by
    cases hb:sizeB f.base f.terms with
    | true=>rfl
    | false=>rw [hb] at h0;exact absurd h0 (by decide)
   simp (disch:=try exact DI) only [↓PR,QR,simprocAttr,↓n33c1,↓n33c2,↓n33c3,↓n33c4,↓n33c5,↓n33c6,↓n33c7,↓n33c8,(cells_of_heap (e3.obj o2)).1]
   refine callK_ret (before_ret (h.ext (e0.trans e3)) i hi hlt) ?_
   rintro bv w4 ⟨hB,e4⟩
   simp (disch:=try exact DI) only [↓PR,QR,simprocAttr,↓n33c1,↓n33c2,↓n33c3,↓n33c4,↓n33c5,↓n33c6,↓n33c7,↓n33c8]
   refine callK_ret (ranges_ret _ _ _ hB) ?_
   rintro _ w5 ⟨m,rfl,hmlo,hM,e5⟩
   rw [numPairs_RP] at hM
   have e6:Ext W w5:=e3.trans (e4.trans e5)
   have l3:w0.heap.size+1 < w5.heap.size:=(Array.getElem?_eq_some_iff.1 (e6.obj o3)).1
   simp (disch:=try exact DI) only [↓PR,QR,simprocAttr,↓n33c1,↓n33c2,↓n33c3,↓n33c4,↓n33c5,↓n33c6,↓n33c7,↓n33c8,(cells_of_heap (e6.obj o3)).1]
   have e6':Ext w0 w5:=e0.trans e6
   refine callK_ret (Names_ret _ _ f.base f.terms ⟨tv,rfl,TermsOf.ext hT ee⟩ ht) ?_
   rintro _ w7 ⟨pb,tv2,rfl,hTA,_,e7⟩
   rw [hv,if_pos rfl] at hTA
   have s7:=e7.size
   simp only [World.size_alloc] at s7
   have e8:Ext W w7:=ee
   have p4:w7.heap[w5.heap.size]?=some (.cells #[.map (some m)] 122 (0,0)):=by simp (disch:=try exact DI) only [↓PR,QR,simprocAttr,e7.heapQ]
   have hM7:MapOf w7 m (RP (numR (fs.take i))):=hM.ext (((Ext.refl _).alloc _).trans e7)
   have h7:Chk w7 cb md ms deps strs at_ fld fs:=h.ext (e0.trans e8)
   have o2':=e8.obj o2
   have o3':=e8.obj o3
   have e07:Ext w0 w7:=e0.trans e8
   clear e7 e6 e5 e4 e3 e2 e1 hM hB hmlo s7 l3 o2 o3 e8 e6'
   unfold n33c5
   have hLI:∀ k,Lasts w7.heap.size (fun w=>Ext w7 w∧namesC (numR (fs.take i)) (f.terms.drop k)=namesC (numR (fs.take i)) f.terms):=fun k=>Lasts.and (Lasts.from (Nat.le_refl _)) (Lasts.const _ _)
   refine ⟨_,_,f.terms.length,namesX f.terms,fun w=>TermsAt w pb tv2 f.terms,fun k w=>Ext w7 w∧namesC (numR (fs.take i)) (f.terms.drop k)=namesC (numR (fs.take i)) f.terms,fun _ _=>False,
    fun ch w=>Ext w7 w∧∃ c,c≠0∧ch=[flawEntry at_ fld c]∧namesC (numR (fs.take i)) f.terms=c,rfl,c237,Names_seq pb tv2 f.terms,⟨Ext.refl _,rfl⟩,fun k w h=>hTA.ext h.1,hLI,fun _=>Lasts.const _ _,?_,?_,?_,?_⟩
   · intro rec j w3 hj hI3 hrec hready
     refine ⟨hready,fun w4 hbz=>?_⟩
     have hrec4:=hrec.busied hbz
     obtain ⟨e4,hF⟩:=(hLI j).busied hbz (Nat.le_succ _) hI3
     clear hI3 hrec hready hbz
     obtain ⟨t,hx⟩:=getElem?_lt hj
     rw [show namesX f.terms j = .string t.field by unfold namesX;rw [hx]]
     have hd:f.terms.drop j=t::f.terms.drop (j+1):=by
      rw [List.drop_eq_getElem_cons hj]
      congr 1
      exact (List.getElem?_eq_some_iff.1 hx).2
     rw [hd] at hF
     simp only [namesC] at hF
     have o2:=e4.obj o2'
     have l2:w0.heap.size < w4.heap.size:=(Array.getElem?_eq_some_iff.1 o2).1
     simp (disch:=try exact DI) only [↓PR,QR,simprocAttr,↓n33c1,↓n33c2,↓n33c3,↓n33c4,↓n33c5,↓n33c6,↓n33c7,↓n33c8,(cells_of_heap (e4.obj p4)).1]
     rw [op_lookupO Tryz.underlying122 Tryz.underlying9 ty74 (hM7.ext e4),lastOf_RP]
     have fin:∀ w5 b,Ext w4 w5→b=(lastR (numR (fs.take i)) t.field).isSome→callK Pg 122 #[.pointer (some ⟨cb,0,none⟩),.bool b,.int .i64 8] (fun ch w''=>RecAt rec w7.heap.size w''∧Ext w7 w''∧∃ c,c≠0∧ch=[flawEntry at_ fld c]∧namesC (numR (fs.take i)) f.terms=c) w5 (fun _ w''=>RecAt rec w7.heap.size w''∧Ext w7 w''∧namesC (numR (fs.take i)) (f.terms.drop (j+1))=namesC (numR (fs.take i)) f.terms):=by
      rintro w5 b e5 rfl
      refine callK_flw (need_flw (h7.ext (e4.trans e5)) _ 8 (by decide)) (fun w6 e6 h0=>?_) (fun w6 e6 h0=>?_)
      · rw [h0,orC_zero] at hF
        exact ⟨hrec4.ext (e5.trans e6),e4.trans (e5.trans e6),hF⟩
      · rw [orC_ne h0] at hF
        exact ⟨hrec4.ext (e5.trans e6),e4.trans (e5.trans e6),_,h0,rfl,hF.symm⟩
     cases hl:lastR (numR (fs.take i)) t.field with
     | none =>
      rw [hl] at fin
      simp (disch:=try exact DI) only [↓PR,QR,simprocAttr,↓n33c1,↓n33c2,↓n33c3,↓n33c4,↓n33c5,↓n33c6,↓n33c7,↓n33c8,(cells_of_heap o2).1,Option.map_none]
      exact fin _ _ ee rfl
     | some q =>
      obtain ⟨lo,hi⟩:=q
      rw [hl] at fin
      simp (disch:=try exact DI) only [↓PR,QR,simprocAttr,↓n33c1,↓n33c2,↓n33c3,↓n33c4,↓n33c5,↓n33c6,↓n33c7,↓n33c8,(cells_of_heap o2).1,rangeVal]
      exact fin _ _ ee rfl
   · rintro w3 ⟨e3,hF⟩ hmk
     rw [List.drop_length] at hF
     have l7:w7.heap.size < w3.heap.size:=(Array.getElem?_eq_some_iff.1 hmk).1
     rw [← hF]
     show n33c4 _ _ _ _ (flwR w0 at_ fld (orC 0 _)) w3
     rw [orC_zero]
     simp (disch:=try exact DI) only [↓PR,QR,simprocAttr,↓n33c1,↓n33c2,↓n33c3,↓n33c4,↓n33c5,↓n33c6,↓n33c7,↓n33c8,(cells_of_heap (e3.obj o3')).1,(cells_of_heap (e3.obj p4)).1]
     refine zcr (Interval_ret _ _ f.base f.terms m _ ⟨tv,rfl,TermsOf.ext hT (e07.trans e3)⟩ ht (hM7.ext e3)) fun w4 e4=>?_
     have s4:=e4.size
     have o2:=(e3.trans e4).obj o2'
     have l2:w0.heap.size < w4.heap.size:=(Array.getElem?_eq_some_iff.1 o2).1
     simp (disch:=try exact DI) only [↓PR,QR,simprocAttr,↓n33c1,↓n33c2,↓n33c3,↓n33c4,↓n33c5,↓n33c6,↓n33c7,↓n33c8,(cells_of_heap o2).1,rangeVal]
     have e5:Ext w3 (w4.alloc (Obj.cells #[.int .i64 (intervalL f.base f.terms (numR (fs.take i))),.int .i64 (intervalH f.base f.terms (numR (fs.take i)))] 74)):=e4.alloc _
     have s07:=e07.size
     refine callK_flw (need_flw (h7.ext (e3.trans e5)) (lenB f.base f.terms (numR (fs.take i))) 9 (by decide)) (fun w6 e6 h0=>?_) (fun w6 e6 h0=>?_)
     · refine outX_mark (hmk.ext (e5.trans e6)) ?_
       rw [outX_nil]
       exact flwR_ret (((e07.trans e3).trans (e5.trans e6)).putObj (by omega) _) h0
     · refine outQ_mark (hmk.ext (e5.trans e6)) ?_
       rw [outQ_nil]
       exact flwR_pan (((e07.trans e3).trans (e5.trans e6)).putObj (by omega) _) rfl h0
   · rintro c w3 h
     exact h.elim
   · rintro ch w3 ⟨e3,c,hc,rfl,hF⟩ hmk
     have l7:w7.heap.size < w3.heap.size:=(Array.getElem?_eq_some_iff.1 hmk).1
     rw [hF,orC_ne hc]
     refine outQ_mark hmk ?_
     rw [outQ_nil]
     exact flwR_pan (by have:=e07.size;exact ee) rfl hc
 · rw [orC_ne h0]
   exact flwR_pan (e0.wdrew.trans (e1.trans e2)) rfl h0
end
theorem ContainsFunc_Field_ret (w0:World) (v:Value) (l:List FieldD) (g:FuncId) (caps:Array Value) (p:FieldD→Bool) (hs:FieldsOf w0 v l) (hg:Callable Pg g) (hc:Tests w0 FieldVal g caps p l) :
 Ret Pg 226 #[v,.func (.func g) #[] caps] w0 fun r w'=>r = .bool (l.any p)∧Ext w0 w':=by
 refine n106s (R:=retR _) ?_;unfold n106
 refine callK_ret (IndexFunc_Field_ret _ _ l g caps p hs hg hc) ?_
 rintro r w' ⟨rfl,e⟩
 simp (disch:=try exact DI) only [↓PR,QR,simprocAttr,Sw.joinK_eq]
 exact ⟨by rw [idx_neg],e⟩
def taggedP (tag:ByteArray) (o:FieldD):Bool:=o.kind == 9&&decide (o.tag=tag)
theorem casesS1_ret (w0:World) (v:Value) (o f:FieldD) (pb:Nat) (tv cv:Value) (hv:FieldVal w0 v o) (hp:w0.heap[pb]?=some (.cells (fieldCells f tv cv).toArray 48 (0,0))) :
 Ret Pg 227 #[v,.pointer (some ⟨pb,0,none⟩)] w0 fun r w'=>r = .bool (taggedP f.tag o)∧Ext w0 w':=by
 obtain ⟨tv',cv',rfl,hT,hC,ht1,hc1⟩:=hv.op
 have hlt:=(Array.getElem?_eq_some_iff.1 hp).1
 refine n28s (R:=retR _) ?_;unfold n28
 simp (disch:=try exact DI) only [↓PR,QR,simprocAttr,Sw.joinK_eq,(cells_of_heap hp).1]
 exact ⟨by first | trivial | rfl,ee⟩
def casesL (hi:Int) (deps:List (ByteArray×Value)):Int→List CaseD→Int
 | _,[]=>0
 | low,x::xs=>orC (withinC hi low [x.low,x.high]) (orC (needC (lastOf deps x.of).isSome 8) (casesL hi deps (IntKind.i64.wrap (x.high+1)) xs))
def casesC (bef:List FieldD) (deps:List (ByteArray×Value)) (f:FieldD):Int :=
 orC (needC ((lastR (numR bef) f.tag).isSome&&!bef.any (taggedP f.tag)) 8) (orC (needC (decide (1≤(f.cases.length:Int))&&decide ((f.cases.length:Int)≤40)) 3) (casesL (((lastR (numR bef) f.tag).getD (0,0)).2) deps (((lastR (numR bef) f.tag).getD (0,0)).1) f.cases))
section
variable {w0:World} {cb md ms:Nat} {deps strs:List (ByteArray×Value)} {at_ fld:Int} {fs:List FieldD}
theorem cases_tail {a0:World} (e00:Ext a0 w0) (h:Chk w0 cb md ms deps strs at_ fld fs) (pf p4:Nat) (f:FieldD) (tv cv:Value) (lo hi:Int) (hC:CasesOf w0 cv f.cases) (o3:w0.heap[pf]?=some (.cells (fieldCells f tv cv).toArray 48 (0,0))) (o4:w0.heap[p4]?=some (.cells #[.int .i64 lo,.int .i64 hi] 74 (0,0))) :
 n27c4 (.pointer (some ⟨cb,0,none⟩)) (.pointer (some ⟨pf,0,none⟩)) (.pointer (some ⟨p4,0,none⟩)) (flwR a0 at_ fld (casesL hi deps lo f.cases)) w0:=by
 obtain ⟨A,c,rfl,hlc,hcm,hlm,hel⟩:=SliceOf.open hC
 simp (disch:=try exact DI) only [↓PR,QR,simprocAttr,↓n27c1,↓n27c2,↓n27c3,↓n27c4,↓n27c5,↓n27c6,↓n27c7,↓n27c8,↓n27c9,↓n27c10,↓n27c11,↓n27c12,↓n27c13,(cells_of_heap o3).1,(cells_of_heap o4).1]
 refine loop2_intro (fun a0 a1 w=>∃ (k:Nat) (n:Int),a0 = .int .i64 n∧a1 = .int .i64 (k:Int)∧k≤f.cases.length∧Ext w0 w∧casesL hi deps n (f.cases.drop k)=casesL hi deps lo f.cases) (fun a0 a1 _=>f.cases.length - (intOf a1).toNat) ⟨0,lo,rfl,rfl,Nat.zero_le _,ee,rfl⟩ ?_
 rintro _ _ w ⟨k,n,rfl,rfl,hk,e,hI⟩
 have se:=e.size
 rcases drop_cases hk with ⟨x,hx,hd,hlt,hdec⟩ | ⟨hk,hd,hdec⟩
 · obtain ⟨b,o,cs,rfl,hl,hA,rfl⟩:=hel k x hx
   have l4:p4 < w.heap.size:=(Array.getElem?_eq_some_iff.1 (e.obj o4)).1
   rw [hd] at hI
   simp only [casesL] at hI
   simp (disch:=try exact DI) only [↓PR,QR,simprocAttr,↓n27c1,↓n27c2,↓n27c3,↓n27c4,↓n27c5,↓n27c6,↓n27c7,↓n27c8,↓n27c9,↓n27c10,↓n27c11,↓n27c12,↓n27c13,hdec,hA.c3,(cells_of_heap (e.obj o4)).1]
   generalize hW:World.alloc (World.alloc w _) _=W
   have eW:Ext w W:=by rw [← hW];exact ee
   have o9:W.heap[w.heap.size]?=some (.cells #[.int .i64 x.low,.int .i64 x.high,.string x.of] 60 (0,0)):=by rw [← hW];simp (disch:=try exact DI) only [↓PR,QR,simprocAttr]
   have hIn:IntsOf W (.slice (some ⟨w.heap.size+1,0,none⟩) 2 2) [x.low,x.high]:=by rw [← hW];exact ints2 (by simp only [World.size_alloc]) _ _ _
   clear hW
   refine callK_flw (within_flw (h.ext (e.trans eW)) n hi _ _ hIn) (fun w1 e1 h0=>?_) (fun w1 e1 h0=>?_)
   · rw [h0,orC_zero] at hI
     have er1:=eW.trans e1
     simp (disch:=try exact DI) only [↓PR,QR,simprocAttr,↓n27c1,↓n27c2,↓n27c3,↓n27c4,↓n27c5,↓n27c6,↓n27c7,↓n27c8,↓n27c9,↓n27c10,↓n27c11,↓n27c12,↓n27c13,(cells_of_heap (e1.obj o9)).1]
     refine callK_flw (refer_flw (h.ext (e.trans er1)) x.of) (fun w2 e2 h0=>?_) (fun w2 e2 h0=>?_)
     · rw [h0,orC_zero] at hI
       simp (disch:=try exact DI) only [↓PR,QR,simprocAttr,↓n27c1,↓n27c2,↓n27c3,↓n27c4,↓n27c5,↓n27c6,↓n27c7,↓n27c8,↓n27c9,↓n27c10,↓n27c11,↓n27c12,↓n27c13,(cells_of_heap ((e1.trans e2).obj o9)).1]
       exact ⟨⟨k+1,_,rfl,rfl,by omega,ee,hI⟩,meas_lt (kd := .i64) hlt⟩
     · rw [orC_ne h0] at hI
       exact flwR_pan (e00.trans (e.trans (er1.trans e2))) hI.symm h0
   · rw [orC_ne h0] at hI
     exact flwR_pan (e00.trans (e.trans (eW.trans e1))) hI.symm h0
 · subst hk
   simp (disch:=try exact DI) only [↓PR,QR,simprocAttr,↓n27c1,↓n27c2,↓n27c3,↓n27c4,↓n27c5,↓n27c6,↓n27c7,↓n27c8,↓n27c9,↓n27c10,↓n27c11,↓n27c12,↓n27c13,hdec]
   rw [hd] at hI
   exact flwR_ret (e00.trans e) hI.symm
theorem cases_mid {a0:World} (e00:Ext a0 w0) (h:Chk w0 cb md ms deps strs at_ fld fs) (i:Nat) (hi:fld=i) (hlt:i < fs.length) (pf p4:Nat) (f:FieldD) (tv cv:Value) (lo hi':Int) (b:Bool) (hC:CasesOf w0 cv f.cases) (o3:w0.heap[pf]?=some (.cells (fieldCells f tv cv).toArray 48 (0,0))) (o4:w0.heap[p4]?=some (.cells #[.int .i64 lo,.int .i64 hi'] 74 (0,0)))
 (hb:b=(lastR (numR (fs.take i)) f.tag).isSome) (hlo:b=true→lo=((lastR (numR (fs.take i)) f.tag).getD (0,0)).1∧hi'=((lastR (numR (fs.take i)) f.tag).getD (0,0)).2) :
 n27c7 (.pointer (some ⟨cb,0,none⟩)) (.pointer (some ⟨pf,0,none⟩)) (.pointer (some ⟨p4,0,none⟩)) (.bool b) (flwR a0 at_ fld (casesC (fs.take i) deps f)) w0:=by
 unfold n27c7
 refine callK_ret (before_ret h i hi hlt) ?_
 rintro bv w1 ⟨hB,e1⟩
 simp (disch:=try exact DI) only [↓PR,QR,simprocAttr]
 refine callK_ret (ContainsFunc_Field_ret _ _ _ _ _ (taggedP f.tag) hB c227 ?_) ?_
 · intro w v o _ e hv
   exact casesS1_ret w v o f pf tv cv hv ((e1.trans e).obj o3)
 rintro _ w2 ⟨rfl,e2⟩
 have e12:=e1.trans e2
 simp (disch:=try exact DI) only [↓PR,QR,simprocAttr,↓n27c6]
 unfold casesC
 refine callK_flw (need_flw (h.ext e12) _ 8 (by decide)) (fun w3 e3 h0=>?_) (fun w3 e3 h0=>?_)
 · rw [← hb,h0,orC_zero]
   have hbt:b=true:=by
    cases b with
    | true=>rfl
    | false=>exact absurd h0 (by simp [needC])
   obtain ⟨h1,h2⟩:=hlo hbt
   rw [← h1,← h2]
   have e13:=e12.trans e3
   obtain ⟨A,c,rfl,_⟩:=SliceOf.open hC
   simp (disch:=try exact DI) only [↓PR,QR,simprocAttr,↓n27c5,(cells_of_heap (e13.obj o3)).1]
   refine callK_flw (need_flw (h.ext e13) _ 3 (by decide)) (fun w4 e4 h0=>?_) (fun w4 e4 h0=>?_)
   · rw [h0,orC_zero]
     have e14:=e13.trans e4
     exact cases_tail (e00.trans e14) (h.ext e14) pf p4 f tv _ lo hi' (CasesOf.ext hC e14) (e14.obj o3) (e14.obj o4)
   · rw [orC_ne h0]
     exact flwR_pan (e00.trans (e13.trans e4)) rfl h0
 · rw [← hb,orC_ne h0]
   exact flwR_pan (e00.trans (e12.trans e3)) rfl h0
theorem cases_flw (h:Chk w0 cb md ms deps strs at_ fld fs) (i:Nat) (hi:fld=i) (hlt:i < fs.length) (v:Value) (f:FieldD) (hf:FieldVal w0 v f):Calls Pg 213 #[.pointer (some ⟨cb,0,none⟩),v] w0 (flwR w0 at_ fld (casesC (fs.take i) deps f)):=by
 obtain ⟨tv,cv,rfl,hT,hC,ht1,hc1⟩:=hf.op
 refine n27s ?_;unfold n27
 simp (disch:=try exact DI) only [↓PR,QR,simprocAttr]
 generalize hW:World.alloc w0 _=W
 have e0:Ext w0 W:=by rw [← hW];exact ee
 have o3:W.heap[w0.heap.size]?=some (.cells (fieldCells f tv cv).toArray 48 (0,0)):=by rw [← hW];simp (disch:=try exact DI) only [↓PR,QR,simprocAttr]
 clear hW
 refine drawK_intro ?_
 simp (disch:=try exact DI) only [↓PR,QR,simprocAttr,↓n27c13,(cells_of_heap o3).1]
 have key:∀ w' p4 b lo hi',Ext W w'→w'.heap[p4]?=some (.cells #[.int .i64 lo,.int .i64 hi'] 74 (0,0))→b=(lastR (numR (fs.take i)) f.tag).isSome→(b=true→lo=((lastR (numR (fs.take i)) f.tag).getD (0,0)).1∧hi'=((lastR (numR (fs.take i)) f.tag).getD (0,0)).2) →
  n27c7 (.pointer (some ⟨cb,0,none⟩)) (.pointer (some ⟨w0.heap.size,0,none⟩)) (.pointer (some ⟨p4,0,none⟩)) (.bool b) (flwR w0 at_ fld (casesC (fs.take i) deps f)) w':=by
  intro w' p4 b lo hi' e o4 hb hlo
  exact cases_mid (e0.trans e) (h.ext (e0.trans e)) i hi hlt _ p4 f tv cv lo hi' b (CasesOf.ext hC (e0.trans e)) (e.obj o3) o4 hb hlo
 have eD:Ext W W.drew:=(Ext.refl W).wdrew
 have fin9:∀ (w2:World) (m p4:Nat) (u0 u1:Value),Ext W.drew w2→MapOf w2 m (RP (numR (fs.take i)))→w2.heap[p4]?=some (.cells #[u0,u1] 74 (0,0))→W.heap.size≤p4 →
  n27c9 (.pointer (some ⟨p4,0,none⟩)) (.map (some m)) (.string f.tag) (KL W.drew m (RP (numR (fs.take i)))) (fun t4 t5 w=>n27c7 (.pointer (some ⟨cb,0,none⟩)) (.pointer (some ⟨w0.heap.size,0,none⟩)) t4 t5 (flwR w0 at_ fld (casesC (fs.take i) deps f)) w) (flwR w0 at_ fld (casesC (fs.take i) deps f)) w2:=by
  intro w2 m p4 u0 u1 e2 hM o4 hp4
  haveI:ClassNe (KL W.drew m (RP (numR (fs.take i)))):=⟨⟨w2,e2,hM⟩⟩
  unfold n27c9
  rw [qV_lookupKL Tryz.underlying122 Tryz.underlying9 ty74 ⟨w2,e2,hM⟩,lastOf_RP]
  have hfin:∀ lo hi' b,b=(lastR (numR (fs.take i)) f.tag).isSome→(b=true→lo=((lastR (numR (fs.take i)) f.tag).getD (0,0)).1∧hi'=((lastR (numR (fs.take i)) f.tag).getD (0,0)).2) →
   KL W.drew m (RP (numR (fs.take i))) ((w2.setCell ⟨p4,0,none⟩ (.int .i64 lo)).setCell ⟨p4,1,none⟩ (.int .i64 hi'))∧n27c7 (.pointer (some ⟨cb,0,none⟩)) (.pointer (some ⟨w0.heap.size,0,none⟩)) (.pointer (some ⟨p4,0,none⟩)) (.bool b) (flwR w0 at_ fld (casesC (fs.take i) deps f)) ((w2.setCell ⟨p4,0,none⟩ (.int .i64 lo)).setCell ⟨p4,1,none⟩ (.int .i64 hi')):=by
   intro lo hi' b hb hlo
   have e3:Ext W.drew ((w2.setCell ⟨p4,0,none⟩ (.int .i64 lo)).setCell ⟨p4,1,none⟩ (.int .i64 hi')):=(e2.setCell (show W.drew.heap.size≤(⟨p4,0,none⟩:Addr).block from hp4) _).setCell (show W.drew.heap.size≤(⟨p4,1,none⟩:Addr).block from hp4) _
   refine ⟨⟨e3,(hM.setCell _ _).setCell _ _⟩,key _ p4 b lo hi' (eD.trans e3) ?_ hb hlo⟩
   have:=heap_set (o:=1) (heap_set (o:=0) o4 (.int .i64 lo)) (.int .i64 hi')
   simpa using this
  cases hl:lastR (numR (fs.take i)) f.tag with
  | none =>
   rw [hl] at hfin
   simp (disch:=try exact DI) only [↓PR,QR,simprocAttr,Option.map_none,(cells_of_heap o4).1,(cells_of_heap o4).2]
   exact hfin 0 0 false rfl (by simp)
  | some q =>
   obtain ⟨lo,hi'⟩:=q
   rw [hl] at hfin
   simp (disch:=try exact DI) only [↓PR,QR,simprocAttr,(cells_of_heap o4).1,(cells_of_heap o4).2,rangeVal]
   exact hfin lo hi' true rfl (fun _=>⟨rfl,rfl⟩)
 refine ⟨?_,?_⟩
 · refine callK_ret (before_ret (h.ext (e0.trans eD)) i hi hlt) ?_
   rintro bv w1 ⟨hB,e1⟩
   refine narrowK_same e1 ?_
   unfold n27c10
   refine ⟨?_,?_⟩
   · refine callK_ret (ranges_ret _ _ _ hB) ?_
     rintro _ w2 ⟨m,rfl,_,hM,e2⟩
     rw [numPairs_RP] at hM
     refine narrowK_KL (e1.trans e2) hM ?_
     unfold n27c8
     simp only [drew_wdrew]
     haveI:ClassNe (KL W.drew m (RP (numR (fs.take i)))):=⟨⟨w2,e1.trans e2,hM⟩⟩
     rw [qV_lookupKL Tryz.underlying122 Tryz.underlying9 ty74 ⟨w2,e1.trans e2,hM⟩]
     have h9:=fin9 (w2.alloc (.cells #[.int .i64 0,.int .i64 0] 74)) m w2.heap.size _ _ ((e1.trans e2).alloc _) (hM.ext ((Ext.refl _).alloc _)) (heap_new _ _ _) (by have:=(e1.trans e2).size;simpa using this)
     unfold n27c9 at h9
     rw [qV_lookupKL Tryz.underlying122 Tryz.underlying9 ty74 ⟨w2,e1.trans e2,hM⟩] at h9
     simp (disch:=try exact DI) only [↓PR,QR,simprocAttr]
     refine ⟨⟨(e1.trans e2).alloc _,hM.ext ((Ext.refl _).alloc _)⟩,?_⟩
     simp only [↓Sw.GENQ] at h9
     exact h9
   · simp (disch:=try exact DI) only [↓PR,QR,simprocAttr]
     refine ⟨e1.alloc _,?_⟩
     refine callK_ret (ranges_ret _ _ _ (FieldsOf.ext hB ((Ext.refl _).alloc _))) ?_
     rintro _ w2 ⟨m,rfl,_,hM,e2⟩
     rw [numPairs_RP] at hM
     have s1:=e1.size
     simp only [World.size_drew] at s1
     refine narrowK_KL ((e1.alloc _).trans e2) hM ?_
     exact fin9 w2 m w1.heap.size _ _ ((e1.alloc _).trans e2) hM (e2.obj (heap_new _ _ _)) s1
 · refine ⟨(Ext.refl _).alloc _,?_⟩
   unfold n27c12
   refine callK_ret (before_ret (h.ext ((e0.trans eD).alloc _)) i hi hlt) ?_
   rintro bv w1 ⟨hB,e1⟩
   refine narrowK_same (((Ext.refl _).alloc _).trans e1) ?_
   refine callK_ret (ranges_ret _ _ _ hB) ?_
   rintro _ w2 ⟨m,rfl,_,hM,e2⟩
   rw [numPairs_RP] at hM
   refine narrowK_KL (((Ext.refl _).alloc _).trans (e1.trans e2)) hM ?_
   exact fin9 w2 m W.heap.size _ _ (((Ext.refl _).alloc _).trans (e1.trans e2)) hM ((e1.trans e2).obj (heap_new W.drew _ _)) (Nat.le_refl _)
end
section
variable {w0:World} {cb md ms:Nat} {deps strs:List (ByteArray×Value)} {at_ fld:Int} {fs:List FieldD}
def topF (f:FieldD):Int:=2 ^ f.bits.toNat - 1
theorem top_wrap {f:FieldD} (h:bitsB f=true):0≤f.bits∧f.bits≤64∧IntKind.i64.wrap (IntKind.i64.wrap (1*2 ^ f.bits.toNat) - 1)=topF f:=by
 unfold bitsB at h
 simp only [Bool.and_eq_true,decide_eq_true_eq] at h
 obtain ⟨⟨h1,h2⟩,_⟩:=h
 have hc:(2:Int) ^ f.bits.toNat=((2 ^ f.bits.toNat:Nat):Int):=by simp
 have hp1:2 ^ f.bits.toNat≤2 ^ 32:=Nat.pow_le_pow_right (by decide) (by omega)
 have hp:(2:Int) ^ f.bits.toNat≤4294967296:=by rw [hc];omega
 have hp0:(0:Int) < 2 ^ f.bits.toNat:=Int.pow_pos (by decide)
 refine ⟨by omega,by omega,?_⟩
 unfold topF
 rw [Int.one_mul,show IntKind.i64.wrap (2 ^ f.bits.toNat)=2 ^ f.bits.toNat from wrap_ok (by omega) (by omega),wrap_ok (by omega) (by omega)]
theorem needC_zero {b:Bool} {c:Int} (hc:c≠0) (h:needC b c=0):b=true:=by
 cases b with
 | true=>rfl
 | false=>exact absurd h hc
theorem uint_flw (h:Chk w0 cb md ms deps strs at_ fld fs) (v:Value) (f:FieldD) (hf:FieldVal w0 v f):Calls Pg 194 #[.pointer (some ⟨cb,0,none⟩),v] w0 (flwR w0 at_ fld (orC (needC (bitsB f) 6) (withinC (topF f) 0 [f.low,f.high]))):=by
 obtain ⟨tv,cv,rfl,hT,hC,ht1,hc1⟩:=hf.op
 refine n51s ?_;unfold n51
 simp (disch:=try exact DI) only [↓PR,QR,simprocAttr]
 generalize hW:World.alloc w0 _=W
 have e0:Ext w0 W:=by rw [← hW];exact ee
 have o3:W.heap[w0.heap.size]?=some (.cells (fieldCells f tv cv).toArray 48 (0,0)):=by rw [← hW];simp (disch:=try exact DI) only [↓PR,QR,simprocAttr]
 clear hW
 simp (disch:=try exact DI) only [↓PR,QR,simprocAttr,(cells_of_heap o3).1]
 refine callK_flw (bits_flw (h.ext e0) _ f ⟨tv,cv,rfl,TermsOf.ext hT e0,CasesOf.ext hC e0⟩) (fun w1 e1 h0=>?_) (fun w1 e1 h0=>?_)
 · rw [h0,orC_zero]
   obtain ⟨ha,hb,hw⟩:=top_wrap (needC_zero (by decide) h0)
   have e01:=e0.trans e1
   have l1:w0.heap.size < w1.heap.size:=(Array.getElem?_eq_some_iff.1 (e1.obj o3)).1
   refine drawK_intro ?_
   simp (disch:=try exact DI) only [↓PR,QR,simprocAttr,↓n51c1,(cells_of_heap (e1.obj o3)).1,hw]
   generalize hW:World.alloc (World.drew w1) _=W2
   have eD:Ext w1.drew W2:=by rw [← hW];exact ee
   have hIn:IntsOf W2 (.slice (some ⟨w1.heap.size,0,none⟩) 2 2) [f.low,f.high]:=by rw [← hW];exact ints2 rfl _ _ _
   clear hW
   have eE:Ext w0 W2:=(e01.wdrew).trans eD
   refine ⟨eD,?_⟩
   refine callK_flw (within_flw (h.ext eE) 0 (topF f) _ _ hIn) (fun w2 e2 h0=>?_) (fun w2 e2 h0=>?_)
   · exact ⟨eD.trans e2,flwR_ret (eE.trans e2) h0⟩
   · exact flwR_pan (eE.trans e2) rfl h0
 · rw [orC_ne h0]
   exact flwR_pan (e0.trans e1) rfl h0
theorem const_flw (h:Chk w0 cb md ms deps strs at_ fld fs) (v:Value) (f:FieldD) (hf:FieldVal w0 v f):Calls Pg 198 #[.pointer (some ⟨cb,0,none⟩),v] w0 (flwR w0 at_ fld (orC (needC (bitsB f) 6) (withinC (topF f) 0 [f.low]))):=by
 obtain ⟨tv,cv,rfl,hT,hC,ht1,hc1⟩:=hf.op
 refine n56s ?_;unfold n56
 simp (disch:=try exact DI) only [↓PR,QR,simprocAttr]
 generalize hW:World.alloc w0 _=W
 have e0:Ext w0 W:=by rw [← hW];exact ee
 have o3:W.heap[w0.heap.size]?=some (.cells (fieldCells f tv cv).toArray 48 (0,0)):=by rw [← hW];simp (disch:=try exact DI) only [↓PR,QR,simprocAttr]
 clear hW
 simp (disch:=try exact DI) only [↓PR,QR,simprocAttr,(cells_of_heap o3).1]
 refine callK_flw (bits_flw (h.ext e0) _ f ⟨tv,cv,rfl,TermsOf.ext hT e0,CasesOf.ext hC e0⟩) (fun w1 e1 h0=>?_) (fun w1 e1 h0=>?_)
 · rw [h0,orC_zero]
   obtain ⟨ha,hb,hw⟩:=top_wrap (needC_zero (by decide) h0)
   have e01:=e0.trans e1
   have l1:w0.heap.size < w1.heap.size:=(Array.getElem?_eq_some_iff.1 (e1.obj o3)).1
   refine drawK_intro ?_
   simp (disch:=try exact DI) only [↓PR,QR,simprocAttr,↓n56c1,(cells_of_heap (e1.obj o3)).1,hw]
   generalize hW:World.alloc (World.drew w1) _=W2
   have eD:Ext w1.drew W2:=by rw [← hW];exact ee
   have hIn:IntsOf W2 (.slice (some ⟨w1.heap.size,0,none⟩) 1 1) [f.low]:=by rw [← hW];exact ints1 rfl _ _
   clear hW
   have eE:Ext w0 W2:=(e01.wdrew).trans eD
   refine ⟨eD,?_⟩
   refine callK_flw (within_flw (h.ext eE) 0 (topF f) _ _ hIn) (fun w2 e2 h0=>?_) (fun w2 e2 h0=>?_)
   · exact ⟨eD.trans e2,flwR_ret (eE.trans e2) h0⟩
   · exact flwR_pan (eE.trans e2) rfl h0
 · rw [orC_ne h0]
   exact flwR_pan (e0.trans e1) rfl h0
theorem varint_flw (h:Chk w0 cb md ms deps strs at_ fld fs) (v:Value) (f:FieldD) (hf:FieldVal w0 v f):Calls Pg 200 #[.pointer (some ⟨cb,0,none⟩),v] w0 (flwR w0 at_ fld (withinC 34359738367 0 [f.low,f.high])):=by
 obtain ⟨tv,cv,rfl,hT,hC,ht1,hc1⟩:=hf.op
 refine n58s ?_;unfold n58
 simp (disch:=try exact DI) only [↓PR,QR,simprocAttr]
 generalize hW:World.alloc (World.alloc w0 _) _=W
 have e0:Ext w0 W:=by rw [← hW];exact ee
 have o3:W.heap[w0.heap.size]?=some (.cells (fieldCells f tv cv).toArray 48 (0,0)):=by rw [← hW];simp (disch:=try exact DI) only [↓PR,QR,simprocAttr]
 have hIn:IntsOf W (.slice (some ⟨w0.heap.size+1,0,none⟩) 2 2) [f.low,f.high]:=by rw [← hW];exact ints2 (by simp only [World.size_alloc]) _ _ _
 clear hW
 refine callK_flw (within_flw (h.ext e0) 0 34359738367 _ _ hIn) (fun w1 e1 h0=>?_) (fun w1 e1 h0=>?_)
 · exact flwR_ret (e0.trans e1) h0
 · exact flwR_pan (e0.trans e1) rfl h0
theorem headers_flw (h:Chk w0 cb md ms deps strs at_ fld fs) (v:Value) (f:FieldD) (hf:FieldVal w0 v f):Calls Pg 206 #[.pointer (some ⟨cb,0,none⟩),v] w0 (flwR w0 at_ fld (withinC 1048576 2 [f.high])):=by
 obtain ⟨tv,cv,rfl,hT,hC,ht1,hc1⟩:=hf.op
 refine n42s ?_;unfold n42
 simp (disch:=try exact DI) only [↓PR,QR,simprocAttr]
 generalize hW:World.alloc (World.alloc w0 _) _=W
 have e0:Ext w0 W:=by rw [← hW];exact ee
 have o3:W.heap[w0.heap.size]?=some (.cells (fieldCells f tv cv).toArray 48 (0,0)):=by rw [← hW];simp (disch:=try exact DI) only [↓PR,QR,simprocAttr]
 have hIn:IntsOf W (.slice (some ⟨w0.heap.size+1,0,none⟩) 1 1) [f.high]:=by rw [← hW];exact ints1 (by simp only [World.size_alloc]) _ _
 clear hW
 refine callK_flw (within_flw (h.ext e0) 2 1048576 _ _ hIn) (fun w1 e1 h0=>?_) (fun w1 e1 h0=>?_)
 · exact flwR_ret (e0.trans e1) h0
 · exact flwR_pan (e0.trans e1) rfl h0
theorem until_flw (h:Chk w0 cb md ms deps strs at_ fld fs) (v:Value) (f:FieldD) (hf:FieldVal w0 v f):Calls Pg 204 #[.pointer (some ⟨cb,0,none⟩),v] w0 (flwR w0 at_ fld (orC (withinC 255 0 [f.low]) (withinC 1048576 0 [f.high]))):=by
 obtain ⟨tv,cv,rfl,hT,hC,ht1,hc1⟩:=hf.op
 refine n61s ?_;unfold n61
 simp (disch:=try exact DI) only [↓PR,QR,simprocAttr]
 generalize hW:World.alloc (World.alloc w0 _) _=W
 have e0:Ext w0 W:=by rw [← hW];exact ee
 have o3:W.heap[w0.heap.size]?=some (.cells (fieldCells f tv cv).toArray 48 (0,0)):=by rw [← hW];simp (disch:=try exact DI) only [↓PR,QR,simprocAttr]
 have hIn:IntsOf W (.slice (some ⟨w0.heap.size+1,0,none⟩) 1 1) [f.low]:=by rw [← hW];exact ints1 (by simp only [World.size_alloc]) _ _
 clear hW
 refine callK_flw (within_flw (h.ext e0) 0 255 _ _ hIn) (fun w1 e1 h0=>?_) (fun w1 e1 h0=>?_)
 · rw [h0,orC_zero]
   have e01:=e0.trans e1
   simp (disch:=try exact DI) only [↓PR,QR,simprocAttr,↓n61c1,(cells_of_heap (e1.obj o3)).1]
   refine callK_flw (within_flw ((h.ext e01).ext ((Ext.refl _).alloc _)) 0 1048576 _ _ (ints1 rfl _ _)) (fun w2 e2 h0=>?_) (fun w2 e2 h0=>?_)
   · exact flwR_ret ((e01.alloc _).trans e2) h0
   · exact flwR_pan ((e01.alloc _).trans e2) rfl h0
 · rw [orC_ne h0]
   exact flwR_pan (e0.trans e1) rfl h0
theorem message_flw (h:Chk w0 cb md ms deps strs at_ fld fs) (v:Value) (f:FieldD) (hf:FieldVal w0 v f):Calls Pg 211 #[.pointer (some ⟨cb,0,none⟩),v] w0 (flwR w0 at_ fld (needC (lastOf deps f.of).isSome 8)):=by
 obtain ⟨tv,cv,rfl,hT,hC,ht1,hc1⟩:=hf.op
 refine n46s ?_;unfold n46
 simp (disch:=try exact DI) only [↓PR,QR,simprocAttr]
 generalize hW:World.alloc w0 _=W
 have e0:Ext w0 W:=by rw [← hW];exact ee
 have o3:W.heap[w0.heap.size]?=some (.cells (fieldCells f tv cv).toArray 48 (0,0)):=by rw [← hW];simp (disch:=try exact DI) only [↓PR,QR,simprocAttr]
 clear hW
 simp (disch:=try exact DI) only [↓PR,QR,simprocAttr,(cells_of_heap o3).1]
 refine callK_flw (refer_flw (h.ext e0) f.of) (fun w1 e1 h0=>?_) (fun w1 e1 h0=>?_)
 · exact flwR_ret (e0.trans e1) h0
 · exact flwR_pan (e0.trans e1) rfl h0
theorem list_flw (h:Chk w0 cb md ms deps strs at_ fld fs) (i:Nat) (hi:fld=i) (hlt:i < fs.length) (v:Value) (f:FieldD) (hf:FieldVal w0 v f) (ht:f.terms.length≤1048576):Calls Pg 208 #[.pointer (some ⟨cb,0,none⟩),v] w0 (flwR w0 at_ fld (orC (needC (lastOf deps f.of).isSome 8) (sizedC (numR (fs.take i)) f))):=by
 obtain ⟨tv,cv,rfl,hT,hC,ht1,hc1⟩:=hf.op
 refine n44s ?_;unfold n44
 simp (disch:=try exact DI) only [↓PR,QR,simprocAttr]
 generalize hW:World.alloc w0 _=W
 have e0:Ext w0 W:=by rw [← hW];exact ee
 have o3:W.heap[w0.heap.size]?=some (.cells (fieldCells f tv cv).toArray 48 (0,0)):=by rw [← hW];simp (disch:=try exact DI) only [↓PR,QR,simprocAttr]
 clear hW
 simp (disch:=try exact DI) only [↓PR,QR,simprocAttr,(cells_of_heap o3).1]
 refine callK_flw (refer_flw (h.ext e0) f.of) (fun w1 e1 h0=>?_) (fun w1 e1 h0=>?_)
 · rw [h0,orC_zero]
   have e01:=e0.trans e1
   simp (disch:=try exact DI) only [↓PR,QR,simprocAttr,(cells_of_heap (e1.obj o3)).1]
   refine callK_flw (sized_flw (h.ext e01) i hi hlt _ f ⟨tv,cv,rfl,TermsOf.ext hT e01,CasesOf.ext hC e01⟩ ht) (fun w2 e2 h0=>?_) (fun w2 e2 h0=>?_)
   · exact flwR_ret (e01.trans e2) h0
   · exact flwR_pan (e01.trans e2) rfl h0
 · rw [orC_ne h0]
   exact flwR_pan (e0.trans e1) rfl h0
theorem view_flw (h:Chk w0 cb md ms deps strs at_ fld fs) (i:Nat) (hi:fld=i) (hlt:i < fs.length) (v:Value) (f:FieldD) (hf:FieldVal w0 v f) (ht:f.terms.length≤1048576):Calls Pg 219 #[.pointer (some ⟨cb,0,none⟩),v] w0 (flwR w0 at_ fld (orC (withinC 4294967295 0 [f.key]) (orC (needC (strB strs f.of) 8) (sizedC (numR (fs.take i)) f)))):=by
 obtain ⟨tv,cv,rfl,hT,hC,ht1,hc1⟩:=hf.op
 refine n54s ?_;unfold n54
 simp (disch:=try exact DI) only [↓PR,QR,simprocAttr]
 generalize hW:World.alloc (World.alloc w0 _) _=W
 have e0:Ext w0 W:=by rw [← hW];exact ee
 have o3:W.heap[w0.heap.size]?=some (.cells (fieldCells f tv cv).toArray 48 (0,0)):=by rw [← hW];simp (disch:=try exact DI) only [↓PR,QR,simprocAttr]
 have hIn:IntsOf W (.slice (some ⟨w0.heap.size+1,0,none⟩) 1 1) [f.key]:=by rw [← hW];exact ints1 (by simp only [World.size_alloc]) _ _
 clear hW
 refine callK_flw (within_flw (h.ext e0) 0 4294967295 _ _ hIn) (fun w1 e1 h0=>?_) (fun w1 e1 h0=>?_)
 · rw [h0,orC_zero]
   have e01:=e0.trans e1
   have h1:=h.ext e01.wdrew
   obtain ⟨⟨dn,mv,ds,mn,fv,k1,k2⟩,k3,k4,k5,k6⟩:=id h1
   refine drawK_intro ?_
   simp (disch:=try exact DI) only [↓PR,QR,simprocAttr,↓n54c1,(cells_of_heap (e1.obj o3)).1,(cells_of_heap k1).1]
   have k1':=(cells_of_heap k1).1
   simp only [World.cell?] at k1'
   rw [qV_lookup1E Tryz.underlying162 Tryz.underlying9 ty4 k4]
   rw [h1.strV f.of]
   refine callK_flw (need_flw h1 _ 8 (by decide)) (fun w2 e2 h0=>?_) (fun w2 e2 h0=>?_)
   · rw [h0,orC_zero]
     refine ⟨e2,?_⟩
     have e02:=(e01.wdrew).trans e2
     have e12:Ext W w2:=(e1.wdrew).trans e2
     simp (disch:=try exact DI) only [↓PR,QR,simprocAttr,(cells_of_heap (e12.obj o3)).1]
     refine callK_flw (sized_flw (h.ext e02) i hi hlt _ f ⟨tv,cv,rfl,TermsOf.ext hT e02,CasesOf.ext hC e02⟩ ht) (fun w3 e3 h0=>?_) (fun w3 e3 h0=>?_)
     · exact flwR_ret (e02.trans e3) h0
     · exact flwR_pan (e02.trans e3) rfl h0
   · rw [orC_ne h0]
     exact flwR_pan (e01.wdrew.trans e2) rfl h0
 · rw [orC_ne h0]
   exact flwR_pan (e0.trans e1) rfl h0
theorem check_flw (h:Chk w0 cb md ms deps strs at_ fld fs) (i:Nat) (hi:fld=i) (hlt:i < fs.length) (v:Value) (f:FieldD) (hf:FieldVal w0 v f):Calls Pg 217 #[.pointer (some ⟨cb,0,none⟩),v] w0 (flwR w0 at_ fld (orC (withinC 3 1 [f.check]) (needC ((fs.take i).any fun o=>decide (o.name=f.fr)) 8))):=by
 obtain ⟨tv,cv,rfl,hT,hC,ht1,hc1⟩:=hf.op
 refine n52s ?_;unfold n52
 simp (disch:=try exact DI) only [↓PR,QR,simprocAttr]
 generalize hW:World.alloc (World.alloc w0 _) _=W
 have e0:Ext w0 W:=by rw [← hW];exact ee
 have o3:W.heap[w0.heap.size]?=some (.cells (fieldCells f tv cv).toArray 48 (0,0)):=by rw [← hW];simp (disch:=try exact DI) only [↓PR,QR,simprocAttr]
 have hIn:IntsOf W (.slice (some ⟨w0.heap.size+1,0,none⟩) 1 1) [f.check]:=by rw [← hW];exact ints1 (by simp only [World.size_alloc]) _ _
 clear hW
 refine callK_flw (within_flw (h.ext e0) 1 3 _ _ hIn) (fun w1 e1 h0=>?_) (fun w1 e1 h0=>?_)
 · rw [h0,orC_zero]
   have e01:=e0.trans e1
   refine drawK_intro ?_
   simp (disch:=try exact DI) only [↓PR,QR,simprocAttr,↓n52c1,↓n52c2,(cells_of_heap (e1.obj o3)).1]
   refine callK_ret (before_ret (h.ext e01.wdrew) i hi hlt) ?_
   rintro bv w2 ⟨hB,e2⟩
   refine ⟨e2,?_⟩
   have hb1:=SliceOf.oneCell hB
   simp (disch:=try exact DI) only [↓PR,QR,simprocAttr,↓n52c1,↓n52c2]
   refine zcr (Field_ret w2 _ ⟨ByteArray.empty,fs.take i⟩ f.fr ⟨bv,rfl,hB⟩) fun w3 e3=>?_
   refine ⟨e2.trans e3,?_⟩
   simp (disch:=try exact DI) only [↓PR,QR,simprocAttr,↓n52c1,↓n52c2]
   have e03:=(e01.wdrew).trans (e2.trans e3)
   refine callK_flw (need_flw (h.ext e03) _ 8 (by decide)) (fun w4 e4 h0=>?_) (fun w4 e4 h0=>?_)
   · exact flwR_ret (e03.trans e4) h0
   · exact flwR_pan (e03.trans e4) rfl h0
 · rw [orC_ne h0]
   exact flwR_pan (e0.trans e1) rfl h0
def padB (f:FieldD):Bool:=(f.bits == 2)||(f.bits == 4)||(decide (8≤f.bits)&&decide (f.bits≤512)&&(f.bits.tmod 8 == 0))
theorem pad_flw (h:Chk w0 cb md ms deps strs at_ fld fs) (v:Value) (f:FieldD) (hf:FieldVal w0 v f):Calls Pg 215 #[.pointer (some ⟨cb,0,none⟩),v] w0 (flwR w0 at_ fld (needC (padB f) 6)):=by
 obtain ⟨tv,cv,rfl,hT,hC,ht1,hc1⟩:=hf.op
 refine n49s ?_;unfold n49
 simp (disch:=try exact DI) only [↓PR,QR,simprocAttr,↓n49c1,↓n49c2,↓n49c3,↓n49c4]
 have e0:Ext w0 (w0.alloc (Obj.cells (fieldCells f tv cv).toArray 48)):=ee
 have fin:∀ b,b=padB f→callK Pg 122 #[.pointer (some ⟨cb,0,none⟩),.bool b,.int .i64 6] (panK (flwR w0 at_ fld (needC (padB f) 6))) (w0.alloc (Obj.cells (fieldCells f tv cv).toArray 48)) (fun _ w=>flwR w0 at_ fld (needC (padB f) 6) (.returned (.tuple #[])) w):=by
  rintro b rfl
  exact callK_flw (need_flw (h.ext e0) _ 6 (by decide)) (fun w' e1 h0=>flwR_ret (e0.trans e1) h0) (fun w' e1 h0=>flwR_pan (e0.trans e1) rfl h0)
 unfold padB at fin ⊢
 generalize (f.bits == 2)=b1 at fin ⊢
 generalize (f.bits == 4)=b2 at fin ⊢
 generalize decide (8≤f.bits)=b3 at fin ⊢
 generalize decide (f.bits≤512)=b4 at fin ⊢
 cases b1<;>cases b2<;>cases b3<;>cases b4<;>simp (disch:=try exact DI) only [↓PR,QR,simprocAttr,↓n49c1,↓n49c2,↓n49c3,↓n49c4]<;>first | exact fin _ rfl | exact fin _ (by simp)
end
theorem eq_Term (x y:TermD):(decide (x.field=y.field)&&decide (x.factor=y.factor))=decide (x=y):=by
 cases x;cases y
 rw [Bool.eq_iff_iff]
 simp
theorem Equal_Term_ret (w0:World) (v u:Value) (l m:List TermD) (hl:TermsOf w0 v l) (hm:TermsOf w0 u m) :
 Ret Pg 95 #[v,u] w0 fun r w'=>r = .bool (decide (l=m))∧Ext w0 w':=by
 obtain ⟨A,c,rfl,hlc,hcm,hlm,hel⟩:=SliceOf.open hl
 obtain ⟨A',c',rfl,hlc',hcm',hlm',hel'⟩:=SliceOf.open hm
 refine n115s (R:=retR _) ?_;unfold n115
 simp (disch:=try exact DI) only [↓PR,QR,simprocAttr]
 by_cases hlen:l.length=m.length
 · have hne:((l.length:Int) != (m.length:Int))=false:=by simp [hlen]
   simp (disch:=try exact DI) only [↓PR,QR,simprocAttr,↓n115c1,↓n115c2,hne]
   refine loop1_intro (fun a0 w=>∃ (k:Nat) , a0 = .int .i64 (k:Int)∧k≤l.length∧Ext w0 w∧l.take k=m.take k) (fun a0 _=>l.length - (intOf a0).toNat) ⟨0,rfl,Nat.zero_le _,ee,rfl⟩ ?_
   rintro _ w ⟨k,rfl,hk,e,hI⟩
   have se:=e.size
   rcases drop_cases hk with ⟨x,hx,hd,hlt,hdec⟩ | ⟨hk,hd,hdec⟩
   · obtain ⟨b,o,cs,rfl,_,hA,rfl⟩:=hel k x hx
     obtain ⟨y,hy⟩:=getElem?_lt (l:=m) (k:=k) (by omega)
     obtain ⟨b',o',cs',rfl,_,hA',rfl⟩:=hel' k y hy
     have hlt':k < m.length:=by omega
     have eD:Ext w0 w.drew:=e.wdrew
     simp (disch:=try exact DI) only [↓PR,QR,simprocAttr,↓n115c1,↓n115c2,hdec]
     refine drawK_intro ?_
     simp (disch:=try exact DI) only [↓PR,QR,simprocAttr,↓n115c1,↓n115c2,hA.c2,hA'.c2]
     rw [eq_Term]
     by_cases hxy:x=y
     · subst hxy
       simp only [decide_true,Bool.not_true]
       simp (disch:=try exact DI) only [↓PR,QR,simprocAttr,↓n115c1,↓n115c2]
       exact ⟨⟨k+1,rfl,by omega,ee,by rw [List.take_add_one,List.take_add_one,hx,hy,hI]⟩,meas_lt (kd := .i64) hlt⟩
     · simp only [hxy,decide_false,Bool.not_false]
       simp (disch:=try exact DI) only [↓PR,QR,simprocAttr,↓n115c1,↓n115c2]
       refine ⟨?_,eD⟩
       have hne':¬ l=m:=by
        rintro rfl
        rw [hx] at hy
        injection hy with hy
        exact hxy hy
       simp [hne']
   · subst hk
     simp (disch:=try exact DI) only [↓PR,QR,simprocAttr,↓n115c1,↓n115c2,hdec]
     rw [List.take_length,hlen,List.take_length] at hI
     exact ⟨by simp [hI],e⟩
 · have hne:((l.length:Int) != (m.length:Int))=true:=by simp;omega
   simp (disch:=try exact DI) only [↓PR,QR,simprocAttr,↓n115c1,↓n115c2,hne]
   have hne':¬ l=m:=fun h=>hlen (by rw [h])
   exact ⟨by simp [hne'],Ext.refl _⟩
theorem eq_Case (x y:CaseD):(decide (x.low=y.low)&&(decide (x.high=y.high)&&decide (x.of=y.of)))=decide (x=y):=by
 cases x;cases y
 rw [Bool.eq_iff_iff]
 simp
theorem Equal_Case_ret (w0:World) (v u:Value) (l m:List CaseD) (hl:CasesOf w0 v l) (hm:CasesOf w0 u m) :
 Ret Pg 96 #[v,u] w0 fun r w'=>r = .bool (decide (l=m))∧Ext w0 w':=by
 obtain ⟨A,c,rfl,hlc,hcm,hlm,hel⟩:=SliceOf.open hl
 obtain ⟨A',c',rfl,hlc',hcm',hlm',hel'⟩:=SliceOf.open hm
 refine n114s (R:=retR _) ?_;unfold n114
 simp (disch:=try exact DI) only [↓PR,QR,simprocAttr]
 by_cases hlen:l.length=m.length
 · have hne:((l.length:Int) != (m.length:Int))=false:=by simp [hlen]
   simp (disch:=try exact DI) only [↓PR,QR,simprocAttr,↓n114c1,↓n114c2,hne]
   refine loop1_intro (fun a0 w=>∃ (k:Nat) , a0 = .int .i64 (k:Int)∧k≤l.length∧Ext w0 w∧l.take k=m.take k) (fun a0 _=>l.length - (intOf a0).toNat) ⟨0,rfl,Nat.zero_le _,ee,rfl⟩ ?_
   rintro _ w ⟨k,rfl,hk,e,hI⟩
   have se:=e.size
   rcases drop_cases hk with ⟨x,hx,hd,hlt,hdec⟩ | ⟨hk,hd,hdec⟩
   · obtain ⟨b,o,cs,rfl,_,hA,rfl⟩:=hel k x hx
     obtain ⟨y,hy⟩:=getElem?_lt (l:=m) (k:=k) (by omega)
     obtain ⟨b',o',cs',rfl,_,hA',rfl⟩:=hel' k y hy
     have hlt':k < m.length:=by omega
     have eD:Ext w0 w.drew:=e.wdrew
     simp (disch:=try exact DI) only [↓PR,QR,simprocAttr,↓n114c1,↓n114c2,hdec]
     refine drawK_intro ?_
     simp (disch:=try exact DI) only [↓PR,QR,simprocAttr,↓n114c1,↓n114c2,hA.c3,hA'.c3]
     rw [eq_Case]
     by_cases hxy:x=y
     · subst hxy
       simp only [decide_true,Bool.not_true]
       simp (disch:=try exact DI) only [↓PR,QR,simprocAttr,↓n114c1,↓n114c2]
       exact ⟨⟨k+1,rfl,by omega,ee,by rw [List.take_add_one,List.take_add_one,hx,hy,hI]⟩,meas_lt (kd := .i64) hlt⟩
     · simp only [hxy,decide_false,Bool.not_false]
       simp (disch:=try exact DI) only [↓PR,QR,simprocAttr,↓n114c1,↓n114c2]
       refine ⟨?_,eD⟩
       have hne':¬ l=m:=by
        rintro rfl
        rw [hx] at hy
        injection hy with hy
        exact hxy hy
       simp [hne']
   · subst hk
     simp (disch:=try exact DI) only [↓PR,QR,simprocAttr,↓n114c1,↓n114c2,hdec]
     rw [List.take_length,hlen,List.take_length] at hI
     exact ⟨by simp [hI],e⟩
 · have hne:((l.length:Int) != (m.length:Int))=true:=by simp;omega
   simp (disch:=try exact DI) only [↓PR,QR,simprocAttr,↓n114c1,↓n114c2,hne]
   have hne':¬ l=m:=fun h=>hlen (by rw [h])
   exact ⟨by simp [hne'],Ext.refl _⟩
abbrev partsVal (f:FieldD):Value := .agg #[.string f.name,.string f.of,.string f.tag,.string f.fr,.int .i64 f.kind,.int .i64 f.bits,.int .i64 f.low,.int .i64 f.high,.int .i64 f.base,.int .i64 f.check,.int .i64 f.key,.bool f.little,.bool f.loose]
theorem parts_ret (w0:World) (v:Value) (f:FieldD) (hf:FieldVal w0 v f):Ret Pg 94 #[v] w0 fun r w'=>r=partsVal f∧Ext w0 w':=by
 obtain ⟨tv,cv,rfl,hT,hC,ht1,hc1⟩:=hf.op
 refine n62s (R:=retR _) ?_;unfold n62
 simp (disch:=try exact DI) only [↓PR,QR,simprocAttr,Sw.joinK_eq]
 exact ⟨by first | trivial | rfl,ee⟩
theorem sameField_ret (w0:World) (v u:Value) (f g:FieldD) (hf:FieldVal w0 v f) (hg:FieldVal w0 u g):Ret Pg 66 #[v,u] w0 fun r w'=>r = .bool (decide (f=g))∧Ext w0 w':=by
 obtain ⟨tv,cv,rfl,hT,hC,ht1,hc1⟩:=hf.op
 obtain ⟨tv',cv',rfl,hT',hC',ht1',hc1'⟩:=hg.op
 refine n64s (R:=retR _) ?_;unfold n64
 simp (disch:=try exact DI) only [↓PR,QR,simprocAttr]
 generalize hW:World.alloc (World.alloc w0 _) _=W
 have e0:Ext w0 W:=by rw [← hW];exact ee
 have o3:W.heap[w0.heap.size]?=some (.cells (fieldCells f tv cv).toArray 48 (0,0)):=by rw [← hW];simp (disch:=try exact DI) only [↓PR,QR,simprocAttr]
 have o4:W.heap[w0.heap.size+1]?=some (.cells (fieldCells g tv' cv').toArray 48 (0,0)):=by rw [← hW];simp (disch:=try exact DI) only [↓PR,QR,simprocAttr]
 clear hW
 simp only [World.size_alloc]
 refine drawK_intro ?_
 have eD:Ext w0 W.drew:=e0.wdrew
 simp (disch:=try exact DI) only [↓PR,QR,simprocAttr,↓n64c1,↓n64c2,↓n64c3,(cells_of_heap o3).1,(cells_of_heap o4).1]
 refine zcr (parts_ret _ _ f ⟨tv,cv,rfl,TermsOf.ext hT eD,CasesOf.ext hC eD⟩) fun w1 e1=>?_
 refine ⟨e1,?_⟩
 have eD1:=eD.trans e1
 refine zcr (parts_ret _ _ g ⟨tv',cv',rfl,TermsOf.ext hT' eD1,CasesOf.ext hC' eD1⟩) fun w2 e2=>?_
 refine ⟨e1.trans e2,?_⟩
 simp (disch:=try exact DI) only [↓PR,QR,simprocAttr,↓n64c1,↓n64c2,↓n64c3,(cells_of_heap o3).1,(cells_of_heap o4).1]
 have eW2:Ext W w2:=(Ext.refl W).wdrew.trans (e1.trans e2)
 generalize hb:(_&&_:Bool)=b1
 cases b1 with
 | false =>
  simp (disch:=try exact DI) only [↓PR,QR,simprocAttr,↓n64c1,↓n64c2,↓n64c3]
  refine ⟨?_,e0.trans eW2⟩
  have hne:¬ f=g:=by
   rintro rfl
   simp at hb
  simp [hne]
 | true =>
  have hbt:=hb
  simp only [Bool.and_eq_true,decide_eq_true_eq] at hb
  obtain ⟨h1,h2,h3,h4,h5,h6,h7,h8,h9,h10,h11,h12,h13⟩:=hb
  simp (disch:=try exact DI) only [↓PR,QR,simprocAttr,↓n64c1,↓n64c2,↓n64c3,(cells_of_heap o3).1,(cells_of_heap o4).1]
  refine zcr (Equal_Term_ret _ _ _ _ _ (TermsOf.ext hT (e0.trans eW2)) (TermsOf.ext hT' (e0.trans eW2))) fun w3 e3=>?_
  refine ⟨(e1.trans e2).trans e3,?_⟩
  have eW3:=eW2.trans e3
  by_cases ht:f.terms=g.terms
  · simp only [ht,decide_true]
    simp (disch:=try exact DI) only [↓PR,QR,simprocAttr,↓n64c1,↓n64c2,↓n64c3,hbt,(cells_of_heap o3).1,(cells_of_heap o4).1]
    refine zcr (Equal_Case_ret _ _ _ _ _ (CasesOf.ext hC (e0.trans eW3)) (CasesOf.ext hC' (e0.trans eW3))) fun w4 e4=>?_
    refine ⟨((e1.trans e2).trans e3).trans e4,?_⟩
    simp (disch:=try exact DI) only [↓PR,QR,simprocAttr,↓n64c1,↓n64c2,↓n64c3]
    refine ⟨?_,e0.trans (eW3.trans e4)⟩
    congr 1
    rw [Bool.eq_iff_iff]
    simp only [decide_eq_true_eq]
    constructor
    · intro hc;cases f;cases g;simp_all
    · rintro rfl;rfl
  · simp only [ht,decide_false]
    simp (disch:=try exact DI) only [↓PR,QR,simprocAttr,↓n64c1,↓n64c2,↓n64c3,hbt]
    refine ⟨?_,e0.trans eW3⟩
    have hne:¬ f=g:=by rintro rfl;exact ht rfl
    simp [hne]
def n29c1 (t0 t3 t6:Value) (R:RT) (w:World):Prop :=
 F0 219 t6 1 R w fun t49 w =>
 L0 217 t49 R w fun t50 w =>
 L0 48 t3 R w fun t52 w =>
 callV Pg t50 #[t0,t52] (panK R) w fun t53 w =>
 R (.returned (.tuple #[])) w
def n29c2 (t0 t3 t6 t7:Value) (R:RT) (w:World):Prop :=
 L0 48 t7 R w fun t41 w =>
 F0 48 t3 0 R w fun t42 w =>
 L0 9 t42 R w fun t43 w =>
 F0 48 t3 1 R w fun t44 w =>
 L0 42 t44 R w fun t45 w =>
 opV Pg (Instr.build 48 #[(0,t43),(1,t45)]) (panK R) w fun t46 w =>
 C0 66 #[t41,t46] R w fun t47 w =>
 C0 122 #[t0,t47,(.int .i64 5)] R w fun t48 w =>
 n29c1 t0 t3 t6 R w
def n29c3 (t0 t3 t6:Value) (R:RT) (w:World):Prop :=
 L0 48 t3 R w fun t36 w =>
 opV Pg (Instr.alloc 48 true (.tuple #[])) (panK R) w fun t7 w =>
 opU Pg (Instr.storeAt 48 t7 t36) (panK R) w fun w =>
 F0 219 t6 0 R w fun t37 w =>
 L0 216 t37 R w fun t38 w =>
 callV Pg t38 #[t7] (panK R) w fun t39 w =>
 n29c2 t0 t3 t6 t7 R w
def n29c4 (t27 t29:Value) (C4:World→Prop) (K3:KW) (R:RT) (w:World):Prop :=
 qV Pg C4 (Instr.lookup 221 t27 t29 true) fun t30 =>
 qV Pg C4 (Instr.extract t30 0) fun t31 =>
 qV Pg C4 (Instr.extract t30 1) fun t32 =>
 opV Pg (Instr.alloc 219 true (.tuple #[])) (panK R) w fun t6 w =>
 C4 w∧(
 opU Pg (Instr.storeAt 219 t6 t31) (panK R) w fun w =>
 C4 w∧(
 K3 t32 t6 w))
def n29c5 (t6 t27 t29:Value) (C5:World→Prop) (K3:KW) (R:RT) (w:World):Prop :=
 qV Pg C5 (Instr.lookup 221 t27 t29 true) fun t30 =>
 qV Pg C5 (Instr.extract t30 0) fun t31 =>
 qV Pg C5 (Instr.extract t30 1) fun t32 =>
 opU Pg (Instr.storeAt 219 t6 t31) (panK R) w fun w =>
 C5 w∧(
 K3 t32 t6 w)
def n29c6 (t0 t3:Value) (C2:World→Prop) (R:RT) (w:World):Prop :=
 qV Pg C2 (Instr.fieldAt 48 t3 1) fun t28 =>
 qV Pg C2 (Instr.loadAt 42 t28) fun t29 =>
 joinK (fun (t5:Value) (t6:Value) (w:World) =>
 C0 122 #[t0,t5,(.int .i64 4)] R w fun t35 w =>
 n29c3 t0 t3 t6 R w) fun K3 =>
 (
 C0 185 #[] R w fun t27 w =>
 narrowK C2 w fun C4 w =>
 n29c4 t27 t29 C4 K3 R w)∧(
 opV Pg (Instr.alloc 219 true (.tuple #[])) (panK R) w fun t6 w =>
 C2 w∧(
 C0 185 #[] R w fun t27 w =>
 narrowK C2 w fun C5 w =>
 n29c5 t6 t27 t29 C5 K3 R w))
def n29c7 (t0 t3 t19:Value) (C1:World→Prop) (R:RT) (w:World):Prop :=
 qV Pg C1 (Instr.extract t19 0) fun t20 =>
 qV Pg C1 (Instr.extract t19 1) fun t21 =>
 opV Pg (Op.unary .not t21) (panK R) w fun t24 w =>
 C0 122 #[t0,t24,(.int .i64 2)] R w fun t25 w =>
 drawK w fun C2 w =>
 n29c6 t0 t3 C2 R w
def n29c8 (t0 t3:Value) (C1:World→Prop) (R:RT) (w:World):Prop :=
 qV Pg C1 (Instr.fieldAt 48 t3 0) fun t17 =>
 qV Pg C1 (Instr.loadAt 9 t17) fun t18 =>
 C0 184 #[t0] R w fun t15 w =>
 C1 w∧(
 qV Pg C1 (Instr.build 24 #[(1,t15)]) fun t16 =>
 C0 82 #[t16,t18] R w fun t19 w =>
 C1 w∧(
 n29c7 t0 t3 t19 C1 R w))
def n29 (t0 t1:Value) (R:RT) (w:World):Prop :=
 opV Pg (Instr.box 48 t1) (panK R) w fun t3 w =>
 F0 48 t3 0 R w fun t9 w =>
 L0 9 t9 R w fun t10 w =>
 C0 123 #[t10] R w fun t11 w =>
 C0 122 #[t0,t11,(.int .i64 1)] R w fun t12 w =>
 drawK w fun C1 w =>
 n29c8 t0 t3 C1 R w
theorem n29s {t0 t1:Value} {R:RT} {w:World} (h:n29 t0 t1 R w):Calls Pg 160 #[t0,t1] w R:=by
 refine yD Tryz.func160 ?_
 refine zs<|zr<|yv h fun _ w h=>zn<|zk<|zs<|zr<|zm<|yv h fun _ w h=>yv h fun _ w h=>yc h c123 fun _ w h=>yc h c122 fun _ w h=>zn<|zk<|zs ?_
 refine yh [4,5,13,14,15,16,17,18,19,20,21] h fun C hC h=>yw 0 hC ?_
 refine ye 3 hC h fun _ h=>?_
 refine ye 4 hC h fun _ h=>?_
 refine yo 1 ?_
 refine yc h c184 fun _ w h=>zn ?_
 obtain ⟨hC,h⟩:=h
 refine ⟨hC,?_⟩
 refine ye 2 hC h fun _ h=>?_
 refine yo 5 ?_
 refine yc h c82 fun _ w h=>zn ?_
 obtain ⟨hC,h⟩:=h
 refine ⟨hC,?_⟩
 refine yw 6 hC ?_
 refine ye 7 hC h fun _ h=>?_
 refine ye 8 hC h fun _ h=>?_
 refine yw 9 hC ?_
 refine yw 10 hC ?_
 refine yz<|zk<|zs<|zr<|zm<|zm<|yv h fun _ w h=>yc h c122 fun _ w h=>zn<|zk<|zs<|yh [5,6,26,27,28,29,30,31,32] h fun C hC h=>ye 1 hC h fun _ h=>?_
 refine ye 2 hC h fun _ h=>?_
 refine joinK_elim h (fun K3 hK h=>?_)
 refine sim_dmeet [5,6,26,27,30,31,32] (fun ρ w=>K3 (ρ 5) (ρ 6) w) (fun T hT=>?_) (fun σ w h=>?_)
 · obtain ⟨h0,h1⟩:=h
   refine sim_dloud2 0 7 rfl rfl (by kernel_rfl) (fun _ _=>rfl) (fun _ _=>rfl) ?_ ?_
   · have h:=h0
     refine yc h c185 fun _ w h=>zn ?_
     obtain ⟨C4,hs,hC,h⟩:=h
     refine ⟨C4,hs,hC,?_⟩
     refine ye 3 hC h fun _ h=>?_
     refine yw 4 hC ?_
     refine ye 5 hC h fun _ h=>?_
     refine ye 6 hC h fun _ h=>?_
     refine yo 7 ?_
     refine yv h fun _ w h=>zn ?_
     obtain ⟨hC,h⟩:=h
     refine ⟨hC,?_⟩
     refine yo 8 ?_
     refine yu h fun w h=>zn ?_
     obtain ⟨hC,h⟩:=h
     refine ⟨hC,?_⟩
     refine yw 9 hC ?_
     refine yz ?_
     exact zt hT h
   have h:=h1
   refine yv h fun _ w h=>zn ?_
   obtain ⟨hC,h⟩:=h
   refine ⟨_,fun _ h=>h,hC,?_⟩
   refine yr 0 ?_
   refine yc h c185 fun _ w h=>zn ?_
   obtain ⟨C5,hs,hC,h⟩:=h
   refine ⟨C5,hs,hC,?_⟩
   refine ye 3 hC h fun _ h=>?_
   refine yw 4 hC ?_
   refine ye 5 hC h fun _ h=>?_
   refine ye 6 hC h fun _ h=>?_
   refine yo 8 ?_
   refine yu h fun w h=>zn ?_
   obtain ⟨hC,h⟩:=h
   refine ⟨hC,?_⟩
   refine yw 9 hC ?_
   refine yz ?_
   exact zt hT h
 subst hK
 refine zk<|zs<|zr<|zm<|zm<|yc h c122 fun _ w h=>zn<|zk<|zs<|zr<|yv h fun _ w h=>yv h fun _ w h=>yu h fun w h=>zn<|zk ?_
 refine zs<|zr<|yv h fun _ w h=>yv h fun _ w h=>yV h fun _ w h=>zn<|zk<|zs<|zr<|zm<|yv h fun _ w h=>yv h fun _ w h=>yv h fun _ w h=>yv h fun _ w h=>yv h fun _ w h=>?_
 exact yB h fun _ w h=>yc h c66 fun _ w h=>yc h c122 fun _ w h=>zn<|zk<|zr<|yv h fun _ w h=>yv h fun _ w h=>zm<|yv h fun _ w h=>yV h fun _ w h=>zn<|body_normal<|body_ret0 rfl h
end Go.Proofs.YtfjjgjjlebllmaaGreat
