/-
  Lemmas for the claim.
-/
import Derived.Test.YtiajhbbmgglmlaaGreatFh2
set_option linter.all false
set_option maxHeartbeats 4000000
set_option maxRecDepth 100000
namespace Go.Proofs.YtiajhbbmgglmlaaGreat
open Sw
def n10c1 (t1 t7 t34 t42 t54:Value) (C3:World→Prop) (K2:KV) (R:RT) (w:World):Prop :=
 pickK t42 (.bool true) t54 fun t55 =>
 joinK (fun (t62:Value) (w:World) =>
 pickK t55 (.bool true) t62 fun t63 =>
 condP t63 (
 R (.returned (.tuple #[(.int .i64 0),(.int .i64 0),(.int .i64 2)])) w) (
 K2 t7 w)) fun K5 =>
 guardP t55 false (
 qV Pg C3 (Instr.indexAt 127 t1 t34) fun t59 =>
 qV Pg C3 (Instr.fieldAt 129 t59 2) fun t60 =>
 qV Pg C3 (Instr.loadAt 3 t60) fun t61 =>
 qV Pg C3 (binS .geq 3 true t61 (.int .i64 34359738368)) fun t62 =>
 K5 t62 w) (
 K5 undef w)
def n10c2 (t1 t7 t34:Value) (C3:World→Prop) (K2:KV) (R:RT) (w:World):Prop :=
 qV Pg C3 (Instr.indexAt 127 t1 t34) fun t39 =>
 qV Pg C3 (Instr.fieldAt 129 t39 1) fun t40 =>
 qV Pg C3 (Instr.loadAt 3 t40) fun t41 =>
 qV Pg C3 (binS .lss 3 true t41 (.int .i64 0)) fun t42 =>
 joinK (fun (t54:Value) (w:World) =>
 n10c1 t1 t7 t34 t42 t54 C3 K2 R w) fun K4 =>
 guardP t42 false (
 qV Pg C3 (Instr.indexAt 127 t1 t34) fun t46 =>
 qV Pg C3 (Instr.fieldAt 129 t46 1) fun t47 =>
 qV Pg C3 (Instr.loadAt 3 t47) fun t48 =>
 qV Pg C3 (Instr.indexAt 127 t1 t34) fun t51 =>
 qV Pg C3 (Instr.fieldAt 129 t51 2) fun t52 =>
 qV Pg C3 (Instr.loadAt 3 t52) fun t53 =>
 qV Pg C3 (binS .gtr 3 false t48 t53) fun t54 =>
 K4 t54 w) (
 K4 undef w)
def n10c3 (t2 t13 t14 t16:Value) (next7:KW) (R:RT) (w:World):Prop :=
 F0 49 t2 1 R w fun t103 w =>
 L0 47 t103 R w fun t104 w =>
 X0 47 t104 t14 R w fun t106 w =>
 F0 78 t106 1 R w fun t107 w =>
 L0 3 t107 R w fun t108 w =>
 B0 .mul 3 false t108 t16 R w fun t110 w =>
 B0 .add 3 false t13 t110 R w fun t111 w =>
 B0 .add 3 true t14 (.int .i64 1) R w fun t81 w =>
 next7 t111 t81 w
def n10c4 (t1 t2 t12 t13 t14 t90:Value) (next7:KW) (R:RT) (w:World):Prop :=
 X0 127 t1 t90 R w fun t91 w =>
 L0 129 t91 R w fun t92 w =>
 opV Pg (Instr.alloc 129 true (.tuple #[])) (panK R) w fun t15 w =>
 opU Pg (Instr.storeAt 129 t15 t92) (panK R) w fun w =>
 F0 129 t15 1 R w fun t93 w =>
 L0 3 t93 R w fun t94 w =>
 B0 .shr 3 false t12 t14 R w fun t97 w =>
 B0 .rem 3 true t97 (.int .i64 2) R w fun t98 w =>
 B0 .eql 3 true t98 (.int .i64 1) R w fun t99 w =>
 joinK (fun (t16:Value) (w:World) =>
 n10c3 t2 t13 t14 t16 next7 R w) fun K8 =>
 condP t99 (
 F0 129 t15 2 R w fun t100 w =>
 L0 3 t100 R w fun t101 w =>
 K8 t101 w) (
 K8 t94 w)
def n10c5 (t10 t11 t12 t13 t121 t125:Value) (next6:Value→Value→Value→World→Prop) (R:RT) (w:World):Prop :=
 pickK t121 (.bool true) t125 fun t126 =>
 joinK (fun (t11:Value) (w:World) =>
 B0 .add 3 true t12 (.int .i64 1) R w fun t72 w =>
 next6 t10 t11 t72 w) fun K12 =>
 condP t126 (
 K12 t13 w) (
 K12 t11 w)
def n10c6 (t10 t11 t12 t13:Value) (next6:Value→Value→Value→World→Prop) (R:RT) (w:World):Prop :=
 B0 .eql 3 true t12 (.int .i64 0) R w fun t121 w =>
 joinK (fun (t125:Value) (w:World) =>
 n10c5 t10 t11 t12 t13 t121 t125 next6 R w) fun K11 =>
 guardP t121 false (
 B0 .gtr 3 false t13 t11 R w fun t125 w =>
 K11 t125 w) (
 K11 undef w)
def n10c7 (t10 t11 t12 t13:Value) (next6:Value→Value→Value→World→Prop) (R:RT) (w:World):Prop :=
 B0 .eql 3 true t12 (.int .i64 0) R w fun t113 w =>
 joinK (fun (t117:Value) (w:World) =>
 pickK t113 (.bool true) t117 fun t118 =>
 joinK (fun (t10:Value) (w:World) =>
 n10c6 t10 t11 t12 t13 next6 R w) fun K10 =>
 condP t118 (
 K10 t13 w) (
 K10 t10 w)) fun K9 =>
 guardP t113 false (
 B0 .lss 3 false t13 t10 R w fun t117 w =>
 K9 t117 w) (
 K9 undef w)
def n10c8 (t1 t2 t12 t13 t14:Value) (next7:KW) (R:RT) (w:World):Prop :=
 F0 49 t2 1 R w fun t84 w =>
 L0 47 t84 R w fun t85 w =>
 X0 47 t85 t14 R w fun t87 w =>
 F0 78 t87 0 R w fun t88 w =>
 L0 9 t88 R w fun t89 w =>
 C0 110 #[t1,t89] R w fun t90 w =>
 n10c4 t1 t2 t12 t13 t14 t90 next7 R w
def n10c9 (t1 t2 t10 t11 t12 t13 t14:Value) (next6:Value→Value→Value→World→Prop) (next7:KW) (R:RT) (w:World):Prop :=
 F0 49 t2 1 R w fun t76 w =>
 L0 47 t76 R w fun t77 w =>
 opV Pg (Builtin.len_ #[47] 3 #[t77]) (panK R) w fun t78 w =>
 B0 .lss 3 false t14 t78 R w fun t79 w =>
 condP t79 (
 n10c8 t1 t2 t12 t13 t14 next7 R w) (
 n10c7 t10 t11 t12 t13 next6 R w)
def n10c10 (t1 t2 t10 t11 t12:Value) (next6:Value→Value→Value→World→Prop) (R:RT) (w:World):Prop :=
 F0 49 t2 0 R w fun t73 w =>
 L0 3 t73 R w fun t74 w =>
 loop2 (fun t13 t14 w next7 =>
 n10c9 t1 t2 t10 t11 t12 t13 t14 next6 next7 R w) t74 (.int .i64 0) w
def n10c11 (t1 t2 t10 t11 t12:Value) (next6:Value→Value→Value→World→Prop) (R:RT) (w:World):Prop :=
 F0 49 t2 1 R w fun t66 w =>
 L0 47 t66 R w fun t67 w =>
 opV Pg (Builtin.len_ #[47] 3 #[t67]) (panK R) w fun t68 w =>
 B0 .shl 3 true (.int .i64 1) t68 R w fun t69 w =>
 B0 .lss 3 false t12 t69 R w fun t70 w =>
 condP t70 (
 n10c10 t1 t2 t10 t11 t12 next6 R w) (
 R (.returned (.tuple #[t10,t11,(.int .i64 0)])) w)
def n10c12 (t1 t2 t7:Value) (R:RT) (w:World):Prop :=
 condP t7 (
 R (.returned (.tuple #[(.int .i64 0),(.int .i64 0),(.int .i64 9)])) w) (
 loop3 (fun t10 t11 t12 w next6 =>
 n10c11 t1 t2 t10 t11 t12 next6 R w) (.int .i64 0) (.int .i64 0) (.int .i64 0) w)
def n10c13 (t1 t2 t7 t8:Value) (next1:KW) (R:RT) (w:World):Prop :=
 joinK (fun (t7:Value) (w:World) =>
 B0 .add 3 true t8 (.int .i64 1) R w fun t26 w =>
 next1 t7 t26 w) fun K2 =>
 F0 49 t2 1 R w fun t28 w =>
 L0 47 t28 R w fun t29 w =>
 X0 47 t29 t8 R w fun t31 w =>
 F0 78 t31 0 R w fun t32 w =>
 L0 9 t32 R w fun t33 w =>
 C0 110 #[t1,t33] R w fun t34 w =>
 B0 .lss 3 true t34 (.int .i64 0) R w fun t36 w =>
 condP t36 (
 K2 (.bool true) w) (
 drawK w fun C3 w =>
 n10c2 t1 t7 t34 C3 K2 R w)
def n10c14 (t1 t2 t7 t8:Value) (next1:KW) (R:RT) (w:World):Prop :=
 F0 49 t2 1 R w fun t21 w =>
 L0 47 t21 R w fun t22 w =>
 opV Pg (Builtin.len_ #[47] 3 #[t22]) (panK R) w fun t23 w =>
 B0 .lss 3 false t8 t23 R w fun t24 w =>
 condP t24 (
 n10c13 t1 t2 t7 t8 next1 R w) (
 n10c12 t1 t2 t7 R w)
def n10c15 (t1 t2 t18:Value) (R:RT) (w:World):Prop :=
 opV Pg (Op.unary .not t18) (panK R) w fun t19 w =>
 condP t19 (
 R (.returned (.tuple #[(.int .i64 0),(.int .i64 0),(.int .i64 2)])) w) (
 loop2 (fun t7 t8 w next1 =>
 n10c14 t1 t2 t7 t8 next1 R w) (.bool false) (.int .i64 0) w)
def n10 (t0 t1:Value) (R:RT) (w:World):Prop :=
 opV Pg (Instr.box 49 t0) (panK R) w fun t2 w =>
 L0 49 t2 R w fun t17 w =>
 C0 73 #[t17] R w fun t18 w =>
 n10c15 t1 t2 t18 R w
theorem n10s {t0 t1:Value} {R:RT} {w:World} (h:n10 t0 t1 R w):Calls Pg 74 #[t0,t1] w R:=by
 refine calls_of_den (args:=[t0,t1]) Tryz.func74 rfl (Nat.le_of_ble_eq_true rfl) ?_
 unfold n10 at h
 refine zs<|zr ?_
 refine zv h fun t2 w h=>?_
 refine zm<|zm<|zm<|zn<|zk<|zs<|zs<|zr ?_
 refine zv h fun t17 w h=>?_
 refine zc h c73 fun t18 w h=>?_
 refine zv h fun t19 w h=>?_
 refine zn<|zk ?_
 refine sim_cond h rfl (fun h=>?_) (fun h=>?_)
 · refine zs<|zr<|zm<|zm<|zm<|zn<|zk<|sim_ret<|sim_then_ret ?_
   exact body_ret3 rfl rfl rfl rfl h
 · refine sim_skip<|zk<|zs<|zr<|zm<|zn<|zk<|zs<|zs<|zr<|zm<|zn<|zk<|sim_block ?_
   obtain ⟨I,μ,h0,hr⟩:=h
   refine sim_loop [4,5,6,7,8,9,20,21,22,23,24,25,26,27,28,29,30,31,32,33,34,35,36,37,38,39,40,41,42,43,44,45,46,47,48,49,50,51,52,53,54,55,56,57,58,59,60,61,62,63] (by kernel_rfl) (fun ρ w=>I (ρ 7) (ρ 8) w) (fun ρ w=>μ (ρ 7) (ρ 8) w) h0 (fun σ w hI=>?_)
   have h:=hr _ _ _ hI
   clear hr h0 hI
   refine zs<|zs<|zr<|zm ?_
   refine zv h fun t21 w h=>?_
   refine zv h fun t22 w h=>?_
   refine zx h fun t23 w h=>?_
   refine zb h fun t24 w h=>?_
   refine zn<|zk ?_
   refine sim_cond h rfl (fun h=>?_) (fun h=>?_)
   · refine sim_skip<|zk<|zs ?_
     refine joinK_elim h (fun K2 hK h=>?_)
     refine sim_joinQ [4,5,6,7,9,27,28,29,30,31,32,33,34,35,36,37,38,39,40,41,42,43,44,45,46,47,48,49,50,51,52,53,54,55,56,57,58,59,60,61,62,63] (fun ρ w=>K2 (ρ 7) w) (fun _ hkK2=>?_) (fun σ w h=>?_)
     · refine sim_block<|zs<|zr<|zm ?_
       refine zv h fun t28 w h=>?_
       refine zv h fun t29 w h=>?_
       refine zm ?_
       refine zv h fun t31 w h=>?_
       refine zv h fun t32 w h=>?_
       refine zv h fun t33 w h=>?_
       refine zc h c110 fun t34 w h=>?_
       refine zm<|zn<|zk<|zs<|zs<|zr<|zm ?_
       refine zb h fun t36 w h=>?_
       refine zn<|zk ?_
       refine sim_cond h rfl (fun h=>?_) (fun h=>?_)
       · refine zs<|zr<|zm<|zn<|zk<|sim_exit<|sim_then_exit<|sim_block_hit<|zk ?_
         exact zt hkK2 h
       · refine sim_skip<|zk<|zs ?_
         obtain ⟨C3,hC,h⟩:=h
         refine sim_draw [37,38,39,40,41,42,43,44,45,46,47,48,49,50,51,52,53,54,55,56,57,58,59,60,61,62,63] (by kernel_rfl) (by kernel_rfl) C3 ?_
         refine zw 0 hC ?_
         refine zw 1 hC ?_
         refine ze 2 hC h fun t39 h=>?_
         refine ze 3 hC h fun t40 h=>?_
         refine ze 4 hC h fun t41 h=>?_
         obtain ⟨t42,hv,h⟩:=h
         refine sim_dsilent 5 hC rfl (by kernel_rfl) (by kernel_rfl) (fun _ _=>rfl) rfl (Sw.qV_bin rfl rfl rfl hv) ?_
         refine zw 6 hC ?_
         refine joinK_elim h (fun K4 hK h=>?_)
         refine sim_djoin 9 [17,16,15,14,13,12,11,10,9,8,7,6,5,4,3,2,1,0] [44,45,46,47,48,49,50,51,52,53,54] (fun ρ w=>K4 (ρ 54) w) (fun _ hT=>?_) (fun σ w hC h=>?_)
         · rcases Sw.guardP_cases h with ⟨hb,h⟩ | ⟨hb,h⟩
           · refine sim_dsilent 7 hC rfl (by kernel_rfl) (by kernel_rfl) (fun _ _=>Sw.guardP_true hb) rfl (Sw.move_run rfl) ?_
             refine sim_dsilent 8 hC rfl (by kernel_rfl) (by kernel_rfl) (fun _ _=>Sw.guardP_true hb) rfl (Sw.move_run rfl) ?_
             obtain ⟨t46,hv,h⟩:=h
             refine sim_dsilent 9 hC rfl (by kernel_rfl) (by kernel_rfl) (fun _ _=>Sw.guardP_true hb) rfl (Sw.qV_run rfl hv) ?_
             obtain ⟨t47,hv,h⟩:=h
             refine sim_dsilent 10 hC rfl (by kernel_rfl) (by kernel_rfl) (fun _ _=>Sw.guardP_true hb) rfl (Sw.qV_run rfl hv) ?_
             obtain ⟨t48,hv,h⟩:=h
             refine sim_dsilent 11 hC rfl (by kernel_rfl) (by kernel_rfl) (fun _ _=>Sw.guardP_true hb) rfl (Sw.qV_run rfl hv) ?_
             refine sim_dsilent 12 hC rfl (by kernel_rfl) (by kernel_rfl) (fun _ _=>Sw.guardP_true hb) rfl (Sw.move_run rfl) ?_
             refine sim_dsilent 13 hC rfl (by kernel_rfl) (by kernel_rfl) (fun _ _=>Sw.guardP_true hb) rfl (Sw.move_run rfl) ?_
             obtain ⟨t51,hv,h⟩:=h
             refine sim_dsilent 14 hC rfl (by kernel_rfl) (by kernel_rfl) (fun _ _=>Sw.guardP_true hb) rfl (Sw.qV_run rfl hv) ?_
             obtain ⟨t52,hv,h⟩:=h
             refine sim_dsilent 15 hC rfl (by kernel_rfl) (by kernel_rfl) (fun _ _=>Sw.guardP_true hb) rfl (Sw.qV_run rfl hv) ?_
             obtain ⟨t53,hv,h⟩:=h
             refine sim_dsilent 16 hC rfl (by kernel_rfl) (by kernel_rfl) (fun _ _=>Sw.guardP_true hb) rfl (Sw.qV_run rfl hv) ?_
             obtain ⟨t54,hv,h⟩:=h
             refine sim_dsilent 17 hC rfl (by kernel_rfl) (by kernel_rfl) (fun _ _=>Sw.guardP_true hb) rfl (Sw.qV_bin rfl rfl rfl hv) ?_
             exact hT _ _ (by repeat (first | exact Sw.Fr.refl _ _ | refine Sw.Fr.put rfl ?_ | refine Sw.Fr.put_none ?_ | refine Sw.Fr.mix rfl ?_ | refine Sw.Fr.skipAll rfl ?_)) hC h
           · refine sim_dskip 7 hC rfl (by kernel_rfl) (by kernel_rfl) (fun _ _=>Sw.guardP_false hb) ?_
             refine sim_dskip 8 hC rfl (by kernel_rfl) (by kernel_rfl) (fun _ _=>Sw.guardP_false hb) ?_
             refine sim_dskip 9 hC rfl (by kernel_rfl) (by kernel_rfl) (fun _ _=>Sw.guardP_false hb) ?_
             refine sim_dskip 10 hC rfl (by kernel_rfl) (by kernel_rfl) (fun _ _=>Sw.guardP_false hb) ?_
             refine sim_dskip 11 hC rfl (by kernel_rfl) (by kernel_rfl) (fun _ _=>Sw.guardP_false hb) ?_
             refine sim_dskip 12 hC rfl (by kernel_rfl) (by kernel_rfl) (fun _ _=>Sw.guardP_false hb) ?_
             refine sim_dskip 13 hC rfl (by kernel_rfl) (by kernel_rfl) (fun _ _=>Sw.guardP_false hb) ?_
             refine sim_dskip 14 hC rfl (by kernel_rfl) (by kernel_rfl) (fun _ _=>Sw.guardP_false hb) ?_
             refine sim_dskip 15 hC rfl (by kernel_rfl) (by kernel_rfl) (fun _ _=>Sw.guardP_false hb) ?_
             refine sim_dskip 16 hC rfl (by kernel_rfl) (by kernel_rfl) (fun _ _=>Sw.guardP_false hb) ?_
             refine sim_dskip 17 hC rfl (by kernel_rfl) (by kernel_rfl) (fun _ _=>Sw.guardP_false hb) ?_
             exact hT _ _ (by repeat (first | exact Sw.Fr.refl _ _ | refine Sw.Fr.put rfl ?_ | refine Sw.Fr.put_none ?_ | refine Sw.Fr.mix rfl ?_ | refine Sw.Fr.skipAll rfl ?_)) hC h
         subst hK
         obtain ⟨b55,hb55,h⟩:=Sw.pickK_elim h
         refine sim_dsilent 18 hC rfl (by kernel_rfl) (by kernel_rfl) (fun _ _=>rfl) rfl (Sw.pick_run hb55 rfl rfl) ?_
         refine zw 19 hC ?_
         refine joinK_elim h (fun K5 hK h=>?_)
         refine sim_djoin 1 [25,24,23,22,21,20,19,18,17,16,15,14,13,12,11,10,9,8,7,6,5,4,3,2,1,0] [57,58,59,60,61,62] (fun ρ w=>K5 (ρ 62) w) (fun _ hT=>?_) (fun σ w hC h=>?_)
         · rcases Sw.guardP_cases h with ⟨hb,h⟩ | ⟨hb,h⟩
           · refine sim_dsilent 20 hC rfl (by kernel_rfl) (by kernel_rfl) (fun _ _=>Sw.guardP_true hb) rfl (Sw.move_run rfl) ?_
             refine sim_dsilent 21 hC rfl (by kernel_rfl) (by kernel_rfl) (fun _ _=>Sw.guardP_true hb) rfl (Sw.move_run rfl) ?_
             obtain ⟨t59,hv,h⟩:=h
             refine sim_dsilent 22 hC rfl (by kernel_rfl) (by kernel_rfl) (fun _ _=>Sw.guardP_true hb) rfl (Sw.qV_run rfl hv) ?_
             obtain ⟨t60,hv,h⟩:=h
             refine sim_dsilent 23 hC rfl (by kernel_rfl) (by kernel_rfl) (fun _ _=>Sw.guardP_true hb) rfl (Sw.qV_run rfl hv) ?_
             obtain ⟨t61,hv,h⟩:=h
             refine sim_dsilent 24 hC rfl (by kernel_rfl) (by kernel_rfl) (fun _ _=>Sw.guardP_true hb) rfl (Sw.qV_run rfl hv) ?_
             obtain ⟨t62,hv,h⟩:=h
             refine sim_dsilent 25 hC rfl (by kernel_rfl) (by kernel_rfl) (fun _ _=>Sw.guardP_true hb) rfl (Sw.qV_bin rfl rfl rfl hv) ?_
             exact hT _ _ (by repeat (first | exact Sw.Fr.refl _ _ | refine Sw.Fr.put rfl ?_ | refine Sw.Fr.put_none ?_ | refine Sw.Fr.mix rfl ?_ | refine Sw.Fr.skipAll rfl ?_)) hC h
           · refine sim_dskip 20 hC rfl (by kernel_rfl) (by kernel_rfl) (fun _ _=>Sw.guardP_false hb) ?_
             refine sim_dskip 21 hC rfl (by kernel_rfl) (by kernel_rfl) (fun _ _=>Sw.guardP_false hb) ?_
             refine sim_dskip 22 hC rfl (by kernel_rfl) (by kernel_rfl) (fun _ _=>Sw.guardP_false hb) ?_
             refine sim_dskip 23 hC rfl (by kernel_rfl) (by kernel_rfl) (fun _ _=>Sw.guardP_false hb) ?_
             refine sim_dskip 24 hC rfl (by kernel_rfl) (by kernel_rfl) (fun _ _=>Sw.guardP_false hb) ?_
             refine sim_dskip 25 hC rfl (by kernel_rfl) (by kernel_rfl) (fun _ _=>Sw.guardP_false hb) ?_
             exact hT _ _ (by repeat (first | exact Sw.Fr.refl _ _ | refine Sw.Fr.put rfl ?_ | refine Sw.Fr.put_none ?_ | refine Sw.Fr.mix rfl ?_ | refine Sw.Fr.skipAll rfl ?_)) hC h
         subst hK
         obtain ⟨b63,hb63,h⟩:=Sw.pickK_elim h
         refine sim_dsilent 26 hC rfl (by kernel_rfl) (by kernel_rfl) (fun _ _=>rfl) rfl (Sw.pick_run hb63 rfl rfl) ?_
         refine sim_dend (by kernel_rfl) ?_
         refine zk ?_
         refine sim_cond h rfl (fun h=>?_) (fun h=>?_)
         · refine zs<|zr<|zm<|zm<|zm<|zn<|zk<|sim_ret<|sim_block_ret<|sim_then_ret<|sim_then_ret<|sim_then_ret<|sim_block_ret<|sim_then_ret ?_
           exact body_ret3 rfl rfl rfl rfl h
         · refine sim_skip<|sim_block_normal<|zk ?_
           exact zt hkK2 h
     subst hK
     refine zk<|zr<|zm ?_
     refine zb h fun t26 w h=>?_
     refine zm<|zn<|zk ?_
     exact ⟨rfl,h⟩
   · refine sim_exit<|sim_then_exit<|sim_then_exit<|sim_block_hit<|zk<|zs<|zs<|zr<|zm<|zn<|zk ?_
     refine sim_cond h rfl (fun h=>?_) (fun h=>?_)
     · refine zs<|zr<|zm<|zm<|zm<|zn<|zk<|sim_ret<|sim_then_ret ?_
       exact body_ret3 rfl rfl rfl rfl h
     · refine sim_skip<|zk<|zs<|zr<|zm<|zm<|zn<|zk<|zs<|zs<|zr<|zm<|zn<|zk<|sim_block ?_
       obtain ⟨I,μ,h0,hr⟩:=h
       refine sim_loop [10,11,12,13,14,15,16,65,66,67,68,69,70,71,72,73,74,75,76,77,78,79,80,81,82,83,84,85,86,87,88,89,90,91,92,93,94,95,96,97,98,99,100,101,102,103,104,105,106,107,108,109,110,111,112,113,114,115,116,117,118,119,120,121,122,123,124,125,126,127] (by kernel_rfl) (fun ρ w=>I (ρ 10) (ρ 11) (ρ 12) w) (fun ρ w=>μ (ρ 10) (ρ 11) (ρ 12) w) h0 (fun σ w hI=>?_)
       have h:=hr _ _ _ _ hI
       clear hr h0 hI
       refine zs<|zs<|zr<|zm ?_
       refine zv h fun t66 w h=>?_
       refine zv h fun t67 w h=>?_
       refine zx h fun t68 w h=>?_
       refine zb h fun t69 w h=>?_
       refine zb h fun t70 w h=>?_
       refine zn<|zk ?_
       refine sim_cond h rfl (fun h=>?_) (fun h=>?_)
       · refine sim_skip<|zk<|zs<|sim_block<|zs<|zr ?_
         refine zv h fun t73 w h=>?_
         refine zv h fun t74 w h=>?_
         refine zm<|zn<|zk<|zs<|zs<|zr<|zm<|zn<|zk<|sim_block ?_
         obtain ⟨I,μ,h0,hr⟩:=h
         refine sim_loop [13,14,15,16,75,76,77,78,79,80,81,82,83,84,85,86,87,88,89,90,91,92,93,94,95,96,97,98,99,100,101,102,103,104,105,106,107,108,109,110,111] (by kernel_rfl) (fun ρ w=>I (ρ 13) (ρ 14) w) (fun ρ w=>μ (ρ 13) (ρ 14) w) h0 (fun σ w hI=>?_)
         have h:=hr _ _ _ hI
         clear hr h0 hI
         refine zs<|zs<|zr<|zm ?_
         refine zv h fun t76 w h=>?_
         refine zv h fun t77 w h=>?_
         refine zx h fun t78 w h=>?_
         refine zb h fun t79 w h=>?_
         refine zn<|zk ?_
         refine sim_cond h rfl (fun h=>?_) (fun h=>?_)
         · refine sim_skip<|zk<|zs<|sim_block<|zs<|zr<|zm<|zm ?_
           refine zv h fun t84 w h=>?_
           refine zv h fun t85 w h=>?_
           refine zm ?_
           refine zv h fun t87 w h=>?_
           refine zv h fun t88 w h=>?_
           refine zv h fun t89 w h=>?_
           refine zc h c110 fun t90 w h=>?_
           refine zv h fun t91 w h=>?_
           refine zv h fun t92 w h=>?_
           refine zv h fun t15 w h=>?_
           refine zu h fun w h=>?_
           refine zn<|zk<|zs<|zr ?_
           refine zv h fun t93 w h=>?_
           refine zv h fun t94 w h=>?_
           refine zm<|zn<|zk<|zs<|zs<|zr<|zm<|zm ?_
           refine zb h fun t97 w h=>?_
           refine zb h fun t98 w h=>?_
           refine zb h fun t99 w h=>?_
           refine zn<|zk ?_
           refine joinK_elim h (fun K8 hK h=>?_)
           refine sim_joinQ [16,100,101] (fun ρ w=>K8 (ρ 16) w) (fun _ hkK8=>?_) (fun σ w h=>?_)
           · refine sim_cond h rfl (fun h=>?_) (fun h=>?_)
             · refine zr ?_
               refine zv h fun t100 w h=>?_
               refine zv h fun t101 w h=>?_
               refine zm<|zn<|zk ?_
               exact zt hkK8 h
             · refine sim_skip<|zk ?_
               exact zt hkK8 h
           subst hK
           refine zk<|zr<|zm ?_
           refine zv h fun t103 w h=>?_
           refine zv h fun t104 w h=>?_
           refine zm ?_
           refine zv h fun t106 w h=>?_
           refine zv h fun t107 w h=>?_
           refine zv h fun t108 w h=>?_
           refine zm ?_
           refine zb h fun t110 w h=>?_
           refine zb h fun t111 w h=>?_
           refine zm<|zn<|sim_block_normal<|zk<|zr<|zm ?_
           refine zb h fun t81 w h=>?_
           refine zm<|zn<|zk ?_
           exact ⟨rfl,h⟩
         · refine sim_exit<|sim_then_exit<|sim_then_exit<|sim_block_hit<|zk<|zs<|zs<|sim_regionG ?_
           refine sim_seg 3 rfl ?_
           refine zm ?_
           refine zb h fun t113 w h=>?_
           refine zm<|zn ?_
           refine joinK_elim h (fun K9 hK h=>?_)
           refine sim_groupJ 3 2 false [115,116,117] (fun ρ w=>K9 (ρ 117) w) rfl rfl (fun T hT=>guardP_mono h (fun h=>?_) (fun h=>?_)) (fun σ w h=>?_)
           · refine zm<|zm ?_
             refine zb h fun t117 w h=>?_
             refine zn ?_
             exact zt hT h
           · exact zt hT h
           subst hK
           refine sim_seg 1 rfl ?_
           refine sim_pick h rfl rfl rfl ?_;intro t118 h
           refine zn<|sim_end<|zk ?_
           refine joinK_elim h (fun K10 hK h=>?_)
           refine sim_joinQ [10,119] (fun ρ w=>K10 (ρ 10) w) (fun _ hkK10=>?_) (fun σ w h=>?_)
           · refine sim_cond h rfl (fun h=>?_) (fun h=>?_)
             · refine zr<|zm<|zm<|zn<|zk ?_
               exact zt hkK10 h
             · refine sim_skip<|zk ?_
               exact zt hkK10 h
           subst hK
           refine zk<|zs<|sim_regionG ?_
           refine sim_seg 3 rfl ?_
           refine zm ?_
           refine zb h fun t121 w h=>?_
           refine zm<|zn ?_
           refine joinK_elim h (fun K11 hK h=>?_)
           refine sim_groupJ 3 2 false [123,124,125] (fun ρ w=>K11 (ρ 125) w) rfl rfl (fun T hT=>guardP_mono h (fun h=>?_) (fun h=>?_)) (fun σ w h=>?_)
           · refine zm<|zm ?_
             refine zb h fun t125 w h=>?_
             refine zn ?_
             exact zt hT h
           · exact zt hT h
           subst hK
           refine sim_seg 1 rfl ?_
           refine sim_pick h rfl rfl rfl ?_;intro t126 h
           refine zn<|sim_end<|zk ?_
           refine joinK_elim h (fun K12 hK h=>?_)
           refine sim_joinQ [11,127] (fun ρ w=>K12 (ρ 11) w) (fun _ hkK12=>?_) (fun σ w h=>?_)
           · refine sim_cond h rfl (fun h=>?_) (fun h=>?_)
             · refine zr<|zm<|zm<|zn<|zk ?_
               exact zt hkK12 h
             · refine sim_skip<|zk ?_
               exact zt hkK12 h
           subst hK
           refine sim_block_normal<|zk<|zr<|zm ?_
           refine zb h fun t72 w h=>?_
           refine zm<|zn<|zk ?_
           exact ⟨rfl,h⟩
       · refine sim_exit<|sim_then_exit<|sim_then_exit<|sim_block_hit<|zk<|zs<|zr<|zm<|zm<|zm<|zm<|zm<|zn<|zk<|sim_ret ?_
         exact body_ret3 rfl rfl rfl rfl h
def n117c1 (t0 t1 t8:Value) (next1:KV) (R:RT) (w:World):Prop :=
 X0 33 t0 t8 R w fun t14 w =>
 L0 4 t14 R w fun t15 w =>
 B0 .eql 4 false t1 t15 R w fun t16 w =>
 condP t16 (
 R (.returned t8) w) (
 B0 .add 3 true t8 (.int .i64 1) R w fun t18 w =>
 next1 t18 w)
def n117 (t0 t1:Value) (R:RT) (w:World):Prop :=
 opV Pg (Builtin.len_ #[33] 3 #[t0]) (panK R) w fun t7 w =>
 loop1 (fun t8 w next1 =>
 B0 .lss 3 false t8 t7 R w fun t9 w =>
 condP t9 (
 n117c1 t0 t1 t8 next1 R w) (
 R (.returned (.int .i64 (-1))) w)) (.int .i64 0) w
theorem n117s {t0 t1:Value} {R:RT} {w:World} (h:n117 t0 t1 R w):Calls Pg 75 #[t0,t1] w R:=by
 refine calls_of_den (args:=[t0,t1]) Tryz.func75 rfl (Nat.le_of_ble_eq_true rfl) ?_
 unfold n117 at h
 refine zs<|zr<|zm<|zn<|zk<|zs<|zs<|zr<|zm ?_
 refine zx h fun t7 w h=>?_
 refine zm<|zn<|zk<|sim_block ?_
 obtain ⟨I,μ,h0,hr⟩:=h
 refine sim_loop [4,5,8,9,10,11,12,13,14,15,16,17,18] (by kernel_rfl) (fun ρ w=>I (ρ 8) w) (fun ρ w=>μ (ρ 8) w) h0 (fun σ w hI=>?_)
 have h:=hr _ _ hI
 clear hr h0 hI
 refine zs<|zr ?_
 refine zb h fun t9 w h=>?_
 refine zn<|zk<|zs ?_
 refine sim_cond h rfl (fun h=>?_) (fun h=>?_)
 · refine sim_skip<|zk<|zs<|sim_block<|zs<|zr<|zm<|zm<|zn<|zk<|zs<|zr<|zm<|zm<|zm ?_
   refine zv h fun t14 w h=>?_
   refine zv h fun t15 w h=>?_
   refine zb h fun t16 w h=>?_
   refine zn<|zk ?_
   refine sim_cond h rfl (fun h=>?_) (fun h=>?_)
   · refine zs<|zr<|zm<|zm<|zn<|zk<|sim_ret<|sim_block_ret<|sim_then_ret<|sim_then_ret<|sim_block_ret<|sim_then_ret ?_
     exact body_ret1 rfl rfl h
   · refine sim_skip<|sim_block_normal<|zk<|zr ?_
     refine zb h fun t18 w h=>?_
     refine zm<|zn<|zk ?_
     exact ⟨rfl,h⟩
 · refine sim_exit<|sim_then_exit<|sim_then_exit<|sim_block_hit<|zk<|zs<|zr<|zm<|zn<|zk<|sim_ret ?_
   exact body_ret1 rfl rfl h
def n61c1 (t9:Value) (R:RT) (w:World):Prop :=
 opV Pg (Builtin.max_ #[3,3] 3 #[t9,(.int .i64 0)]) (panK R) w fun t11 w =>
 B0 .geq 3 true t9 (.int .i64 0) R w fun t13 w =>
 R (.returned (.tuple #[t11,t13])) w
def n61 (t0 t1:Value) (R:RT) (w:World):Prop :=
 C0 111 #[t0,t1] R w fun t9 w =>
 n61c1 t9 R w
theorem n61s {t0 t1:Value} {R:RT} {w:World} (h:n61 t0 t1 R w):Calls Pg 76 #[t0,t1] w R:=by
 refine calls_of_den (args:=[t0,t1]) Tryz.func76 rfl (Nat.le_of_ble_eq_true rfl) ?_
 unfold n61 at h
 refine zs<|zr<|zm<|zm<|zn<|zk<|zs<|zr<|zm<|zm ?_
 refine zc h c111 fun t9 w h=>?_
 refine zm<|zn<|zk<|zs<|zr<|zm ?_
 refine zx h fun t11 w h=>?_
 refine zm ?_
 refine zb h fun t13 w h=>?_
 refine zm<|zm<|zn<|zk<|sim_ret ?_
 exact body_ret2 rfl rfl rfl h
def n39 (t0 t1:Value) (R:RT) (w:World):Prop :=
 opV Pg (Instr.box 52 t0) (panK R) w fun t2 w =>
 F0 52 t2 0 R w fun t4 w =>
 L0 9 t4 R w fun t5 w =>
 L0 9 t1 R w fun t6 w =>
 B0 .eql 9 false t5 t6 R w fun t7 w =>
 R (.returned t7) w
theorem n39s {t0 t1:Value} {R:RT} {w:World} (h:n39 t0 t1 R w):Calls Pg 77 #[t0,t1] w R:=by
 refine calls_of_den (args:=[t0,t1]) Tryz.func77 rfl (Nat.le_of_ble_eq_true rfl) ?_
 unfold n39 at h
 refine zs<|zr ?_
 refine zv h fun t2 w h=>?_
 refine zm<|zn<|zk<|zs<|zr ?_
 refine zv h fun t4 w h=>?_
 refine zv h fun t5 w h=>?_
 refine zv h fun t6 w h=>?_
 refine zb h fun t7 w h=>?_
 refine zm<|zn<|zk<|sim_ret ?_
 exact body_ret1 rfl rfl h
def n63 (t0:Value) (R:RT) (w:World):Prop :=
 opN Pg (nilN t0) (panK R) w fun t6 w =>
 F0 52 t6 2 R w fun t7 w =>
 opU Pg (Instr.storeAt 3 t7 (.int .i64 0)) (panK R) w fun w =>
 opN Pg (nilN t0) (panK R) w fun t8 w =>
 F0 52 t8 3 R w fun t9 w =>
 opU Pg (Instr.storeAt 4 t9 (.bool false)) (panK R) w fun w =>
 opN Pg (nilN t0) (panK R) w fun t10 w =>
 F0 52 t10 5 R w fun t11 w =>
 opU Pg (Instr.storeAt 3 t11 (.int .i64 0)) (panK R) w fun w =>
 opN Pg (nilN t0) (panK R) w fun t12 w =>
 F0 52 t12 6 R w fun t13 w =>
 opU Pg (Instr.storeAt 3 t13 (.int .i64 0)) (panK R) w fun w =>
 R (.returned (.tuple #[])) w
theorem n63s {t0:Value} {R:RT} {w:World} (h:n63 t0 R w):Calls Pg 78 #[t0] w R:=by
 refine calls_of_den (args:=[t0]) Tryz.func78 rfl (Nat.le_of_ble_eq_true rfl) ?_
 unfold n63 at h
 refine zr<|zm<|zm<|zm<|zm ?_
 refine sim_next h rfl rfl (fun _ _ h=>⟨rfl,h⟩) ?_;intro t6 w h
 refine zv h fun t7 w h=>?_
 refine zu h fun w h=>?_
 refine sim_next h rfl rfl (fun _ _ h=>⟨rfl,h⟩) ?_;intro t8 w h
 refine zv h fun t9 w h=>?_
 refine zu h fun w h=>?_
 refine sim_next h rfl rfl (fun _ _ h=>⟨rfl,h⟩) ?_;intro t10 w h
 refine zv h fun t11 w h=>?_
 refine zu h fun w h=>?_
 refine sim_next h rfl rfl (fun _ _ h=>⟨rfl,h⟩) ?_;intro t12 w h
 refine zv h fun t13 w h=>?_
 refine zu h fun w h=>?_
 refine zn ?_
 refine body_normal ?_
 exact body_ret0 rfl h
def n74c1 (t0 t3:Value) (C1:World→Prop) (R:RT) (w:World):Prop :=
 qV Pg C1 (Instr.fieldAt 52 t3 2) fun t8 =>
 qV Pg C1 (Instr.loadAt 3 t8) fun t9 =>
 qV Pg C1 (binS .shl 3 true (.int .i64 1) t9) fun t10 =>
 qV Pg C1 (binS .sub 3 true t10 (.int .i64 1)) fun t11 =>
 qV Pg C1 (Instr.fieldAt 52 t3 5) fun t12 =>
 qV Pg C1 (Instr.loadAt 3 t12) fun t13 =>
 qV Pg C1 (Instr.fieldAt 52 t3 6) fun t14 =>
 qV Pg C1 (Instr.loadAt 3 t14) fun t15 =>
 opV Pg (Instr.buildSlice 85 2 #[(0,t13),(1,t15)]) (panK R) w fun t16 w =>
 C1 w∧(
 C0 81 #[t0,(.int .i64 0),t11,t16] R w fun t17 w =>
 C1 w∧(
 R (.returned (.tuple #[])) w))
def n74 (t0 t1:Value) (R:RT) (w:World):Prop :=
 opV Pg (Instr.box 52 t1) (panK R) w fun t3 w =>
 L0 52 t3 R w fun t5 w =>
 C0 80 #[t0,t5] R w fun t6 w =>
 drawK w fun C1 w =>
 n74c1 t0 t3 C1 R w
theorem n74s {t0 t1:Value} {R:RT} {w:World} (h:n74 t0 t1 R w):Calls Pg 79 #[t0,t1] w R:=by
 refine calls_of_den (args:=[t0,t1]) Tryz.func79 rfl (Nat.le_of_ble_eq_true rfl) ?_
 unfold n74 at h
 refine zs<|zr ?_
 refine zv h fun t3 w h=>?_
 refine zn<|zk<|zs<|zr<|zm ?_
 refine zv h fun t5 w h=>?_
 refine zc h c80 fun t6 w h=>?_
 refine zn<|zk ?_
 obtain ⟨C1,hC,h⟩:=h
 refine sim_draw [7,8,9,10,11,12,13,14,15,16,17] (by kernel_rfl) (by kernel_rfl) C1 ?_
 refine zw 0 hC ?_
 refine ze 1 hC h fun t8 h=>?_
 refine ze 2 hC h fun t9 h=>?_
 obtain ⟨t10,hv,h⟩:=h
 refine sim_dsilent 3 hC rfl (by kernel_rfl) (by kernel_rfl) (fun _ _=>rfl) rfl (Sw.qV_bin rfl rfl rfl hv) ?_
 obtain ⟨t11,hv,h⟩:=h
 refine sim_dsilent 4 hC rfl (by kernel_rfl) (by kernel_rfl) (fun _ _=>rfl) rfl (Sw.qV_bin rfl rfl rfl hv) ?_
 refine ze 5 hC h fun t12 h=>?_
 refine ze 6 hC h fun t13 h=>?_
 refine ze 7 hC h fun t14 h=>?_
 refine ze 8 hC h fun t15 h=>?_
 refine sim_dloud 9 rfl (by kernel_rfl) (fun _ _=>rfl) ?_
 refine sim_buildSlice h rfl (fun _ _ h _ _=>⟨rfl,h⟩) ?_;intro t16 w h
 refine zn ?_
 obtain ⟨hC,h⟩:=h
 refine ⟨hC,?_⟩
 refine sim_dloud 10 rfl (by kernel_rfl) (fun _ _=>rfl) ?_
 refine sim_call h c81 rfl (fun _ _ h _ _=>⟨rfl,h⟩) ?_;intro t17 w h
 refine zn ?_
 obtain ⟨hC,h⟩:=h
 refine ⟨hC,?_⟩
 refine sim_dend (by kernel_rfl) ?_
 refine body_normal ?_
 exact body_ret0 rfl h
def n50c1 (t0 t12 t17 t26:Value) (R:RT) (w:World):Prop :=
 joinK (fun (t27:Value) (w:World) =>
 pickK t12 t27 (.bool false) fun t28 =>
 C0 37 #[t0,t28,(.int .i64 6)] R w fun t29 w =>
 R (.returned (.tuple #[])) w) fun K6 =>
 guardP t12 true (
 pickK t17 (.bool true) t26 fun t27 =>
 K6 t27 w) (
 K6 undef w)
def n50c2 (t0 t3 t12 t17 t21:Value) (R:RT) (w:World):Prop :=
 joinK (fun (t25:Value) (w:World) =>
 joinK (fun (t26:Value) (w:World) =>
 n50c1 t0 t12 t17 t26 R w) fun K5 =>
 guardP t17 false (
 pickK t21 t25 (.bool false) fun t26 =>
 K5 t26 w) (
 K5 undef w)) fun K4 =>
 guardP t21 true (
 F0 52 t3 2 R w fun t22 w =>
 L0 3 t22 R w fun t23 w =>
 B0 .rem 3 true t23 (.int .i64 8) R w fun t24 w =>
 B0 .eql 3 true t24 (.int .i64 0) R w fun t25 w =>
 K4 t25 w) (
 K4 undef w)
def n50c3 (t0 t3 t12 t17:Value) (R:RT) (w:World):Prop :=
 joinK (fun (t21:Value) (w:World) =>
 n50c2 t0 t3 t12 t17 t21 R w) fun K3 =>
 guardP t17 false (
 F0 52 t3 2 R w fun t18 w =>
 L0 3 t18 R w fun t19 w =>
 B0 .gtr 3 true t19 (.int .i64 8) R w fun t20 w =>
 K3 t20 w) (
 K3 undef w)
def n50c4 (t0 t3 t7 t11:Value) (R:RT) (w:World):Prop :=
 pickK t7 t11 (.bool false) fun t12 =>
 joinK (fun (t17:Value) (w:World) =>
 n50c3 t0 t3 t12 t17 R w) fun K2 =>
 guardP t12 true (
 F0 52 t3 3 R w fun t14 w =>
 L0 4 t14 R w fun t15 w =>
 opV Pg (Op.unary .not t15) (panK R) w fun t16 w =>
 K2 t16 w) (
 K2 undef w)
def n50 (t0 t1:Value) (R:RT) (w:World):Prop :=
 opV Pg (Instr.box 52 t1) (panK R) w fun t3 w =>
 F0 52 t3 2 R w fun t5 w =>
 L0 3 t5 R w fun t6 w =>
 B0 .geq 3 true t6 (.int .i64 1) R w fun t7 w =>
 joinK (fun (t11:Value) (w:World) =>
 n50c4 t0 t3 t7 t11 R w) fun K1 =>
 guardP t7 true (
 F0 52 t3 2 R w fun t9 w =>
 L0 3 t9 R w fun t10 w =>
 B0 .leq 3 true t10 (.int .i64 32) R w fun t11 w =>
 K1 t11 w) (
 K1 undef w)
theorem n50s {t0 t1:Value} {R:RT} {w:World} (h:n50 t0 t1 R w):Calls Pg 80 #[t0,t1] w R:=by
 refine calls_of_den (args:=[t0,t1]) Tryz.func80 rfl (Nat.le_of_ble_eq_true rfl) ?_
 unfold n50 at h
 refine zs<|zr ?_
 refine zv h fun t3 w h=>?_
 refine zn<|zk<|sim_regionG ?_
 refine sim_seg 5 rfl ?_
 refine zm ?_
 refine zv h fun t5 w h=>?_
 refine zv h fun t6 w h=>?_
 refine zb h fun t7 w h=>?_
 refine zm<|zn ?_
 refine joinK_elim h (fun K1 hK h=>?_)
 refine sim_groupJ 3 4 true [9,10,11] (fun ρ w=>K1 (ρ 11) w) rfl rfl (fun T hT=>guardP_mono h (fun h=>?_) (fun h=>?_)) (fun σ w h=>?_)
 · refine zv h fun t9 w h=>?_
   refine zv h fun t10 w h=>?_
   refine zb h fun t11 w h=>?_
   refine zn ?_
   exact zt hT h
 · exact zt hT h
 subst hK
 refine sim_seg 2 rfl ?_
 refine sim_pick h rfl rfl rfl ?_;intro t12 h
 refine zm<|zn ?_
 refine joinK_elim h (fun K2 hK h=>?_)
 refine sim_groupJ 4 9 true [14,15,16,17] (fun ρ w=>K2 (ρ 17) w) rfl rfl (fun T hT=>guardP_mono h (fun h=>?_) (fun h=>?_)) (fun σ w h=>?_)
 · refine zv h fun t14 w h=>?_
   refine zv h fun t15 w h=>?_
   refine zv h fun t16 w h=>?_
   refine zm<|zn ?_
   exact zt hT h
 · exact zt hT h
 subst hK
 refine joinK_elim h (fun K3 hK h=>?_)
 refine sim_groupJ 4 13 false [18,19,20,21] (fun ρ w=>K3 (ρ 21) w) rfl rfl (fun T hT=>guardP_mono h (fun h=>?_) (fun h=>?_)) (fun σ w h=>?_)
 · refine zv h fun t18 w h=>?_
   refine zv h fun t19 w h=>?_
   refine zb h fun t20 w h=>?_
   refine zm<|zn ?_
   exact zt hT h
 · exact zt hT h
 subst hK
 refine joinK_elim h (fun K4 hK h=>?_)
 refine sim_groupJ 4 17 true [22,23,24,25] (fun ρ w=>K4 (ρ 25) w) rfl rfl (fun T hT=>guardP_mono h (fun h=>?_) (fun h=>?_)) (fun σ w h=>?_)
 · refine zv h fun t22 w h=>?_
   refine zv h fun t23 w h=>?_
   refine zb h fun t24 w h=>?_
   refine zb h fun t25 w h=>?_
   refine zn ?_
   exact zt hT h
 · exact zt hT h
 subst hK
 refine joinK_elim h (fun K5 hK h=>?_)
 refine sim_groupJ 1 13 false [26] (fun ρ w=>K5 (ρ 26) w) rfl rfl (fun T hT=>guardP_mono h (fun h=>?_) (fun h=>?_)) (fun σ w h=>?_)
 · refine sim_pick h rfl rfl rfl ?_;intro t26 h
   refine zn ?_
   exact zt hT h
 · exact zt hT h
 subst hK
 refine joinK_elim h (fun K6 hK h=>?_)
 refine sim_groupJ 1 9 true [27] (fun ρ w=>K6 (ρ 27) w) rfl rfl (fun T hT=>guardP_mono h (fun h=>?_) (fun h=>?_)) (fun σ w h=>?_)
 · refine sim_pick h rfl rfl rfl ?_;intro t27 h
   refine zn ?_
   exact zt hT h
 · exact zt hT h
 subst hK
 refine sim_seg 2 rfl ?_
 refine sim_pick h rfl rfl rfl ?_;intro t28 h
 refine zc h c37 fun t29 w h=>?_
 refine zn<|sim_end ?_
 refine body_normal ?_
 exact body_ret0 rfl h
end Go.Proofs.YtiajhbbmgglmlaaGreat
namespace Go.Proofs.YtiajhbbmgglmlaaGreat
open Sw
def n94c1 (t0 t11 t15:Value) (R:RT) (w:World):Prop :=
 pickK t11 t15 (.bool false) fun t16 =>
 joinK (fun (t22:Value) (w:World) =>
 pickK t16 t22 (.bool false) fun t23 =>
 R (.returned t23) w) fun K2 =>
 guardP t16 true (
 opV Pg (Go.convert 9 100 t0) (panK R) w fun t19 w =>
 callK Pg 52 #[t19,(.func (.func 48) #[] #[])] (panK R) w fun t21 w =>
 opV Pg (Op.unary .not t21) (panK R) w fun t22 w =>
 K2 t22 w) (
 K2 undef w)
def n94c2 (t0 t11:Value) (R:RT) (w:World):Prop :=
 joinK (fun (t15:Value) (w:World) =>
 n94c1 t0 t11 t15 R w) fun K1 =>
 guardP t11 true (
 opV Pg (Instr.index 9 t0 (.int .i64 0)) (panK R) w fun t14 w =>
 C0 49 #[t14] R w fun t15 w =>
 K1 t15 w) (
 K1 undef w)
def n94 (t0:Value) (R:RT) (w:World):Prop :=
 opV Pg (Builtin.len_ #[9] 3 #[t0]) (panK R) w fun t5 w =>
 B0 .geq 3 true t5 (.int .i64 1) R w fun t6 w =>
 opV Pg (Builtin.len_ #[9] 3 #[t0]) (panK R) w fun t8 w =>
 B0 .leq 3 true t8 (.int .i64 32) R w fun t9 w =>
 opV Pg (Instr.buildSlice 33 2 #[(0,t6),(1,t9)]) (panK R) w fun t10 w =>
 C0 51 #[t10] R w fun t11 w =>
 n94c2 t0 t11 R w
theorem n94s {t0:Value} {R:RT} {w:World} (h:n94 t0 R w):Calls Pg 38 #[t0] w R:=by
 refine calls_of_den (args:=[t0]) Tryz.func38 rfl (Nat.le_of_ble_eq_true rfl) ?_
 unfold n94 at h
 refine zs<|zr<|zm<|zn<|zk<|zs<|zr<|zm<|zn<|zk<|zs<|sim_regionG ?_
 refine sim_seg 9 rfl ?_
 refine zm ?_
 refine zx h fun t5 w h=>?_
 refine zb h fun t6 w h=>?_
 refine zm ?_
 refine zx h fun t8 w h=>?_
 refine zb h fun t9 w h=>?_
 refine sim_buildSlice h rfl (fun _ _ h=>⟨rfl,h⟩) ?_;intro t10 w h
 refine zc h c51 fun t11 w h=>?_
 refine zm<|zn ?_
 refine joinK_elim h (fun K1 hK h=>?_)
 refine sim_groupJ 3 8 true [13,14,15] (fun ρ w=>K1 (ρ 15) w) rfl rfl (fun T hT=>guardP_mono h (fun h=>?_) (fun h=>?_)) (fun σ w h=>?_)
 · refine zm ?_
   refine zv h fun t14 w h=>?_
   refine zc h c49 fun t15 w h=>?_
   refine zn ?_
   exact zt hT h
 · exact zt hT h
 subst hK
 refine sim_seg 2 rfl ?_
 refine sim_pick h rfl rfl rfl ?_;intro t16 h
 refine zm<|zn ?_
 refine joinK_elim h (fun K2 hK h=>?_)
 refine sim_groupJ 5 13 true [18,19,20,21,22] (fun ρ w=>K2 (ρ 22) w) rfl rfl (fun T hT=>guardP_mono h (fun h=>?_) (fun h=>?_)) (fun σ w h=>?_)
 · refine zm ?_
   refine zv h fun t19 w h=>?_
   refine zm ?_
   refine zc h c52 fun t21 w h=>?_
   refine zv h fun t22 w h=>?_
   refine zn ?_
   exact zt hT h
 · exact zt hT h
 subst hK
 refine sim_seg 2 rfl ?_
 refine sim_pick h rfl rfl rfl ?_;intro t23 h
 refine zm<|zn<|sim_end<|zk<|sim_ret ?_
 exact body_ret1 rfl rfl h
def n55c1 (t6 t52 t64 t68:Value) (next6:KV) (ds:List Deferred) (R:RT) (w:World):Prop :=
 pickK t64 t68 (.bool false) fun t69 =>
 opU Pg (Instr.storeAt 4 t6 t69) (outQ Pg ds [] R) w fun w =>
 opV Pg (binS .add 3 true t52 (.int .i64 1)) (outQ Pg ds [] R) w fun t70 w =>
 next6 t70 w
def n55c2 (t6 t8 t52:Value) (next6:KV) (ds:List Deferred) (R:RT) (w:World):Prop :=
 opV Pg (Instr.loadAt 4 t6) (outQ Pg ds [] R) w fun t64 w =>
 joinK (fun (t68:Value) (w:World) =>
 n55c1 t6 t52 t64 t68 next6 ds R w) fun K7 =>
 guardP t64 true (
 opV Pg (Instr.fieldAt 52 t8 4) (outQ Pg ds [] R) w fun t66 w =>
 opV Pg (Instr.loadAt 4 t66) (outQ Pg ds [] R) w fun t67 w =>
 opV Pg (Op.unary .not t67) (outQ Pg ds [] R) w fun t68 w =>
 K7 t68 w) (
 K7 undef w)
def n55c3 (t2 t6 t76:Value) (Kr8:World→Prop) (Qr8:List PanicEntry→World→Prop) (R:RT) (w:World):Prop :=
 opV Pg (Instr.loadAt 4 t6) Qr8 w fun t85 w =>
 joinK (fun (t92:Value) (w:World) =>
 pickK t85 t92 (.bool false) fun t93 =>
 opU Pg (Instr.storeAt 4 t6 t93) Qr8 w fun w =>
 Kr8 w) fun K11 =>
 guardP t85 true (
 opV Pg (Instr.loadAt 61 t2) Qr8 w fun t87 w =>
 opN Pg (nilN t87) Qr8 w fun t88 w =>
 opV Pg (Instr.fieldAt 65 t88 2) Qr8 w fun t89 w =>
 opV Pg (Instr.loadAt 63 t89) Qr8 w fun t90 w =>
 opV Pg (Instr.lookup 63 t90 t76 false) Qr8 w fun t92 w =>
 K11 t92 w) (
 K11 undef w)
def n55c4 (t2 t6 t9 t76:Value) (C9:World→Prop) (Kr8:World→Prop) (Qr8:List PanicEntry→World→Prop) (R:RT) (w:World):Prop :=
 qV Pg C9 (Instr.loadAt 3 t9) fun t77 =>
 qV Pg C9 (Instr.loadAt 61 t2) fun t78 =>
 qN Pg C9 (nilN t78) fun t79 =>
 qV Pg C9 (Instr.fieldAt 65 t79 1) fun t80 =>
 qV Pg C9 (Instr.loadAt 62 t80) fun t81 =>
 qV Pg C9 (Instr.lookup 62 t81 t76 false) fun t83 =>
 qV Pg C9 (Builtin.max_ #[3,3] 3 #[t77,t83]) fun t84 =>
 opU Pg (Instr.storeAt 3 t9 t84) Qr8 w fun w =>
 turnK w fun C10 w =>
 n55c3 t2 t6 t76 Kr8 Qr8 R w
def n55c5 (t2 t9:Value) (ds:List Deferred) (R:RT) (w:World):Prop :=
 opV Pg (Instr.loadAt 61 t2) (outQ Pg ds [] R) w fun t113 w =>
 opV Pg (Instr.loadAt 3 t9) (outQ Pg ds [] R) w fun t114 w =>
 opV Pg (binS .lss 3 true t114 (.int .i64 16)) (outQ Pg ds [] R) w fun t115 w =>
 callK Pg 37 #[t113,t115,(.int .i64 10)] (outQ Pg ds [] R) w fun t116 w =>
 outX Pg ds [] R w
def n55c6 (t2 t9 t103 t108 t111:Value) (C12:World→Prop) (ds:List Deferred) (R:RT) (w:World):Prop :=
 qV Pg C12 (Instr.extract t111 1) fun t112 =>
 opU Pg (Instr.entryStore 63 t103 t112 t108) (outQ Pg ds [] R) w fun w =>
 turnK w fun C13 w =>
 n55c5 t2 t9 ds R w
def n55c7 (t2 t9 t97 t103 t105 t107 t108 t109:Value) (C12:World→Prop) (ds:List Deferred) (R:RT) (w:World):Prop :=
 qV Pg C12 (Instr.extract t109 1) fun t110 =>
 opU Pg (Instr.entryStore 62 t97 t110 t107) (outQ Pg ds [] R) w fun w =>
 C12 w∧(
 opV Pg (Instr.mapEntry 63 t103 t105) (outQ Pg ds [] R) w fun t111 w =>
 C12 w∧(
 n55c6 t2 t9 t103 t108 t111 C12 ds R w))
def n55c8 (t2 t3 t6 t9:Value) (C12:World→Prop) (ds:List Deferred) (R:RT) (w:World):Prop :=
 qV Pg C12 (Instr.loadAt 61 t2) fun t94 =>
 qN Pg C12 (nilN t94) fun t95 =>
 qV Pg C12 (Instr.fieldAt 65 t95 1) fun t96 =>
 qV Pg C12 (Instr.loadAt 62 t96) fun t97 =>
 qV Pg C12 (Instr.fieldAt 45 t3 0) fun t98 =>
 qV Pg C12 (Instr.loadAt 9 t98) fun t99 =>
 qV Pg C12 (Instr.loadAt 61 t2) fun t100 =>
 qN Pg C12 (nilN t100) fun t101 =>
 qV Pg C12 (Instr.fieldAt 65 t101 2) fun t102 =>
 qV Pg C12 (Instr.loadAt 63 t102) fun t103 =>
 qV Pg C12 (Instr.fieldAt 45 t3 0) fun t104 =>
 qV Pg C12 (Instr.loadAt 9 t104) fun t105 =>
 qV Pg C12 (Instr.loadAt 3 t9) fun t106 =>
 qV Pg C12 (binS .add 3 true t106 (.int .i64 1)) fun t107 =>
 qV Pg C12 (Instr.loadAt 4 t6) fun t108 =>
 opV Pg (Instr.mapEntry 62 t97 t99) (outQ Pg ds [] R) w fun t109 w =>
 C12 w∧(
 n55c7 t2 t9 t97 t103 t105 t107 t108 t109 C12 ds R w)
def n55c9 (t2 t3 t6 t9 t75:Value) (ds:List Deferred) (R:RT) (w:World):Prop :=
 rangeN Pg t75 ds (fun l8 t76 w Kr8 Xr8 Qr8 =>
 busyK l8 w fun w =>
 drawK w fun C9 w =>
 n55c4 t2 t6 t9 t76 C9 Kr8 Qr8 R w) (fun ch ds w=>outQ Pg ds [] R ch w) w (fun ds w =>
 drawK w fun C12 w =>
 n55c8 t2 t3 t6 t9 C12 ds R w) []
def n55c10 (t2 t3 t6:Value) (ds:List Deferred) (R:RT) (w:World):Prop :=
 opV Pg (Instr.loadAt 61 t2) (outQ Pg ds [] R) w fun t71 w =>
 opN Pg (nilN t71) (outQ Pg ds [] R) w fun t72 w =>
 opV Pg (Instr.fieldAt 65 t72 4) (outQ Pg ds [] R) w fun t73 w =>
 opU Pg (Instr.storeAt 3 t73 (.int .i64 (-1))) (outQ Pg ds [] R) w fun w =>
 opV Pg (Instr.alloc 3 true (.tuple #[])) (outQ Pg ds [] R) w fun t9 w =>
 opU Pg (Instr.storeAt 3 t9 (.int .i64 0)) (outQ Pg ds [] R) w fun w =>
 opV Pg (Instr.loadAt 45 t3) (outQ Pg ds [] R) w fun t74 w =>
 callK Pg 54 #[t74] (outQ Pg ds [] R) w fun t75 w =>
 n55c9 t2 t3 t6 t9 t75 ds R w
def n55c11 (t2 t6 t50 t52:Value) (next6:KV) (ds:List Deferred) (R:RT) (w:World):Prop :=
 opV Pg (Instr.indexAt 43 t50 t52) (outQ Pg ds [] R) w fun t55 w =>
 opV Pg (Instr.loadAt 52 t55) (outQ Pg ds [] R) w fun t56 w =>
 opV Pg (Instr.alloc 52 true (.tuple #[])) (outQ Pg ds [] R) w fun t8 w =>
 opU Pg (Instr.storeAt 52 t8 t56) (outQ Pg ds [] R) w fun w =>
 opV Pg (Instr.loadAt 61 t2) (outQ Pg ds [] R) w fun t57 w =>
 opN Pg (nilN t57) (outQ Pg ds [] R) w fun t59 w =>
 opV Pg (Instr.fieldAt 65 t59 4) (outQ Pg ds [] R) w fun t60 w =>
 opU Pg (Instr.storeAt 3 t60 t52) (outQ Pg ds [] R) w fun w =>
 opV Pg (Instr.loadAt 61 t2) (outQ Pg ds [] R) w fun t61 w =>
 opV Pg (Instr.loadAt 52 t8) (outQ Pg ds [] R) w fun t62 w =>
 callK Pg 53 #[t61,t62] (outQ Pg ds [] R) w fun t63 w =>
 n55c2 t6 t8 t52 next6 ds R w
def n55c12 (t2 t3 t6 t50 t51 t52:Value) (next6:KV) (ds:List Deferred) (R:RT) (w:World):Prop :=
 opV Pg (binS .lss 3 false t52 t51) (outQ Pg ds [] R) w fun t53 w =>
 condP t53 (
 n55c11 t2 t6 t50 t52 next6 ds R w) (
 n55c10 t2 t3 t6 ds R w)
def n55c13 (t2 t3:Value) (ds:List Deferred) (R:RT) (w:World):Prop :=
 opV Pg (Instr.alloc 4 true (.tuple #[])) (outQ Pg ds [] R) w fun t6 w =>
 opU Pg (Instr.storeAt 4 t6 (.bool true)) (outQ Pg ds [] R) w fun w =>
 opV Pg (Instr.fieldAt 45 t3 1) (outQ Pg ds [] R) w fun t49 w =>
 opV Pg (Instr.loadAt 43 t49) (outQ Pg ds [] R) w fun t50 w =>
 opV Pg (Builtin.len_ #[43] 3 #[t50]) (outQ Pg ds [] R) w fun t51 w =>
 loop1 (fun t52 w next6 =>
 n55c12 t2 t3 t6 t50 t51 t52 next6 ds R w) (.int .i64 0) w
def n55c14 (t2 t3:Value) (ds:List Deferred) (R:RT) (w:World):Prop :=
 opV Pg (Instr.loadAt 61 t2) (outQ Pg ds [] R) w fun t37 w =>
 opV Pg (Instr.fieldAt 45 t3 1) (outQ Pg ds [] R) w fun t38 w =>
 opV Pg (Instr.loadAt 43 t38) (outQ Pg ds [] R) w fun t39 w =>
 opV Pg (Builtin.len_ #[43] 3 #[t39]) (outQ Pg ds [] R) w fun t40 w =>
 opV Pg (binS .geq 3 true t40 (.int .i64 1)) (outQ Pg ds [] R) w fun t41 w =>
 joinK (fun (t46:Value) (w:World) =>
 pickK t41 t46 (.bool false) fun t47 =>
 callK Pg 37 #[t37,t47,(.int .i64 3)] (outQ Pg ds [] R) w fun t48 w =>
 n55c13 t2 t3 ds R w) fun K5 =>
 guardP t41 true (
 opV Pg (Instr.fieldAt 45 t3 1) (outQ Pg ds [] R) w fun t43 w =>
 opV Pg (Instr.loadAt 43 t43) (outQ Pg ds [] R) w fun t44 w =>
 opV Pg (Builtin.len_ #[43] 3 #[t44]) (outQ Pg ds [] R) w fun t45 w =>
 opV Pg (binS .leq 3 true t45 (.int .i64 40)) (outQ Pg ds [] R) w fun t46 w =>
 K5 t46 w) (
 K5 undef w)
def n55c15 (t2 t3:Value) (C4:World→Prop) (ds:List Deferred) (R:RT) (w:World):Prop :=
 qV Pg C4 (Instr.loadAt 61 t2) fun t24 =>
 qN Pg C4 (nilN t24) fun t25 =>
 qV Pg C4 (Instr.fieldAt 65 t25 1) fun t26 =>
 qV Pg C4 (Instr.loadAt 62 t26) fun t27 =>
 qV Pg C4 (Instr.fieldAt 45 t3 0) fun t28 =>
 qV Pg C4 (Instr.loadAt 9 t28) fun t29 =>
 qV Pg C4 (Instr.lookup 62 t27 t29 true) fun t30 =>
 qV Pg C4 (Instr.extract t30 0) fun t31 =>
 qV Pg C4 (Instr.extract t30 1) fun t32 =>
 opV Pg (Instr.loadAt 61 t2) (outQ Pg ds [] R) w fun t33 w =>
 opV Pg (Op.unary .not t32) (outQ Pg ds [] R) w fun t35 w =>
 callK Pg 37 #[t33,t35,(.int .i64 2)] (outQ Pg ds [] R) w fun t36 w =>
 n55c14 t2 t3 ds R w
def n55c16 (t2 t3:Value) (C3:World→Prop) (ds:List Deferred) (R:RT) (w:World):Prop :=
 qV Pg C3 (Instr.loadAt 61 t2) fun t18 =>
 qV Pg C3 (Instr.fieldAt 45 t3 0) fun t19 =>
 qV Pg C3 (Instr.loadAt 9 t19) fun t20 =>
 callK Pg 38 #[t20] (outQ Pg ds [] R) w fun t21 w =>
 C3 w∧(
 callK Pg 37 #[t18,t21,(.int .i64 1)] (outQ Pg ds [] R) w fun t22 w =>
 C3 w∧(
 drawK w fun C4 w =>
 n55c15 t2 t3 C4 ds R w))
def n55c17 (t2 t3 t12:Value) (C1:World→Prop) (ds:List Deferred) (R:RT) (w:World):Prop :=
 qN Pg C1 (nilN t12) fun t16 =>
 qV Pg C1 (Instr.fieldAt 65 t16 4) fun t17 =>
 opU Pg (Instr.storeAt 3 t17 (.int .i64 (-1))) (outQ Pg ds [] R) w fun w =>
 turnK w fun C2 w =>
 drawK w fun C3 w =>
 n55c16 t2 t3 C3 ds R w
def n55c18 (t2 t3:Value) (C1:World→Prop) (ds:List Deferred) (R:RT) (w:World):Prop :=
 qV Pg C1 (Instr.loadAt 61 t2) fun t11 =>
 qV Pg C1 (Instr.loadAt 61 t2) fun t12 =>
 qV Pg C1 (Instr.loadAt 45 t3) fun t13 =>
 qN Pg C1 (nilN t11) fun t14 =>
 qV Pg C1 (Instr.fieldAt 65 t14 5) fun t15 =>
 opU Pg (Instr.storeAt 45 t15 t13) (outQ Pg ds [] R) w fun w =>
 C1 w∧(
 n55c17 t2 t3 t12 C1 ds R w)
def n55 (t0 t1:Value) (R:RT) (w:World):Prop :=
 (fun (ds:List Deferred) =>
 opV Pg (Instr.box 61 t0) (outQ Pg ds [] R) w fun t2 w =>
 opV Pg (Instr.box 45 t1) (outQ Pg ds [] R) w fun t3 w =>
 drawK w fun C1 w =>
 n55c18 t2 t3 C1 ds R w) []
theorem n55s {t0 t1:Value} {R:RT} {w:World} (h:n55 t0 t1 R w):Calls Pg 39 #[t0,t1] w R:=by
 refine calls_of_denM (args:=[t0,t1]) Tryz.func39 rfl (Nat.le_of_ble_eq_true rfl) ?_
 unfold n55 at h
 dsimp only at h
 refine zs<|zr ?_
 refine zq h fun t2 w h=>?_
 refine zq h fun t3 w h=>?_
 refine zn<|zk<|zs ?_
 obtain ⟨C1,hC,h⟩:=h
 refine sim_draw [11,12,13,14,15,16,17] (by kernel_rfl) (by kernel_rfl) C1 ?_
 refine ze 0 hC h fun t11 h=>?_
 refine ze 1 hC h fun t12 h=>?_
 refine ze 2 hC h fun t13 h=>?_
 obtain ⟨t14,hv,h⟩:=h
 refine sim_dsilent 3 hC rfl (by kernel_rfl) (by kernel_rfl) (fun _ _=>rfl) rfl (Sw.qN_run rfl hv) ?_
 refine ze 4 hC h fun t15 h=>?_
 refine sim_dloud 5 rfl (by kernel_rfl) (fun _ _=>rfl) ?_
 refine sim_unit h rfl rfl (fun _ _ h=>outQ_ofD rfl rfl h) ?_;intro w h
 refine zn ?_
 obtain ⟨hC,h⟩:=h
 refine ⟨hC,?_⟩
 obtain ⟨t16,hv,h⟩:=h
 refine sim_dsilent 6 hC rfl (by kernel_rfl) (by kernel_rfl) (fun _ _=>rfl) rfl (Sw.qN_run rfl hv) ?_
 refine ze 7 hC h fun t17 h=>?_
 refine sim_dturn 8 2 rfl (by kernel_rfl) (by kernel_rfl) (fun _ _=>rfl) ?_
 refine sim_unit h rfl rfl (fun _ _ h=>outQ_ofD rfl rfl h) ?_;intro w h
 refine zn ?_
 obtain ⟨C2,hC,h⟩:=h
 refine ⟨C2,hC,?_⟩
 refine sim_dend (by kernel_rfl) ?_
 refine zk<|zs ?_
 obtain ⟨C3,hC,h⟩:=h
 refine sim_draw [18,19,20,21,22] (by kernel_rfl) (by kernel_rfl) C3 ?_
 refine ze 0 hC h fun t18 h=>?_
 refine ze 1 hC h fun t19 h=>?_
 refine ze 2 hC h fun t20 h=>?_
 refine sim_dloud 3 rfl (by kernel_rfl) (fun _ _=>rfl) ?_
 refine sim_call h c38 rfl (fun _ _ h=>outQ_ofD rfl rfl h) ?_;intro t21 w h
 refine zn ?_
 obtain ⟨hC,h⟩:=h
 refine ⟨hC,?_⟩
 refine sim_dloud 4 rfl (by kernel_rfl) (fun _ _=>rfl) ?_
 refine sim_call h c37 rfl (fun _ _ h=>outQ_ofD rfl rfl h) ?_;intro t22 w h
 refine zn ?_
 obtain ⟨hC,h⟩:=h
 refine ⟨hC,?_⟩
 refine sim_dend (by kernel_rfl) ?_
 refine zk<|zs ?_
 obtain ⟨C4,hC,h⟩:=h
 refine sim_draw [4,5,23,24,25,26,27,28,29,30,31,32] (by kernel_rfl) (by kernel_rfl) C4 ?_
 refine ze 0 hC h fun t24 h=>?_
 obtain ⟨t25,hv,h⟩:=h
 refine sim_dsilent 1 hC rfl (by kernel_rfl) (by kernel_rfl) (fun _ _=>rfl) rfl (Sw.qN_run rfl hv) ?_
 refine ze 2 hC h fun t26 h=>?_
 refine ze 3 hC h fun t27 h=>?_
 refine ze 4 hC h fun t28 h=>?_
 refine ze 5 hC h fun t29 h=>?_
 refine ze 6 hC h fun t30 h=>?_
 refine zw 7 hC ?_
 refine ze 8 hC h fun t31 h=>?_
 refine ze 9 hC h fun t32 h=>?_
 refine zw 10 hC ?_
 refine zw 11 hC ?_
 refine sim_dend (by kernel_rfl) ?_
 refine zk<|zs<|zr ?_
 refine zq h fun t33 w h=>?_
 refine zm ?_
 refine zq h fun t35 w h=>?_
 refine sim_call h c37 rfl (fun _ _ h=>outQ_of rfl h) ?_;intro t36 w h
 refine zn<|zk<|zs<|sim_regionG ?_
 refine sim_seg 6 rfl ?_
 refine zq h fun t37 w h=>?_
 refine zq h fun t38 w h=>?_
 refine zq h fun t39 w h=>?_
 refine sim_builtin h rfl (fun _ _ h=>outQ_of rfl h) ?_;intro t40 w h
 refine sim_bin h rfl rfl rfl (fun _ _ h=>outQ_of rfl h) ?_;intro t41 w h
 refine zm<|zn ?_
 refine joinK_elim h (fun K5 hK h=>?_)
 refine sim_groupJ 4 5 true [43,44,45,46] (fun ρ w=>K5 (ρ 46) w) rfl rfl (fun T hT=>guardP_mono h (fun h=>?_) (fun h=>?_)) (fun σ w h=>?_)
 · refine zq h fun t43 w h=>?_
   refine zq h fun t44 w h=>?_
   refine sim_builtin h rfl (fun _ _ h=>outQ_of rfl h) ?_;intro t45 w h
   refine sim_bin h rfl rfl rfl (fun _ _ h=>outQ_of rfl h) ?_;intro t46 w h
   refine zn ?_
   exact zt hT h
 · exact zt hT h
 subst hK
 refine sim_seg 2 rfl ?_
 refine sim_pick h rfl rfl rfl ?_;intro t47 h
 refine sim_call h c37 rfl (fun _ _ h=>outQ_of rfl h) ?_;intro t48 w h
 refine zn<|sim_end<|zk<|zs<|zr ?_
 refine zq h fun t6 w h=>?_
 refine sim_unit h rfl rfl (fun _ _ h=>outQ_of rfl h) ?_;intro w h
 refine zn<|zk<|zs<|zs<|zr ?_
 refine zq h fun t49 w h=>?_
 refine zq h fun t50 w h=>?_
 refine sim_builtin h rfl (fun _ _ h=>outQ_of rfl h) ?_;intro t51 w h
 refine zm<|zn<|zk<|sim_block ?_
 obtain ⟨I,μ,h0,hr⟩:=h
 refine sim_loop [7,8,52,53,54,55,56,57,58,59,60,61,62,63,64,65,66,67,68,69,70] (by kernel_rfl) (fun ρ w=>I (ρ 52) w) (fun ρ w=>μ (ρ 52) w) h0 (fun σ w hI=>?_)
 have h:=hr _ _ hI
 clear hr h0 hI
 refine zs<|zr ?_
 refine sim_bin h rfl rfl rfl (fun _ _ h=>outQ_of rfl h) ?_;intro t53 w h
 refine zn<|zk<|zs ?_
 refine sim_cond h rfl (fun h=>?_) (fun h=>?_)
 · refine sim_skip<|zk<|zs<|sim_block<|zs<|zr<|zm ?_
   refine zq h fun t55 w h=>?_
   refine zq h fun t56 w h=>?_
   refine zq h fun t8 w h=>?_
   refine zm ?_
   refine sim_unit h rfl rfl (fun _ _ h=>outQ_of rfl h) ?_;intro w h
   refine zn<|zk<|zs<|zr ?_
   refine zq h fun t57 w h=>?_
   refine zm ?_
   refine sim_next h rfl rfl (fun _ _ h=>outQ_of rfl h) ?_;intro t59 w h
   refine zq h fun t60 w h=>?_
   refine sim_unit h rfl rfl (fun _ _ h=>outQ_of rfl h) ?_;intro w h
   refine zn<|zk<|zs<|zr ?_
   refine zq h fun t61 w h=>?_
   refine zq h fun t62 w h=>?_
   refine sim_call h c53 rfl (fun _ _ h=>outQ_of rfl h) ?_;intro t63 w h
   refine zn<|zk<|sim_regionG ?_
   refine sim_seg 2 rfl ?_
   refine zq h fun t64 w h=>?_
   refine zm<|zn ?_
   refine joinK_elim h (fun K7 hK h=>?_)
   refine sim_groupJ 3 1 true [66,67,68] (fun ρ w=>K7 (ρ 68) w) rfl rfl (fun T hT=>guardP_mono h (fun h=>?_) (fun h=>?_)) (fun σ w h=>?_)
   · refine zq h fun t66 w h=>?_
     refine zq h fun t67 w h=>?_
     refine zq h fun t68 w h=>?_
     refine zn ?_
     exact zt hT h
   · exact zt hT h
   subst hK
   refine sim_seg 2 rfl ?_
   refine sim_pick h rfl rfl rfl ?_;intro t69 h
   refine sim_unit h rfl rfl (fun _ _ h=>outQ_of rfl h) ?_;intro w h
   refine zn<|sim_end<|sim_block_normal<|zk<|zr ?_
   refine sim_bin h rfl rfl rfl (fun _ _ h=>outQ_of rfl h) ?_;intro t70 w h
   refine zm<|zn<|zk ?_
   exact ⟨rfl,h⟩
 · refine sim_exit<|sim_then_exit<|sim_then_exit<|sim_block_hit<|zk<|zs<|zr ?_
   refine zq h fun t71 w h=>?_
   refine sim_next h rfl rfl (fun _ _ h=>outQ_of rfl h) ?_;intro t72 w h
   refine zq h fun t73 w h=>?_
   refine sim_unit h rfl rfl (fun _ _ h=>outQ_of rfl h) ?_;intro w h
   refine zn<|zk<|zs<|zr ?_
   refine zq h fun t9 w h=>?_
   refine sim_unit h rfl rfl (fun _ _ h=>outQ_of rfl h) ?_;intro w h
   refine zn<|zk<|zs<|zs<|zr ?_
   refine zq h fun t74 w h=>?_
   refine sim_call h c54 rfl (fun _ _ h=>outQ_of rfl h) ?_;intro t75 w h
   refine zn<|zk<|sim_block ?_
   refine sim_range [] h rfl (fun l8 t76 w Kr8 Xr8 Qr8 h=>?_) (fun ds w h=>?_) (fun c ds w h=>?_) (fun ch ds w h=>outQ_of rfl h)
   · refine zr<|zm<|zn<|zk ?_
     obtain ⟨hr,h⟩:=h
     refine ⟨rfl,hr,fun w hb=>?_⟩
     have h:=h w hb
     refine sim_block<|zs ?_
     obtain ⟨C9,hC,h⟩:=h
     refine sim_draw [77,78,79,80,81,82,83,84] (by kernel_rfl) (by kernel_rfl) C9 ?_
     refine ze 0 hC h fun t77 h=>?_
     refine ze 1 hC h fun t78 h=>?_
     obtain ⟨t79,hv,h⟩:=h
     refine sim_dsilent 2 hC rfl (by kernel_rfl) (by kernel_rfl) (fun _ _=>rfl) rfl (Sw.qN_run rfl hv) ?_
     refine ze 3 hC h fun t80 h=>?_
     refine ze 4 hC h fun t81 h=>?_
     refine zw 5 hC ?_
     refine ze 6 hC h fun t83 h=>?_
     obtain ⟨t84,hv,h⟩:=h
     refine sim_dsilent 7 hC rfl (by kernel_rfl) (by kernel_rfl) (fun _ _=>rfl) rfl (Sw.qV_builtin rfl hv) ?_
     refine sim_dturn 8 1 rfl (by kernel_rfl) (by kernel_rfl) (fun _ _=>rfl) ?_
     refine sim_unit h rfl rfl (fun _ _ h _ _=>⟨rfl,h⟩) ?_;intro w h
     refine zn ?_
     obtain ⟨C10,hC,h⟩:=h
     refine ⟨C10,hC,?_⟩
     refine sim_dend (by kernel_rfl) ?_
     refine zk<|sim_regionG ?_
     refine sim_seg 2 rfl ?_
     refine zv h fun t85 w h=>?_
     refine zm<|zn ?_
     refine joinK_elim h (fun K11 hK h=>?_)
     refine sim_groupJ 6 1 true [87,88,89,90,91,92] (fun ρ w=>K11 (ρ 92) w) rfl rfl (fun T hT=>guardP_mono h (fun h=>?_) (fun h=>?_)) (fun σ w h=>?_)
     · refine zv h fun t87 w h=>?_
       refine sim_next h rfl rfl (fun _ _ h=>⟨rfl,h⟩) ?_;intro t88 w h
       refine zv h fun t89 w h=>?_
       refine zv h fun t90 w h=>?_
       refine zm ?_
       refine zv h fun t92 w h=>?_
       refine zn ?_
       exact zt hT h
     · exact zt hT h
     subst hK
     refine sim_seg 2 rfl ?_
     refine sim_pick h rfl rfl rfl ?_;intro t93 h
     refine zu h fun w h=>?_
     refine zn<|sim_end<|sim_block_normal ?_
     exact ⟨rfl,h⟩
   · refine sim_block_normal<|zk<|zs ?_
     obtain ⟨C12,hC,h⟩:=h
     refine sim_draw [94,95,96,97,98,99,100,101,102,103,104,105,106,107,108,109,110,111,112] (by kernel_rfl) (by kernel_rfl) C12 ?_
     refine ze 0 hC h fun t94 h=>?_
     obtain ⟨t95,hv,h⟩:=h
     refine sim_dsilent 1 hC rfl (by kernel_rfl) (by kernel_rfl) (fun _ _=>rfl) rfl (Sw.qN_run rfl hv) ?_
     refine ze 2 hC h fun t96 h=>?_
     refine ze 3 hC h fun t97 h=>?_
     refine ze 4 hC h fun t98 h=>?_
     refine ze 5 hC h fun t99 h=>?_
     refine ze 6 hC h fun t100 h=>?_
     obtain ⟨t101,hv,h⟩:=h
     refine sim_dsilent 7 hC rfl (by kernel_rfl) (by kernel_rfl) (fun _ _=>rfl) rfl (Sw.qN_run rfl hv) ?_
     refine ze 8 hC h fun t102 h=>?_
     refine ze 9 hC h fun t103 h=>?_
     refine ze 10 hC h fun t104 h=>?_
     refine ze 11 hC h fun t105 h=>?_
     refine ze 12 hC h fun t106 h=>?_
     obtain ⟨t107,hv,h⟩:=h
     refine sim_dsilent 13 hC rfl (by kernel_rfl) (by kernel_rfl) (fun _ _=>rfl) rfl (Sw.qV_bin rfl rfl rfl hv) ?_
     refine ze 14 hC h fun t108 h=>?_
     refine sim_dloud 15 rfl (by kernel_rfl) (fun _ _=>rfl) ?_
     refine sim_val h rfl rfl (fun _ _ h=>outQ_ofD rfl rfl h) ?_;intro t109 w h
     refine zn ?_
     obtain ⟨hC,h⟩:=h
     refine ⟨hC,?_⟩
     refine ze 16 hC h fun t110 h=>?_
     refine sim_dloud 17 rfl (by kernel_rfl) (fun _ _=>rfl) ?_
     refine sim_unit h rfl rfl (fun _ _ h=>outQ_ofD rfl rfl h) ?_;intro w h
     refine zn ?_
     obtain ⟨hC,h⟩:=h
     refine ⟨hC,?_⟩
     refine sim_dloud 18 rfl (by kernel_rfl) (fun _ _=>rfl) ?_
     refine sim_val h rfl rfl (fun _ _ h=>outQ_ofD rfl rfl h) ?_;intro t111 w h
     refine zn ?_
     obtain ⟨hC,h⟩:=h
     refine ⟨hC,?_⟩
     refine ze 19 hC h fun t112 h=>?_
     refine sim_dturn 20 1 rfl (by kernel_rfl) (by kernel_rfl) (fun _ _=>rfl) ?_
     refine sim_unit h rfl rfl (fun _ _ h=>outQ_ofD rfl rfl h) ?_;intro w h
     refine zn ?_
     obtain ⟨C13,hC,h⟩:=h
     refine ⟨C13,hC,?_⟩
     refine sim_dend (by kernel_rfl) ?_
     refine zk<|zr ?_
     refine zq h fun t113 w h=>?_
     refine zq h fun t114 w h=>?_
     refine sim_bin h rfl rfl rfl (fun _ _ h=>outQ_of rfl h) ?_;intro t115 w h
     refine sim_call h c37 rfl (fun _ _ h=>outQ_of rfl h) ?_;intro t116 w h
     refine zn ?_
     refine Sw.bodyM_normal ?_
     exact Sw.bodyM_ret rfl h
   · exact h.elim
def n14c1 (t0 t8 t12:Value) (R:RT) (w:World):Prop :=
 joinK (fun (t14:Value) (w:World) =>
 joinK (fun (t15:Value) (w:World) =>
 pickK t8 (.bool true) t15 fun t16 =>
 R (.returned t16) w) fun K4 =>
 guardP t8 false (
 pickK t12 t14 (.bool false) fun t15 =>
 K4 t15 w) (
 K4 undef w)) fun K3 =>
 guardP t12 true (
 opV Pg (binS .leq 5 true t0 (.int .u8 122)) (panK R) w fun t14 w =>
 K3 t14 w) (
 K3 undef w)
def n14c2 (t0 t4 t7:Value) (R:RT) (w:World):Prop :=
 pickK t4 t7 (.bool false) fun t8 =>
 joinK (fun (t12:Value) (w:World) =>
 n14c1 t0 t8 t12 R w) fun K2 =>
 guardP t8 false (
 opV Pg (binS .geq 5 true t0 (.int .u8 97)) (panK R) w fun t11 w =>
 K2 t11 w) (
 K2 undef w)
def n14 (t0:Value) (R:RT) (w:World):Prop :=
 opV Pg (binS .geq 5 true t0 (.int .u8 65)) (panK R) w fun t4 w =>
 joinK (fun (t7:Value) (w:World) =>
 n14c2 t0 t4 t7 R w) fun K1 =>
 guardP t4 true (
 opV Pg (binS .leq 5 true t0 (.int .u8 90)) (panK R) w fun t7 w =>
 K1 t7 w) (
 K1 undef w)
theorem n14s {t0:Value} {R:RT} {w:World} (h:n14 t0 R w):Calls Pg 40 #[t0] w R:=by
 refine calls_of_den (args:=[t0]) Tryz.func40 rfl (Nat.le_of_ble_eq_true rfl) ?_
 unfold n14 at h
 refine zs<|zr<|zm<|zn<|zk<|zs<|sim_regionG ?_
 refine sim_seg 3 rfl ?_
 refine zm ?_
 refine zb h fun t4 w h=>?_
 refine zm<|zn ?_
 refine joinK_elim h (fun K1 hK h=>?_)
 refine sim_groupJ 2 2 true [6,7] (fun ρ w=>K1 (ρ 7) w) rfl rfl (fun T hT=>guardP_mono h (fun h=>?_) (fun h=>?_)) (fun σ w h=>?_)
 · refine zm ?_
   refine zb h fun t7 w h=>?_
   refine zn ?_
   exact zt hT h
 · exact zt hT h
 subst hK
 refine sim_seg 2 rfl ?_
 refine sim_pick h rfl rfl rfl ?_;intro t8 h
 refine zm<|zn ?_
 refine joinK_elim h (fun K2 hK h=>?_)
 refine sim_groupJ 3 6 false [10,11,12] (fun ρ w=>K2 (ρ 12) w) rfl rfl (fun T hT=>guardP_mono h (fun h=>?_) (fun h=>?_)) (fun σ w h=>?_)
 · refine zm ?_
   refine zb h fun t11 w h=>?_
   refine zm<|zn ?_
   exact zt hT h
 · exact zt hT h
 subst hK
 refine joinK_elim h (fun K3 hK h=>?_)
 refine sim_groupJ 2 9 true [13,14] (fun ρ w=>K3 (ρ 14) w) rfl rfl (fun T hT=>guardP_mono h (fun h=>?_) (fun h=>?_)) (fun σ w h=>?_)
 · refine zm ?_
   refine zb h fun t14 w h=>?_
   refine zn ?_
   exact zt hT h
 · exact zt hT h
 subst hK
 refine joinK_elim h (fun K4 hK h=>?_)
 refine sim_groupJ 1 6 false [15] (fun ρ w=>K4 (ρ 15) w) rfl rfl (fun T hT=>guardP_mono h (fun h=>?_) (fun h=>?_)) (fun σ w h=>?_)
 · refine sim_pick h rfl rfl rfl ?_;intro t15 h
   refine zn ?_
   exact zt hT h
 · exact zt hT h
 subst hK
 refine sim_seg 2 rfl ?_
 refine sim_pick h rfl rfl rfl ?_;intro t16 h
 refine zm<|zn<|sim_end<|zk<|sim_ret ?_
 exact body_ret1 rfl rfl h
def n13 (t0:Value) (R:RT) (w:World):Prop :=
 opV Pg (binS .geq 5 true t0 (.int .u8 48)) (panK R) w fun t4 w =>
 joinK (fun (t7:Value) (w:World) =>
 pickK t4 t7 (.bool false) fun t8 =>
 R (.returned t8) w) fun K1 =>
 guardP t4 true (
 opV Pg (binS .leq 5 true t0 (.int .u8 57)) (panK R) w fun t7 w =>
 K1 t7 w) (
 K1 undef w)
theorem n13s {t0:Value} {R:RT} {w:World} (h:n13 t0 R w):Calls Pg 41 #[t0] w R:=by
 refine calls_of_den (args:=[t0]) Tryz.func41 rfl (Nat.le_of_ble_eq_true rfl) ?_
 unfold n13 at h
 refine zs<|zr<|zm<|zn<|zk<|zs<|sim_regionG ?_
 refine sim_seg 3 rfl ?_
 refine zm ?_
 refine zb h fun t4 w h=>?_
 refine zm<|zn ?_
 refine joinK_elim h (fun K1 hK h=>?_)
 refine sim_groupJ 2 2 true [6,7] (fun ρ w=>K1 (ρ 7) w) rfl rfl (fun T hT=>guardP_mono h (fun h=>?_) (fun h=>?_)) (fun σ w h=>?_)
 · refine zm ?_
   refine zb h fun t7 w h=>?_
   refine zn ?_
   exact zt hT h
 · exact zt hT h
 subst hK
 refine sim_seg 2 rfl ?_
 refine sim_pick h rfl rfl rfl ?_;intro t8 h
 refine zm<|zn<|sim_end<|zk<|sim_ret ?_
 exact body_ret1 rfl rfl h
def n18c1 (t1 t3 t7:Value) (next1:KV) (R:RT) (w:World):Prop :=
 F0 45 t3 1 R w fun t13 w =>
 L0 43 t13 R w fun t14 w =>
 X0 43 t14 t7 R w fun t16 w =>
 F0 52 t16 0 R w fun t17 w =>
 L0 9 t17 R w fun t18 w =>
 B0 .eql 9 false t18 t1 R w fun t20 w =>
 condP t20 (
 R (.returned t7) w) (
 B0 .add 3 true t7 (.int .i64 1) R w fun t12 w =>
 next1 t12 w)
def n18 (t0 t1 t2:Value) (R:RT) (w:World):Prop :=
 opV Pg (Instr.box 45 t0) (panK R) w fun t3 w =>
 loop1 (fun t7 w next1 =>
 B0 .lss 3 false t7 t2 R w fun t10 w =>
 condP t10 (
 n18c1 t1 t3 t7 next1 R w) (
 R (.returned (.int .i64 (-1))) w)) (.int .i64 0) w
theorem n18s {t0 t1 t2:Value} {R:RT} {w:World} (h:n18 t0 t1 t2 R w):Calls Pg 42 #[t0,t1,t2] w R:=by
 refine calls_of_den (args:=[t0,t1,t2]) Tryz.func42 rfl (Nat.le_of_ble_eq_true rfl) ?_
 unfold n18 at h
 refine zs<|zr ?_
 refine zv h fun t3 w h=>?_
 refine zm<|zn<|zk<|zs<|zs<|zr<|zm<|zn<|zk<|sim_block ?_
 obtain ⟨I,μ,h0,hr⟩:=h
 refine sim_loop [6,7,8,9,10,11,12,13,14,15,16,17,18,19,20,21] (by kernel_rfl) (fun ρ w=>I (ρ 7) w) (fun ρ w=>μ (ρ 7) w) h0 (fun σ w hI=>?_)
 have h:=hr _ _ hI
 clear hr h0 hI
 refine zs<|zs<|zr<|zm<|zm ?_
 refine zb h fun t10 w h=>?_
 refine zn<|zk ?_
 refine sim_cond h rfl (fun h=>?_) (fun h=>?_)
 · refine sim_skip<|zk<|zs<|sim_block<|zs<|zr ?_
   refine zv h fun t13 w h=>?_
   refine zv h fun t14 w h=>?_
   refine zm ?_
   refine zv h fun t16 w h=>?_
   refine zv h fun t17 w h=>?_
   refine zv h fun t18 w h=>?_
   refine zm ?_
   refine zb h fun t20 w h=>?_
   refine zn<|zk ?_
   refine sim_cond h rfl (fun h=>?_) (fun h=>?_)
   · refine zs<|zr<|zm<|zm<|zn<|zk<|sim_ret<|sim_block_ret<|sim_then_ret<|sim_then_ret<|sim_block_ret<|sim_then_ret ?_
     exact body_ret1 rfl rfl h
   · refine sim_skip<|sim_block_normal<|zk<|zr<|zm ?_
     refine zb h fun t12 w h=>?_
     refine zm<|zn<|zk ?_
     exact ⟨rfl,h⟩
 · refine sim_exit<|sim_then_exit<|sim_then_exit<|sim_block_hit<|zk<|zs<|zr<|zm<|zn<|zk<|sim_ret ?_
   exact body_ret1 rfl rfl h
end Go.Proofs.YtiajhbbmgglmlaaGreat
namespace Go.Proofs.YtiajhbbmgglmlaaGreat
open Sw
open Go.RowKit (intOf)
def letterB (c:UInt8):Bool:=(decide (65≤(c.toNat:Int))&&decide ((c.toNat:Int)≤90))||(decide (97≤(c.toNat:Int))&&decide ((c.toNat:Int)≤122))
def digitB (c:UInt8):Bool:=decide (48≤(c.toNat:Int))&&decide ((c.toNat:Int)≤57)
def wordB (c:UInt8):Bool:=letterB c||digitB c||((c.toNat:Int) == 95)
def smallB (v:Int):Bool:=decide (-1048576≤v)&&decide (v≤1048576)
def nameB (s:ByteArray):Bool:=decide (1≤(s.size:Int))&&decide ((s.size:Int)≤32)&&(match s.data.toList with | []=>false | c::_=>letterB c)&&s.data.toList.all wordB
theorem letter_ret (w0:World) (c:UInt8):Ret Pg 49 #[.int .u8 c.toNat] w0 fun r w'=>r = .bool (letterB c)∧Ext w0 w':=by
 refine n103s (R:=retR _) ?_;unfold n103
 simp (disch:=try exact DI) only [↓PR,QR,Int.reduceBEq,Int.reduceBNe,Int.reduceLT,Int.reduceLE,Int.reduceGT,Int.reduceGE,Int.reduceNeg,↓n103c1,↓n103c2]
 unfold letterB
 have e:=Ext.refl w0
 generalize decide (65≤(c.toNat:Int))=b1
 generalize decide ((c.toNat:Int)≤90)=b2
 generalize decide (97≤(c.toNat:Int))=b3
 generalize decide ((c.toNat:Int)≤122)=b4
 cases b1<;>cases b2<;>cases b3<;>cases b4<;>simp (disch:=try exact DI) only [↓PR,QR,Int.reduceBEq,Int.reduceBNe,Int.reduceLT,Int.reduceLE,Int.reduceGT,Int.reduceGE,Int.reduceNeg,↓n103c1,↓n103c2]<;>exact ⟨by trivial,e⟩
theorem rletter_ret (w0:World) (c:UInt8):Ret Pg 40 #[.int .u8 c.toNat] w0 fun r w'=>r = .bool (letterB c)∧Ext w0 w':=by
 refine n14s (R:=retR _) ?_;unfold n14
 simp (disch:=try exact DI) only [↓PR,QR,Int.reduceBEq,Int.reduceBNe,Int.reduceLT,Int.reduceLE,Int.reduceGT,Int.reduceGE,Int.reduceNeg,↓n14c1,↓n14c2]
 unfold letterB
 have e:=Ext.refl w0
 generalize decide (65≤(c.toNat:Int))=b1
 generalize decide ((c.toNat:Int)≤90)=b2
 generalize decide (97≤(c.toNat:Int))=b3
 generalize decide ((c.toNat:Int)≤122)=b4
 cases b1<;>cases b2<;>cases b3<;>cases b4<;>simp (disch:=try exact DI) only [↓PR,QR,Int.reduceBEq,Int.reduceBNe,Int.reduceLT,Int.reduceLE,Int.reduceGT,Int.reduceGE,Int.reduceNeg,↓n14c1,↓n14c2]<;>exact ⟨by trivial,e⟩
theorem digit_ret (w0:World) (c:UInt8):Ret Pg 50 #[.int .u8 c.toNat] w0 fun r w'=>r = .bool (digitB c)∧Ext w0 w':=by
 refine n102s (R:=retR _) ?_;unfold n102
 simp (disch:=try exact DI) only [↓PR,QR,Int.reduceBEq,Int.reduceBNe,Int.reduceLT,Int.reduceLE,Int.reduceGT,Int.reduceGE,Int.reduceNeg,Sw.joinK_eq]
 unfold digitB
 have e:=Ext.refl w0
 generalize decide (48≤(c.toNat:Int))=b1
 generalize decide ((c.toNat:Int)≤57)=b2
 cases b1<;>cases b2<;>simp (disch:=try exact DI) only [↓PR,QR,Int.reduceBEq,Int.reduceBNe,Int.reduceLT,Int.reduceLE,Int.reduceGT,Int.reduceGE,Int.reduceNeg,Sw.joinK_eq]<;>exact ⟨by trivial,e⟩
theorem rdigit_ret (w0:World) (c:UInt8):Ret Pg 41 #[.int .u8 c.toNat] w0 fun r w'=>r = .bool (digitB c)∧Ext w0 w':=by
 refine n13s (R:=retR _) ?_;unfold n13
 simp (disch:=try exact DI) only [↓PR,QR,Int.reduceBEq,Int.reduceBNe,Int.reduceLT,Int.reduceLE,Int.reduceGT,Int.reduceGE,Int.reduceNeg,Sw.joinK_eq]
 unfold digitB
 have e:=Ext.refl w0
 generalize decide (48≤(c.toNat:Int))=b1
 generalize decide ((c.toNat:Int)≤57)=b2
 cases b1<;>cases b2<;>simp (disch:=try exact DI) only [↓PR,QR,Int.reduceBEq,Int.reduceBNe,Int.reduceLT,Int.reduceLE,Int.reduceGT,Int.reduceGE,Int.reduceNeg,Sw.joinK_eq]<;>exact ⟨by trivial,e⟩
theorem small_ret (w0:World) (v:Int):Ret Pg 118 #[.int .i64 v] w0 fun r w'=>r = .bool (smallB v)∧Ext w0 w':=by
 refine n105s (R:=retR _) ?_;unfold n105
 simp (disch:=try exact DI) only [↓PR,QR,Int.reduceBEq,Int.reduceBNe,Int.reduceLT,Int.reduceLE,Int.reduceGT,Int.reduceGE,Int.reduceNeg,Sw.joinK_eq]
 unfold smallB
 have e:=Ext.refl w0
 generalize decide (-1048576≤v)=b1
 generalize decide (v≤1048576)=b2
 cases b1<;>cases b2<;>simp (disch:=try exact DI) only [↓PR,QR,Int.reduceBEq,Int.reduceBNe,Int.reduceLT,Int.reduceLE,Int.reduceGT,Int.reduceGE,Int.reduceNeg,Sw.joinK_eq]<;>exact ⟨by trivial,e⟩
def BoolsOf (w:World) (v:Value) (l:List Bool):Prop:=SliceOf w 1 EBool v l
theorem Index_bool_ret (w0:World) (v:Value) (l:List Bool) (x:Bool) (hs:BoolsOf w0 v l) :
 Ret Pg 75 #[v,.bool x] w0 fun r w'=>r = .int .i64 (idx (x == ·) l)∧Ext w0 w':=by
 obtain ⟨A,c,rfl,hlc,hcm,hlm,hel⟩:=SliceOf.open hs
 refine n117s (R:=retR _) ?_;unfold n117
 simp (disch:=try exact DI) only [↓PR,QR,Int.reduceBEq,Int.reduceBNe,Int.reduceLT,Int.reduceLE,Int.reduceGT,Int.reduceGE,Int.reduceNeg]
 refine loop1_intro (fun i w=>∃ k:Nat,i = .int .i64 k∧k≤l.length∧Ext w0 w∧∀ (j:Nat) y,j < k→l[j]?=some y→(x == y)=false) (fun i _=>l.length - (intOf i).toNat) ⟨0,rfl,by omega,Ext.refl _,fun j y h=>by omega⟩ ?_
 rintro i w ⟨k,rfl,hk,e,hb⟩
 by_cases hlt:k < l.length
 · obtain ⟨y,hy⟩:=getElem?_lt hlt
   obtain ⟨b,o,cs,rfl,hl,hA,rfl⟩:=hel k y hy
   have hd:decide ((k:Int) < (l.length:Int))=true:=by simp;omega
   have hc:w.cell? ⟨b,o+k*1,none⟩=some (.bool y):=(hA.ext e).cell 0 rfl
   simp (disch:=try exact DI) only [↓PR,QR,Int.reduceBEq,Int.reduceBNe,Int.reduceLT,Int.reduceLE,Int.reduceGT,Int.reduceGE,Int.reduceNeg,hd,hc,↓n117c1]
   cases hp:(x == y) with
   | true =>
    simp (disch:=try exact DI) only [↓PR,QR,Int.reduceBEq,Int.reduceBNe,Int.reduceLT,Int.reduceLE,Int.reduceGT,Int.reduceGE,Int.reduceNeg]
    exact ⟨by rw [idx_here hy hp hb],e⟩
   | false =>
    simp (disch:=try exact DI) only [↓PR,QR,Int.reduceBEq,Int.reduceBNe,Int.reduceLT,Int.reduceLE,Int.reduceGT,Int.reduceGE,Int.reduceNeg]
    exact ⟨⟨k+1,rfl,by omega,e,before_succ hb hy hp⟩,by simp [intOf];omega⟩
 · have hd:decide ((k:Int) < (l.length:Int))=false:=by simp;omega
   simp (disch:=try exact DI) only [↓PR,QR,Int.reduceBEq,Int.reduceBNe,Int.reduceLT,Int.reduceLE,Int.reduceGT,Int.reduceGE,Int.reduceNeg,hd,↓n117c1]
   exact ⟨by rw [idx_none fun j y hy=>hb j y (by have:=(List.getElem?_eq_some_iff.1 hy).1;omega) hy],e⟩
theorem Contains_bool_ret (w0:World) (v:Value) (l:List Bool) (x:Bool) (hs:BoolsOf w0 v l) :
 Ret Pg 65 #[v,.bool x] w0 fun r w'=>r = .bool (l.any (x == ·))∧Ext w0 w':=by
 refine n110s (R:=retR _) ?_;unfold n110
 refine callK_ret (Index_bool_ret _ _ l x hs) ?_
 rintro r w' ⟨rfl,e⟩
 simp (disch:=try exact DI) only [↓PR,QR,Int.reduceBEq,Int.reduceBNe,Int.reduceLT,Int.reduceLE,Int.reduceGT,Int.reduceGE,Int.reduceNeg,Sw.joinK_eq]
 exact ⟨by rw [idx_neg],e⟩
theorem all_ret (w0:World) (v:Value) (l:List Bool) (hs:BoolsOf w0 v l) :
 Ret Pg 51 #[v] w0 fun r w'=>r = .bool (l.all id)∧Ext w0 w':=by
 refine n100s (R:=retR _) ?_;unfold n100
 refine callK_ret (Contains_bool_ret _ _ l false hs) ?_
 rintro r w' ⟨rfl,e⟩
 simp (disch:=try exact DI) only [↓PR,QR,Int.reduceBEq,Int.reduceBNe,Int.reduceLT,Int.reduceLE,Int.reduceGT,Int.reduceGE,Int.reduceNeg,Sw.joinK_eq]
 refine ⟨?_,e⟩
 congr 1
 clear hs
 induction l with
 | nil=>rfl
 | cons a l ih=>cases a<;>simp_all
theorem NameS1_ret (w0:World) (c:UInt8):Ret Pg 48 #[.int .u8 c.toNat] w0 fun r w'=>r = .bool (!wordB c)∧Ext w0 w':=by
 refine n95s (R:=retR _) ?_;unfold n95
 refine callK_ret (letter_ret _ c) ?_
 rintro r w' ⟨rfl,e⟩
 simp (disch:=try exact DI) only [↓PR,QR,Int.reduceBEq,Int.reduceBNe,Int.reduceLT,Int.reduceLE,Int.reduceGT,Int.reduceGE,Int.reduceNeg,↓n95c1,↓n95c2]
 unfold wordB
 cases letterB c with
 | true=>simp (disch:=try exact DI) only [↓PR,QR,Int.reduceBEq,Int.reduceBNe,Int.reduceLT,Int.reduceLE,Int.reduceGT,Int.reduceGE,Int.reduceNeg,↓n95c1,↓n95c2];exact ⟨by trivial,e⟩
 | false =>
  simp (disch:=try exact DI) only [↓PR,QR,Int.reduceBEq,Int.reduceBNe,Int.reduceLT,Int.reduceLE,Int.reduceGT,Int.reduceGE,Int.reduceNeg,↓n95c1,↓n95c2]
  refine callK_ret (digit_ret _ c) ?_
  rintro r w2 ⟨rfl,e2⟩
  have e3:=e.trans e2
  cases digitB c with
  | true=>simp (disch:=try exact DI) only [↓PR,QR,Int.reduceBEq,Int.reduceBNe,Int.reduceLT,Int.reduceLE,Int.reduceGT,Int.reduceGE,Int.reduceNeg,↓n95c1,↓n95c2];exact ⟨by trivial,e3⟩
  | false=>simp (disch:=try exact DI) only [↓PR,QR,Int.reduceBEq,Int.reduceBNe,Int.reduceLT,Int.reduceLE,Int.reduceGT,Int.reduceGE,Int.reduceNeg,↓n95c1,↓n95c2];exact ⟨by trivial,e3⟩
def BytesOf (w:World) (v:Value) (l:List UInt8):Prop:=SliceOf w 1 EByte v l
theorem ContainsFunc_byte_ret (w0:World) (v:Value) (l:List UInt8) (g:FuncId) (caps:Array Value) (p:UInt8→Bool) (hs:BytesOf w0 v l) (hg:Callable Pg g) (hc:Tests w0 (fun _ v x=>v = .int .u8 (x.toNat:Int)) g caps p l) :
 Ret Pg 52 #[v,.func (.func g) #[] caps] w0 fun r w'=>r = .bool (l.any p)∧Ext w0 w':=by
 refine n109s (R:=retR _) ?_;unfold n109
 refine callK_ret (IndexFunc_byte_ret _ _ l g caps p hs hg hc) ?_
 rintro r w' ⟨rfl,e⟩
 simp (disch:=try exact DI) only [↓PR,QR,Int.reduceBEq,Int.reduceBNe,Int.reduceLT,Int.reduceLE,Int.reduceGT,Int.reduceGE,Int.reduceNeg,Sw.joinK_eq]
 exact ⟨by rw [idx_neg],e⟩
theorem boolsNew (w:World) (l:List Bool) (T:TypeId) (hl:l.length≤9223372036854775807):BoolsOf (w.alloc (.cells (l.map Value.bool).toArray T)) (.slice (some ⟨w.heap.size,0,none⟩) l.length l.length) l:=SliceOf.new1 _ (fun _ _=>rfl) w l T hl
theorem all2_ret {w:World} {p:Nat} (hp:p=w.heap.size) (a b:Bool) (T:TypeId):Ret Pg 51 #[.slice (some ⟨p,0,none⟩) 2 2] (w.alloc (.cells #[.bool a,.bool b] T)) fun r w'=>r = .bool (a&&b)∧Ext (w.alloc (.cells #[.bool a,.bool b] T)) w':=by
 subst hp
 have h:=all_ret _ _ [a,b] (boolsNew w [a,b] T (by simp))
 simpa using h
theorem all3_ret {w:World} {p:Nat} (hp:p=w.heap.size) (a b c:Bool) (T:TypeId):Ret Pg 51 #[.slice (some ⟨p,0,none⟩) 3 3] (w.alloc (.cells #[.bool a,.bool b,.bool c] T)) fun r w'=>r = .bool (a&&b&&c)∧Ext (w.alloc (.cells #[.bool a,.bool b,.bool c] T)) w':=by
 subst hp
 have h:=all_ret _ _ [a,b,c] (boolsNew w [a,b,c] T (by simp))
 simpa [Bool.and_assoc] using h
theorem Name_ret (w0:World) (s:ByteArray):Ret Pg 38 #[.string s] w0 fun r w'=>r = .bool (nameB s)∧Ext w0 w':=by
 refine n94s (R:=retR _) ?_;unfold n94
 simp (disch:=try exact DI) only [↓PR,QR,Int.reduceBEq,Int.reduceBNe,Int.reduceLT,Int.reduceLE,Int.reduceGT,Int.reduceGE,Int.reduceNeg,↓n94c1,↓n94c2]
 have e1:Ext w0 (w0.alloc (.cells #[.bool (decide (1≤(s.size:Int))),.bool (decide ((s.size:Int)≤32))] 4)):=(Ext.refl w0).alloc _
 refine callK_ret (all_ret _ _ [decide (1≤(s.size:Int)),decide ((s.size:Int)≤32)] (boolsNew w0 [decide (1≤(s.size:Int)),decide ((s.size:Int)≤32)] 4 (by simp))) ?_
 rintro r w1 ⟨rfl,e2⟩
 have e:=e1.trans e2
 have hall:[decide (1≤(s.size:Int)),decide ((s.size:Int)≤32)].all id=(decide (1≤(s.size:Int))&&decide ((s.size:Int)≤32)):=by simp
 rw [hall]
 unfold nameB
 cases h1:(decide (1≤(s.size:Int))&&decide ((s.size:Int)≤32)) with
 | false=>simp (disch:=try exact DI) only [↓PR,QR,Int.reduceBEq,Int.reduceBNe,Int.reduceLT,Int.reduceLE,Int.reduceGT,Int.reduceGE,Int.reduceNeg,↓n94c1,↓n94c2];exact ⟨by trivial,e⟩
 | true =>
  simp (disch:=try exact DI) only [↓PR,QR,Int.reduceBEq,Int.reduceBNe,Int.reduceLT,Int.reduceLE,Int.reduceGT,Int.reduceGE,Int.reduceNeg,↓n94c1,↓n94c2]
  have hlen:s.size≤9223372036854775807:=by simp only [Bool.and_eq_true,decide_eq_true_eq] at h1;omega
  obtain ⟨c,cs,hcs⟩:∃ c cs,s.data.toList=c::cs:=by
   simp only [Bool.and_eq_true,decide_eq_true_eq] at h1
   cases hd:s.data.toList with
   | nil =>
    have:s.data.size=0:=by rw [← Array.length_toList,hd];rfl
    have h0:s.size=s.data.size:=rfl
    omega
   | cons c cs=>exact ⟨c,cs,rfl⟩
  rw [op_indexS0 Tryz.underlying9 s .i64 (b:=c) (by rw [hcs];rfl)]
  refine callK_ret (letter_ret _ c) ?_
  rintro r w2 ⟨rfl,e3⟩
  have e:=e.trans e3
  rw [hcs]
  cases hl:letterB c with
  | false=>simp (disch:=try exact DI) only [↓PR,QR,Int.reduceBEq,Int.reduceBNe,Int.reduceLT,Int.reduceLE,Int.reduceGT,Int.reduceGE,Int.reduceNeg,↓n94c1,↓n94c2];exact ⟨by rw [hl];rfl,e⟩
  | true =>
   simp (disch:=try exact DI) only [↓PR,QR,Int.reduceBEq,Int.reduceBNe,Int.reduceLT,Int.reduceLE,Int.reduceGT,Int.reduceGE,Int.reduceNeg,↓n94c1,↓n94c2]
   refine op_bytes Tryz.underlying9 Tryz.underlying100 Tryz.underlying5 s hlen ?_
   rintro v w3 e4 ⟨A,cp,rfl,hc1,hc2,b,rfl,hcell⟩
   have hsz:s.data.toList.length=s.size:=by rw [Array.length_toList];rfl
   have hB:BytesOf w3 (.slice (some ⟨b,0,none⟩) s.size cp) s.data.toList:=by
    rw [← hsz]
    refine ⟨_,_,rfl,by omega,hc2,fun _=>⟨_,_,rfl,fun k x hx=>⟨[.int .u8 x.toNat],rfl,fun j v hv=>?_,rfl⟩⟩⟩
    cases j with
    | zero=>injection hv with hv;subst hv;simpa using hcell k x hx
    | succ j=>cases hv
   have e:=e.trans e4
   refine callK_ret (ContainsFunc_byte_ret _ _ s.data.toList _ _ (fun x=>!wordB x) hB c48 ?_) ?_
   · rintro w v x _ _ rfl
     exact NameS1_ret w x
   · rintro r w4 ⟨rfl,e5⟩
     simp (disch:=try exact DI) only [↓PR,QR,Int.reduceBEq,Int.reduceBNe,Int.reduceLT,Int.reduceLE,Int.reduceGT,Int.reduceGE,Int.reduceNeg,↓n94c1,↓n94c2]
     refine ⟨?_,e.trans e5⟩
     rw [hcs,hl]
     congr 1
     generalize c::cs=l
     clear hall
     induction l with
     | nil=>rfl
     | cons a l ih=>simp only [List.any_cons,List.all_cons,Bool.not_or,Bool.not_not,Bool.true_and] at *;rw [ih]
def termB (t:TermD):Bool:=nameB t.field&&(t.factor != 0)&&smallB t.factor
theorem ValidS1_ret (w:World) (t:TermD) (pb r:Nat) (names:List ByteArray) (hcell:w.cell? ⟨pb,0,none⟩=some (.map (some r))) (hm:SetOf w r names) :
 Ret Pg 117 #[termVal t,.pointer (some ⟨pb,0,none⟩)] w fun v w'=>v = .bool (memB names t.field||!termB t)∧SetOf w' r (names++[t.field])∧w'.cell? ⟨pb,0,none⟩=some (.map (some r)) ∧
  ∀ w0,Ext w0 w→w0.heap.size≤r→Ext w0 w':=by
 have hpb:pb < w.heap.size:=World.block_lt_of_cell? w _ hcell
 obtain ⟨L,c,hM,hl⟩:=hm
 refine n99s (R:=retR _) ?_;unfold n99
 unfold termVal
 simp (disch:=try exact DI) only [↓PR,QR,Int.reduceBEq,Int.reduceBNe,Int.reduceLT,Int.reduceLE,Int.reduceGT,Int.reduceGE,Int.reduceNeg,hcell]
 have e1:Ext w (w.alloc (.cells #[.string t.field,.int .i64 t.factor] 78)):=(Ext.refl w).alloc _
 rw [op_lookup1S Tryz.underlying63 Tryz.underlying9 ty4 (hM.ext e1)]
 simp (disch:=try exact DI) only [↓PR,QR,Int.reduceBEq,Int.reduceBNe,Int.reduceLT,Int.reduceLE,Int.reduceGT,Int.reduceGE,Int.reduceNeg,hcell]
 rw [op_mapUpdateS Tryz.underlying63 Tryz.underlying9 (hM.ext e1)]
 obtain ⟨W,hW⟩:∃ W,((w.alloc (.cells #[.string t.field,.int .i64 t.factor] 78)).putObj r (mapObjS (putL L c t.field (.bool true)) (putC L c t.field)))=W:=⟨_,rfl⟩
 have hS:SetOf W r (names++[t.field]):=by rw [← hW];exact SetOf.put (hM.ext e1) hl _
 have hC:W.cell? ⟨pb,0,none⟩=some (.map (some r)):=by rw [← hW,cell_putMap (hM.ext e1)];exact e1.cell hcell
 have hE:∀ w0,Ext w0 w→w0.heap.size≤r→Ext w0 W:=fun w0 h0 hr=>by rw [← hW];exact (h0.trans e1).putObj hr _
 have hA0:W.cell? ⟨w.heap.size,0,none⟩=some (.string t.field):=by rw [← hW,cell_putMap (hM.ext e1),cell_new];rfl
 have hA1:W.cell? ⟨w.heap.size,1,none⟩=some (.int .i64 t.factor):=by rw [← hW,cell_putMap (hM.ext e1),cell_new];rfl
 rw [hW]
 refine drawK_intro ?_
 have ht8:(Sw.look L t.field).getD (.bool false) = .bool (memB names t.field):=by rw [hl];cases memB names t.field<;>rfl
 rw [ht8]
 have fin:∀ b w',Ext W w'→b=(memB names t.field||!termB t)→(Value.bool b = .bool (memB names t.field||!termB t)∧SetOf w' r (names++[t.field])∧w'.cell? ⟨pb,0,none⟩=some (.map (some r))∧∀ w0,Ext w0 w→w0.heap.size≤r→Ext w0 w') :=
  fun b w' e hb=>⟨by rw [hb],hS.ext e,e.cell hC,fun w0 h0 hr=>(hE w0 h0 hr).trans e⟩
 cases hmem:memB names t.field with
 | true =>
  simp (disch:=try exact DI) only [↓PR,QR,Int.reduceBEq,Int.reduceBNe,Int.reduceLT,Int.reduceLE,Int.reduceGT,Int.reduceGE,Int.reduceNeg,↓n99c1,↓n99c2]
  exact ⟨trivial,(fin (true||!termB t) _ (Ext.refl _).wdrew (by rw [hmem])).2⟩
 | false =>
  simp (disch:=try exact DI) only [↓PR,QR,Int.reduceBEq,Int.reduceBNe,Int.reduceLT,Int.reduceLE,Int.reduceGT,Int.reduceGE,Int.reduceNeg,↓n99c1,↓n99c2,hA0,hA1]
  refine zcr (Name_ret _ t.field) fun w1 e2=>?_
  refine ⟨e2,?_⟩
  refine zcr (small_ret _ t.factor) fun w2 e3=>?_
  refine ⟨e2.trans e3,?_⟩
  simp (disch:=try exact DI) only [↓PR,QR,Int.reduceBEq,Int.reduceBNe,Int.reduceLT,Int.reduceLE,Int.reduceGT,Int.reduceGE,Int.reduceNeg,↓n99c1,↓n99c2]
  have e:=e2.trans e3
  refine ⟨e.alloc _,?_⟩
  refine zcr (all3_ret rfl _ _ _ _) fun w3 e4=>?_
  refine ⟨(e.alloc _).trans e4,?_⟩
  simp (disch:=try exact DI) only [↓PR,QR,Int.reduceBEq,Int.reduceBNe,Int.reduceLT,Int.reduceLE,Int.reduceGT,Int.reduceGE,Int.reduceNeg,↓n99c1,↓n99c2]
  exact ⟨rfl,(fin (!termB t) w3 (((Ext.refl _).wdrew).trans ((e.alloc _).trans e4)) (by rw [hmem];rfl)).2⟩
def termsB:List ByteArray→List TermD→Bool
 | _,[]=>true
 | seen,t::ts=>!(memB seen t.field)&&termB t&&termsB (seen++[t.field]) ts
theorem termsB_iff:∀ (ts:List TermD) (seen:List ByteArray),termsB seen ts=true↔∀ k x,ts[k]?=some x→(memB (seen++(ts.take k).map (·.field)) x.field||!termB x)=false
 | [],seen=>by simp [termsB]
 | t::ts,seen=>by
  simp only [termsB,Bool.and_eq_true,termsB_iff ts]
  constructor
  · rintro ⟨⟨h1,h2⟩,h3⟩ k x hx
    cases k with
    | zero=>simp at hx;subst hx;simpa using ⟨by simpa using h1,h2⟩
    | succ k=>have:=h3 k x (by simpa using hx);simpa using this
  · intro h
    refine ⟨?_,fun k x hx=>by simpa using h (k+1) x (by simpa using hx)⟩
    have:=h 0 t rfl
    simp at this
    exact ⟨by rw [this.1];rfl,this.2⟩
theorem ContainsFunc_Term_st (w0 w1:World) (v:Value) (l:List TermD) (g:FuncId) (caps:Array Value) (p:Nat→Bool) (J:Nat→World→Prop) (hs:TermsOf w0 v l) (hg:Callable Pg g) (hJ:∀ k w,J k w→Ext w0 w) (h0:J 0 w1)
 (hc:∀ k x w u,l[k]?=some x→J k w→(fun _ v x=>v=termVal x) w u x→Ret Pg g (#[u]++caps) w fun r w'=>r = .bool (p k)∧J (k+1) w') :
 Ret Pg 119 #[v,.func (.func g) #[] caps] w1 fun r w'=>r = .bool ((List.range l.length).any p)∧∃ k,J k w':=by
 refine n108s (R:=retR _) ?_;unfold n108
 refine callK_ret (IndexFunc_Term_st w0 _ _ l g caps p J hs hg hJ h0 hc) ?_
 rintro r w' ⟨rfl,e⟩
 simp (disch:=try exact DI) only [↓PR,QR,Int.reduceBEq,Int.reduceBNe,Int.reduceLT,Int.reduceLE,Int.reduceGT,Int.reduceGE,Int.reduceNeg,Sw.joinK_eq]
 exact ⟨by rw [idx_neg],e⟩
def sizeB (base:Int) (ts:List TermD):Bool:=smallB base&&decide (ts.length≤4)&&termsB [] ts
theorem Valid_ret (w0:World) (v:Value) (base:Int) (ts:List TermD) (hs:SizeVal w0 v base ts) :
 Ret Pg 112 #[v] w0 fun r w'=>r = .bool (sizeB base ts)∧Ext w0 w':=by
 obtain ⟨tv,rfl,hT⟩:=hs
 refine n98s (R:=retR _) ?_;unfold n98
 simp (disch:=try exact DI) only [↓PR,QR,Int.reduceBEq,Int.reduceBNe,Int.reduceLT,Int.reduceLE,Int.reduceGT,Int.reduceGE,Int.reduceNeg]
 obtain ⟨A,c,rfl,hlc,hcm,hlm,hel⟩:=SliceOf.open hT
 obtain ⟨W1,hW1⟩:∃ W1,w0.alloc (.cells #[.int .i64 base,.slice A ts.length c] 49)=W1:=⟨_,rfl⟩
 have e0:Ext w0 W1:=by rw [← hW1];exact (Ext.refl w0).alloc _
 have hc0:W1.cell? ⟨w0.heap.size,0,none⟩=some (.int .i64 base):=by rw [← hW1];simp (disch:=try exact DI) only [↓PR,QR,Int.reduceBEq,Int.reduceBNe,Int.reduceLT,Int.reduceLE,Int.reduceGT,Int.reduceGE,Int.reduceNeg]
 have hc1:W1.cell? ⟨w0.heap.size,1,none⟩=some (.slice A ts.length c):=by rw [← hW1];simp (disch:=try exact DI) only [↓PR,QR,Int.reduceBEq,Int.reduceBNe,Int.reduceLT,Int.reduceLE,Int.reduceGT,Int.reduceGE,Int.reduceNeg]
 have hsz:w0.heap.size+1=W1.heap.size:=by rw [← hW1];simp (disch:=try exact DI) only [↓PR,QR,Int.reduceBEq,Int.reduceBNe,Int.reduceLT,Int.reduceLE,Int.reduceGT,Int.reduceGE,Int.reduceNeg]
 simp only [hW1,hsz]
 refine drawK_introE (w1:=W1) (((Ext.refl W1).alloc _).alloc _) ?_
 simp (disch:=try exact DI) only [↓PR,QR,Int.reduceBEq,Int.reduceBNe,Int.reduceLT,Int.reduceLE,Int.reduceGT,Int.reduceGE,Int.reduceNeg,↓n98c1,↓n98c2,↓n98c3,hc0,hc1]
 generalize hW:(World.drew _)=W
 have e1:Ext W1 W:=by rw [← hW];exact (((Ext.refl W1).alloc _).alloc _).wdrew
 have hpb:W.cell? ⟨W1.heap.size+1,0,none⟩=some (.map (some W1.heap.size)):=by rw [← hW];simp (disch:=try exact DI) only [↓PR,QR,Int.reduceBEq,Int.reduceBNe,Int.reduceLT,Int.reduceLE,Int.reduceGT,Int.reduceGE,Int.reduceNeg]
 have hset:SetOf W W1.heap.size []:=by
  rw [← hW]
  have h:=(MapS.new W1).ext (((Ext.refl _).alloc (Obj.cells (#[Value.map none].setIfInBounds 0 (Value.map (some W1.heap.size))) 63)).wdrew)
  exact ⟨[],0,by simpa using h,fun s=>rfl⟩
 clear hW
 refine zcr (small_ret _ base) fun w1 e2=>?_
 refine ⟨e1.trans e2,?_⟩
 simp (disch:=try exact DI) only [↓PR,QR,Int.reduceBEq,Int.reduceBNe,Int.reduceLT,Int.reduceLE,Int.reduceGT,Int.reduceGE,Int.reduceNeg]
 refine ⟨e1.trans (e2.alloc _),?_⟩
 refine zcr (all2_ret rfl _ _ _) fun w2 e3=>?_
 replace e2:=(e2.alloc _).trans e3
 refine ⟨e1.trans e2,?_⟩
 simp (disch:=try exact DI) only [↓PR,QR,Int.reduceBEq,Int.reduceBNe,Int.reduceLT,Int.reduceLE,Int.reduceGT,Int.reduceGE,Int.reduceNeg,↓n98c1,↓n98c2,↓n98c3]
 unfold sizeB
 cases hb:(smallB base&&decide (ts.length≤4)) with
 | false =>
  have hb':(smallB base&&decide ((ts.length:Int)≤4))=false:=by rw [← hb];congr 1;simp;omega
  rw [hb']
  simp (disch:=try exact DI) only [↓PR,QR,Int.reduceBEq,Int.reduceBNe,Int.reduceLT,Int.reduceLE,Int.reduceGT,Int.reduceGE,Int.reduceNeg,↓n98c1,↓n98c2,↓n98c3,hc0,hc1]
  exact ⟨by trivial,e0.trans (e1.trans e2)⟩
 | true =>
  have hb':(smallB base&&decide ((ts.length:Int)≤4))=true:=by rw [← hb];congr 1;simp;omega
  rw [hb']
  simp (disch:=try exact DI) only [↓PR,QR,Int.reduceBEq,Int.reduceBNe,Int.reduceLT,Int.reduceLE,Int.reduceGT,Int.reduceGE,Int.reduceNeg,↓n98c1,↓n98c2,↓n98c3,hc0,hc1]
  refine callK_ret (ContainsFunc_Term_st W1 w2 _ ts 117 _ (fun k=>match ts[k]? with | some t=>memB ((ts.take k).map (·.field)) t.field||!termB t | none=>true) (fun k w=>SetOf w W1.heap.size ((ts.take k).map (·.field))∧w.cell? ⟨W1.heap.size+1,0,none⟩=some (.map (some W1.heap.size))∧Ext W1 w) (hT.ext e0) c117 (fun k w h=>h.2.2) ⟨hset.ext e2,e2.cell hpb,e1.trans e2⟩ ?_) ?_
  · rintro k x w u hx ⟨h1,h2,h3⟩ rfl
    simp only [hsz]
    refine Ret.mono (ValidS1_ret w x _ _ _ h2 h1) ?_
    rintro v w' ⟨rfl,h4,h5,h6⟩
    refine ⟨by rw [hx],?_,h5,h6 _ h3 (Nat.le_refl _)⟩
    rw [List.take_add_one,hx]
    simpa using h4
  · rintro _ w3 ⟨rfl,k,h1,h2,h3⟩
    refine ⟨h3,?_⟩
    simp (disch:=try exact DI) only [↓PR,QR,Int.reduceBEq,Int.reduceBNe,Int.reduceLT,Int.reduceLE,Int.reduceGT,Int.reduceGE,Int.reduceNeg,↓n98c1,↓n98c2,↓n98c3]
    refine ⟨?_,e0.trans h3⟩
    congr 1
    rw [Bool.eq_iff_iff,termsB_iff,Bool.not_eq_true',List.any_eq_false]
    simp only [List.mem_range,List.nil_append]
    constructor
    · intro h k x hx
      have:=h k (List.getElem?_eq_some_iff.1 hx).1
      rw [hx] at this
      simpa using this
    · intro h k hk
      rw [List.getElem?_eq_getElem hk]
      have:=h k _ (List.getElem?_eq_getElem hk)
      simpa using this
end Go.Proofs.YtiajhbbmgglmlaaGreat
namespace Go.Proofs.YtiajhbbmgglmlaaGreat
open Sw
def n8 (R:RT) (w:World):Prop :=
 opV Pg (Instr.alloc 24 true (.tuple #[])) (panK R) w fun t0 w =>
 opV Pg (Instr.build 52 #[(0,(.string { data := #[110] })),(1,(.int .i64 1)),(2,(.int .i64 8)),(6,(.int .i64 255))]) (panK R) w fun t1 w =>
 opV Pg (Instr.build 78 #[(0,(.string { data := #[110] })),(1,(.int .i64 1))]) (panK R) w fun t2 w =>
 opV Pg (Instr.buildSlice 47 1 #[(0,t2)]) (panK R) w fun t3 w =>
 opV Pg (Instr.build 49 #[(1,t3)]) (panK R) w fun t4 w =>
 opV Pg (Instr.build 52 #[(0,(.string { data := #[98] })),(1,(.int .i64 4)),(7,t4)]) (panK R) w fun t5 w =>
 opV Pg (Instr.buildSlice 43 2 #[(0,t1),(1,t5)]) (panK R) w fun t6 w =>
 opV Pg (Instr.build 45 #[(0,(.string { data := #[109] })),(1,t6)]) (panK R) w fun t7 w =>
 opV Pg (Instr.buildSlice 22 1 #[(0,t7)]) (panK R) w fun t8 w =>
 opV Pg (Instr.build 24 #[(0,(.string { data := #[100] })),(2,(.string { data := #[109] })),(1,t8)]) (panK R) w fun t9 w =>
 opU Pg (Instr.storeAt 24 t0 t9) (panK R) w fun w =>
 qW Pg 24 t0 w fun r0 =>
 R (.returned r0) w
theorem n8s {R:RT} {w:World} (h:n8 R w):Calls Pg 17 #[] w R:=by
 refine calls_of_den (args:=[]) Tryz.func17 rfl (Nat.le_of_ble_eq_true rfl) ?_
 unfold n8 at h
 refine zs<|zr ?_
 refine zv h fun t0 w h=>?_
 refine zn<|zk<|zs<|zr ?_
 refine sim_build h rfl (fun _ _ h=>⟨rfl,h⟩) ?_;intro t1 w h
 refine sim_build h rfl (fun _ _ h=>⟨rfl,h⟩) ?_;intro t2 w h
 refine sim_buildSlice h rfl (fun _ _ h=>⟨rfl,h⟩) ?_;intro t3 w h
 refine sim_build h rfl (fun _ _ h=>⟨rfl,h⟩) ?_;intro t4 w h
 refine sim_build h rfl (fun _ _ h=>⟨rfl,h⟩) ?_;intro t5 w h
 refine sim_buildSlice h rfl (fun _ _ h=>⟨rfl,h⟩) ?_;intro t6 w h
 refine sim_build h rfl (fun _ _ h=>⟨rfl,h⟩) ?_;intro t7 w h
 refine sim_buildSlice h rfl (fun _ _ h=>⟨rfl,h⟩) ?_;intro t8 w h
 refine sim_build h rfl (fun _ _ h=>⟨rfl,h⟩) ?_;intro t9 w h
 refine zu h fun w h=>?_
 refine zn<|zk<|sim_ret ?_
 exact body_retC rfl rfl h
def n6c1 (t1 t2 t3 t13:Value) (R:RT) (w:World):Prop :=
 opV Pg (Instr.extract t13 0) (panK R) w fun t14 w =>
 opV Pg (Instr.extract t13 1) (panK R) w fun t15 w =>
 opV Pg (Instr.alloc 39 true (.tuple #[])) (panK R) w fun t9 w =>
 opU Pg (Instr.storeAt 39 t9 t14) (panK R) w fun w =>
 joinK (fun (t23:Value) (w:World) =>
 pickK t15 t23 (.bool false) fun t24 =>
 R (.returned t24) w) fun K1 =>
 guardP t15 true (
 L0 39 t9 R w fun t18 w =>
 opV Pg (Instr.build 39 #[(0,t1),(1,t2),(2,t3)]) (panK R) w fun t22 w =>
 B0 .eql 39 false t18 t22 R w fun t23 w =>
 K1 t23 w) (
 K1 undef w)
def n6 (t0 t1 t2 t3:Value) (R:RT) (w:World):Prop :=
 opV Pg (Instr.box 24 t0) (panK R) w fun t4 w =>
 L0 24 t4 R w fun t12 w =>
 C0 13 #[t12] R w fun t13 w =>
 n6c1 t1 t2 t3 t13 R w
theorem n6s {t0 t1 t2 t3:Value} {R:RT} {w:World} (h:n6 t0 t1 t2 t3 R w):Calls Pg 18 #[t0,t1,t2,t3] w R:=by
 refine calls_of_den (args:=[t0,t1,t2,t3]) Tryz.func18 rfl (Nat.le_of_ble_eq_true rfl) ?_
 unfold n6 at h
 refine zs<|zr ?_
 refine zv h fun t4 w h=>?_
 refine zm<|zn<|zk<|zs<|zr ?_
 refine zv h fun t12 w h=>?_
 refine zc h c13 fun t13 w h=>?_
 refine zm ?_
 refine zv h fun t14 w h=>?_
 refine zv h fun t15 w h=>?_
 refine zv h fun t9 w h=>?_
 refine zu h fun w h=>?_
 refine zm<|zn<|zk<|zs<|sim_regionG ?_
 refine sim_seg 2 rfl ?_
 refine zm<|zm<|zn ?_
 refine joinK_elim h (fun K1 hK h=>?_)
 refine sim_groupJ 6 1 true [18,19,20,21,22,23] (fun ρ w=>K1 (ρ 23) w) rfl rfl (fun T hT=>guardP_mono h (fun h=>?_) (fun h=>?_)) (fun σ w h=>?_)
 · refine zv h fun t18 w h=>?_
   refine zm<|zm<|zm ?_
   refine sim_build h rfl (fun _ _ h=>⟨rfl,h⟩) ?_;intro t22 w h
   refine zb h fun t23 w h=>?_
   refine zn ?_
   exact zt hT h
 · exact zt hT h
 subst hK
 refine sim_seg 2 rfl ?_
 refine sim_pick h rfl rfl rfl ?_;intro t24 h
 refine zm<|zn<|sim_end<|zk<|sim_ret ?_
 exact body_ret1 rfl rfl h
def n43 (t0:Value) (R:RT) (w:World):Prop :=
 opV Pg (Instr.box 45 t0) (panK R) w fun t1 w =>
 F0 45 t1 1 R w fun t3 w =>
 L0 43 t3 R w fun t4 w =>
 C0 35 #[t4] R w fun t5 w =>
 R (.returned t5) w
theorem n43s {t0:Value} {R:RT} {w:World} (h:n43 t0 R w):Calls Pg 19 #[t0] w R:=by
 refine calls_of_den (args:=[t0]) Tryz.func19 rfl (Nat.le_of_ble_eq_true rfl) ?_
 unfold n43 at h
 refine zs<|zr ?_
 refine zv h fun t1 w h=>?_
 refine zm<|zn<|zk<|zs<|zr ?_
 refine zv h fun t3 w h=>?_
 refine zv h fun t4 w h=>?_
 refine zc h c35 fun t5 w h=>?_
 refine zm<|zn<|zk<|sim_ret ?_
 exact body_ret1 rfl rfl h
def n40c1 (t1 t5 t9:Value) (R:RT) (w:World):Prop :=
 pickK t5 t9 (.bool false) fun t10 =>
 joinK (fun (t14:Value) (w:World) =>
 pickK t10 t14 (.bool false) fun t15 =>
 R (.returned t15) w) fun K2 =>
 guardP t10 true (
 F0 52 t1 1 R w fun t12 w =>
 L0 46 t12 R w fun t13 w =>
 B0 .neq 46 true t13 (.int .i64 11) R w fun t14 w =>
 K2 t14 w) (
 K2 undef w)
def n40 (t0:Value) (R:RT) (w:World):Prop :=
 opV Pg (Instr.box 52 t0) (panK R) w fun t1 w =>
 F0 52 t1 1 R w fun t3 w =>
 L0 46 t3 R w fun t4 w =>
 B0 .neq 46 true t4 (.int .i64 2) R w fun t5 w =>
 joinK (fun (t9:Value) (w:World) =>
 n40c1 t1 t5 t9 R w) fun K1 =>
 guardP t5 true (
 F0 52 t1 1 R w fun t7 w =>
 L0 46 t7 R w fun t8 w =>
 B0 .neq 46 true t8 (.int .i64 10) R w fun t9 w =>
 K1 t9 w) (
 K1 undef w)
theorem n40s {t0:Value} {R:RT} {w:World} (h:n40 t0 R w):Calls Pg 20 #[t0] w R:=by
 refine calls_of_den (args:=[t0]) Tryz.func20 rfl (Nat.le_of_ble_eq_true rfl) ?_
 unfold n40 at h
 refine zs<|zr ?_
 refine zv h fun t1 w h=>?_
 refine zm<|zn<|zk<|zs<|sim_regionG ?_
 refine sim_seg 4 rfl ?_
 refine zv h fun t3 w h=>?_
 refine zv h fun t4 w h=>?_
 refine zb h fun t5 w h=>?_
 refine zm<|zn ?_
 refine joinK_elim h (fun K1 hK h=>?_)
 refine sim_groupJ 3 3 true [7,8,9] (fun ρ w=>K1 (ρ 9) w) rfl rfl (fun T hT=>guardP_mono h (fun h=>?_) (fun h=>?_)) (fun σ w h=>?_)
 · refine zv h fun t7 w h=>?_
   refine zv h fun t8 w h=>?_
   refine zb h fun t9 w h=>?_
   refine zn ?_
   exact zt hT h
 · exact zt hT h
 subst hK
 refine sim_seg 2 rfl ?_
 refine sim_pick h rfl rfl rfl ?_;intro t10 h
 refine zm<|zn ?_
 refine joinK_elim h (fun K2 hK h=>?_)
 refine sim_groupJ 3 8 true [12,13,14] (fun ρ w=>K2 (ρ 14) w) rfl rfl (fun T hT=>guardP_mono h (fun h=>?_) (fun h=>?_)) (fun σ w h=>?_)
 · refine zv h fun t12 w h=>?_
   refine zv h fun t13 w h=>?_
   refine zb h fun t14 w h=>?_
   refine zn ?_
   exact zt hT h
 · exact zt hT h
 subst hK
 refine sim_seg 2 rfl ?_
 refine sim_pick h rfl rfl rfl ?_;intro t15 h
 refine zm<|zn<|sim_end<|zk<|sim_ret ?_
 exact body_ret1 rfl rfl h
def n86c1 (t1 t2 t3 t14:Value) (C2:World→Prop) (R:RT) (w:World):Prop :=
 qV Pg C2 (Instr.fieldAt 24 t3 1) fun t34 =>
 qV Pg C2 (Instr.loadAt 22 t34) fun t35 =>
 qV Pg C2 (Instr.indexAt 22 t35 t1) fun t37 =>
 qV Pg C2 (Instr.fieldAt 45 t37 0) fun t38 =>
 qV Pg C2 (Instr.loadAt 9 t38) fun t39 =>
 callV Pg t2 #[t14] (panK R) w fun t33 w =>
 narrowK C2 w fun C3 w =>
 qV Pg C3 (Instr.lookup 62 t33 t39 false) fun t40 =>
 R (.returned (.tuple #[t40,(.int .i64 0)])) w
def n86c2 (t1 t2 t3 t14:Value) (R:RT) (w:World):Prop :=
 B0 .lss 3 true t1 (.int .i64 0) R w fun t22 w =>
 joinK (fun (t28:Value) (w:World) =>
 pickK t22 (.bool true) t28 fun t29 =>
 condP t29 (
 R (.returned (.tuple #[(.int .i64 0),(.int .i64 3)])) w) (
 drawK w fun C2 w =>
 n86c1 t1 t2 t3 t14 C2 R w)) fun K1 =>
 guardP t22 false (
 F0 24 t3 1 R w fun t25 w =>
 L0 22 t25 R w fun t26 w =>
 opV Pg (Builtin.len_ #[22] 3 #[t26]) (panK R) w fun t27 w =>
 B0 .geq 3 false t1 t27 R w fun t28 w =>
 K1 t28 w) (
 K1 undef w)
def n86c3 (t1 t2 t3 t13:Value) (R:RT) (w:World):Prop :=
 opV Pg (Instr.extract t13 0) (panK R) w fun t14 w =>
 opV Pg (Instr.extract t13 1) (panK R) w fun t15 w =>
 opV Pg (Instr.extract t13 2) (panK R) w fun t16 w =>
 opV Pg (Instr.alloc 39 true (.tuple #[])) (panK R) w fun t9 w =>
 opU Pg (Instr.storeAt 39 t9 t15) (panK R) w fun w =>
 condP t16 (
 R (.returned (.tuple #[(.int .i64 0),(.int .i64 2)])) w) (
 n86c2 t1 t2 t3 t14 R w)
def n86 (t0 t1 t2:Value) (R:RT) (w:World):Prop :=
 opV Pg (Instr.box 24 t0) (panK R) w fun t3 w =>
 L0 24 t3 R w fun t12 w =>
 C0 31 #[t12] R w fun t13 w =>
 n86c3 t1 t2 t3 t13 R w
theorem n86s {t0 t1 t2:Value} {R:RT} {w:World} (h:n86 t0 t1 t2 R w):Calls Pg 21 #[t0,t1,t2] w R:=by
 refine calls_of_den (args:=[t0,t1,t2]) Tryz.func21 rfl (Nat.le_of_ble_eq_true rfl) ?_
 unfold n86 at h
 refine zs<|zr ?_
 refine zv h fun t3 w h=>?_
 refine zm<|zm<|zn<|zk<|zs<|zr ?_
 refine zv h fun t12 w h=>?_
 refine zc h c31 fun t13 w h=>?_
 refine zm ?_
 refine zv h fun t14 w h=>?_
 refine zv h fun t15 w h=>?_
 refine zv h fun t16 w h=>?_
 refine zv h fun t9 w h=>?_
 refine zm ?_
 refine zu h fun w h=>?_
 refine zm<|zn<|zk<|zs<|sim_block<|zs<|zr<|zm<|zm<|zn<|zk ?_
 refine sim_cond h rfl (fun h=>?_) (fun h=>?_)
 · refine zs<|zr<|zm<|zm<|zm<|zn<|zk<|sim_ret<|sim_block_ret<|sim_then_ret ?_
   exact body_ret2 rfl rfl rfl h
 · refine zs<|sim_regionG ?_
   refine sim_seg 3 rfl ?_
   refine zm ?_
   refine zb h fun t22 w h=>?_
   refine zm<|zn ?_
   refine joinK_elim h (fun K1 hK h=>?_)
   refine sim_groupJ 5 2 false [24,25,26,27,28] (fun ρ w=>K1 (ρ 28) w) rfl rfl (fun T hT=>guardP_mono h (fun h=>?_) (fun h=>?_)) (fun σ w h=>?_)
   · refine zm ?_
     refine zv h fun t25 w h=>?_
     refine zv h fun t26 w h=>?_
     refine zx h fun t27 w h=>?_
     refine zb h fun t28 w h=>?_
     refine zn ?_
     exact zt hT h
   · exact zt hT h
   subst hK
   refine sim_seg 2 rfl ?_
   refine sim_pick h rfl rfl rfl ?_;intro t29 h
   refine zm<|zn<|sim_end<|zk ?_
   refine sim_cond h rfl (fun h=>?_) (fun h=>?_)
   · refine zs<|zr<|zm<|zm<|zm<|zn<|zk<|sim_ret<|sim_block_ret<|sim_then_ret ?_
     exact body_ret2 rfl rfl rfl h
   · refine sim_skip<|sim_block_normal<|zk<|zs ?_
     obtain ⟨C2,hC,h⟩:=h
     refine sim_draw [6,7,31,32,33,34,35,36,37,38,39,40] (by kernel_rfl) (by kernel_rfl) C2 ?_
     refine zw 0 hC ?_
     refine zw 1 hC ?_
     refine ze 3 hC h fun t34 h=>?_
     refine ze 4 hC h fun t35 h=>?_
     refine zw 5 hC ?_
     refine ze 6 hC h fun t37 h=>?_
     refine ze 7 hC h fun t38 h=>?_
     refine ze 8 hC h fun t39 h=>?_
     refine sim_dnarrow 2 rfl (by kernel_rfl) (fun _ _=>rfl) ?_
     refine sim_callV h rfl rfl (fun _ _ h _ _=>⟨rfl,h⟩) ?_;intro t33 w h
     refine zn ?_
     obtain ⟨C3,hs,hC,h⟩:=h
     refine ⟨C3,hs,hC,?_⟩
     refine ze 9 hC h fun t40 h=>?_
     refine zw 10 hC ?_
     refine zw 11 hC ?_
     refine sim_dend (by kernel_rfl) ?_
     refine zk<|sim_ret ?_
     exact body_ret2 rfl rfl rfl h
def n37 (t0:Value) (R:RT) (w:World):Prop :=
 opN Pg (nilN t0) (panK R) w fun t4 w =>
 F0 65 t4 1 R w fun t5 w =>
 L0 62 t5 R w fun t6 w =>
 R (.returned t6) w
theorem n37s {t0:Value} {R:RT} {w:World} (h:n37 t0 R w):Calls Pg 22 #[t0] w R:=by
 refine calls_of_den (args:=[t0]) Tryz.func22 rfl (Nat.le_of_ble_eq_true rfl) ?_
 unfold n37 at h
 refine zs<|zr<|zm<|zn<|zk<|zs<|zr<|zm ?_
 refine sim_next h rfl rfl (fun _ _ h=>⟨rfl,h⟩) ?_;intro t4 w h
 refine zv h fun t5 w h=>?_
 refine zv h fun t6 w h=>?_
 refine zm<|zn<|zk<|sim_ret ?_
 exact body_ret1 rfl rfl h
def n85c1 (t1 t2 t3 t14:Value) (C2:World→Prop) (R:RT) (w:World):Prop :=
 qV Pg C2 (Instr.fieldAt 24 t3 1) fun t34 =>
 qV Pg C2 (Instr.loadAt 22 t34) fun t35 =>
 qV Pg C2 (Instr.indexAt 22 t35 t1) fun t37 =>
 qV Pg C2 (Instr.fieldAt 45 t37 0) fun t38 =>
 qV Pg C2 (Instr.loadAt 9 t38) fun t39 =>
 callV Pg t2 #[t14] (panK R) w fun t33 w =>
 narrowK C2 w fun C3 w =>
 qV Pg C3 (Instr.lookup 63 t33 t39 false) fun t40 =>
 R (.returned (.tuple #[t40,(.int .i64 0)])) w
def n85c2 (t1 t2 t3 t14:Value) (R:RT) (w:World):Prop :=
 B0 .lss 3 true t1 (.int .i64 0) R w fun t22 w =>
 joinK (fun (t28:Value) (w:World) =>
 pickK t22 (.bool true) t28 fun t29 =>
 condP t29 (
 R (.returned (.tuple #[(.bool false),(.int .i64 3)])) w) (
 drawK w fun C2 w =>
 n85c1 t1 t2 t3 t14 C2 R w)) fun K1 =>
 guardP t22 false (
 F0 24 t3 1 R w fun t25 w =>
 L0 22 t25 R w fun t26 w =>
 opV Pg (Builtin.len_ #[22] 3 #[t26]) (panK R) w fun t27 w =>
 B0 .geq 3 false t1 t27 R w fun t28 w =>
 K1 t28 w) (
 K1 undef w)
def n85c3 (t1 t2 t3 t13:Value) (R:RT) (w:World):Prop :=
 opV Pg (Instr.extract t13 0) (panK R) w fun t14 w =>
 opV Pg (Instr.extract t13 1) (panK R) w fun t15 w =>
 opV Pg (Instr.extract t13 2) (panK R) w fun t16 w =>
 opV Pg (Instr.alloc 39 true (.tuple #[])) (panK R) w fun t9 w =>
 opU Pg (Instr.storeAt 39 t9 t15) (panK R) w fun w =>
 condP t16 (
 R (.returned (.tuple #[(.bool false),(.int .i64 2)])) w) (
 n85c2 t1 t2 t3 t14 R w)
def n85 (t0 t1 t2:Value) (R:RT) (w:World):Prop :=
 opV Pg (Instr.box 24 t0) (panK R) w fun t3 w =>
 L0 24 t3 R w fun t12 w =>
 C0 31 #[t12] R w fun t13 w =>
 n85c3 t1 t2 t3 t13 R w
theorem n85s {t0 t1 t2:Value} {R:RT} {w:World} (h:n85 t0 t1 t2 R w):Calls Pg 23 #[t0,t1,t2] w R:=by
 refine calls_of_den (args:=[t0,t1,t2]) Tryz.func23 rfl (Nat.le_of_ble_eq_true rfl) ?_
 unfold n85 at h
 refine zs<|zr ?_
 refine zv h fun t3 w h=>?_
 refine zm<|zm<|zn<|zk<|zs<|zr ?_
 refine zv h fun t12 w h=>?_
 refine zc h c31 fun t13 w h=>?_
 refine zm ?_
 refine zv h fun t14 w h=>?_
 refine zv h fun t15 w h=>?_
 refine zv h fun t16 w h=>?_
 refine zv h fun t9 w h=>?_
 refine zm ?_
 refine zu h fun w h=>?_
 refine zm<|zn<|zk<|zs<|sim_block<|zs<|zr<|zm<|zm<|zn<|zk ?_
 refine sim_cond h rfl (fun h=>?_) (fun h=>?_)
 · refine zs<|zr<|zm<|zm<|zm<|zn<|zk<|sim_ret<|sim_block_ret<|sim_then_ret ?_
   exact body_ret2 rfl rfl rfl h
 · refine zs<|sim_regionG ?_
   refine sim_seg 3 rfl ?_
   refine zm ?_
   refine zb h fun t22 w h=>?_
   refine zm<|zn ?_
   refine joinK_elim h (fun K1 hK h=>?_)
   refine sim_groupJ 5 2 false [24,25,26,27,28] (fun ρ w=>K1 (ρ 28) w) rfl rfl (fun T hT=>guardP_mono h (fun h=>?_) (fun h=>?_)) (fun σ w h=>?_)
   · refine zm ?_
     refine zv h fun t25 w h=>?_
     refine zv h fun t26 w h=>?_
     refine zx h fun t27 w h=>?_
     refine zb h fun t28 w h=>?_
     refine zn ?_
     exact zt hT h
   · exact zt hT h
   subst hK
   refine sim_seg 2 rfl ?_
   refine sim_pick h rfl rfl rfl ?_;intro t29 h
   refine zm<|zn<|sim_end<|zk ?_
   refine sim_cond h rfl (fun h=>?_) (fun h=>?_)
   · refine zs<|zr<|zm<|zm<|zm<|zn<|zk<|sim_ret<|sim_block_ret<|sim_then_ret ?_
     exact body_ret2 rfl rfl rfl h
   · refine sim_skip<|sim_block_normal<|zk<|zs ?_
     obtain ⟨C2,hC,h⟩:=h
     refine sim_draw [6,7,31,32,33,34,35,36,37,38,39,40] (by kernel_rfl) (by kernel_rfl) C2 ?_
     refine zw 0 hC ?_
     refine zw 1 hC ?_
     refine ze 3 hC h fun t34 h=>?_
     refine ze 4 hC h fun t35 h=>?_
     refine zw 5 hC ?_
     refine ze 6 hC h fun t37 h=>?_
     refine ze 7 hC h fun t38 h=>?_
     refine ze 8 hC h fun t39 h=>?_
     refine sim_dnarrow 2 rfl (by kernel_rfl) (fun _ _=>rfl) ?_
     refine sim_callV h rfl rfl (fun _ _ h _ _=>⟨rfl,h⟩) ?_;intro t33 w h
     refine zn ?_
     obtain ⟨C3,hs,hC,h⟩:=h
     refine ⟨C3,hs,hC,?_⟩
     refine ze 9 hC h fun t40 h=>?_
     refine zw 10 hC ?_
     refine zw 11 hC ?_
     refine sim_dend (by kernel_rfl) ?_
     refine zk<|sim_ret ?_
     exact body_ret2 rfl rfl rfl h
def n47 (t0:Value) (R:RT) (w:World):Prop :=
 opN Pg (nilN t0) (panK R) w fun t4 w =>
 F0 65 t4 2 R w fun t5 w =>
 L0 63 t5 R w fun t6 w =>
 R (.returned t6) w
theorem n47s {t0:Value} {R:RT} {w:World} (h:n47 t0 R w):Calls Pg 24 #[t0] w R:=by
 refine calls_of_den (args:=[t0]) Tryz.func24 rfl (Nat.le_of_ble_eq_true rfl) ?_
 unfold n47 at h
 refine zs<|zr<|zm<|zn<|zk<|zs<|zr<|zm ?_
 refine sim_next h rfl rfl (fun _ _ h=>⟨rfl,h⟩) ?_;intro t4 w h
 refine zv h fun t5 w h=>?_
 refine zv h fun t6 w h=>?_
 refine zm<|zn<|zk<|sim_ret ?_
 exact body_ret1 rfl rfl h
end Go.Proofs.YtiajhbbmgglmlaaGreat
namespace Go.Proofs.YtiajhbbmgglmlaaGreat
open Sw
open Go.RowKit (intOf)
def numberB (f:FieldD):Bool:=f.kind == 1||f.kind == 2||f.kind == 3
def hasValueB (f:FieldD):Bool:=f.kind != 2&&f.kind != 10&&f.kind != 11
def highOf (f:FieldD):Int:=if f.kind == 2 then f.low else f.high
abbrev rangeVal (lo hi:Int):Value := .agg #[.int .i64 lo,.int .i64 hi]
theorem Number_ret (w0:World) (v:Value) (f:FieldD) (hf:FieldVal w0 v f):Ret Pg 64 #[v] w0 fun r w'=>r = .bool (numberB f)∧Ext w0 w':=by
 obtain ⟨tv,cv,rfl,hT,hC⟩:=hf
 refine n41s (R:=retR _) ?_;unfold n41
 simp (disch:=try exact DI) only [↓PR,QR,Int.reduceBEq,Int.reduceBNe,Int.reduceLT,Int.reduceLE,Int.reduceGT,Int.reduceGE,Int.reduceNeg,↓n41c1]
 exact ⟨by first | trivial | rfl,ee⟩
theorem rNumber_ret (w0:World) (v:Value) (f:FieldD) (hf:FieldVal w0 v f):Ret Pg 60 #[v] w0 fun r w'=>r = .bool (numberB f)∧Ext w0 w':=by
 obtain ⟨tv,cv,rfl,hT,hC⟩:=hf
 refine n20s (R:=retR _) ?_;unfold n20
 simp (disch:=try exact DI) only [↓PR,QR,Int.reduceBEq,Int.reduceBNe,Int.reduceLT,Int.reduceLE,Int.reduceGT,Int.reduceGE,Int.reduceNeg,Sw.joinK_eq]
 refine ⟨?_,(Ext.refl _).alloc _⟩
 congr 1
 unfold numberB
 rw [Bool.eq_iff_iff]
 simp
 omega
theorem HasValue_ret (w0:World) (v:Value) (f:FieldD) (hf:FieldVal w0 v f):Ret Pg 20 #[v] w0 fun r w'=>r = .bool (hasValueB f)∧Ext w0 w':=by
 obtain ⟨tv,cv,rfl,hT,hC⟩:=hf
 refine n40s (R:=retR _) ?_;unfold n40
 simp (disch:=try exact DI) only [↓PR,QR,Int.reduceBEq,Int.reduceBNe,Int.reduceLT,Int.reduceLE,Int.reduceGT,Int.reduceGE,Int.reduceNeg,↓n40c1]
 exact ⟨by first | trivial | rfl,ee⟩
theorem rRange_ret (w0:World) (v:Value) (f:FieldD) (hf:FieldVal w0 v f):Ret Pg 62 #[v] w0 fun r w'=>r = .tuple #[.int .i64 f.low,.int .i64 (highOf f)]∧Ext w0 w':=by
 obtain ⟨tv,cv,rfl,hT,hC⟩:=hf
 refine n21s (R:=retR _) ?_;unfold n21
 simp (disch:=try exact DI) only [↓PR,QR,Int.reduceBEq,Int.reduceBNe,Int.reduceLT,Int.reduceLE,Int.reduceGT,Int.reduceGE,Int.reduceNeg,↓n21c1,↓n21c2]
 unfold highOf
 cases f.kind == 2
 · simp (disch:=try exact DI) only [↓PR,QR,Int.reduceBEq,Int.reduceBNe,Int.reduceLT,Int.reduceLE,Int.reduceGT,Int.reduceGE,Int.reduceNeg]
   refine drawK_intro ?_
   simp (disch:=try exact DI) only [↓PR,QR,Int.reduceBEq,Int.reduceBNe,Int.reduceLT,Int.reduceLE,Int.reduceGT,Int.reduceGE,Int.reduceNeg,↓n21c1,↓n21c2]
   exact ⟨by first | trivial | rfl,ee⟩
 · simp (disch:=try exact DI) only [↓PR,QR,Int.reduceBEq,Int.reduceBNe,Int.reduceLT,Int.reduceLE,Int.reduceGT,Int.reduceGE,Int.reduceNeg]
   refine drawK_intro ?_
   simp (disch:=try exact DI) only [↓PR,QR,Int.reduceBEq,Int.reduceBNe,Int.reduceLT,Int.reduceLE,Int.reduceGT,Int.reduceGE,Int.reduceNeg,↓n21c1,↓n21c2]
   exact ⟨by first | trivial | rfl,ee⟩
theorem Range_ret (w0:World) (v:Value) (f:FieldD) (hf:FieldVal w0 v f):Ret Pg 47 #[v] w0 fun r w'=>r = .tuple #[if numberB f then rangeVal f.low (highOf f) else rangeVal 0 0,.int .i64 (if numberB f then 0 else 2)]∧Ext w0 w':=by
 obtain ⟨tv,cv,rfl,hT,hC⟩:=hf
 refine n42s (R:=retR _) ?_;unfold n42
 simp (disch:=try exact DI) only [↓PR,QR,Int.reduceBEq,Int.reduceBNe,Int.reduceLT,Int.reduceLE,Int.reduceGT,Int.reduceGE,Int.reduceNeg,↓n42c1,↓n42c2,↓n42c3,↓n42c4]
 refine zcr (Number_ret _ _ f ⟨tv,cv,rfl,TermsOf.ext hT ee,CasesOf.ext hC ee⟩) fun w1 e1=>?_
 have s1:=e1.size
 try simp only [World.size_alloc,World.size_setCell,World.size_drew,World.putObj_size,Sw.putW_size] at s1
 cases hn:numberB f with
 | false =>
  simp (disch:=try exact DI) only [↓PR,QR,Int.reduceBEq,Int.reduceBNe,Int.reduceLT,Int.reduceLE,Int.reduceGT,Int.reduceGE,Int.reduceNeg,↓n42c1,↓n42c2,↓n42c3,↓n42c4,e1.cellQ,e1.frozenQ]
  exact ⟨by first | trivial | rfl,ee⟩
 | true =>
  simp (disch:=try exact DI) only [↓PR,QR,Int.reduceBEq,Int.reduceBNe,Int.reduceLT,Int.reduceLE,Int.reduceGT,Int.reduceGE,Int.reduceNeg,↓n42c1,↓n42c2,↓n42c3,↓n42c4,e1.cellQ,e1.frozenQ]
  unfold highOf
  cases f.kind == 2
  · simp (disch:=try exact DI) only [↓PR,QR,Int.reduceBEq,Int.reduceBNe,Int.reduceLT,Int.reduceLE,Int.reduceGT,Int.reduceGE,Int.reduceNeg,↓n42c1,↓n42c2,↓n42c3,↓n42c4,e1.cellQ,e1.frozenQ]
    exact ⟨by first | trivial | rfl,ee⟩
  · simp (disch:=try exact DI) only [↓PR,QR,Int.reduceBEq,Int.reduceBNe,Int.reduceLT,Int.reduceLE,Int.reduceGT,Int.reduceGE,Int.reduceNeg,↓n42c1,↓n42c2,↓n42c3,↓n42c4,e1.cellQ,e1.frozenQ]
    exact ⟨by first | trivial | rfl,ee⟩
theorem found_Field_ret (w0:World) (v:Value) (l:List FieldD) (g:FuncId) (caps:Array Value) (p:FieldD→Bool) (hs:FieldsOf w0 v l) (hg:Callable Pg g) (hc:Tests w0 FieldVal g caps p l) :
 Ret Pg 76 #[v,.func (.func g) #[] caps] w0 fun r w'=>r = .tuple #[.int .i64 (if idx p l < 0 then 0 else idx p l),.bool (l.any p)]∧Ext w0 w':=by
 refine n61s (R:=retR _) ?_;unfold n61
 refine zcr (IndexFunc_Field_ret _ _ l g caps p hs hg hc) fun w1 e1=>?_
 have s1:=e1.size
 try simp only [World.size_alloc,World.size_setCell,World.size_drew,World.putObj_size,Sw.putW_size] at s1
 simp (disch:=try exact DI) only [↓PR,QR,Int.reduceBEq,Int.reduceBNe,Int.reduceLT,Int.reduceLE,Int.reduceGT,Int.reduceGE,Int.reduceNeg,↓n61c1]
 exact ⟨by rw [idx_neg],e1⟩
def idx0 {α:Type} (p:α→Bool) (l:List α):Int:=if idx p l < 0 then 0 else idx p l
theorem FieldS1_ret (w0:World) (v:Value) (f:FieldD) (pb:Nat) (s:ByteArray) (hf:FieldVal w0 v f) (hp:w0.cell? ⟨pb,0,none⟩=some (.string s)):Ret Pg 77 #[v,.pointer (some ⟨pb,0,none⟩)] w0 fun r w'=>r = .bool (decide (f.name=s))∧Ext w0 w':=by
 obtain ⟨tv,cv,rfl,hT,hC⟩:=hf
 have hb:=World.block_lt_of_cell? w0 _ hp
 simp only at hb
 refine n39s (R:=retR _) ?_;unfold n39
 simp (disch:=try exact DI) only [↓PR,QR,Int.reduceBEq,Int.reduceBNe,Int.reduceLT,Int.reduceLE,Int.reduceGT,Int.reduceGE,Int.reduceNeg,Sw.joinK_eq,hp]
 exact ⟨by first | trivial | rfl,ee⟩
theorem Field_ret (w0:World) (v:Value) (m:MsgD) (s:ByteArray) (hm:MsgVal w0 v m):Ret Pg 67 #[v,.string s] w0 fun r w'=>r = .tuple #[.int .i64 (idx0 (fun f=>decide (f.name=s)) m.fields),.bool (m.fields.any fun f=>decide (f.name=s))]∧Ext w0 w':=by
 obtain ⟨fv,rfl,hF⟩:=hm
 refine n38s (R:=retR _) ?_;unfold n38
 simp (disch:=try exact DI) only [↓PR,QR,Int.reduceBEq,Int.reduceBNe,Int.reduceLT,Int.reduceLE,Int.reduceGT,Int.reduceGE,Int.reduceNeg,Sw.joinK_eq]
 refine callK_ret (found_Field_ret _ _ m.fields _ _ (fun f=>decide (f.name=s)) (hF.ext ee) c77 ?_) ?_
 · intro w v f hf e hv
   exact FieldS1_ret w v f _ s hv (e.cell (by simp (disch:=try exact DI) only [↓PR,QR,Int.reduceBEq,Int.reduceBNe,Int.reduceLT,Int.reduceLE,Int.reduceGT,Int.reduceGE,Int.reduceNeg]))
 rintro _ w1 ⟨rfl,e1⟩
 simp (disch:=try exact DI) only [↓PR,QR,Int.reduceBEq,Int.reduceBNe,Int.reduceLT,Int.reduceLE,Int.reduceGT,Int.reduceGE,Int.reduceNeg,Sw.joinK_eq]
 exact ⟨by first | trivial | rfl,ee⟩
end Go.Proofs.YtiajhbbmgglmlaaGreat
namespace Go.Proofs.YtiajhbbmgglmlaaGreat
open Sw
def n23c1 (t2 t6 t8:Value) (K3:KV) (R:RT) (w:World):Prop :=
 F0 24 t2 1 R w fun t29 w =>
 L0 22 t29 R w fun t30 w =>
 X0 22 t30 t6 R w fun t32 w =>
 F0 45 t32 1 R w fun t33 w =>
 L0 43 t33 R w fun t34 w =>
 X0 43 t34 t8 R w fun t36 w =>
 F0 52 t36 4 R w fun t37 w =>
 L0 4 t37 R w fun t38 w =>
 opV Pg (Op.unary .not t38) (panK R) w fun t39 w =>
 K3 t39 w
def n23c2 (t2 t5 t6 t7 t10 t46:Value) (C5:World→Prop) (next4:KW) (R:RT) (w:World):Prop :=
 joinK (fun (t64:Value) (w:World) =>
 pickK t7 t64 (.bool false) fun t65 =>
 B0 .add 3 true t10 (.int .i64 1) R w fun t52 w =>
 next4 t65 t52 w) fun K6 =>
 guardP t7 true (
 qV Pg C5 (Instr.loadAt 24 t2) fun t56 =>
 qV Pg C5 (Instr.indexAt 69 t46 t10) fun t59 =>
 qV Pg C5 (Instr.loadAt 9 t59) fun t60 =>
 C0 26 #[t56,t60,t6] R w fun t62 w =>
 C5 w∧(
 qV Pg C5 (Instr.indexAt 33 t5 t62) fun t63 =>
 qV Pg C5 (Instr.loadAt 4 t63) fun t64 =>
 K6 t64 w)) (
 K6 undef w)
def n23c3 (t5 t6 t7:Value) (next1:KW) (R:RT) (w:World):Prop :=
 opV Pg (Instr.buildSlice 33 1 #[(0,t7)]) (panK R) w fun t68 w =>
 opV Pg (Builtin.append_ #[33,33] 33 #[t5,t68]) (panK R) w fun t69 w =>
 B0 .add 3 true t6 (.int .i64 1) R w fun t15 w =>
 next1 t69 t15 w
def n23c4 (t2 t5 t6 t7 t10 t46:Value) (next1:KW) (next4:KW) (R:RT) (w:World):Prop :=
 opV Pg (Builtin.len_ #[69] 3 #[t46]) (panK R) w fun t49 w =>
 B0 .lss 3 false t10 t49 R w fun t50 w =>
 condP t50 (
 drawK w fun C5 w =>
 n23c2 t2 t5 t6 t7 t10 t46 C5 next4 R w) (
 n23c3 t5 t6 t7 next1 R w)
def n23c5 (t2 t5 t6 t7:Value) (next1:KW) (R:RT) (w:World):Prop :=
 F0 24 t2 1 R w fun t41 w =>
 L0 22 t41 R w fun t42 w =>
 X0 22 t42 t6 R w fun t44 w =>
 L0 45 t44 R w fun t45 w =>
 C0 25 #[t45] R w fun t46 w =>
 loop2 (fun t7 t10 w next4 =>
 n23c4 t2 t5 t6 t7 t10 t46 next1 next4 R w) t7 (.int .i64 0) w
def n23c6 (t2 t6 t7 t8:Value) (next2:KW) (R:RT) (w:World):Prop :=
 joinK (fun (t39:Value) (w:World) =>
 pickK t7 t39 (.bool false) fun t40 =>
 B0 .add 3 true t8 (.int .i64 1) R w fun t26 w =>
 next2 t40 t26 w) fun K3 =>
 guardP t7 true (
 n23c1 t2 t6 t8 K3 R w) (
 K3 undef w)
def n23c7 (t2 t5 t6 t7 t8:Value) (next1:KW) (next2:KW) (R:RT) (w:World):Prop :=
 F0 24 t2 1 R w fun t17 w =>
 L0 22 t17 R w fun t18 w =>
 X0 22 t18 t6 R w fun t20 w =>
 F0 45 t20 1 R w fun t21 w =>
 L0 43 t21 R w fun t22 w =>
 opV Pg (Builtin.len_ #[43] 3 #[t22]) (panK R) w fun t23 w =>
 B0 .lss 3 false t8 t23 R w fun t24 w =>
 condP t24 (
 n23c6 t2 t6 t7 t8 next2 R w) (
 n23c5 t2 t5 t6 t7 next1 R w)
def n23c8 (t1 t2 t5 t6:Value) (next1:KW) (R:RT) (w:World):Prop :=
 B0 .lss 3 false t6 t1 R w fun t13 w =>
 condP t13 (
 loop2 (fun t7 t8 w next2 =>
 n23c7 t2 t5 t6 t7 t8 next1 next2 R w) (.bool true) (.int .i64 0) w) (
 R (.returned t5) w)
def n23 (t0 t1:Value) (R:RT) (w:World):Prop :=
 opV Pg (Instr.box 24 t0) (panK R) w fun t2 w =>
 loop2 (fun t5 t6 w next1 =>
 n23c8 t1 t2 t5 t6 next1 R w) (Value.slice none 0 0) (.int .i64 0) w
theorem n23s {t0 t1:Value} {R:RT} {w:World} (h:n23 t0 t1 R w):Calls Pg 11 #[t0,t1] w R:=by
 refine calls_of_den (args:=[t0,t1]) Tryz.func11 rfl (Nat.le_of_ble_eq_true rfl) ?_
 unfold n23 at h
 refine zs<|zr ?_
 refine zv h fun t2 w h=>?_
 refine zm<|zn<|zk<|zs<|zr<|zm<|zn<|zk<|zs<|zs<|zr<|zm<|zn<|zk<|sim_block ?_
 obtain ⟨I,μ,h0,hr⟩:=h
 refine sim_loop [5,6,7,8,9,10,11,12,13,14,15,16,17,18,19,20,21,22,23,24,25,26,27,28,29,30,31,32,33,34,35,36,37,38,39,40,41,42,43,44,45,46,47,48,49,50,51,52,53,54,55,56,57,58,59,60,61,62,63,64,65,66,67,68,69] (by kernel_rfl) (fun ρ w=>I (ρ 5) (ρ 6) w) (fun ρ w=>μ (ρ 5) (ρ 6) w) h0 (fun σ w hI=>?_)
 have h:=hr _ _ _ hI
 clear hr h0 hI
 refine zs<|zs<|zr<|zm<|zm ?_
 refine zb h fun t13 w h=>?_
 refine zn<|zk ?_
 refine sim_cond h rfl (fun h=>?_) (fun h=>?_)
 · refine sim_skip<|zk<|zs<|sim_block<|zs<|zr<|zm<|zn<|zk<|zs<|zs<|zr<|zm<|zn<|zk<|sim_block ?_
   obtain ⟨I,μ,h0,hr⟩:=h
   refine sim_loop [7,8,16,17,18,19,20,21,22,23,24,25,26,27,28,29,30,31,32,33,34,35,36,37,38,39,40] (by kernel_rfl) (fun ρ w=>I (ρ 7) (ρ 8) w) (fun ρ w=>μ (ρ 7) (ρ 8) w) h0 (fun σ w hI=>?_)
   have h:=hr _ _ _ hI
   clear hr h0 hI
   refine zs<|zs<|zr<|zm ?_
   refine zv h fun t17 w h=>?_
   refine zv h fun t18 w h=>?_
   refine zm ?_
   refine zv h fun t20 w h=>?_
   refine zv h fun t21 w h=>?_
   refine zv h fun t22 w h=>?_
   refine zx h fun t23 w h=>?_
   refine zb h fun t24 w h=>?_
   refine zn<|zk ?_
   refine sim_cond h rfl (fun h=>?_) (fun h=>?_)
   · refine sim_skip<|zk<|zs<|sim_block<|sim_regionG ?_
     refine sim_seg 2 rfl ?_
     refine zm<|zm<|zn ?_
     refine joinK_elim h (fun K3 hK h=>?_)
     refine sim_groupJ 11 1 true [29,30,31,32,33,34,35,36,37,38,39] (fun ρ w=>K3 (ρ 39) w) rfl rfl (fun T hT=>guardP_mono h (fun h=>?_) (fun h=>?_)) (fun σ w h=>?_)
     · refine zv h fun t29 w h=>?_
       refine zv h fun t30 w h=>?_
       refine zm ?_
       refine zv h fun t32 w h=>?_
       refine zv h fun t33 w h=>?_
       refine zv h fun t34 w h=>?_
       refine zm ?_
       refine zv h fun t36 w h=>?_
       refine zv h fun t37 w h=>?_
       refine zv h fun t38 w h=>?_
       refine zv h fun t39 w h=>?_
       refine zn ?_
       exact zt hT h
     · exact zt hT h
     subst hK
     refine sim_seg 2 rfl ?_
     refine sim_pick h rfl rfl rfl ?_;intro t40 h
     refine zm<|zn<|sim_end<|sim_block_normal<|zk<|zr<|zm ?_
     refine zb h fun t26 w h=>?_
     refine zm<|zn<|zk ?_
     exact ⟨rfl,h⟩
   · refine sim_exit<|sim_then_exit<|sim_then_exit<|sim_block_hit<|zk<|zs<|zr ?_
     refine zv h fun t41 w h=>?_
     refine zv h fun t42 w h=>?_
     refine zm ?_
     refine zv h fun t44 w h=>?_
     refine zv h fun t45 w h=>?_
     refine zc h c25 fun t46 w h=>?_
     refine zm<|zn<|zk<|zs<|zs<|zr<|zm<|zn<|zk<|sim_block ?_
     obtain ⟨I,μ,h0,hr⟩:=h
     refine sim_loop [7,10,47,48,49,50,51,52,53,54,55,56,57,58,59,60,61,62,63,64,65] (by kernel_rfl) (fun ρ w=>I (ρ 7) (ρ 10) w) (fun ρ w=>μ (ρ 7) (ρ 10) w) h0 (fun σ w hI=>?_)
     have h:=hr _ _ _ hI
     clear hr h0 hI
     refine zs<|zs<|zr<|zm<|zm ?_
     refine zx h fun t49 w h=>?_
     refine zb h fun t50 w h=>?_
     refine zn<|zk ?_
     refine sim_cond h rfl (fun h=>?_) (fun h=>?_)
     · refine sim_skip<|zk<|zs<|sim_block ?_
       obtain ⟨C5,hC,h⟩:=h
       refine sim_draw [7,53,54,55,56,57,58,59,60,61,62,63,64,65] (by kernel_rfl) (by kernel_rfl) C5 ?_
       refine zw 0 hC ?_
       refine zw 1 hC ?_
       refine joinK_elim h (fun K6 hK h=>?_)
       refine sim_djoin 2 [11,10,9,8,7,6,5,4,3,2,1,0] [55,56,57,58,59,60,61,62,63,64] (fun ρ w=>K6 (ρ 64) w) (fun _ hT=>?_) (fun σ w hC h=>?_)
       · rcases Sw.guardP_cases h with ⟨hb,h⟩ | ⟨hb,h⟩
         · refine sim_dsilent 2 hC rfl (by kernel_rfl) (by kernel_rfl) (fun _ _=>Sw.guardP_true hb) rfl (Sw.move_run rfl) ?_
           obtain ⟨t56,hv,h⟩:=h
           refine sim_dsilent 3 hC rfl (by kernel_rfl) (by kernel_rfl) (fun _ _=>Sw.guardP_true hb) rfl (Sw.qV_run rfl hv) ?_
           refine sim_dsilent 4 hC rfl (by kernel_rfl) (by kernel_rfl) (fun _ _=>Sw.guardP_true hb) rfl (Sw.move_run rfl) ?_
           refine sim_dsilent 5 hC rfl (by kernel_rfl) (by kernel_rfl) (fun _ _=>Sw.guardP_true hb) rfl (Sw.move_run rfl) ?_
           obtain ⟨t59,hv,h⟩:=h
           refine sim_dsilent 6 hC rfl (by kernel_rfl) (by kernel_rfl) (fun _ _=>Sw.guardP_true hb) rfl (Sw.qV_run rfl hv) ?_
           obtain ⟨t60,hv,h⟩:=h
           refine sim_dsilent 7 hC rfl (by kernel_rfl) (by kernel_rfl) (fun _ _=>Sw.guardP_true hb) rfl (Sw.qV_run rfl hv) ?_
           refine sim_dsilent 8 hC rfl (by kernel_rfl) (by kernel_rfl) (fun _ _=>Sw.guardP_true hb) rfl (Sw.move_run rfl) ?_
           refine sim_dloud 9 rfl (by kernel_rfl) (fun _ _=>Sw.guardP_true hb) ?_
           refine sim_call h c26 rfl (fun _ _ h _ _=>⟨rfl,h⟩) ?_;intro t62 w h
           refine zn ?_
           obtain ⟨hC,h⟩:=h
           refine ⟨hC,?_⟩
           obtain ⟨t63,hv,h⟩:=h
           refine sim_dsilent 10 hC rfl (by kernel_rfl) (by kernel_rfl) (fun _ _=>Sw.guardP_true hb) rfl (Sw.qV_run rfl hv) ?_
           obtain ⟨t64,hv,h⟩:=h
           refine sim_dsilent 11 hC rfl (by kernel_rfl) (by kernel_rfl) (fun _ _=>Sw.guardP_true hb) rfl (Sw.qV_run rfl hv) ?_
           exact hT _ _ (by repeat (first | exact Sw.Fr.refl _ _ | refine Sw.Fr.put rfl ?_ | refine Sw.Fr.put_none ?_ | refine Sw.Fr.mix rfl ?_ | refine Sw.Fr.skipAll rfl ?_)) hC h
         · refine sim_dskip 2 hC rfl (by kernel_rfl) (by kernel_rfl) (fun _ _=>Sw.guardP_false hb) ?_
           refine sim_dskip 3 hC rfl (by kernel_rfl) (by kernel_rfl) (fun _ _=>Sw.guardP_false hb) ?_
           refine sim_dskip 4 hC rfl (by kernel_rfl) (by kernel_rfl) (fun _ _=>Sw.guardP_false hb) ?_
           refine sim_dskip 5 hC rfl (by kernel_rfl) (by kernel_rfl) (fun _ _=>Sw.guardP_false hb) ?_
           refine sim_dskip 6 hC rfl (by kernel_rfl) (by kernel_rfl) (fun _ _=>Sw.guardP_false hb) ?_
           refine sim_dskip 7 hC rfl (by kernel_rfl) (by kernel_rfl) (fun _ _=>Sw.guardP_false hb) ?_
           refine sim_dskip 8 hC rfl (by kernel_rfl) (by kernel_rfl) (fun _ _=>Sw.guardP_false hb) ?_
           refine sim_dskip 9 hC rfl (by kernel_rfl) (by kernel_rfl) (fun _ _=>Sw.guardP_false hb) ?_
           refine sim_dskip 10 hC rfl (by kernel_rfl) (by kernel_rfl) (fun _ _=>Sw.guardP_false hb) ?_
           refine sim_dskip 11 hC rfl (by kernel_rfl) (by kernel_rfl) (fun _ _=>Sw.guardP_false hb) ?_
           exact hT _ _ (by repeat (first | exact Sw.Fr.refl _ _ | refine Sw.Fr.put rfl ?_ | refine Sw.Fr.put_none ?_ | refine Sw.Fr.mix rfl ?_ | refine Sw.Fr.skipAll rfl ?_)) hC h
       subst hK
       obtain ⟨b65,hb65,h⟩:=Sw.pickK_elim h
       refine sim_dsilent 12 hC rfl (by kernel_rfl) (by kernel_rfl) (fun _ _=>rfl) rfl (Sw.pick_run hb65 rfl rfl) ?_
       refine zw 13 hC ?_
       refine sim_dend (by kernel_rfl) ?_
       refine sim_block_normal<|zk<|zr<|zm ?_
       refine zb h fun t52 w h=>?_
       refine zm<|zn<|zk ?_
       exact ⟨rfl,h⟩
     · refine sim_exit<|sim_then_exit<|sim_then_exit<|sim_block_hit<|zk<|zr<|zm<|zm ?_
       refine sim_buildSlice h rfl (fun _ _ h=>⟨rfl,h⟩) ?_;intro t68 w h
       refine zx h fun t69 w h=>?_
       refine zm<|zn<|sim_block_normal<|zk<|zr<|zm ?_
       refine zb h fun t15 w h=>?_
       refine zm<|zn<|zk ?_
       exact ⟨rfl,h⟩
 · refine sim_exit<|sim_then_exit<|sim_then_exit<|sim_block_hit<|zk<|zs<|zr<|zm<|zm<|zn<|zk<|sim_ret ?_
   exact body_ret1 rfl rfl h
def n35c1 (t2 t9:Value) (R:RT) (w:World):Prop :=
 opV Pg (Instr.extract t9 0) (panK R) w fun t10 w =>
 opV Pg (Instr.extract t9 1) (panK R) w fun t11 w =>
 opV Pg (Instr.extract t9 2) (panK R) w fun t12 w =>
 opV Pg (Instr.alloc 39 true (.tuple #[])) (panK R) w fun t5 w =>
 opU Pg (Instr.storeAt 39 t5 t11) (panK R) w fun w =>
 L0 39 t5 R w fun t13 w =>
 opU Pg (Instr.storeAt 39 t2 t13) (panK R) w fun w =>
 qW Pg 39 t2 w fun r0 =>
 R (.returned (.tuple #[r0,t12])) w
def n35 (t0:Value) (R:RT) (w:World):Prop :=
 opV Pg (Instr.box 24 t0) (panK R) w fun t1 w =>
 opV Pg (Instr.alloc 39 true (.tuple #[])) (panK R) w fun t2 w =>
 L0 24 t1 R w fun t8 w =>
 C0 31 #[t8] R w fun t9 w =>
 n35c1 t2 t9 R w
theorem n35s {t0:Value} {R:RT} {w:World} (h:n35 t0 R w):Calls Pg 13 #[t0] w R:=by
 refine calls_of_den (args:=[t0]) Tryz.func13 rfl (Nat.le_of_ble_eq_true rfl) ?_
 unfold n35 at h
 refine zs<|zr ?_
 refine zv h fun t1 w h=>?_
 refine zv h fun t2 w h=>?_
 refine zm<|zn<|zk<|zs<|zr ?_
 refine zv h fun t8 w h=>?_
 refine zc h c31 fun t9 w h=>?_
 refine zm ?_
 refine zv h fun t10 w h=>?_
 refine zv h fun t11 w h=>?_
 refine zv h fun t12 w h=>?_
 refine zv h fun t5 w h=>?_
 refine zm ?_
 refine zu h fun w h=>?_
 refine zm<|zn<|zk<|zs<|zr ?_
 refine zv h fun t13 w h=>?_
 refine zm ?_
 refine zu h fun w h=>?_
 refine zm<|zn<|zk<|sim_ret ?_
 exact body_retCT rfl rfl rfl h
end Go.Proofs.YtiajhbbmgglmlaaGreat
namespace Go.Proofs.YtiajhbbmgglmlaaGreat
open Sw
def n22c1 (t3 t6 t8 t9 t10:Value) (C9:World→Prop) (next8:KW) (R:RT) (w:World):Prop :=
 joinK (fun (t84:Value) (w:World) =>
 pickK t9 (.bool true) t84 fun t85 =>
 B0 .add 3 true t10 (.int .i64 1) R w fun t73 w =>
 next8 t85 t73 w) fun K10 =>
 guardP t9 false (
 qV Pg C9 (Instr.indexAt 69 t3 t10) fun t78 =>
 qV Pg C9 (Instr.loadAt 9 t78) fun t79 =>
 qV Pg C9 (Instr.indexAt 69 t6 t8) fun t82 =>
 qV Pg C9 (Instr.loadAt 9 t82) fun t83 =>
 qV Pg C9 (binS .eql 9 false t79 t83) fun t84 =>
 K10 t84 w) (
 K10 undef w)
def n22c2 (t3 t6 t8:Value) (K11:KV) (R:RT) (w:World):Prop :=
 X0 69 t6 t8 R w fun t91 w =>
 L0 9 t91 R w fun t92 w =>
 opV Pg (Instr.buildSlice 69 1 #[(0,t92)]) (panK R) w fun t93 w =>
 opV Pg (Builtin.append_ #[69,69] 69 #[t3,t93]) (panK R) w fun t94 w =>
 K11 t94 w
def n22c3 (t3 t6 t8 t9:Value) (next7:KW) (R:RT) (w:World):Prop :=
 opV Pg (Op.unary .not t9) (panK R) w fun t87 w =>
 joinK (fun (t3:Value) (w:World) =>
 B0 .add 3 true t8 (.int .i64 1) R w fun t67 w =>
 next7 t3 t67 w) fun K11 =>
 condP t87 (
 n22c2 t3 t6 t8 K11 R w) (
 K11 t3 w)
def n22c4 (t3 t6 t8 t9 t10:Value) (next7:KW) (next8:KW) (R:RT) (w:World):Prop :=
 opV Pg (Builtin.len_ #[69] 3 #[t3]) (panK R) w fun t70 w =>
 B0 .lss 3 false t10 t70 R w fun t71 w =>
 condP t71 (
 drawK w fun C9 w =>
 n22c1 t3 t6 t8 t9 t10 C9 next8 R w) (
 n22c3 t3 t6 t8 t9 next7 R w)
def n22c5 (t3 t4 t6 t8:Value) (next1:KW) (next7:KW) (R:RT) (w:World):Prop :=
 opV Pg (Builtin.len_ #[69] 3 #[t6]) (panK R) w fun t64 w =>
 B0 .lss 3 false t8 t64 R w fun t65 w =>
 condP t65 (
 loop2 (fun t9 t10 w next8 =>
 n22c4 t3 t6 t8 t9 t10 next7 next8 R w) (.bool false) (.int .i64 0) w) (
 B0 .add 3 true t4 (.int .i64 1) R w fun t17 w =>
 next1 t3 t17 w)
def n22c6 (t5 t6 t7:Value) (next5:KW) (R:RT) (w:World):Prop :=
 F0 52 t5 11 R w fun t54 w =>
 L0 50 t54 R w fun t55 w =>
 X0 50 t55 t7 R w fun t57 w =>
 F0 81 t57 2 R w fun t58 w =>
 L0 9 t58 R w fun t59 w =>
 opV Pg (Instr.buildSlice 69 1 #[(0,t59)]) (panK R) w fun t60 w =>
 opV Pg (Builtin.append_ #[69,69] 69 #[t6,t60]) (panK R) w fun t61 w =>
 B0 .add 3 true t7 (.int .i64 1) R w fun t52 w =>
 next5 t61 t52 w
def n22c7 (t3 t4 t5 t6 t7 t43 t49:Value) (next1:KW) (next5:KW) (R:RT) (w:World):Prop :=
 pickK t43 t49 (.bool false) fun t50 =>
 condP t50 (
 n22c6 t5 t6 t7 next5 R w) (
 loop2 (fun t3 t8 w next7 =>
 n22c5 t3 t4 t6 t8 next1 next7 R w) t3 (.int .i64 0) w)
def n22c8 (t3 t4 t5 t6 t7:Value) (next1:KW) (next5:KW) (R:RT) (w:World):Prop :=
 F0 52 t5 1 R w fun t41 w =>
 L0 46 t41 R w fun t42 w =>
 B0 .eql 46 true t42 (.int .i64 9) R w fun t43 w =>
 joinK (fun (t49:Value) (w:World) =>
 n22c7 t3 t4 t5 t6 t7 t43 t49 next1 next5 R w) fun K6 =>
 guardP t43 true (
 F0 52 t5 11 R w fun t46 w =>
 L0 50 t46 R w fun t47 w =>
 opV Pg (Builtin.len_ #[50] 3 #[t47]) (panK R) w fun t48 w =>
 B0 .lss 3 false t7 t48 R w fun t49 w =>
 K6 t49 w) (
 K6 undef w)
def n22c9 (t5:Value) (K4:KV) (R:RT) (w:World):Prop :=
 F0 52 t5 8 R w fun t37 w =>
 L0 9 t37 R w fun t38 w =>
 opV Pg (Instr.buildSlice 69 1 #[(0,t38)]) (panK R) w fun t39 w =>
 opV Pg (Builtin.append_ #[69,69] 69 #[(Value.slice none 0 0),t39]) (panK R) w fun t40 w =>
 K4 t40 w
def n22c10 (t3 t4 t5 t30 t34:Value) (next1:KW) (R:RT) (w:World):Prop :=
 pickK t30 (.bool true) t34 fun t35 =>
 joinK (fun (t6:Value) (w:World) =>
 loop2 (fun t6 t7 w next5 =>
 n22c8 t3 t4 t5 t6 t7 next1 next5 R w) t6 (.int .i64 0) w) fun K4 =>
 condP t35 (
 n22c9 t5 K4 R w) (
 K4 (Value.slice none 0 0) w)
def n22c11 (t3 t4 t5 t25 t29:Value) (next1:KW) (R:RT) (w:World):Prop :=
 pickK t25 (.bool true) t29 fun t30 =>
 joinK (fun (t34:Value) (w:World) =>
 n22c10 t3 t4 t5 t30 t34 next1 R w) fun K3 =>
 guardP t30 false (
 F0 52 t5 1 R w fun t32 w =>
 L0 46 t32 R w fun t33 w =>
 B0 .eql 46 true t33 (.int .i64 12) R w fun t34 w =>
 K3 t34 w) (
 K3 undef w)
def n22c12 (t1 t3 t4:Value) (next1:KW) (R:RT) (w:World):Prop :=
 F0 45 t1 1 R w fun t18 w =>
 L0 43 t18 R w fun t19 w =>
 X0 43 t19 t4 R w fun t21 w =>
 L0 52 t21 R w fun t22 w =>
 opV Pg (Instr.alloc 52 true (.tuple #[])) (panK R) w fun t5 w =>
 opU Pg (Instr.storeAt 52 t5 t22) (panK R) w fun w =>
 F0 52 t5 1 R w fun t23 w =>
 L0 46 t23 R w fun t24 w =>
 B0 .eql 46 true t24 (.int .i64 7) R w fun t25 w =>
 joinK (fun (t29:Value) (w:World) =>
 n22c11 t3 t4 t5 t25 t29 next1 R w) fun K2 =>
 guardP t25 false (
 F0 52 t5 1 R w fun t27 w =>
 L0 46 t27 R w fun t28 w =>
 B0 .eql 46 true t28 (.int .i64 8) R w fun t29 w =>
 K2 t29 w) (
 K2 undef w)
def n22c13 (t1 t3 t4:Value) (next1:KW) (R:RT) (w:World):Prop :=
 F0 45 t1 1 R w fun t12 w =>
 L0 43 t12 R w fun t13 w =>
 opV Pg (Builtin.len_ #[43] 3 #[t13]) (panK R) w fun t14 w =>
 B0 .lss 3 false t4 t14 R w fun t15 w =>
 condP t15 (
 n22c12 t1 t3 t4 next1 R w) (
 R (.returned t3) w)
def n22 (t0:Value) (R:RT) (w:World):Prop :=
 opV Pg (Instr.box 45 t0) (panK R) w fun t1 w =>
 loop2 (fun t3 t4 w next1 =>
 n22c13 t1 t3 t4 next1 R w) (Value.slice none 0 0) (.int .i64 0) w
theorem n22s {t0:Value} {R:RT} {w:World} (h:n22 t0 R w):Calls Pg 25 #[t0] w R:=by
 refine calls_of_den (args:=[t0]) Tryz.func25 rfl (Nat.le_of_ble_eq_true rfl) ?_
 unfold n22 at h
 refine zs<|zr ?_
 refine zv h fun t1 w h=>?_
 refine zm<|zn<|zk<|zs<|zr<|zm<|zn<|zk<|zs<|zs<|zr<|zm<|zn<|zk<|sim_block ?_
 obtain ⟨I,μ,h0,hr⟩:=h
 refine sim_loop [3,4,5,6,7,8,9,10,11,12,13,14,15,16,17,18,19,20,21,22,23,24,25,26,27,28,29,30,31,32,33,34,35,36,37,38,39,40,41,42,43,44,45,46,47,48,49,50,51,52,53,54,55,56,57,58,59,60,61,62,63,64,65,66,67,68,69,70,71,72,73,74,75,76,77,78,79,80,81,82,83,84,85,86,87,88,89,90,91,92,93,94] (by kernel_rfl) (fun ρ w=>I (ρ 3) (ρ 4) w) (fun ρ w=>μ (ρ 3) (ρ 4) w) h0 (fun σ w hI=>?_)
 have h:=hr _ _ _ hI
 clear hr h0 hI
 refine zs<|zs<|zr<|zm ?_
 refine zv h fun t12 w h=>?_
 refine zv h fun t13 w h=>?_
 refine zx h fun t14 w h=>?_
 refine zb h fun t15 w h=>?_
 refine zn<|zk ?_
 refine sim_cond h rfl (fun h=>?_) (fun h=>?_)
 · refine sim_skip<|zk<|zs<|sim_block<|zs<|zr ?_
   refine zv h fun t18 w h=>?_
   refine zv h fun t19 w h=>?_
   refine zm ?_
   refine zv h fun t21 w h=>?_
   refine zv h fun t22 w h=>?_
   refine zv h fun t5 w h=>?_
   refine zu h fun w h=>?_
   refine zn<|zk<|zs<|zr<|zm<|zn<|zk<|zs<|zs<|sim_regionG ?_
   refine sim_seg 4 rfl ?_
   refine zv h fun t23 w h=>?_
   refine zv h fun t24 w h=>?_
   refine zb h fun t25 w h=>?_
   refine zm<|zn ?_
   refine joinK_elim h (fun K2 hK h=>?_)
   refine sim_groupJ 3 3 false [27,28,29] (fun ρ w=>K2 (ρ 29) w) rfl rfl (fun T hT=>guardP_mono h (fun h=>?_) (fun h=>?_)) (fun σ w h=>?_)
   · refine zv h fun t27 w h=>?_
     refine zv h fun t28 w h=>?_
     refine zb h fun t29 w h=>?_
     refine zn ?_
     exact zt hT h
   · exact zt hT h
   subst hK
   refine sim_seg 2 rfl ?_
   refine sim_pick h rfl rfl rfl ?_;intro t30 h
   refine zm<|zn ?_
   refine joinK_elim h (fun K3 hK h=>?_)
   refine sim_groupJ 3 8 false [32,33,34] (fun ρ w=>K3 (ρ 34) w) rfl rfl (fun T hT=>guardP_mono h (fun h=>?_) (fun h=>?_)) (fun σ w h=>?_)
   · refine zv h fun t32 w h=>?_
     refine zv h fun t33 w h=>?_
     refine zb h fun t34 w h=>?_
     refine zn ?_
     exact zt hT h
   · exact zt hT h
   subst hK
   refine sim_seg 1 rfl ?_
   refine sim_pick h rfl rfl rfl ?_;intro t35 h
   refine zn<|sim_end<|zk ?_
   refine joinK_elim h (fun K4 hK h=>?_)
   refine sim_joinQ [6,36,37,38,39,40] (fun ρ w=>K4 (ρ 6) w) (fun _ hkK4=>?_) (fun σ w h=>?_)
   · refine sim_cond h rfl (fun h=>?_) (fun h=>?_)
     · refine zr<|zm ?_
       refine zv h fun t37 w h=>?_
       refine zv h fun t38 w h=>?_
       refine sim_buildSlice h rfl (fun _ _ h=>⟨rfl,h⟩) ?_;intro t39 w h
       refine zx h fun t40 w h=>?_
       refine zm<|zn<|zk ?_
       exact zt hkK4 h
     · refine sim_skip<|zk ?_
       exact zt hkK4 h
   subst hK
   refine zk<|zs<|zs<|zr<|zm<|zn<|zk<|sim_block ?_
   obtain ⟨I,μ,h0,hr⟩:=h
   refine sim_loop [6,7,41,42,43,44,45,46,47,48,49,50,51,52,53,54,55,56,57,58,59,60,61] (by kernel_rfl) (fun ρ w=>I (ρ 6) (ρ 7) w) (fun ρ w=>μ (ρ 6) (ρ 7) w) h0 (fun σ w hI=>?_)
   have h:=hr _ _ _ hI
   clear hr h0 hI
   refine zs<|zs<|sim_regionG ?_
   refine sim_seg 4 rfl ?_
   refine zv h fun t41 w h=>?_
   refine zv h fun t42 w h=>?_
   refine zb h fun t43 w h=>?_
   refine zm<|zn ?_
   refine joinK_elim h (fun K6 hK h=>?_)
   refine sim_groupJ 5 3 true [45,46,47,48,49] (fun ρ w=>K6 (ρ 49) w) rfl rfl (fun T hT=>guardP_mono h (fun h=>?_) (fun h=>?_)) (fun σ w h=>?_)
   · refine zm ?_
     refine zv h fun t46 w h=>?_
     refine zv h fun t47 w h=>?_
     refine zx h fun t48 w h=>?_
     refine zb h fun t49 w h=>?_
     refine zn ?_
     exact zt hT h
   · exact zt hT h
   subst hK
   refine sim_seg 1 rfl ?_
   refine sim_pick h rfl rfl rfl ?_;intro t50 h
   refine zn<|sim_end<|zk ?_
   refine sim_cond h rfl (fun h=>?_) (fun h=>?_)
   · refine sim_skip<|zk<|zs<|sim_block<|zr<|zm ?_
     refine zv h fun t54 w h=>?_
     refine zv h fun t55 w h=>?_
     refine zm ?_
     refine zv h fun t57 w h=>?_
     refine zv h fun t58 w h=>?_
     refine zv h fun t59 w h=>?_
     refine sim_buildSlice h rfl (fun _ _ h=>⟨rfl,h⟩) ?_;intro t60 w h
     refine zx h fun t61 w h=>?_
     refine zm<|zn<|sim_block_normal<|zk<|zr<|zm ?_
     refine zb h fun t52 w h=>?_
     refine zm<|zn<|zk ?_
     exact ⟨rfl,h⟩
   · refine sim_exit<|sim_then_exit<|sim_then_exit<|sim_block_hit<|zk<|zs<|zr<|zm<|zn<|zk<|sim_block ?_
     obtain ⟨I,μ,h0,hr⟩:=h
     refine sim_loop [3,8,9,10,62,63,64,65,66,67,68,69,70,71,72,73,74,75,76,77,78,79,80,81,82,83,84,85,86,87,88,89,90,91,92,93,94] (by kernel_rfl) (fun ρ w=>I (ρ 3) (ρ 8) w) (fun ρ w=>μ (ρ 3) (ρ 8) w) h0 (fun σ w hI=>?_)
     have h:=hr _ _ _ hI
     clear hr h0 hI
     refine zs<|zs<|zr<|zm<|zm ?_
     refine zx h fun t64 w h=>?_
     refine zb h fun t65 w h=>?_
     refine zn<|zk ?_
     refine sim_cond h rfl (fun h=>?_) (fun h=>?_)
     · refine sim_skip<|zk<|zs<|sim_block<|zs<|zr<|zm<|zn<|zk<|zs<|zs<|zr<|zm<|zn<|zk<|sim_block ?_
       obtain ⟨I,μ,h0,hr⟩:=h
       refine sim_loop [9,10,68,69,70,71,72,73,74,75,76,77,78,79,80,81,82,83,84,85] (by kernel_rfl) (fun ρ w=>I (ρ 9) (ρ 10) w) (fun ρ w=>μ (ρ 9) (ρ 10) w) h0 (fun σ w hI=>?_)
       have h:=hr _ _ _ hI
       clear hr h0 hI
       refine zs<|zs<|zr<|zm<|zm ?_
       refine zx h fun t70 w h=>?_
       refine zb h fun t71 w h=>?_
       refine zn<|zk ?_
       refine sim_cond h rfl (fun h=>?_) (fun h=>?_)
       · refine sim_skip<|zk<|zs<|sim_block ?_
         obtain ⟨C9,hC,h⟩:=h
         refine sim_draw [9,74,75,76,77,78,79,80,81,82,83,84,85] (by kernel_rfl) (by kernel_rfl) C9 ?_
         refine zw 0 hC ?_
         refine zw 1 hC ?_
         refine joinK_elim h (fun K10 hK h=>?_)
         refine sim_djoin 2 [10,9,8,7,6,5,4,3,2,1,0] [76,77,78,79,80,81,82,83,84] (fun ρ w=>K10 (ρ 84) w) (fun _ hT=>?_) (fun σ w hC h=>?_)
         · rcases Sw.guardP_cases h with ⟨hb,h⟩ | ⟨hb,h⟩
           · refine sim_dsilent 2 hC rfl (by kernel_rfl) (by kernel_rfl) (fun _ _=>Sw.guardP_true hb) rfl (Sw.move_run rfl) ?_
             refine sim_dsilent 3 hC rfl (by kernel_rfl) (by kernel_rfl) (fun _ _=>Sw.guardP_true hb) rfl (Sw.move_run rfl) ?_
             obtain ⟨t78,hv,h⟩:=h
             refine sim_dsilent 4 hC rfl (by kernel_rfl) (by kernel_rfl) (fun _ _=>Sw.guardP_true hb) rfl (Sw.qV_run rfl hv) ?_
             obtain ⟨t79,hv,h⟩:=h
             refine sim_dsilent 5 hC rfl (by kernel_rfl) (by kernel_rfl) (fun _ _=>Sw.guardP_true hb) rfl (Sw.qV_run rfl hv) ?_
             refine sim_dsilent 6 hC rfl (by kernel_rfl) (by kernel_rfl) (fun _ _=>Sw.guardP_true hb) rfl (Sw.move_run rfl) ?_
             refine sim_dsilent 7 hC rfl (by kernel_rfl) (by kernel_rfl) (fun _ _=>Sw.guardP_true hb) rfl (Sw.move_run rfl) ?_
             obtain ⟨t82,hv,h⟩:=h
             refine sim_dsilent 8 hC rfl (by kernel_rfl) (by kernel_rfl) (fun _ _=>Sw.guardP_true hb) rfl (Sw.qV_run rfl hv) ?_
             obtain ⟨t83,hv,h⟩:=h
             refine sim_dsilent 9 hC rfl (by kernel_rfl) (by kernel_rfl) (fun _ _=>Sw.guardP_true hb) rfl (Sw.qV_run rfl hv) ?_
             obtain ⟨t84,hv,h⟩:=h
             refine sim_dsilent 10 hC rfl (by kernel_rfl) (by kernel_rfl) (fun _ _=>Sw.guardP_true hb) rfl (Sw.qV_bin rfl rfl rfl hv) ?_
             exact hT _ _ (by repeat (first | exact Sw.Fr.refl _ _ | refine Sw.Fr.put rfl ?_ | refine Sw.Fr.put_none ?_ | refine Sw.Fr.mix rfl ?_ | refine Sw.Fr.skipAll rfl ?_)) hC h
           · refine sim_dskip 2 hC rfl (by kernel_rfl) (by kernel_rfl) (fun _ _=>Sw.guardP_false hb) ?_
             refine sim_dskip 3 hC rfl (by kernel_rfl) (by kernel_rfl) (fun _ _=>Sw.guardP_false hb) ?_
             refine sim_dskip 4 hC rfl (by kernel_rfl) (by kernel_rfl) (fun _ _=>Sw.guardP_false hb) ?_
             refine sim_dskip 5 hC rfl (by kernel_rfl) (by kernel_rfl) (fun _ _=>Sw.guardP_false hb) ?_
             refine sim_dskip 6 hC rfl (by kernel_rfl) (by kernel_rfl) (fun _ _=>Sw.guardP_false hb) ?_
             refine sim_dskip 7 hC rfl (by kernel_rfl) (by kernel_rfl) (fun _ _=>Sw.guardP_false hb) ?_
             refine sim_dskip 8 hC rfl (by kernel_rfl) (by kernel_rfl) (fun _ _=>Sw.guardP_false hb) ?_
             refine sim_dskip 9 hC rfl (by kernel_rfl) (by kernel_rfl) (fun _ _=>Sw.guardP_false hb) ?_
             refine sim_dskip 10 hC rfl (by kernel_rfl) (by kernel_rfl) (fun _ _=>Sw.guardP_false hb) ?_
             exact hT _ _ (by repeat (first | exact Sw.Fr.refl _ _ | refine Sw.Fr.put rfl ?_ | refine Sw.Fr.put_none ?_ | refine Sw.Fr.mix rfl ?_ | refine Sw.Fr.skipAll rfl ?_)) hC h
         subst hK
         obtain ⟨b85,hb85,h⟩:=Sw.pickK_elim h
         refine sim_dsilent 11 hC rfl (by kernel_rfl) (by kernel_rfl) (fun _ _=>rfl) rfl (Sw.pick_run hb85 rfl rfl) ?_
         refine zw 12 hC ?_
         refine sim_dend (by kernel_rfl) ?_
         refine sim_block_normal<|zk<|zr<|zm ?_
         refine zb h fun t73 w h=>?_
         refine zm<|zn<|zk ?_
         exact ⟨rfl,h⟩
       · refine sim_exit<|sim_then_exit<|sim_then_exit<|sim_block_hit<|zk<|zs<|zr<|zm ?_
         refine zv h fun t87 w h=>?_
         refine zn<|zk ?_
         refine joinK_elim h (fun K11 hK h=>?_)
         refine sim_joinQ [3,88,89,90,91,92,93,94] (fun ρ w=>K11 (ρ 3) w) (fun _ hkK11=>?_) (fun σ w h=>?_)
         · refine sim_cond h rfl (fun h=>?_) (fun h=>?_)
           · refine zr<|zm<|zm<|zm ?_
             refine zv h fun t91 w h=>?_
             refine zv h fun t92 w h=>?_
             refine sim_buildSlice h rfl (fun _ _ h=>⟨rfl,h⟩) ?_;intro t93 w h
             refine zx h fun t94 w h=>?_
             refine zm<|zn<|zk ?_
             exact zt hkK11 h
           · refine sim_skip<|zk ?_
             exact zt hkK11 h
         subst hK
         refine sim_block_normal<|zk<|zr<|zm ?_
         refine zb h fun t67 w h=>?_
         refine zm<|zn<|zk ?_
         exact ⟨rfl,h⟩
     · refine sim_exit<|sim_then_exit<|sim_then_exit<|sim_block_hit<|sim_block_normal<|zk<|zr<|zm ?_
       refine zb h fun t17 w h=>?_
       refine zm<|zn<|zk ?_
       exact ⟨rfl,h⟩
 · refine sim_exit<|sim_then_exit<|sim_then_exit<|sim_block_hit<|zk<|zs<|zr<|zm<|zm<|zn<|zk<|sim_ret ?_
   exact body_ret1 rfl rfl h
def n19c1 (t1 t3 t7:Value) (next1:KV) (R:RT) (w:World):Prop :=
 F0 24 t3 1 R w fun t13 w =>
 L0 22 t13 R w fun t14 w =>
 X0 22 t14 t7 R w fun t16 w =>
 F0 45 t16 0 R w fun t17 w =>
 L0 9 t17 R w fun t18 w =>
 B0 .eql 9 false t18 t1 R w fun t20 w =>
 condP t20 (
 R (.returned t7) w) (
 B0 .add 3 true t7 (.int .i64 1) R w fun t12 w =>
 next1 t12 w)
def n19 (t0 t1 t2:Value) (R:RT) (w:World):Prop :=
 opV Pg (Instr.box 24 t0) (panK R) w fun t3 w =>
 loop1 (fun t7 w next1 =>
 B0 .lss 3 false t7 t2 R w fun t10 w =>
 condP t10 (
 n19c1 t1 t3 t7 next1 R w) (
 R (.returned (.int .i64 (-1))) w)) (.int .i64 0) w
theorem n19s {t0 t1 t2:Value} {R:RT} {w:World} (h:n19 t0 t1 t2 R w):Calls Pg 26 #[t0,t1,t2] w R:=by
 refine calls_of_den (args:=[t0,t1,t2]) Tryz.func26 rfl (Nat.le_of_ble_eq_true rfl) ?_
 unfold n19 at h
 refine zs<|zr ?_
 refine zv h fun t3 w h=>?_
 refine zm<|zn<|zk<|zs<|zs<|zr<|zm<|zn<|zk<|sim_block ?_
 obtain ⟨I,μ,h0,hr⟩:=h
 refine sim_loop [6,7,8,9,10,11,12,13,14,15,16,17,18,19,20,21] (by kernel_rfl) (fun ρ w=>I (ρ 7) w) (fun ρ w=>μ (ρ 7) w) h0 (fun σ w hI=>?_)
 have h:=hr _ _ hI
 clear hr h0 hI
 refine zs<|zs<|zr<|zm<|zm ?_
 refine zb h fun t10 w h=>?_
 refine zn<|zk ?_
 refine sim_cond h rfl (fun h=>?_) (fun h=>?_)
 · refine sim_skip<|zk<|zs<|sim_block<|zs<|zr ?_
   refine zv h fun t13 w h=>?_
   refine zv h fun t14 w h=>?_
   refine zm ?_
   refine zv h fun t16 w h=>?_
   refine zv h fun t17 w h=>?_
   refine zv h fun t18 w h=>?_
   refine zm ?_
   refine zb h fun t20 w h=>?_
   refine zn<|zk ?_
   refine sim_cond h rfl (fun h=>?_) (fun h=>?_)
   · refine zs<|zr<|zm<|zm<|zn<|zk<|sim_ret<|sim_block_ret<|sim_then_ret<|sim_then_ret<|sim_block_ret<|sim_then_ret ?_
     exact body_ret1 rfl rfl h
   · refine sim_skip<|sim_block_normal<|zk<|zr<|zm ?_
     refine zb h fun t12 w h=>?_
     refine zm<|zn<|zk ?_
     exact ⟨rfl,h⟩
 · refine sim_exit<|sim_then_exit<|sim_then_exit<|sim_block_hit<|zk<|zs<|zr<|zm<|zn<|zk<|sim_ret ?_
   exact body_ret1 rfl rfl h
def n106 (t0:Value) (R:RT) (w:World):Prop :=
 opV Pg (binS .eql 47 true t0 (Value.slice none 0 0)) (panK R) w fun t4 w =>
 condP t4 (
 R (.returned (Value.slice none 0 0)) w) (
 opV Pg (Instr.buildSlice 47 0 #[]) (panK R) w fun t5 w =>
 opV Pg (Builtin.append_ #[47,47] 47 #[t5,t0]) (panK R) w fun t7 w =>
 R (.returned t7) w)
theorem n106s {t0:Value} {R:RT} {w:World} (h:n106 t0 R w):Calls Pg 29 #[t0] w R:=by
 refine calls_of_den (args:=[t0]) Tryz.func29 rfl (Nat.le_of_ble_eq_true rfl) ?_
 unfold n106 at h
 refine zs<|zr<|zm<|zn<|zk<|zs<|zs<|zr<|zm ?_
 refine zb h fun t4 w h=>?_
 refine zn<|zk ?_
 refine sim_cond h rfl (fun h=>?_) (fun h=>?_)
 · refine zs<|zr<|zm<|zn<|zk<|sim_ret<|sim_then_ret ?_
   exact body_ret1 rfl rfl h
 · refine sim_skip<|zk<|zs<|zr ?_
   refine sim_buildSlice h rfl (fun _ _ h=>⟨rfl,h⟩) ?_;intro t5 w h
   refine zm ?_
   refine zx h fun t7 w h=>?_
   refine zm<|zn<|zk<|sim_ret ?_
   exact body_ret1 rfl rfl h
def n59c1 (t3 t4 t13:Value) (ds:List Deferred) (R:RT) (w:World):Prop :=
 opV Pg (Instr.build 39 #[]) (outQ Pg ds [(none,t13),(some 39,t3),(some 4,t4)] R) w fun t65 w =>
 opU Pg (Instr.storeAt 39 t3 t65) (outQ Pg ds [(none,t13),(some 39,t3),(some 4,t4)] R) w fun w =>
 opU Pg (Instr.storeAt 4 t4 (.bool false)) (outQ Pg ds [(none,t13),(some 39,t3),(some 4,t4)] R) w fun w =>
 outX Pg ds [(none,t13),(some 39,t3),(some 4,t4)] R w
def n59c2 (t1 t3 t4 t13:Value) (C3:World→Prop) (ds:List Deferred) (R:RT) (w:World):Prop :=
 qN Pg C3 (nilN t13) fun t53 =>
 qV Pg C3 (Instr.fieldAt 65 t53 1) fun t54 =>
 qV Pg C3 (Instr.loadAt 62 t54) fun t55 =>
 qV Pg C3 (Instr.fieldAt 24 t1 2) fun t56 =>
 qV Pg C3 (Instr.loadAt 9 t56) fun t57 =>
 qV Pg C3 (Instr.lookup 62 t55 t57 true) fun t58 =>
 qV Pg C3 (Instr.extract t58 0) fun t59 =>
 qV Pg C3 (Instr.extract t58 1) fun t60 =>
 callK Pg 37 #[t13,t60,(.int .i64 11)] (outQ Pg ds [(none,t13),(some 39,t3),(some 4,t4)] R) w fun t63 w =>
 n59c1 t3 t4 t13 ds R w
def n59c3 (t1 t3 t4 t13:Value) (ds:List Deferred) (R:RT) (w:World):Prop :=
 opN Pg (nilN t13) (outQ Pg ds [(none,t13),(some 39,t3),(some 4,t4)] R) w fun t49 w =>
 opV Pg (Instr.fieldAt 65 t49 3) (outQ Pg ds [(none,t13),(some 39,t3),(some 4,t4)] R) w fun t50 w =>
 opU Pg (Instr.storeAt 3 t50 (.int .i64 (-1))) (outQ Pg ds [(none,t13),(some 39,t3),(some 4,t4)] R) w fun w =>
 drawK w fun C3 w =>
 n59c2 t1 t3 t4 t13 C3 ds R w
def n59c4 (t3 t4 t13 t33 t35:Value) (next2:KV) (ds:List Deferred) (R:RT) (w:World):Prop :=
 opV Pg (Instr.indexAt 22 t33 t35) (outQ Pg ds [(none,t13),(some 39,t3),(some 4,t4)] R) w fun t38 w =>
 opV Pg (Instr.loadAt 45 t38) (outQ Pg ds [(none,t13),(some 39,t3),(some 4,t4)] R) w fun t39 w =>
 opV Pg (Instr.alloc 45 true (.tuple #[])) (outQ Pg ds [(none,t13),(some 39,t3),(some 4,t4)] R) w fun t6 w =>
 opU Pg (Instr.storeAt 45 t6 t39) (outQ Pg ds [(none,t13),(some 39,t3),(some 4,t4)] R) w fun w =>
 opN Pg (nilN t13) (outQ Pg ds [(none,t13),(some 39,t3),(some 4,t4)] R) w fun t42 w =>
 opV Pg (Instr.fieldAt 65 t42 3) (outQ Pg ds [(none,t13),(some 39,t3),(some 4,t4)] R) w fun t43 w =>
 opU Pg (Instr.storeAt 3 t43 t35) (outQ Pg ds [(none,t13),(some 39,t3),(some 4,t4)] R) w fun w =>
 opV Pg (Instr.loadAt 45 t6) (outQ Pg ds [(none,t13),(some 39,t3),(some 4,t4)] R) w fun t45 w =>
 callK Pg 39 #[t13,t45] (outQ Pg ds [(none,t13),(some 39,t3),(some 4,t4)] R) w fun t46 w =>
 opV Pg (binS .add 3 true t35 (.int .i64 1)) (outQ Pg ds [(none,t13),(some 39,t3),(some 4,t4)] R) w fun t47 w =>
 next2 t47 w
def n59c5 (t1 t3 t4 t13 t33 t34 t35:Value) (next2:KV) (ds:List Deferred) (R:RT) (w:World):Prop :=
 opV Pg (binS .lss 3 false t35 t34) (outQ Pg ds [(none,t13),(some 39,t3),(some 4,t4)] R) w fun t36 w =>
 condP t36 (
 n59c4 t3 t4 t13 t33 t35 next2 ds R w) (
 n59c3 t1 t3 t4 t13 ds R w)
def n59c6 (t1 t3 t4 t13:Value) (ds:List Deferred) (R:RT) (w:World):Prop :=
 opV Pg (Instr.fieldAt 24 t1 1) (outQ Pg ds [(none,t13),(some 39,t3),(some 4,t4)] R) w fun t32 w =>
 opV Pg (Instr.loadAt 22 t32) (outQ Pg ds [(none,t13),(some 39,t3),(some 4,t4)] R) w fun t33 w =>
 opV Pg (Builtin.len_ #[22] 3 #[t33]) (outQ Pg ds [(none,t13),(some 39,t3),(some 4,t4)] R) w fun t34 w =>
 loop1 (fun t35 w next2 =>
 n59c5 t1 t3 t4 t13 t33 t34 t35 next2 ds R w) (.int .i64 0) w
def n59c7 (t1 t3 t4 t13 t24 t29:Value) (ds:List Deferred) (R:RT) (w:World):Prop :=
 pickK t24 t29 (.bool false) fun t30 =>
 callK Pg 37 #[t13,t30,(.int .i64 3)] (outQ Pg ds [(none,t13),(some 39,t3),(some 4,t4)] R) w fun t31 w =>
 n59c6 t1 t3 t4 t13 ds R w
def n59c8 (t1 t3 t4 t13:Value) (K1:KV) (ds:List Deferred) (R:RT) (w:World):Prop :=
 opV Pg (Instr.fieldAt 24 t1 1) (outQ Pg ds [(none,t13),(some 39,t3),(some 4,t4)] R) w fun t26 w =>
 opV Pg (Instr.loadAt 22 t26) (outQ Pg ds [(none,t13),(some 39,t3),(some 4,t4)] R) w fun t27 w =>
 opV Pg (Builtin.len_ #[22] 3 #[t27]) (outQ Pg ds [(none,t13),(some 39,t3),(some 4,t4)] R) w fun t28 w =>
 opV Pg (binS .leq 3 true t28 (.int .i64 60)) (outQ Pg ds [(none,t13),(some 39,t3),(some 4,t4)] R) w fun t29 w =>
 K1 t29 w
def n59c9 (t1 t3 t4 t13:Value) (ds:List Deferred) (R:RT) (w:World):Prop :=
 opV Pg (Instr.fieldAt 24 t1 1) (outQ Pg ds [(none,t13),(some 39,t3),(some 4,t4)] R) w fun t21 w =>
 opV Pg (Instr.loadAt 22 t21) (outQ Pg ds [(none,t13),(some 39,t3),(some 4,t4)] R) w fun t22 w =>
 opV Pg (Builtin.len_ #[22] 3 #[t22]) (outQ Pg ds [(none,t13),(some 39,t3),(some 4,t4)] R) w fun t23 w =>
 opV Pg (binS .geq 3 true t23 (.int .i64 1)) (outQ Pg ds [(none,t13),(some 39,t3),(some 4,t4)] R) w fun t24 w =>
 joinK (fun (t29:Value) (w:World) =>
 n59c7 t1 t3 t4 t13 t24 t29 ds R w) fun K1 =>
 guardP t24 true (
 n59c8 t1 t3 t4 t13 K1 ds R w) (
 K1 undef w)
def n59 (t0:Value) (R:RT) (w:World):Prop :=
 (fun (ds:List Deferred) =>
 opV Pg (Instr.box 24 t0) (outQ Pg ds [(none,undef),(some 39,undef),(some 4,undef)] R) w fun t1 w =>
 opV Pg (Instr.alloc 39 true (.tuple #[])) (outQ Pg ds [(none,(Value.pointer none)),(some 39,undef),(some 4,undef)] R) w fun t3 w =>
 opV Pg (Instr.alloc 4 true (.tuple #[])) (outQ Pg ds [(none,(Value.pointer none)),(some 39,t3),(some 4,undef)] R) w fun t4 w =>
 opV Pg (Instr.loadAt 24 t1) (outQ Pg ds [(none,(Value.pointer none)),(some 39,t3),(some 4,t4)] R) w fun t9 w =>
 opV Pg (Instr.makeMap 62 none) (outQ Pg ds [(none,(Value.pointer none)),(some 39,t3),(some 4,t4)] R) w fun t10 w =>
 opV Pg (Instr.makeMap 63 none) (outQ Pg ds [(none,(Value.pointer none)),(some 39,t3),(some 4,t4)] R) w fun t11 w =>
 opV Pg (Instr.build 65 #[(0,t9),(1,t10),(2,t11),(3,(.int .i64 (-1))),(4,(.int .i64 (-1)))]) (outQ Pg ds [(none,(Value.pointer none)),(some 39,t3),(some 4,t4)] R) w fun t12 w =>
 opV Pg (Instr.box 65 t12) (outQ Pg ds [(none,(Value.pointer none)),(some 39,t3),(some 4,t4)] R) w fun t13 w =>
 opV Pg (Instr.makeFunc (.func 36) #[] #[t3,t4]) (outQ Pg ds [(none,t13),(some 39,t3),(some 4,t4)] R) w fun t14 w =>
 defK Pg t14 #[] ds w fun ds w =>
 opV Pg (Instr.fieldAt 24 t1 0) (outQ Pg ds [(none,t13),(some 39,t3),(some 4,t4)] R) w fun t16 w =>
 opV Pg (Instr.loadAt 9 t16) (outQ Pg ds [(none,t13),(some 39,t3),(some 4,t4)] R) w fun t17 w =>
 callK Pg 38 #[t17] (outQ Pg ds [(none,t13),(some 39,t3),(some 4,t4)] R) w fun t18 w =>
 callK Pg 37 #[t13,t18,(.int .i64 1)] (outQ Pg ds [(none,t13),(some 39,t3),(some 4,t4)] R) w fun t19 w =>
 n59c9 t1 t3 t4 t13 ds R w) []
theorem n59s {t0:Value} {R:RT} {w:World} (h:n59 t0 R w):Calls Pg 31 #[t0] w R:=by
 refine calls_of_denM (args:=[t0]) Tryz.func31 rfl (Nat.le_of_ble_eq_true rfl) ?_
 unfold n59 at h
 dsimp only at h
 refine zs<|zr ?_
 refine zq h fun t1 w h=>?_
 refine zm ?_
 refine zq h fun t3 w h=>?_
 refine zq h fun t4 w h=>?_
 refine zn<|zk<|zs<|zr ?_
 refine zq h fun t9 w h=>?_
 refine zq h fun t10 w h=>?_
 refine zq h fun t11 w h=>?_
 refine sim_build h rfl (fun _ _ h=>outQ_of rfl h) ?_;intro t12 w h
 refine zq h fun t13 w h=>?_
 refine zm<|zn<|zk<|zs<|zr ?_
 refine sim_makeFunc h rfl rfl (fun _ _ h=>outQ_of rfl h) ?_;intro t14 w h
 refine sim_defer h rfl rfl ?_;intro ds w h
 refine zn<|zk<|zs<|zr<|zm ?_
 refine zq h fun t16 w h=>?_
 refine zq h fun t17 w h=>?_
 refine sim_call h c38 rfl (fun _ _ h=>outQ_of rfl h) ?_;intro t18 w h
 refine sim_call h c37 rfl (fun _ _ h=>outQ_of rfl h) ?_;intro t19 w h
 refine zn<|zk<|zs<|sim_regionG ?_
 refine sim_seg 6 rfl ?_
 refine zm ?_
 refine zq h fun t21 w h=>?_
 refine zq h fun t22 w h=>?_
 refine sim_builtin h rfl (fun _ _ h=>outQ_of rfl h) ?_;intro t23 w h
 refine sim_bin h rfl rfl rfl (fun _ _ h=>outQ_of rfl h) ?_;intro t24 w h
 refine zm<|zn ?_
 refine joinK_elim h (fun K1 hK h=>?_)
 refine sim_groupJ 4 5 true [26,27,28,29] (fun ρ w=>K1 (ρ 29) w) rfl rfl (fun T hT=>guardP_mono h (fun h=>?_) (fun h=>?_)) (fun σ w h=>?_)
 · refine zq h fun t26 w h=>?_
   refine zq h fun t27 w h=>?_
   refine sim_builtin h rfl (fun _ _ h=>outQ_of rfl h) ?_;intro t28 w h
   refine sim_bin h rfl rfl rfl (fun _ _ h=>outQ_of rfl h) ?_;intro t29 w h
   refine zn ?_
   exact zt hT h
 · exact zt hT h
 subst hK
 refine sim_seg 2 rfl ?_
 refine sim_pick h rfl rfl rfl ?_;intro t30 h
 refine sim_call h c37 rfl (fun _ _ h=>outQ_of rfl h) ?_;intro t31 w h
 refine zn<|sim_end<|zk<|zs<|zs<|zr ?_
 refine zq h fun t32 w h=>?_
 refine zq h fun t33 w h=>?_
 refine sim_builtin h rfl (fun _ _ h=>outQ_of rfl h) ?_;intro t34 w h
 refine zm<|zn<|zk<|sim_block ?_
 obtain ⟨I,μ,h0,hr⟩:=h
 refine sim_loop [5,6,35,36,37,38,39,40,41,42,43,44,45,46,47] (by kernel_rfl) (fun ρ w=>I (ρ 35) w) (fun ρ w=>μ (ρ 35) w) h0 (fun σ w hI=>?_)
 have h:=hr _ _ hI
 clear hr h0 hI
 refine zs<|zr ?_
 refine sim_bin h rfl rfl rfl (fun _ _ h=>outQ_of rfl h) ?_;intro t36 w h
 refine zn<|zk<|zs ?_
 refine sim_cond h rfl (fun h=>?_) (fun h=>?_)
 · refine sim_skip<|zk<|zs<|sim_block<|zs<|zr<|zm ?_
   refine zq h fun t38 w h=>?_
   refine zq h fun t39 w h=>?_
   refine zq h fun t6 w h=>?_
   refine zm ?_
   refine sim_unit h rfl rfl (fun _ _ h=>outQ_of rfl h) ?_;intro w h
   refine zn<|zk<|zs<|zr<|zm<|zm ?_
   refine sim_next h rfl rfl (fun _ _ h=>outQ_of rfl h) ?_;intro t42 w h
   refine zq h fun t43 w h=>?_
   refine sim_unit h rfl rfl (fun _ _ h=>outQ_of rfl h) ?_;intro w h
   refine zn<|zk<|zr<|zm ?_
   refine zq h fun t45 w h=>?_
   refine sim_call h c39 rfl (fun _ _ h=>outQ_of rfl h) ?_;intro t46 w h
   refine zn<|sim_block_normal<|zk<|zr ?_
   refine sim_bin h rfl rfl rfl (fun _ _ h=>outQ_of rfl h) ?_;intro t47 w h
   refine zm<|zn<|zk ?_
   exact ⟨rfl,h⟩
 · refine sim_exit<|sim_then_exit<|sim_then_exit<|sim_block_hit<|zk<|zs<|zr<|zm ?_
   refine sim_next h rfl rfl (fun _ _ h=>outQ_of rfl h) ?_;intro t49 w h
   refine zq h fun t50 w h=>?_
   refine sim_unit h rfl rfl (fun _ _ h=>outQ_of rfl h) ?_;intro w h
   refine zn<|zk<|zs ?_
   obtain ⟨C3,hC,h⟩:=h
   refine sim_draw [7,8,51,52,53,54,55,56,57,58,59,60] (by kernel_rfl) (by kernel_rfl) C3 ?_
   refine zw 0 hC ?_
   obtain ⟨t53,hv,h⟩:=h
   refine sim_dsilent 1 hC rfl (by kernel_rfl) (by kernel_rfl) (fun _ _=>rfl) rfl (Sw.qN_run rfl hv) ?_
   refine ze 2 hC h fun t54 h=>?_
   refine ze 3 hC h fun t55 h=>?_
   refine ze 4 hC h fun t56 h=>?_
   refine ze 5 hC h fun t57 h=>?_
   refine ze 6 hC h fun t58 h=>?_
   refine zw 7 hC ?_
   refine ze 8 hC h fun t59 h=>?_
   refine ze 9 hC h fun t60 h=>?_
   refine zw 10 hC ?_
   refine zw 11 hC ?_
   refine sim_dend (by kernel_rfl) ?_
   refine zk<|zs<|zr<|zm<|zm ?_
   refine sim_call h c37 rfl (fun _ _ h=>outQ_of rfl h) ?_;intro t63 w h
   refine zn<|zk<|zs<|zr<|zm ?_
   refine sim_build h rfl (fun _ _ h=>outQ_of rfl h) ?_;intro t65 w h
   refine zm ?_
   refine sim_unit h rfl rfl (fun _ _ h=>outQ_of rfl h) ?_;intro w h
   refine sim_unit h rfl rfl (fun _ _ h=>outQ_of rfl h) ?_;intro w h
   refine zn<|zk<|sim_ret ?_
   exact Sw.bodyM_ret rfl h
end Go.Proofs.YtiajhbbmgglmlaaGreat
namespace Go.Proofs.YtiajhbbmgglmlaaGreat
open Sw
open Go.RowKit (intOf Below)
theorem Clone_Term_ret (w0:World) (v:Value) (css:List (Cs 2)) (hs:SliceOf w0 2 (fun _ cs x=>cs=x.1) v css) (h1:∀ x∈css,∀ u∈x.1,u.oneCell'=true) (hb:css.length≤1048576) :
 Ret Pg 29 #[v] w0 fun r w'=>OwnE w' w0.heap.size 78 2 Subtype.val r css∧Ext w0 w':=by
 obtain ⟨A,c,rfl,hlc,hcm,hlm,hel⟩:=SliceOf.open hs
 refine n106s (R:=retR _) ?_;unfold n106
 simp (disch:=try exact DI) only [↓PR,QR,Int.reduceBEq,Int.reduceBNe,Int.reduceLT,Int.reduceLE,Int.reduceGT,Int.reduceGE,Int.reduceNeg]
 cases A with
 | none =>
  have:css=[]:=by
   cases css with
   | nil=>rfl
   | cons x l=>obtain ⟨_,_,_,h,_⟩:=hel 0 x rfl;cases h
  subst this
  simp only [Option.isNone_none]
  simp (disch:=try exact DI) only [↓PR,QR,Int.reduceBEq,Int.reduceBNe,Int.reduceLT,Int.reduceLE,Int.reduceGT,Int.reduceGE,Int.reduceNeg]
  exact ⟨OwnE.nil _ _ _ _ _,ee⟩
 | some a =>
  simp only [Option.isNone_some]
  simp (disch:=try exact DI) only [↓PR,QR,Int.reduceBEq,Int.reduceBNe,Int.reduceLT,Int.reduceLE,Int.reduceGT,Int.reduceGE,Int.reduceNeg]
  have hO:=OwnE.new w0 78 2 (Subtype.val:Cs 2→List Value) [] (fun x=>x.2) (by simp)
  simp only [List.flatMap_nil,List.length_nil] at hO
  have eW:Ext w0 (w0.alloc (.cells #[] 78)):=ee
  have hsz:w0.heap.size≤(w0.alloc (.cells #[] 78)).heap.size:=eW.size
  generalize w0.alloc (.cells #[] 78)=W at hO eW hsz ⊢
  cases hcs:css with
  | nil =>
   subst hcs
   simp only [List.length_nil]
   rw [op_append0 Tryz.underlying47 ty78 _ _ _ _ _ (Nat.le_refl 0)]
   simp (disch:=try exact DI) only [↓PR,QR,Int.reduceBEq,Int.reduceBNe,Int.reduceLT,Int.reduceLE,Int.reduceGT,Int.reduceGE,Int.reduceNeg]
   exact ⟨hO,eW⟩
  | cons x0 l0 =>
   obtain ⟨b,o,_,hA,_⟩:=hel 0 x0 (by rw [hcs];rfl)
   injection hA with hA
   subst hA
   rw [← hcs]
   refine op_appendE Tryz.underlying47 ty78 rfl (by decide) (fun x=>x.2) h1 hO (fun j x hx=>?_) hsz ?_ (by simp;omega) ?_
   · obtain ⟨b',o',cs,hA',hl',hE,rfl⟩:=hel j x hx
     injection hA' with hA'
     injection hA' with h3 h4
     subst h3 h4
     exact hE.ext eW
   · have:=by78
     rw [List.length_nil,Nat.zero_add]
     exact Nat.le_trans (Nat.mul_le_mul hb this) (by decide)
   · intro v' w' ho hg
     simp (disch:=try exact DI) only [↓PR,QR,Int.reduceBEq,Int.reduceBNe,Int.reduceLT,Int.reduceLE,Int.reduceGT,Int.reduceGE,Int.reduceNeg]
     refine ⟨ho,eW.grown hg ?_⟩
     intro k hk
     have h:=hO.lt k hk
     exact h.1
abbrev TT:TypeId:=78
abbrev TC:TypeId:=81
abbrev TF:TypeId:=52
abbrev TM:TypeId:=45
def EFieldN (w:World) (lo hi:Nat) (cs:List Value) (f:FieldD):Prop:=∃ tv cv,cs=fieldCells f tv cv∧OwnR w lo hi TT 2 (fun t:TermD=>termCells t) tv f.terms∧OwnR w lo hi TC 3 (fun c:CaseD=>caseCells c) cv f.cases
def FieldsN (w:World) (lo hi:Nat) (v:Value) (l:List FieldD):Prop:=∃ css:List (Cs 15),OwnR w lo hi TF 15 Subtype.val v css∧Mates 15 (EFieldN w lo hi) css l
def EMsgN (w:World) (lo hi:Nat) (cs:List Value) (m:MsgD):Prop:=∃ fv,cs=msgCells m fv∧FieldsN w lo hi fv m.fields
def MsgsN (w:World) (lo hi:Nat) (v:Value) (l:List MsgD):Prop:=∃ css:List (Cs 2),OwnR w lo hi TM 2 Subtype.val v css∧Mates 2 (EMsgN w lo hi) css l
def DefN (w:World) (lo hi:Nat) (v:Value) (d:DefD):Prop:=∃ mv,v = .agg (defCells d mv).toArray∧MsgsN w lo hi mv d.msgs
section
variable {w w':World} {lo hi lo' hi':Nat}
theorem EFieldN.ext {cs:List Value} {f:FieldD} (h:EFieldN w lo hi cs f) (e:Ext w w'):EFieldN w' lo hi cs f:=by obtain ⟨tv,cv,h1,h2,h3⟩:=h;exact ⟨tv,cv,h1,h2.ext e,h3.ext e⟩
theorem FieldsN.ext {v:Value} {l:List FieldD} (h:FieldsN w lo hi v l) (e:Ext w w'):FieldsN w' lo hi v l:=by obtain ⟨css,h1,h2⟩:=h;exact ⟨css,h1.ext e,h2.imp fun _ _ h=>h.ext e⟩
theorem EMsgN.ext {cs:List Value} {m:MsgD} (h:EMsgN w lo hi cs m) (e:Ext w w'):EMsgN w' lo hi cs m:=by obtain ⟨fv,h1,h2⟩:=h;exact ⟨fv,h1,h2.ext e⟩
theorem MsgsN.ext {v:Value} {l:List MsgD} (h:MsgsN w lo hi v l) (e:Ext w w'):MsgsN w' lo hi v l:=by obtain ⟨css,h1,h2⟩:=h;exact ⟨css,h1.ext e,h2.imp fun _ _ h=>h.ext e⟩
theorem DefN.ext {v:Value} {d:DefD} (h:DefN w lo hi v d) (e:Ext w w'):DefN w' lo hi v d:=by obtain ⟨mv,h1,h2⟩:=h;exact ⟨mv,h1,h2.ext e⟩
theorem EFieldN.mono {cs:List Value} {f:FieldD} (h:EFieldN w lo hi cs f) (h1:lo'≤lo) (h2:hi≤hi'):EFieldN w lo' hi' cs f:=by obtain ⟨tv,cv,a,b,c⟩:=h;exact ⟨tv,cv,a,b.mono h1 h2,c.mono h1 h2⟩
theorem FieldsN.mono {v:Value} {l:List FieldD} (h:FieldsN w lo hi v l) (h1:lo'≤lo) (h2:hi≤hi'):FieldsN w lo' hi' v l:=by obtain ⟨css,a,b⟩:=h;exact ⟨css,a.mono h1 h2,b.imp fun _ _ h=>h.mono h1 h2⟩
theorem EMsgN.mono {cs:List Value} {m:MsgD} (h:EMsgN w lo hi cs m) (h1:lo'≤lo) (h2:hi≤hi'):EMsgN w lo' hi' cs m:=by obtain ⟨fv,a,b⟩:=h;exact ⟨fv,a,b.mono h1 h2⟩
theorem MsgsN.mono {v:Value} {l:List MsgD} (h:MsgsN w lo hi v l) (h1:lo'≤lo) (h2:hi≤hi'):MsgsN w lo' hi' v l:=by obtain ⟨css,a,b⟩:=h;exact ⟨css,a.mono h1 h2,b.imp fun _ _ h=>h.mono h1 h2⟩
def Harmless (w:World) (lo hi b:Nat) (Ts:List TypeId):Prop:=hi≤b∨b < lo∨∃ T',TypeAt w b T'∧∀ T∈Ts,T'≠T
theorem Harmless.one {b:Nat} {Ts:List TypeId} (h:Harmless w lo hi b Ts) {T:TypeId} (hT:T∈Ts):hi≤b∨b < lo∨∃ T',TypeAt w b T'∧T'≠T:=by
 rcases h with h | h | ⟨T',h1,h2⟩
 · exact .inl h
 · exact .inr (.inl h)
 · exact .inr (.inr ⟨T',h1,h2 T hT⟩)
theorem Harmless.sub {b:Nat} {Ts Ts':List TypeId} (h:Harmless w lo hi b Ts) (hs:∀ T∈Ts',T∈Ts):Harmless w lo hi b Ts':=by
 rcases h with h | h | ⟨T',h1,h2⟩
 · exact .inl h
 · exact .inr (.inl h)
 · exact .inr (.inr ⟨T',h1,fun T hT=>h2 T (hs T hT)⟩)
theorem EFieldN.only {b:Nat} {cs:List Value} {f:FieldD} (h:EFieldN w lo hi cs f) (ho:Only b w w') (hb:Harmless w lo hi b [TT,TC]):EFieldN w' lo hi cs f:=by
 obtain ⟨tv,cv,h1,h2,h3⟩:=h
 exact ⟨tv,cv,h1,h2.only ho (hb.one (by simp)),h3.only ho (hb.one (by simp))⟩
theorem FieldsN.only {b:Nat} {v:Value} {l:List FieldD} (h:FieldsN w lo hi v l) (ho:Only b w w') (hb:Harmless w lo hi b [TT,TC,TF]):FieldsN w' lo hi v l:=by
 obtain ⟨css,h1,h2⟩:=h
 exact ⟨css,h1.only ho (hb.one (by simp)),h2.imp fun _ _ h=>h.only ho (hb.sub (by simp))⟩
theorem EMsgN.only {b:Nat} {cs:List Value} {m:MsgD} (h:EMsgN w lo hi cs m) (ho:Only b w w') (hb:Harmless w lo hi b [TT,TC,TF]):EMsgN w' lo hi cs m:=by
 obtain ⟨fv,h1,h2⟩:=h;exact ⟨fv,h1,h2.only ho hb⟩
theorem EFieldN.plain {cs:List Value} {f:FieldD} (h:EFieldN w lo hi cs f):EField w cs f:=by
 obtain ⟨tv,cv,h1,h2,h3⟩:=h
 exact ⟨tv,cv,h1,h2.1.slice (fun _=>rfl) (fun _ _=>rfl),h3.1.slice (fun _=>rfl) (fun _ _=>rfl)⟩
theorem FieldsN.plain {v:Value} {l:List FieldD} (h:FieldsN w lo hi v l):FieldsOf w v l:=by
 obtain ⟨css,h1,h2⟩:=h;exact h1.1.reads (h2.imp fun _ _ h=>h.plain)
theorem EMsgN.plain {cs:List Value} {m:MsgD} (h:EMsgN w lo hi cs m):EMsg w cs m:=by
 obtain ⟨fv,h1,h2⟩:=h;exact ⟨fv,h1,h2.plain⟩
theorem MsgsN.plain {v:Value} {l:List MsgD} (h:MsgsN w lo hi v l):MsgsOf w v l:=by
 obtain ⟨css,h1,h2⟩:=h;exact h1.1.reads (h2.imp fun _ _ h=>h.plain)
theorem DefN.plain {v:Value} {d:DefD} (h:DefN w lo hi v d):DefVal w v d:=by
 obtain ⟨mv,h1,h2⟩:=h;exact ⟨mv,h1,h2.plain⟩
end
theorem MsgsN.only {w w':World} {lo hi b:Nat} {v:Value} {l:List MsgD} (h:MsgsN w lo hi v l) (ho:Only b w w') (hb:Harmless w lo hi b [TT,TC,TF,TM]):MsgsN w' lo hi v l:=by
 obtain ⟨css,h1,h2⟩:=h
 exact ⟨css,h1.only ho (hb.one (by simp)),h2.imp fun _ _ h=>h.only ho (hb.sub (by simp))⟩
theorem EMsg.one {w:World} {cs:List Value} {m:MsgD} (h:EMsg w cs m):∀ u∈cs,u.oneCell'=true:=by
 obtain ⟨fv,rfl,h1⟩:=h
 have:=h1.oneCell
 intro u hu
 simp only [List.mem_cons,List.not_mem_nil,or_false] at hu
 rcases hu with rfl | rfl
 · rfl
 · exact this
theorem EField.one {w:World} {cs:List Value} {f:FieldD} (h:EField w cs f):∀ u∈cs,u.oneCell'=true:=by
 obtain ⟨tv,cv,rfl,h1,h2⟩:=h
 have h1:=h1.oneCell
 have h2:=h2.oneCell
 intro u hu
 simp only [List.mem_cons,List.not_mem_nil,or_false] at hu
 rcases hu with rfl | rfl | rfl | rfl | rfl | rfl | rfl | rfl | rfl | rfl | rfl | rfl | rfl | rfl | rfl<;>first | rfl | assumption
theorem ETerm.one {w:World} {cs:List Value} {t:TermD} (h:ETerm w cs t):∀ u∈cs,u.oneCell'=true:=by
 obtain rfl:=h
 intro u hu
 simp only [List.mem_cons,List.not_mem_nil,or_false] at hu
 rcases hu with rfl | rfl<;>rfl
theorem ECase.one {w:World} {cs:List Value} {t:CaseD} (h:ECase w cs t):∀ u∈cs,u.oneCell'=true:=by
 obtain rfl:=h
 intro u hu
 simp only [List.mem_cons,List.not_mem_nil,or_false] at hu
 rcases hu with rfl | rfl | rfl<;>rfl
end Go.Proofs.YtiajhbbmgglmlaaGreat
namespace Go.Proofs.YtiajhbbmgglmlaaGreat
open Sw
def n11c1 (t0 t3 t28 t34:Value) (next3:KV) (R:RT) (w:World):Prop :=
 pickK t28 t34 (.bool false) fun t35 =>
 joinK (fun (t40:Value) (w:World) =>
 pickK t35 t40 (.bool false) fun t41 =>
 condP t41 (
 R (.returned (.bool false)) w) (
 B0 .add 3 true t3 (.int .i64 1) R w fun t23 w =>
 next3 t23 w)) fun K5 =>
 guardP t35 true (
 opV Pg (Instr.index 9 t0 t3) (panK R) w fun t39 w =>
 opV Pg (binS .neq 5 true t39 (.int .u8 95)) (panK R) w fun t40 w =>
 K5 t40 w) (
 K5 undef w)
def n11c2 (t0 t3 t27:Value) (next3:KV) (R:RT) (w:World):Prop :=
 opV Pg (Op.unary .not t27) (panK R) w fun t28 w =>
 joinK (fun (t34:Value) (w:World) =>
 n11c1 t0 t3 t28 t34 next3 R w) fun K4 =>
 guardP t28 true (
 opV Pg (Instr.index 9 t0 t3) (panK R) w fun t32 w =>
 C0 41 #[t32] R w fun t33 w =>
 opV Pg (Op.unary .not t33) (panK R) w fun t34 w =>
 K4 t34 w) (
 K4 undef w)
def n11c3 (t0 t3:Value) (next3:KV) (R:RT) (w:World):Prop :=
 opV Pg (Builtin.len_ #[9] 3 #[t0]) (panK R) w fun t20 w =>
 B0 .lss 3 false t3 t20 R w fun t21 w =>
 condP t21 (
 opV Pg (Instr.index 9 t0 t3) (panK R) w fun t26 w =>
 C0 40 #[t26] R w fun t27 w =>
 n11c2 t0 t3 t27 next3 R w) (
 R (.returned (.bool true)) w)
def n11c4 (t0 t6 t10:Value) (R:RT) (w:World):Prop :=
 pickK t6 (.bool true) t10 fun t11 =>
 joinK (fun (t16:Value) (w:World) =>
 pickK t11 (.bool true) t16 fun t17 =>
 condP t17 (
 R (.returned (.bool false)) w) (
 loop1 (fun t3 w next3 =>
 n11c3 t0 t3 next3 R w) (.int .i64 0) w)) fun K2 =>
 guardP t11 false (
 opV Pg (Instr.index 9 t0 (.int .i64 0)) (panK R) w fun t14 w =>
 C0 40 #[t14] R w fun t15 w =>
 opV Pg (Op.unary .not t15) (panK R) w fun t16 w =>
 K2 t16 w) (
 K2 undef w)
def n11 (t0:Value) (R:RT) (w:World):Prop :=
 opV Pg (Builtin.len_ #[9] 3 #[t0]) (panK R) w fun t5 w =>
 B0 .lss 3 true t5 (.int .i64 1) R w fun t6 w =>
 joinK (fun (t10:Value) (w:World) =>
 n11c4 t0 t6 t10 R w) fun K1 =>
 guardP t6 false (
 opV Pg (Builtin.len_ #[9] 3 #[t0]) (panK R) w fun t9 w =>
 B0 .gtr 3 true t9 (.int .i64 32) R w fun t10 w =>
 K1 t10 w) (
 K1 undef w)
theorem n11s {t0:Value} {R:RT} {w:World} (h:n11 t0 R w):Calls Pg 32 #[t0] w R:=by
 refine calls_of_den (args:=[t0]) Tryz.func32 rfl (Nat.le_of_ble_eq_true rfl) ?_
 unfold n11 at h
 refine zs<|zr<|zm<|zn<|zk<|zs<|zs<|sim_regionG ?_
 refine sim_seg 4 rfl ?_
 refine zm ?_
 refine zx h fun t5 w h=>?_
 refine zb h fun t6 w h=>?_
 refine zm<|zn ?_
 refine joinK_elim h (fun K1 hK h=>?_)
 refine sim_groupJ 3 3 false [8,9,10] (fun ρ w=>K1 (ρ 10) w) rfl rfl (fun T hT=>guardP_mono h (fun h=>?_) (fun h=>?_)) (fun σ w h=>?_)
 · refine zm ?_
   refine zx h fun t9 w h=>?_
   refine zb h fun t10 w h=>?_
   refine zn ?_
   exact zt hT h
 · exact zt hT h
 subst hK
 refine sim_seg 2 rfl ?_
 refine sim_pick h rfl rfl rfl ?_;intro t11 h
 refine zm<|zn ?_
 refine joinK_elim h (fun K2 hK h=>?_)
 refine sim_groupJ 4 8 false [13,14,15,16] (fun ρ w=>K2 (ρ 16) w) rfl rfl (fun T hT=>guardP_mono h (fun h=>?_) (fun h=>?_)) (fun σ w h=>?_)
 · refine zm ?_
   refine zv h fun t14 w h=>?_
   refine zc h c40 fun t15 w h=>?_
   refine zv h fun t16 w h=>?_
   refine zn ?_
   exact zt hT h
 · exact zt hT h
 subst hK
 refine sim_seg 1 rfl ?_
 refine sim_pick h rfl rfl rfl ?_;intro t17 h
 refine zn<|sim_end<|zk ?_
 refine sim_cond h rfl (fun h=>?_) (fun h=>?_)
 · refine zs<|zr<|zm<|zn<|zk<|sim_ret<|sim_then_ret ?_
   exact body_ret1 rfl rfl h
 · refine sim_skip<|zk<|zs<|zs<|zr<|zm<|zn<|zk<|sim_block ?_
   obtain ⟨I,μ,h0,hr⟩:=h
   refine sim_loop [2,3,18,19,20,21,22,23,24,25,26,27,28,29,30,31,32,33,34,35,36,37,38,39,40,41] (by kernel_rfl) (fun ρ w=>I (ρ 3) w) (fun ρ w=>μ (ρ 3) w) h0 (fun σ w hI=>?_)
   have h:=hr _ _ hI
   clear hr h0 hI
   refine zs<|zs<|zr<|zm<|zm ?_
   refine zx h fun t20 w h=>?_
   refine zb h fun t21 w h=>?_
   refine zn<|zk ?_
   refine sim_cond h rfl (fun h=>?_) (fun h=>?_)
   · refine sim_skip<|zk<|zs<|sim_block<|zs<|sim_regionG ?_
     refine sim_seg 6 rfl ?_
     refine zm<|zm ?_
     refine zv h fun t26 w h=>?_
     refine zc h c40 fun t27 w h=>?_
     refine zv h fun t28 w h=>?_
     refine zm<|zn ?_
     refine joinK_elim h (fun K4 hK h=>?_)
     refine sim_groupJ 5 5 true [30,31,32,33,34] (fun ρ w=>K4 (ρ 34) w) rfl rfl (fun T hT=>guardP_mono h (fun h=>?_) (fun h=>?_)) (fun σ w h=>?_)
     · refine zm<|zm ?_
       refine zv h fun t32 w h=>?_
       refine zc h c41 fun t33 w h=>?_
       refine zv h fun t34 w h=>?_
       refine zn ?_
       exact zt hT h
     · exact zt hT h
     subst hK
     refine sim_seg 2 rfl ?_
     refine sim_pick h rfl rfl rfl ?_;intro t35 h
     refine zm<|zn ?_
     refine joinK_elim h (fun K5 hK h=>?_)
     refine sim_groupJ 4 12 true [37,38,39,40] (fun ρ w=>K5 (ρ 40) w) rfl rfl (fun T hT=>guardP_mono h (fun h=>?_) (fun h=>?_)) (fun σ w h=>?_)
     · refine zm<|zm ?_
       refine zv h fun t39 w h=>?_
       refine zb h fun t40 w h=>?_
       refine zn ?_
       exact zt hT h
     · exact zt hT h
     subst hK
     refine sim_seg 1 rfl ?_
     refine sim_pick h rfl rfl rfl ?_;intro t41 h
     refine zn<|sim_end<|zk ?_
     refine sim_cond h rfl (fun h=>?_) (fun h=>?_)
     · refine zs<|zr<|zm<|zn<|zk<|sim_ret<|sim_block_ret<|sim_then_ret<|sim_then_ret<|sim_block_ret<|sim_then_ret ?_
       exact body_ret1 rfl rfl h
     · refine sim_skip<|sim_block_normal<|zk<|zr<|zm ?_
       refine zb h fun t23 w h=>?_
       refine zm<|zn<|zk ?_
       exact ⟨rfl,h⟩
   · refine sim_exit<|sim_then_exit<|sim_then_exit<|sim_block_hit<|zk<|zs<|zr<|zm<|zn<|zk<|sim_ret ?_
     exact body_ret1 rfl rfl h
def n26c1 (t1 t2 t3 t40:Value) (R:RT) (w:World):Prop :=
 opV Pg (Op.unary .not t40) (panK R) w fun t41 w =>
 condP t41 (
 R (.returned (.int .i64 5)) w) (
 L0 24 t3 R w fun t42 w =>
 C0 44 #[t42,t1,t2] R w fun t45 w =>
 R (.returned t45) w)
def n26c2 (t1 t2 t3 t7 t33 t37:Value) (R:RT) (w:World):Prop :=
 pickK t33 (.bool true) t37 fun t38 =>
 condP t38 (
 R (.returned (.int .i64 4)) w) (
 L0 52 t7 R w fun t39 w =>
 C0 43 #[t39] R w fun t40 w =>
 n26c1 t1 t2 t3 t40 R w)
def n26c3 (t1 t2 t3 t7:Value) (R:RT) (w:World):Prop :=
 F0 52 t7 1 R w fun t31 w =>
 L0 46 t31 R w fun t32 w =>
 B0 .lss 46 true t32 (.int .i64 1) R w fun t33 w =>
 joinK (fun (t37:Value) (w:World) =>
 n26c2 t1 t2 t3 t7 t33 t37 R w) fun K2 =>
 guardP t33 false (
 F0 52 t7 1 R w fun t35 w =>
 L0 46 t35 R w fun t36 w =>
 B0 .gtr 46 true t36 (.int .i64 12) R w fun t37 w =>
 K2 t37 w) (
 K2 undef w)
def n26c4 (t1 t2 t3 t7:Value) (C1:World→Prop) (R:RT) (w:World):Prop :=
 qV Pg C1 (Instr.fieldAt 24 t3 1) fun t21 =>
 qV Pg C1 (Instr.loadAt 22 t21) fun t22 =>
 qV Pg C1 (Instr.indexAt 22 t22 t1) fun t24 =>
 qV Pg C1 (Instr.loadAt 45 t24) fun t25 =>
 qV Pg C1 (Instr.fieldAt 52 t7 0) fun t26 =>
 qV Pg C1 (Instr.loadAt 9 t26) fun t27 =>
 C0 42 #[t25,t27,t2] R w fun t29 w =>
 C1 w∧(
 qV Pg C1 (binS .geq 3 true t29 (.int .i64 0)) fun t30 =>
 condP t30 (
 R (.returned (.int .i64 2)) w) (
 n26c3 t1 t2 t3 t7 R w))
def n26 (t0 t1 t2:Value) (R:RT) (w:World):Prop :=
 opV Pg (Instr.box 24 t0) (panK R) w fun t3 w =>
 F0 24 t3 1 R w fun t8 w =>
 L0 22 t8 R w fun t9 w =>
 X0 22 t9 t1 R w fun t11 w =>
 F0 45 t11 1 R w fun t12 w =>
 L0 43 t12 R w fun t13 w =>
 X0 43 t13 t2 R w fun t15 w =>
 L0 52 t15 R w fun t16 w =>
 opV Pg (Instr.alloc 52 true (.tuple #[])) (panK R) w fun t7 w =>
 opU Pg (Instr.storeAt 52 t7 t16) (panK R) w fun w =>
 F0 52 t7 0 R w fun t17 w =>
 L0 9 t17 R w fun t18 w =>
 C0 32 #[t18] R w fun t19 w =>
 opV Pg (Op.unary .not t19) (panK R) w fun t20 w =>
 condP t20 (
 R (.returned (.int .i64 1)) w) (
 drawK w fun C1 w =>
 n26c4 t1 t2 t3 t7 C1 R w)
theorem n26s {t0 t1 t2:Value} {R:RT} {w:World} (h:n26 t0 t1 t2 R w):Calls Pg 33 #[t0,t1,t2] w R:=by
 refine calls_of_den (args:=[t0,t1,t2]) Tryz.func33 rfl (Nat.le_of_ble_eq_true rfl) ?_
 unfold n26 at h
 refine zs<|zr ?_
 refine zv h fun t3 w h=>?_
 refine zm<|zn<|zk<|zs<|zr ?_
 refine zv h fun t8 w h=>?_
 refine zv h fun t9 w h=>?_
 refine zm ?_
 refine zv h fun t11 w h=>?_
 refine zv h fun t12 w h=>?_
 refine zv h fun t13 w h=>?_
 refine zm ?_
 refine zv h fun t15 w h=>?_
 refine zv h fun t16 w h=>?_
 refine zv h fun t7 w h=>?_
 refine zu h fun w h=>?_
 refine zn<|zk<|zs<|zs<|zr ?_
 refine zv h fun t17 w h=>?_
 refine zv h fun t18 w h=>?_
 refine zc h c32 fun t19 w h=>?_
 refine zv h fun t20 w h=>?_
 refine zn<|zk ?_
 refine sim_cond h rfl (fun h=>?_) (fun h=>?_)
 · refine zs<|zr<|zm<|zn<|zk<|sim_ret<|sim_then_ret ?_
   exact body_ret1 rfl rfl h
 · refine sim_skip<|zk<|zs<|zs ?_
   obtain ⟨C1,hC,h⟩:=h
   refine sim_draw [21,22,23,24,25,26,27,28,29,30] (by kernel_rfl) (by kernel_rfl) C1 ?_
   refine ze 0 hC h fun t21 h=>?_
   refine ze 1 hC h fun t22 h=>?_
   refine zw 2 hC ?_
   refine ze 3 hC h fun t24 h=>?_
   refine ze 4 hC h fun t25 h=>?_
   refine ze 5 hC h fun t26 h=>?_
   refine ze 6 hC h fun t27 h=>?_
   refine zw 7 hC ?_
   refine sim_dloud 8 rfl (by kernel_rfl) (fun _ _=>rfl) ?_
   refine sim_call h c42 rfl (fun _ _ h _ _=>⟨rfl,h⟩) ?_;intro t29 w h
   refine zn ?_
   obtain ⟨hC,h⟩:=h
   refine ⟨hC,?_⟩
   obtain ⟨t30,hv,h⟩:=h
   refine sim_dsilent 9 hC rfl (by kernel_rfl) (by kernel_rfl) (fun _ _=>rfl) rfl (Sw.qV_bin rfl rfl rfl hv) ?_
   refine sim_dend (by kernel_rfl) ?_
   refine zk ?_
   refine sim_cond h rfl (fun h=>?_) (fun h=>?_)
   · refine zs<|zr<|zm<|zn<|zk<|sim_ret<|sim_then_ret ?_
     exact body_ret1 rfl rfl h
   · refine sim_skip<|zk<|zs<|zs<|sim_regionG ?_
     refine sim_seg 4 rfl ?_
     refine zv h fun t31 w h=>?_
     refine zv h fun t32 w h=>?_
     refine zb h fun t33 w h=>?_
     refine zm<|zn ?_
     refine joinK_elim h (fun K2 hK h=>?_)
     refine sim_groupJ 3 3 false [35,36,37] (fun ρ w=>K2 (ρ 37) w) rfl rfl (fun T hT=>guardP_mono h (fun h=>?_) (fun h=>?_)) (fun σ w h=>?_)
     · refine zv h fun t35 w h=>?_
       refine zv h fun t36 w h=>?_
       refine zb h fun t37 w h=>?_
       refine zn ?_
       exact zt hT h
     · exact zt hT h
     subst hK
     refine sim_seg 1 rfl ?_
     refine sim_pick h rfl rfl rfl ?_;intro t38 h
     refine zn<|sim_end<|zk ?_
     refine sim_cond h rfl (fun h=>?_) (fun h=>?_)
     · refine zs<|zr<|zm<|zn<|zk<|sim_ret<|sim_then_ret ?_
       exact body_ret1 rfl rfl h
     · refine sim_skip<|zk<|zs<|zs<|zr ?_
       refine zv h fun t39 w h=>?_
       refine zc h c43 fun t40 w h=>?_
       refine zv h fun t41 w h=>?_
       refine zn<|zk ?_
       refine sim_cond h rfl (fun h=>?_) (fun h=>?_)
       · refine zs<|zr<|zm<|zn<|zk<|sim_ret<|sim_then_ret ?_
         exact body_ret1 rfl rfl h
       · refine sim_skip<|zk<|zs<|zr ?_
         refine zv h fun t42 w h=>?_
         refine zm<|zm ?_
         refine zc h c44 fun t45 w h=>?_
         refine zm<|zn<|zk<|sim_ret ?_
         exact body_ret1 rfl rfl h
def n88c1 (t5 t6 t8:Value) (K2:World→Prop) (R:RT) (w:World):Prop :=
 F0 52 t5 0 R w fun t23 w =>
 L0 9 t23 R w fun t24 w =>
 L0 58 t6 R w fun t25 w =>
 opU Pg (Instr.mapUpdate 55 t8 t24 t25) (panK R) w fun w =>
 K2 w
def n88c2 (t5 t8 t11 t17:Value) (next1:KV) (R:RT) (w:World):Prop :=
 opV Pg (Instr.extract t17 0) (panK R) w fun t18 w =>
 opV Pg (Instr.extract t17 1) (panK R) w fun t19 w =>
 opV Pg (Instr.alloc 58 true (.tuple #[])) (panK R) w fun t6 w =>
 opU Pg (Instr.storeAt 58 t6 t18) (panK R) w fun w =>
 B0 .eql 27 true t19 (.int .i64 0) R w fun t21 w =>
 joinK (fun (w:World) =>
 B0 .add 3 true t11 (.int .i64 1) R w fun t26 w =>
 next1 t26 w) fun K2 =>
 condP t21 (
 n88c1 t5 t6 t8 K2 R w) (
 K2 w)
def n88c3 (t0 t8 t11:Value) (next1:KV) (R:RT) (w:World):Prop :=
 X0 43 t0 t11 R w fun t13 w =>
 L0 52 t13 R w fun t14 w =>
 opV Pg (Instr.alloc 52 true (.tuple #[])) (panK R) w fun t5 w =>
 opU Pg (Instr.storeAt 52 t5 t14) (panK R) w fun w =>
 L0 52 t5 R w fun t16 w =>
 C0 47 #[t16] R w fun t17 w =>
 n88c2 t5 t8 t11 t17 next1 R w
def n88 (t0:Value) (R:RT) (w:World):Prop :=
 opV Pg (Instr.makeMap 55 none) (panK R) w fun t8 w =>
 opV Pg (Builtin.len_ #[43] 3 #[t0]) (panK R) w fun t10 w =>
 loop1 (fun t11 w next1 =>
 B0 .lss 3 false t11 t10 R w fun t12 w =>
 condP t12 (
 n88c3 t0 t8 t11 next1 R w) (
 R (.returned t8) w)) (.int .i64 0) w
theorem n88s {t0:Value} {R:RT} {w:World} (h:n88 t0 R w):Calls Pg 35 #[t0] w R:=by
 refine calls_of_den (args:=[t0]) Tryz.func35 rfl (Nat.le_of_ble_eq_true rfl) ?_
 unfold n88 at h
 refine zs<|zr<|zm<|zn<|zk<|zs<|zr ?_
 refine zv h fun t8 w h=>?_
 refine zm<|zn<|zk<|zs<|zs<|zr<|zm ?_
 refine zx h fun t10 w h=>?_
 refine zm<|zn<|zk<|sim_block ?_
 obtain ⟨I,μ,h0,hr⟩:=h
 refine sim_loop [5,6,7,11,12,13,14,15,16,17,18,19,20,21,22,23,24,25,26] (by kernel_rfl) (fun ρ w=>I (ρ 11) w) (fun ρ w=>μ (ρ 11) w) h0 (fun σ w hI=>?_)
 have h:=hr _ _ hI
 clear hr h0 hI
 refine zs<|zr ?_
 refine zb h fun t12 w h=>?_
 refine zn<|zk<|zs ?_
 refine sim_cond h rfl (fun h=>?_) (fun h=>?_)
 · refine sim_skip<|zk<|zs<|sim_block<|zs<|zr ?_
   refine zv h fun t13 w h=>?_
   refine zv h fun t14 w h=>?_
   refine zv h fun t5 w h=>?_
   refine zu h fun w h=>?_
   refine zn<|zk<|zs<|zr ?_
   refine zv h fun t16 w h=>?_
   refine zc h c47 fun t17 w h=>?_
   refine zm ?_
   refine zv h fun t18 w h=>?_
   refine zv h fun t19 w h=>?_
   refine zv h fun t6 w h=>?_
   refine zu h fun w h=>?_
   refine zm<|zn<|zk<|zs<|zr<|zm ?_
   refine zb h fun t21 w h=>?_
   refine zn<|zk ?_
   refine joinK_elim h (fun K2 hK h=>?_)
   refine sim_joinQ [22,23,24,25] (fun ρ w=>K2 w) (fun _ hkK2=>?_) (fun σ w h=>?_)
   · refine sim_cond h rfl (fun h=>?_) (fun h=>?_)
     · refine zr<|zm ?_
       refine zv h fun t23 w h=>?_
       refine zv h fun t24 w h=>?_
       refine zv h fun t25 w h=>?_
       refine zu h fun w h=>?_
       refine zn<|zk ?_
       exact zt hkK2 h
     · refine sim_skip<|zk ?_
       exact zt hkK2 h
   subst hK
   refine sim_block_normal<|zk<|zr ?_
   refine zb h fun t26 w h=>?_
   refine zm<|zn<|zk ?_
   exact ⟨rfl,h⟩
 · refine sim_exit<|sim_then_exit<|sim_then_exit<|sim_block_hit<|zk<|zs<|zr<|zm<|zm<|zn<|zk<|sim_ret ?_
   exact body_ret1 rfl rfl h
def n60c1 (t0 t1 t3:Value) (K1:World→Prop) (R:RT) (w:World):Prop :=
 opV Pg (Instr.typeAssert t3 20 39 true) (panK R) w fun t8 w =>
 opV Pg (Instr.extract t8 0) (panK R) w fun t9 w =>
 opV Pg (Instr.extract t8 1) (panK R) w fun t10 w =>
 opU Pg (Instr.storeAt 39 t0 t9) (panK R) w fun w =>
 opU Pg (Instr.storeAt 4 t1 t10) (panK R) w fun w =>
 L0 4 t1 R w fun t11 w =>
 opV Pg (Op.unary .not t11) (panK R) w fun t12 w =>
 condP t12 (
 opV Pg (Instr.panic t3) (panK R) w fun _ w =>
 False) (
 K1 w)
def n60 (t0 t1 t3:Value) (R:RT) (w:World):Prop :=
 opV Pg (binS .neq 20 true t3 .nilIface) (panK R) w fun t5 w =>
 joinK (fun (w:World) =>
 R (.returned (.tuple #[])) w) fun K1 =>
 condP t5 (
 n60c1 t0 t1 t3 K1 R w) (
 K1 w)
theorem n60s {t0 t1:Value} {u:FrameMode} {R:Ending→FrameMode→World→Prop} {w:World} (h:n60 t0 t1 (Sw.recM u).1 (fun e w=>R e (Sw.recM u).2 w) w):CallsDIn Fence.wide 0 Pg 36 #[t0,t1] u w R:=by
 refine calls_of_denR (args:=[t0,t1]) (d:=3) Tryz.func36 rfl (Nat.le_of_ble_eq_true rfl) rfl rfl rfl rfl ?_
 generalize (Sw.recM u).1=t3 at h ⊢
 generalize hR:(fun e w=>R e (Sw.recM u).2 w)=R' at h ⊢
 clear hR
 revert h
 generalize R'=R
 intro h
 unfold n60 at h
 refine zm<|zn<|zs<|zr<|zm ?_
 refine zb h fun t5 w h=>?_
 refine zn<|zk ?_
 refine joinK_elim h (fun K1 hK h=>?_)
 refine sim_joinQ [6,7,8,9,10,11,12,13] (fun ρ w=>K1 w) (fun _ hkK1=>?_) (fun σ w h=>?_)
 · refine sim_cond h rfl (fun h=>?_) (fun h=>?_)
   · refine zs<|zr<|zm ?_
     refine zv h fun t8 w h=>?_
     refine zm ?_
     refine zv h fun t9 w h=>?_
     refine zv h fun t10 w h=>?_
     refine zu h fun w h=>?_
     refine zu h fun w h=>?_
     refine zn<|zk<|zs<|zr ?_
     refine zv h fun t11 w h=>?_
     refine zv h fun t12 w h=>?_
     refine zn<|zk ?_
     refine sim_cond h rfl (fun h=>?_) (fun h=>?_)
     · refine zr<|zm ?_
       refine zv h fun _ w h=>?_
       refine zn ?_
       exact h.elim
     · refine sim_skip<|zk ?_
       exact zt hkK1 h
   · refine sim_skip<|zk ?_
     exact zt hkK1 h
 subst hK
 refine body_normal ?_
 exact body_ret0 rfl h
def n54c1 (t0 t2:Value) (C1:World→Prop) (R:RT) (w:World):Prop :=
 qN Pg C1 (nilN t0) fun t9 =>
 qV Pg C1 (Instr.fieldAt 65 t9 3) fun t10 =>
 qV Pg C1 (Instr.loadAt 3 t10) fun t11 =>
 qN Pg C1 (nilN t0) fun t13 =>
 qV Pg C1 (Instr.fieldAt 65 t13 4) fun t14 =>
 qV Pg C1 (Instr.loadAt 3 t14) fun t15 =>
 qV Pg C1 (Instr.build 39 #[(0,t11),(1,t15),(2,t2)]) fun t17 =>
 qV Pg C1 (Instr.makeInterface 39 t17) fun t18 =>
 opV Pg (Instr.panic t18) (panK R) w fun _ w =>
 False
def n54 (t0 t1 t2:Value) (R:RT) (w:World):Prop :=
 opV Pg (Op.unary .not t1) (panK R) w fun t7 w =>
 condP t7 (
 drawK w fun C1 w =>
 n54c1 t0 t2 C1 R w) (
 R (.returned (.tuple #[])) w)
theorem n54s {t0 t1 t2:Value} {R:RT} {w:World} (h:n54 t0 t1 t2 R w):Calls Pg 37 #[t0,t1,t2] w R:=by
 refine calls_of_den (args:=[t0,t1,t2]) Tryz.func37 rfl (Nat.le_of_ble_eq_true rfl) ?_
 unfold n54 at h
 refine zs<|zr<|zm ?_
 refine zv h fun t7 w h=>?_
 refine zn<|zk ?_
 refine sim_cond h rfl (fun h=>?_) (fun h=>?_)
 · obtain ⟨C1,hC,h⟩:=h
   refine sim_draw [8,9,10,11,12,13,14,15,16,17,18] (by kernel_rfl) (by kernel_rfl) C1 ?_
   refine zw 0 hC ?_
   obtain ⟨t9,hv,h⟩:=h
   refine sim_dsilent 1 hC rfl (by kernel_rfl) (by kernel_rfl) (fun _ _=>rfl) rfl (Sw.qN_run rfl hv) ?_
   refine ze 2 hC h fun t10 h=>?_
   refine ze 3 hC h fun t11 h=>?_
   refine zw 4 hC ?_
   obtain ⟨t13,hv,h⟩:=h
   refine sim_dsilent 5 hC rfl (by kernel_rfl) (by kernel_rfl) (fun _ _=>rfl) rfl (Sw.qN_run rfl hv) ?_
   refine ze 6 hC h fun t14 h=>?_
   refine ze 7 hC h fun t15 h=>?_
   refine zw 8 hC ?_
   obtain ⟨t17,hv,h⟩:=h
   refine sim_dsilent 9 hC rfl (by kernel_rfl) (by kernel_rfl) (fun _ _=>rfl) rfl (Sw.qV_build rfl hv) ?_
   refine ze 10 hC h fun t18 h=>?_
   refine sim_dloud 11 rfl (by kernel_rfl) (fun _ _=>rfl) ?_
   refine sim_val h rfl rfl (fun _ _ h _ _=>⟨rfl,h⟩) ?_;intro _ w h
   refine zn ?_
   exact h.elim
 · refine sim_skip ?_
   refine body_normal ?_
   exact body_ret0 rfl h
end Go.Proofs.YtiajhbbmgglmlaaGreat
namespace Go.Proofs.YtiajhbbmgglmlaaGreat
open Sw
open Go.RowKit (intOf Below)
def numPairs (l:List FieldD):List (ByteArray×Value):=(l.filter numberB).map fun f=>(f.name,rangeVal f.low (highOf f))
theorem numPairs_snoc (l:List FieldD) (f:FieldD):numPairs (l++[f])=numPairs l++(if numberB f then [(f.name,rangeVal f.low (highOf f))] else []):=by
 unfold numPairs
 rw [List.filter_append,List.map_append]
 cases h:numberB f<;>simp [List.filter_cons,h]
theorem take_snoc {α:Type} {l:List α} {k:Nat} {x:α} (hx:l[k]?=some x):l.take (k+1)=l.take k++[x]:=by
 rw [List.take_add_one,hx];rfl
theorem ranges_ret (w0:World) (v:Value) (l:List FieldD) (hs:FieldsOf w0 v l) :
 Ret Pg 35 #[v] w0 fun r w'=>∃ m,r = .map (some m)∧w0.heap.size≤m∧MapOf w' m (numPairs l)∧Ext w0 w':=by
 obtain ⟨A,c,rfl,hlc,hcm,hlm,hel⟩:=SliceOf.open hs
 refine n88s (R:=retR _) ?_;unfold n88
 simp (disch:=try exact DI) only [↓PR,QR,Int.reduceBEq,Int.reduceBNe,Int.reduceLT,Int.reduceLE,Int.reduceGT,Int.reduceGE,Int.reduceNeg]
 have hM0:=MapOf.new w0
 have e0:Ext w0 (w0.alloc (.map #[] 0)):=ee
 refine loop1_intro (fun a0 w=>∃ (k:Nat) , a0 = .int .i64 (k:Int)∧k≤l.length∧Ext w0 w∧MapOf w w0.heap.size (numPairs (l.take k))) (fun a0 _=>l.length - (intOf a0).toNat) ⟨0,rfl,Nat.zero_le _,ee,hM0⟩ ?_
 rintro _ w ⟨k,rfl,hk,e,hI⟩
 have se:=e.size
 rcases drop_cases hk with ⟨x,hx,hd,hlt,hdec⟩ | ⟨hk,hd,hdec⟩
 · obtain ⟨b,o,cs,rfl,hl,hA,hE⟩:=hel k x hx
   obtain ⟨tv,cv,rfl,hT,hC,ht1,hc1⟩:=hE.op
   have hlt2:=hI.lt
   simp (disch:=try exact DI) only [↓PR,QR,Int.reduceBEq,Int.reduceBNe,Int.reduceLT,Int.reduceLE,Int.reduceGT,Int.reduceGE,Int.reduceNeg,↓n88c1,↓n88c2,↓n88c3,hdec,hA.c15]
   refine zcr (Range_ret _ _ x ⟨tv,cv,rfl,TermsOf.ext hT ee,CasesOf.ext hC ee⟩) fun w1 e1=>?_
   have s1:=e1.size
   try simp only [World.size_alloc,World.size_setCell,World.size_drew,World.putObj_size,Sw.putW_size] at s1
   have hI1:=(hI.ext ((Ext.refl w).alloc _)).ext e1
   have hI2:∀ o,MapOf (w1.alloc o) w0.heap.size (numPairs (l.take k)):=fun o=>hI1.ext ((Ext.refl w1).alloc _)
   cases hn:numberB x with
   | false =>
    simp (disch:=try exact DI) only [↓PR,QR,Int.reduceBEq,Int.reduceBNe,Int.reduceLT,Int.reduceLE,Int.reduceGT,Int.reduceGE,Int.reduceNeg,↓n88c1,↓n88c2,↓n88c3,e1.cellQ,e1.frozenQ,rangeVal]
    have hf:=hI2 (.cells #[.int .i64 0,.int .i64 0] 58)
    rw [show numPairs (l.take k)=numPairs (l.take (k+1)) by rw [take_snoc hx,numPairs_snoc,hn];simp] at hf
    exact ⟨⟨k+1,rfl,by omega,ee,hf⟩,meas_lt hlt⟩
   | true =>
    simp (disch:=try exact DI) only [↓PR,QR,Int.reduceBEq,Int.reduceBNe,Int.reduceLT,Int.reduceLE,Int.reduceGT,Int.reduceGE,Int.reduceNeg,↓n88c1,↓n88c2,↓n88c3,e1.cellQ,e1.frozenQ,rangeVal]
    have hf:=hI2 (.cells #[.int .i64 x.low,.int .i64 (highOf x)] 58)
    rw [op_updateO Tryz.underlying55 Tryz.underlying9 hf]
    have hg:=hf.put x.name (rangeVal x.low (highOf x))
    have eg:Ext w0 (putW (w1.alloc (.cells #[.int .i64 x.low,.int .i64 (highOf x)] 58)) w0.heap.size (numPairs (l.take k)) x.name (rangeVal x.low (highOf x))):=Ext.putW ee (Nat.le_refl _) _ _
    rw [show numPairs (l.take k)++[(x.name,rangeVal x.low (highOf x))]=numPairs (l.take (k+1)) by rw [take_snoc hx,numPairs_snoc,hn];simp] at hg
    simp (disch:=try exact DI) only [↓PR,QR,Int.reduceBEq,Int.reduceBNe,Int.reduceLT,Int.reduceLE,Int.reduceGT,Int.reduceGE,Int.reduceNeg,↓n88c1,↓n88c2,↓n88c3]
    exact ⟨⟨k+1,rfl,by omega,ee,hg⟩,meas_lt hlt⟩
 · subst hk
   simp (disch:=try exact DI) only [↓PR,QR,Int.reduceBEq,Int.reduceBNe,Int.reduceLT,Int.reduceLE,Int.reduceGT,Int.reduceGE,Int.reduceNeg,↓n88c1,↓n88c2,↓n88c3,hdec]
   rw [List.take_length] at hI
   exact ⟨_,rfl,Nat.le_refl _,hI,e⟩
theorem Ranges_ret (w0:World) (v:Value) (m:MsgD) (hm:MsgVal w0 v m) :
 Ret Pg 19 #[v] w0 fun r w'=>∃ b,r = .map (some b)∧w0.heap.size≤b∧MapOf w' b (numPairs m.fields)∧Ext w0 w':=by
 obtain ⟨fv,rfl,hF⟩:=hm
 refine n43s (R:=retR _) ?_;unfold n43
 simp (disch:=try exact DI) only [↓PR,QR,Int.reduceBEq,Int.reduceBNe,Int.reduceLT,Int.reduceLE,Int.reduceGT,Int.reduceGE,Int.reduceNeg,Sw.joinK_eq]
 refine callK_ret (ranges_ret _ _ m.fields (hF.ext ee)) ?_
 rintro _ w1 ⟨b,rfl,hb,hM,e1⟩
 simp (disch:=try exact DI) only [↓PR,QR,Int.reduceBEq,Int.reduceBNe,Int.reduceLT,Int.reduceLE,Int.reduceGT,Int.reduceGE,Int.reduceNeg,Sw.joinK_eq]
 refine ⟨_,rfl,?_,hM,ee⟩
 simp at hb
 omega
def TermsAt (w:World) (pb:Nat) (tv:Value) (ts:List TermD):Prop:=w.cell? ⟨pb,0,none⟩=some tv∧TermsOf w tv ts∧∀ A m c,tv = .slice (some A) m c→pb < A.block
theorem TermsAt.ext {w w':World} {pb:Nat} {tv:Value} {ts:List TermD} (h:TermsAt w pb tv ts) (e:Ext w w'):TermsAt w' pb tv ts:=⟨e.cell h.1,TermsOf.ext h.2.1 e,h.2.2⟩
theorem TermsAt.set {w:World} {pb:Nat} {tv:Value} {ts:List TermD} (h:TermsAt w pb tv ts) {b o:Nat} (hb:b < pb) (u:Value):TermsAt (w.setCell ⟨b,o,none⟩ u) pb tv ts :=
 ⟨by rw [cell_set_other (by omega)];exact h.1,SliceOf.setOther h.2.1 u (fun A m c e=>by have:=h.2.2 A m c e;omega) (fun _ _ h=>h),h.2.2⟩
theorem Names_ret (w0:World) (v:Value) (base:Int) (ts:List TermD) (hs:SizeVal w0 v base ts) (hb:ts.length≤1048576) :
 Ret Pg 113 #[v] w0 fun r w'=>∃ pb tv,r = .func (.func 120) #[] #[.pointer (some ⟨pb,0,none⟩)]∧TermsAt w' pb tv (if sizeB base ts then ts else [])∧w0.heap.size≤pb∧Ext w0 w':=by
 obtain ⟨tv,rfl,hT⟩:=hs
 have ht1:=SliceOf.oneCell hT
 refine n96s (R:=retR _) ?_;unfold n96
 simp (disch:=try exact DI) only [↓PR,QR,Int.reduceBEq,Int.reduceBNe,Int.reduceLT,Int.reduceLE,Int.reduceGT,Int.reduceGE,Int.reduceNeg,↓n96c1]
 refine zcr (Valid_ret _ _ base ts ⟨tv,rfl,TermsOf.ext hT ee⟩) fun w1 e1=>?_
 have s1:=e1.size
 try simp only [World.size_alloc,World.size_setCell,World.size_drew,World.putObj_size,Sw.putW_size] at s1
 cases hv:sizeB base ts with
 | false =>
  simp (disch:=try exact DI) only [↓PR,QR,Int.reduceBEq,Int.reduceBNe,Int.reduceLT,Int.reduceLE,Int.reduceGT,Int.reduceGE,Int.reduceNeg,↓n96c1]
  refine ⟨_,_,rfl,⟨e1.cell (by simp (disch:=try exact DI) only [↓PR,QR,Int.reduceBEq,Int.reduceBNe,Int.reduceLT,Int.reduceLE,Int.reduceGT,Int.reduceGE,Int.reduceNeg]),SliceOf.nil _ _ _,fun A m c e=>by cases e⟩,by omega,ee⟩
 | true =>
  simp (disch:=try exact DI) only [↓PR,QR,Int.reduceBEq,Int.reduceBNe,Int.reduceLT,Int.reduceLE,Int.reduceGT,Int.reduceGE,Int.reduceNeg,↓n96c1,e1.cellQ,e1.frozenQ]
  obtain ⟨cssT,hrawT,hmatesT⟩:=SliceOf.raw hT
  refine callK_ret (Clone_Term_ret _ tv cssT (hrawT.ext keptRaw ee) (fun y hy=>by obtain ⟨m,_,hm⟩:=hmatesT.mem hy;exact hm.one) (by rw [hmatesT.1];exact hb)) ?_
  rintro t8 w2 ⟨hO,e2⟩
  have s2:=e2.size
  have hO':=OwnE.mates hO (hmatesT.imp fun _ _ h=>h)
  have hS:=hO'.slice (E:=ETerm) (fun _=>rfl) (fun _ _=>rfl)
  have h8:=SliceOf.oneCell hS
  have hTy:TypeAt w2 (w0.heap.size+1) 47:=(TypeAt.ext (w:=(w0.alloc _).alloc (.cells #[.slice none 0 0] 47)) ⟨_,_,by have:=heap_new (w0.alloc (.cells #[.int .i64 base,tv] 49)) #[.slice none 0 0] 47;rw [World.size_alloc] at this;exact this⟩ (e1.trans e2))
  simp (disch:=try exact DI) only [↓PR,QR,Int.reduceBEq,Int.reduceBNe,Int.reduceLT,Int.reduceLE,Int.reduceGT,Int.reduceGE,Int.reduceNeg,↓n96c1,e1.cellQ,e1.frozenQ,e2.cellQ,e2.frozenQ]
  have hS2:=((hO'.range.only (Only.setCell w2 (w0.heap.size+1) 0 t8) (.inr (.inl (by omega)))).1).slice (E:=ETerm) (fun _=>rfl) (fun _ _=>rfl)
  refine ⟨_,t8,rfl,⟨?_,hS2,fun A m c e=>by subst e;have:=hO'.lt A.block rfl;omega⟩,by omega,ee⟩
  simp (disch:=try exact DI) only [↓PR,QR,Int.reduceBEq,Int.reduceBNe,Int.reduceLT,Int.reduceLE,Int.reduceGT,Int.reduceGE,Int.reduceNeg,e1.cellQ,e1.frozenQ,e2.cellQ,e2.frozenQ]
def namesX (ts:List TermD) (k:Nat):Value:=match ts[k]? with
 | some t => .string t.field
 | none=>undef
theorem Names_seq (pb:Nat) (tv:Value) (ts:List TermD):SeqIt Pg 120 #[.pointer (some ⟨pb,0,none⟩)] ts.length (namesX ts) (fun w=>TermsAt w pb tv ts):=by
 intro yv J Jx Jp w hFP hJe hJx hstep h0
 obtain ⟨hc,hT,_⟩:=hFP 0 w h0
 obtain ⟨A,c,rfl,hlc,hcm,hlm,hel⟩:=SliceOf.open hT
 refine n97s (t0:=yv) (t1 := .pointer (some ⟨pb,0,none⟩)) ?_
 unfold n97
 simp (disch:=try exact DI) only [↓PR,QR,Int.reduceBEq,Int.reduceBNe,Int.reduceLT,Int.reduceLE,Int.reduceGT,Int.reduceGE,Int.reduceNeg,hc]
 refine loop1_intro (fun i w=>∃ k:Nat,i = .int .i64 k∧k≤ts.length∧J k w) (fun i _=>ts.length - (intOf i).toNat) ⟨0,rfl,by omega,h0⟩ ?_
 rintro i w' ⟨k,rfl,hk,hJ⟩
 rcases drop_cases hk with ⟨x,hx,hd,hlt,hdec⟩ | ⟨hk,hd,hdec⟩
 · obtain ⟨_,hT',_⟩:=hFP k w' hJ
   obtain ⟨A',c',hv,_,_,_,hel'⟩:=SliceOf.open hT'
   injection hv with hv _ hv'
   subst hv hv'
   obtain ⟨b,o,cs,rfl,hl,hA,rfl⟩:=hel' k x hx
   have er:=Ext.refl w'
   simp (disch:=try exact DI) only [↓PR,QR,Int.reduceBEq,Int.reduceBNe,Int.reduceLT,Int.reduceLE,Int.reduceGT,Int.reduceGE,Int.reduceNeg,↓n97c1,↓n97c2,hdec,hA.c2]
   have hs:=hstep k hlt _ (hJe k w' _ hJ ((Ext.refl w').alloc (.cells #[.string x.field,.int .i64 x.factor] 78)))
   rw [show namesX ts k = .string x.field by unfold namesX;rw [hx]] at hs
   refine callV_mono hs (fun ch w h=>h) ?_
   rintro v w2 (⟨rfl,h2⟩ | ⟨rfl,h2⟩)
   · simp (disch:=try exact DI) only [↓PR,QR,Int.reduceBEq,Int.reduceBNe,Int.reduceLT,Int.reduceLE,Int.reduceGT,Int.reduceGE,Int.reduceNeg,↓n97c1,↓n97c2]
     exact ⟨⟨k+1,rfl,by omega,h2⟩,meas_lt hlt⟩
   · simp (disch:=try exact DI) only [↓PR,QR,Int.reduceBEq,Int.reduceBNe,Int.reduceLT,Int.reduceLE,Int.reduceGT,Int.reduceGE,Int.reduceNeg,↓n97c1,↓n97c2]
     exact .inr h2
 · subst hk
   simp (disch:=try exact DI) only [↓PR,QR,Int.reduceBEq,Int.reduceBNe,Int.reduceLT,Int.reduceLE,Int.reduceGT,Int.reduceGE,Int.reduceNeg,↓n97c1,↓n97c2,hdec]
   exact .inl hJ
theorem TermsAt.lasts (B pb:Nat) (tv:Value) (ts:List TermD):Lasts B (fun w=>TermsAt w pb tv ts) :=
 Lasts.and (Lasts.cell B) (Lasts.and ⟨fun _ _ h e=>TermsOf.ext h e,fun _ _ _ _ _ h hl=>SliceOf.putLoop (fun _ _ h=>h) hl h⟩ (Lasts.const _ _))
def checkedF (but:ByteArray) (ps:List (ByteArray×Value)) (p:Value→Bool):List TermD→Bool→Int
 | [],no=>if no then 9 else 0
 | t::ts,no=>if t.field=but then checkedF but ps p ts no else match lastOf ps t.field with
  | none=>checkedF but ps p ts true
  | some v=>if p v then checkedF but ps p ts no else 2
theorem checked_Range_ret (w0:World) (v:Value) (base:Int) (ts:List TermD) (but:ByteArray) (m:Nat) (ps:List (ByteArray×Value)) (g:FuncId) (caps:Array Value) (p:Value→Bool) (hs:SizeVal w0 v base ts) (hb:ts.length≤1048576)
 (hm:MapOf w0 m ps) (hr:∀ k v,lastOf ps k=some v→∃ lo hi,v=rangeVal lo hi) (hg:Callable Pg g) (hc:∀ w lo hi,Ext w0 w→Ret Pg g (#[rangeVal lo hi]++caps) w fun r w'=>r = .bool (p (rangeVal lo hi))∧Ext w w') :
 Ret Pg 122 #[v,.string but,.map (some m),.func (.func g) #[] caps] w0 fun r w'=>r = .int .i64 (if sizeB base ts then checkedF but ps p ts false else 2)∧Ext w0 w':=by
 obtain ⟨tv,rfl,hT⟩:=hs
 have ht1:=SliceOf.oneCell hT
 have hmlt:=hm.lt
 refine n101s (R:=retR _) ?_;unfold n101
 simp (disch:=try exact DI) only [↓PR,QR,Int.reduceBEq,Int.reduceBNe,Int.reduceLT,Int.reduceLE,Int.reduceGT,Int.reduceGE,Int.reduceNeg,↓n101c1,↓n101c2,↓n101c3,↓n101c4,↓n101c5,↓n101c6]
 refine zcr (Valid_ret _ _ base ts ⟨tv,rfl,TermsOf.ext hT ee⟩) fun w1 e1=>?_
 have s1:=e1.size
 try simp only [World.size_alloc,World.size_setCell,World.size_drew,World.putObj_size,Sw.putW_size] at s1
 cases hv:sizeB base ts with
 | false =>
  simp (disch:=try exact DI) only [↓PR,QR,Int.reduceBEq,Int.reduceBNe,Int.reduceLT,Int.reduceLE,Int.reduceGT,Int.reduceGE,Int.reduceNeg,↓n101c1,↓n101c2,↓n101c3,↓n101c4,↓n101c5,↓n101c6,e1.cellQ,e1.frozenQ,outX_nil,retV,resOne]
  exact ⟨by first | trivial | rfl,ee⟩
 | true =>
  simp (disch:=try exact DI) only [↓PR,QR,Int.reduceBEq,Int.reduceBNe,Int.reduceLT,Int.reduceLE,Int.reduceGT,Int.reduceGE,Int.reduceNeg,↓n101c1,↓n101c2,↓n101c3,↓n101c4,↓n101c5,↓n101c6,e1.cellQ,e1.frozenQ]
  refine callK_ret (Names_ret _ _ base ts ⟨tv,rfl,TermsOf.ext hT ee⟩ hb) ?_
  rintro _ w2 ⟨pb,tv2,rfl,hTA,hpb,e2⟩
  rw [hv] at hTA
  simp only [if_true] at hTA
  have s2:=e2.size
  simp only [World.size_alloc] at s2 hpb
  have o5:w2.heap[w0.heap.size+1]?=some (.cells #[.string but] 9 (0,0)):=by simp (disch:=try exact DI) only [↓PR,QR,Int.reduceBEq,Int.reduceBNe,Int.reduceLT,Int.reduceLE,Int.reduceGT,Int.reduceGE,Int.reduceNeg,e1.heapQ,e2.heapQ]
  have o6:w2.heap[w0.heap.size+1+1]?=some (.cells #[.map (some m)] 55 (0,0)):=by simp (disch:=try exact DI) only [↓PR,QR,Int.reduceBEq,Int.reduceBNe,Int.reduceLT,Int.reduceLE,Int.reduceGT,Int.reduceGE,Int.reduceNeg,e1.heapQ,e2.heapQ]
  have o7:w2.heap[w0.heap.size+1+1+1]?=some (.cells #[.func (.func g) #[] caps] 150 (0,0)):=by simp (disch:=try exact DI) only [↓PR,QR,Int.reduceBEq,Int.reduceBNe,Int.reduceLT,Int.reduceLE,Int.reduceGT,Int.reduceGE,Int.reduceNeg,e1.heapQ,e2.heapQ]
  have o8:w2.heap[w0.heap.size+1+1+1+1]?=some (.cells #[.int .i64 0] 27 (0,0)):=by simp (disch:=try exact DI) only [↓PR,QR,Int.reduceBEq,Int.reduceBNe,Int.reduceLT,Int.reduceLE,Int.reduceGT,Int.reduceGE,Int.reduceNeg,e1.heapQ,e2.heapQ]
  have o9:w2.heap[w1.heap.size]?=some (.cells #[.bool false] 4 (0,0)):=by simp (disch:=try exact DI) only [↓PR,QR,Int.reduceBEq,Int.reduceBNe,Int.reduceLT,Int.reduceLE,Int.reduceGT,Int.reduceGE,Int.reduceNeg,e1.heapQ,e2.heapQ]
  have eW:Ext w0 w2:=ee
  simp only [World.size_alloc]
  unfold n101c4
  let I:Nat→World→Prop:=fun k w=>Ext w0 w∧w.heap[w0.heap.size+1]?=some (.cells #[.string but] 9 (0,0))∧w.heap[w0.heap.size+1+1]?=some (.cells #[.map (some m)] 55 (0,0)) ∧
   w.heap[w0.heap.size+1+1+1]?=some (.cells #[.func (.func g) #[] caps] 150 (0,0))∧TermsAt w pb tv2 ts ∧
   ∃ nb x,w.heap[w0.heap.size+1+1+1+1]?=some (.cells #[.int .i64 x] 27 (0,0))∧w.heap[w1.heap.size]?=some (.cells #[.bool nb] 4 (0,0))∧checkedF but ps p (ts.drop k) nb=checkedF but ps p ts false
  let Ix:Nat→World→Prop:=fun c w=>c=0∧Ext w0 w∧w.heap[w0.heap.size+1+1+1+1]?=some (.cells #[.int .i64 2] 27 (0,0))∧checkedF but ps p ts false=2
  have hLI:∀ k,Lasts w2.heap.size (I k):=fun k=>Lasts.and (Lasts.from (by omega)) (Lasts.and (Lasts.has _ (by simp)) (Lasts.and (Lasts.has _ (by simp)) (Lasts.and (Lasts.has _ (by simp)) (Lasts.and (TermsAt.lasts _ _ _ _)
   (Lasts.ex fun nb=>Lasts.ex fun x=>Lasts.and (Lasts.has _ (by simp)) (Lasts.and (Lasts.has _ (by simp)) (Lasts.const _ _)))))))
  have hLX:∀ k,Lasts w2.heap.size (Ix k):=fun k=>Lasts.and (Lasts.const _ _)<|Lasts.and (Lasts.from (by omega)) (Lasts.and (Lasts.has _ (by simp)) (Lasts.const _ _))
  refine ⟨_,_,ts.length,namesX ts,fun w=>TermsAt w pb tv2 ts,I,Ix,fun _ _=>False,rfl,c120,Names_seq pb tv2 ts,⟨eW,o5,o6,o7,hTA,false,0,o8,o9,rfl⟩,fun k w h=>h.2.2.2.2.1,hLI,hLX,?_,?_,?_,?_⟩
  · intro rec j w3 hj hI3 hrec hready
    refine ⟨hready,fun w4 hbz=>?_⟩
    have hrec4:=hrec.busied hbz
    have hI4:=(hLI j).busied hbz (Nat.le_succ _) hI3
    clear hI3 hrec hready hbz
    obtain ⟨e4,o5,o6,o7,hTA4,nb,x,o8,o9,hF⟩:=hI4
    obtain ⟨t,hx⟩:=getElem?_lt hj
    rw [show namesX ts j = .string t.field by unfold namesX;rw [hx]]
    have hd:ts.drop j=t::ts.drop (j+1):=by
     rw [List.drop_eq_getElem_cons hj]
     congr 1
     exact (List.getElem?_eq_some_iff.1 hx).2
    rw [hd] at hF
    simp only [checkedF] at hF
    have hm4:=hm.ext e4
    have s4:=e4.size
    have l9:w1.heap.size < w4.heap.size:=(Array.getElem?_eq_some_iff.1 o9).1
    have l8:w0.heap.size+1+1+1+1 < w4.heap.size:=(Array.getElem?_eq_some_iff.1 o8).1
    simp (disch:=try exact DI) only [↓PR,QR,Int.reduceBEq,Int.reduceBNe,Int.reduceLT,Int.reduceLE,Int.reduceGT,Int.reduceGE,Int.reduceNeg,↓n101c1,↓n101c2,↓n101c3,↓n101c4,↓n101c5,↓n101c6,(cells_of_heap o5).1,(cells_of_heap o6).1]
    rw [op_lookupO Tryz.underlying55 Tryz.underlying9 ty58 hm4]
    have next:∀ nb' w5,Ext w4 w5→checkedF but ps p (ts.drop (j+1)) nb'=checkedF but ps p ts false→nb'=nb→I (j+1) w5:=fun nb' w5 e5 h hn=>(hLI (j+1)).ext _ _ ⟨e4,o5,o6,o7,hTA4,nb,x,o8,o9,hn ▸ h⟩ e5
    cases hl:lastOf ps t.field with
    | none =>
     rw [hl] at hF
     simp (disch:=try exact DI) only [↓PR,QR,Int.reduceBEq,Int.reduceBNe,Int.reduceLT,Int.reduceLE,Int.reduceGT,Int.reduceGE,Int.reduceNeg,↓n101c1,↓n101c2,↓n101c3,↓n101c4,↓n101c5,↓n101c6,(cells_of_heap o5).1]
     by_cases hbut:t.field=but
     · rw [if_pos hbut] at hF
       simp only [hbut,decide_true]
       simp (disch:=try exact DI) only [↓PR,QR,Int.reduceBEq,Int.reduceBNe,Int.reduceLT,Int.reduceLE,Int.reduceGT,Int.reduceGE,Int.reduceNeg]
       exact ⟨hrec4.alloc _,next nb _ ee hF rfl⟩
     · rw [if_neg hbut] at hF
       simp only [hbut,decide_false]
       simp (disch:=try exact DI) only [↓PR,QR,Int.reduceBEq,Int.reduceBNe,Int.reduceLT,Int.reduceLE,Int.reduceGT,Int.reduceGE,Int.reduceNeg,↓n101c1,↓n101c2,↓n101c3,↓n101c4,↓n101c5,↓n101c6,(cells_of_heap o9).1,(cells_of_heap o9).2]
       refine ⟨(hrec4.setCell _ _).alloc _,ee,by simp (disch:=try exact DI) only [↓PR,QR,Int.reduceBEq,Int.reduceBNe,Int.reduceLT,Int.reduceLE,Int.reduceGT,Int.reduceGE,Int.reduceNeg,o5],by simp (disch:=try exact DI) only [↓PR,QR,Int.reduceBEq,Int.reduceBNe,Int.reduceLT,Int.reduceLE,Int.reduceGT,Int.reduceGE,Int.reduceNeg,o6],by simp (disch:=try exact DI) only [↓PR,QR,Int.reduceBEq,Int.reduceBNe,Int.reduceLT,Int.reduceLE,Int.reduceGT,Int.reduceGE,Int.reduceNeg,o7],(hTA4.set (by omega) _).ext ((Ext.refl _).alloc _),true,x,by simp (disch:=try exact DI) only [↓PR,QR,Int.reduceBEq,Int.reduceBNe,Int.reduceLT,Int.reduceLE,Int.reduceGT,Int.reduceGE,Int.reduceNeg,o8],?_,hF⟩
       have:=((Ext.refl _).alloc (.cells #[.int .i64 0,.int .i64 0] 58)).obj (heap_set (o:=0) o9 (.bool true))
       simpa using this
    | some v =>
     obtain ⟨lo,hi,rfl⟩:=hr _ _ hl
     rw [hl] at hF
     simp (disch:=try exact DI) only [↓PR,QR,Int.reduceBEq,Int.reduceBNe,Int.reduceLT,Int.reduceLE,Int.reduceGT,Int.reduceGE,Int.reduceNeg,↓n101c1,↓n101c2,↓n101c3,↓n101c4,↓n101c5,↓n101c6,(cells_of_heap o5).1,rangeVal]
     by_cases hbut:t.field=but
     · rw [if_pos hbut] at hF
       simp only [hbut,decide_true]
       simp (disch:=try exact DI) only [↓PR,QR,Int.reduceBEq,Int.reduceBNe,Int.reduceLT,Int.reduceLE,Int.reduceGT,Int.reduceGE,Int.reduceNeg]
       exact ⟨hrec4.alloc _,next nb _ ee hF rfl⟩
     · rw [if_neg hbut] at hF
       simp only [hbut,decide_false]
       simp (disch:=try exact DI) only [↓PR,QR,Int.reduceBEq,Int.reduceBNe,Int.reduceLT,Int.reduceLE,Int.reduceGT,Int.reduceGE,Int.reduceNeg,↓n101c1,↓n101c2,↓n101c3,↓n101c4,↓n101c5,↓n101c6,(cells_of_heap o7).1]
       rw [callV_func hg]
       refine zcr (hc _ lo hi ee) fun w6 e6=>?_
       have s6:=e6.size
       simp only [World.size_alloc] at s6
       cases hp:p (rangeVal lo hi) with
       | true =>
        simp only [hp,if_true] at hF
        simp (disch:=try exact DI) only [↓PR,QR,Int.reduceBEq,Int.reduceBNe,Int.reduceLT,Int.reduceLE,Int.reduceGT,Int.reduceGE,Int.reduceNeg,↓n101c1,↓n101c2,↓n101c3,↓n101c4,↓n101c5,↓n101c6]
        exact ⟨(hrec4.alloc _).ext e6,next nb _ ee hF rfl⟩
       | false =>
        simp only [hp,Bool.false_eq_true,if_false] at hF
        simp (disch:=try exact DI) only [↓PR,QR,Int.reduceBEq,Int.reduceBNe,Int.reduceLT,Int.reduceLE,Int.reduceGT,Int.reduceGE,Int.reduceNeg,↓n101c1,↓n101c2,↓n101c3,↓n101c4,↓n101c5,↓n101c6,e6.cellQ,e6.frozenQ,(cells_of_heap o8).1,(cells_of_heap o8).2]
        refine ⟨((hrec4.alloc _).ext e6).setCell _ _,rfl,ee,?_,hF.symm⟩
        have:=heap_set (o:=0) ((((Ext.refl w4).alloc (.cells #[.int .i64 lo,.int .i64 hi] 58)).trans e6).obj o8) (.int .i64 2)
        simpa using this
  · rintro w3 ⟨e3,o5,o6,o7,hTA3,nb,x,o8,o9,hF⟩ hmk
    rw [List.drop_length] at hF
    simp only [checkedF] at hF
    have l2:w2.heap.size < w3.heap.size:=(Array.getElem?_eq_some_iff.1 hmk).1
    cases nb with
    | true =>
     simp (disch:=try exact DI) only [↓PR,QR,Int.reduceBEq,Int.reduceBNe,Int.reduceLT,Int.reduceLE,Int.reduceGT,Int.reduceGE,Int.reduceNeg,↓n101c1,↓n101c2,↓n101c3,↓n101c4,↓n101c5,↓n101c6,(cells_of_heap o8).1,(cells_of_heap o8).2,(cells_of_heap o9).1]
     refine outX_mark (hmk.setCell _ _) ?_
     simp (disch:=try exact DI) only [↓PR,QR,Int.reduceBEq,Int.reduceBNe,Int.reduceLT,Int.reduceLE,Int.reduceGT,Int.reduceGE,Int.reduceNeg,outX_nil,retV,resOne,cell_putMark (hmk.setCell _ _),(cells_of_heap o8).1]
     exact ⟨by rw [← hF];rfl,ee⟩
    | false =>
     simp (disch:=try exact DI) only [↓PR,QR,Int.reduceBEq,Int.reduceBNe,Int.reduceLT,Int.reduceLE,Int.reduceGT,Int.reduceGE,Int.reduceNeg,↓n101c1,↓n101c2,↓n101c3,↓n101c4,↓n101c5,↓n101c6,(cells_of_heap o8).1,(cells_of_heap o8).2,(cells_of_heap o9).1]
     refine outX_mark (hmk.setCell _ _) ?_
     simp (disch:=try exact DI) only [↓PR,QR,Int.reduceBEq,Int.reduceBNe,Int.reduceLT,Int.reduceLE,Int.reduceGT,Int.reduceGE,Int.reduceNeg,outX_nil,retV,resOne,cell_putMark (hmk.setCell _ _),(cells_of_heap o8).1]
     exact ⟨by rw [← hF];rfl,ee⟩
  · rintro c w3 ⟨rfl,e3,o8,hF⟩ hmk
    have l2:w2.heap.size < w3.heap.size:=(Array.getElem?_eq_some_iff.1 hmk).1
    show outX _ _ _ _ _
    refine outX_mark hmk ?_
    simp (disch:=try exact DI) only [↓PR,QR,Int.reduceBEq,Int.reduceBNe,Int.reduceLT,Int.reduceLE,Int.reduceGT,Int.reduceGE,Int.reduceNeg,outX_nil,retV,resOne,cell_putMark hmk,(cells_of_heap o8).1]
    exact ⟨by rw [hF],ee⟩
  · rintro _ _ h
    exact h.elim
end Go.Proofs.YtiajhbbmgglmlaaGreat
namespace Go.Proofs.YtiajhbbmgglmlaaGreat
open Sw
open Go.RowKit (intOf Below)
def numW (base:Int) (vf:TermD→Int) (ts:List TermD):Int:=ts.foldl (fun n t=>IntKind.i64.wrap (n+IntKind.i64.wrap (t.factor*vf t))) base
theorem number_ret (w0:World) (v:Value) (base:Int) (ts:List TermD) (g:FuncId) (caps:Array Value) (vf:TermD→Int) (hs:SizeVal w0 v base ts) (hg:Callable Pg g)
 (hc:∀ w t,Ext w0 w→Ret Pg g (#[termVal t]++caps) w fun r w'=>r = .int .i64 (vf t)∧Ext w w') :
 Ret Pg 124 #[v,.func (.func g) #[] caps] w0 fun r w'=>r = .int .i64 (numW base vf ts)∧Ext w0 w':=by
 obtain ⟨tv,rfl,hT⟩:=hs
 obtain ⟨A,c,rfl,hlc,hcm,hlm,hel⟩:=SliceOf.open hT
 refine n104s (R:=retR _) ?_;unfold n104
 simp (disch:=try exact DI) only [↓PR,QR,Int.reduceBEq,Int.reduceBNe,Int.reduceLT,Int.reduceLE,Int.reduceGT,Int.reduceGE,Int.reduceNeg,↓n104c1,↓n104c2,↓n104c3]
 refine loop2_intro (fun a0 a1 w=>∃ (k:Nat) (n:Int),a0 = .int .i64 n∧a1 = .int .i64 (k:Int)∧k≤ts.length∧Ext w0 w∧numW n vf (ts.drop k)=numW base vf ts) (fun a0 a1 _=>ts.length - (intOf a1).toNat) ⟨0,base,rfl,rfl,Nat.zero_le _,ee,rfl⟩ ?_
 rintro _ _ w ⟨k,n,rfl,rfl,hk,e,hI⟩
 have se:=e.size
 rcases drop_cases hk with ⟨x,hx,hd,hlt,hdec⟩ | ⟨hk,hd,hdec⟩
 · obtain ⟨b,o,cs,rfl,hl,hA,rfl⟩:=hel k x hx
   rw [hd] at hI
   simp (disch:=try exact DI) only [↓PR,QR,Int.reduceBEq,Int.reduceBNe,Int.reduceLT,Int.reduceLE,Int.reduceGT,Int.reduceGE,Int.reduceNeg,↓n104c1,↓n104c2,↓n104c3,hdec,hA.c2]
   refine drawK_intro ?_
   simp (disch:=try exact DI) only [↓PR,QR,Int.reduceBEq,Int.reduceBNe,Int.reduceLT,Int.reduceLE,Int.reduceGT,Int.reduceGE,Int.reduceNeg,↓n104c1,↓n104c2,↓n104c3]
   rw [callV_func hg]
   refine zcr (hc _ x ee) fun w1 e1=>?_
   refine ⟨e1,?_⟩
   simp (disch:=try exact DI) only [↓PR,QR,Int.reduceBEq,Int.reduceBNe,Int.reduceLT,Int.reduceLE,Int.reduceGT,Int.reduceGE,Int.reduceNeg,↓n104c1,↓n104c2,↓n104c3]
   exact ⟨⟨k+1,_,rfl,rfl,by omega,ee,hI⟩,meas_lt hlt⟩
 · subst hk
   simp (disch:=try exact DI) only [↓PR,QR,Int.reduceBEq,Int.reduceBNe,Int.reduceLT,Int.reduceLE,Int.reduceGT,Int.reduceGE,Int.reduceNeg,↓n104c1,↓n104c2,↓n104c3,hdec]
   rw [hd] at hI
   exact ⟨by rw [← hI];rfl,e⟩
def RP (rp:List (ByteArray×Int×Int)):List (ByteArray×Value):=rp.map fun p=>(p.1,rangeVal p.2.1 p.2.2)
def lastR (rp:List (ByteArray×Int×Int)) (s:ByteArray):Option (Int×Int):=(rp.reverse.find? (fun p=>decide (p.1=s))).map (·.2)
theorem lastOf_RP (rp:List (ByteArray×Int×Int)) (s:ByteArray):lastOf (RP rp) s=(lastR rp s).map fun q=>rangeVal q.1 q.2:=by
 unfold lastOf RP lastR
 rw [← List.map_reverse,List.find?_map]
 simp only [Option.map_map]
 rfl
def numR (l:List FieldD):List (ByteArray×Int×Int):=(l.filter numberB).map fun f=>(f.name,f.low,highOf f)
theorem numPairs_RP (l:List FieldD):numPairs l=RP (numR l):=by
 unfold numPairs RP numR
 rw [List.map_map]
 rfl
def endF (rp:List (ByteArray×Int×Int)) (least:Bool) (t:TermD):Int:=match lastR rp t.field with
 | some (lo,hi)=>if least == decide (t.factor > 0) then lo else hi
 | none=>0
theorem end_ret (w0:World) (t:TermD) (pm pl m:Nat) (rp:List (ByteArray×Int×Int)) (least:Bool) (h1:w0.cell? ⟨pm,0,none⟩=some (.map (some m))) (h2:w0.cell? ⟨pl,0,none⟩=some (.bool least)) (hm:MapOf w0 m (RP rp)) :
 Ret Pg 125 #[termVal t,.pointer (some ⟨pm,0,none⟩),.pointer (some ⟨pl,0,none⟩)] w0 fun r w'=>r = .int .i64 (endF rp least t)∧Ext w0 w':=by
 have hb1:=World.block_lt_of_cell? w0 _ h1
 have hb2:=World.block_lt_of_cell? w0 _ h2
 simp only at hb1 hb2
 unfold termVal
 refine n93s (R:=retR _) ?_;unfold n93
 simp (disch:=try exact DI) only [↓PR,QR,Int.reduceBEq,Int.reduceBNe,Int.reduceLT,Int.reduceLE,Int.reduceGT,Int.reduceGE,Int.reduceNeg,h1,h2]
 rw [op_lookup1O Tryz.underlying55 Tryz.underlying9 ty58 (hm.ext ee),lastOf_RP]
 unfold endF
 cases hl:lastR rp t.field with
 | none =>
  simp (disch:=try exact DI) only [↓PR,QR,Int.reduceBEq,Int.reduceBNe,Int.reduceLT,Int.reduceLE,Int.reduceGT,Int.reduceGE,Int.reduceNeg,↓n93c1,h1,h2,Option.map_none]
  cases (least == decide (0 < t.factor)) with
  | true=>simp (disch:=try exact DI) only [↓PR,QR,Int.reduceBEq,Int.reduceBNe,Int.reduceLT,Int.reduceLE,Int.reduceGT,Int.reduceGE,Int.reduceNeg,↓n93c1,h1,h2];exact ⟨by first | trivial | rfl,ee⟩
  | false =>
   simp (disch:=try exact DI) only [↓PR,QR,Int.reduceBEq,Int.reduceBNe,Int.reduceLT,Int.reduceLE,Int.reduceGT,Int.reduceGE,Int.reduceNeg,↓n93c1,h1,h2]
   rw [op_lookup1O Tryz.underlying55 Tryz.underlying9 ty58 (hm.ext ee),lastOf_RP,hl]
   simp (disch:=try exact DI) only [↓PR,QR,Int.reduceBEq,Int.reduceBNe,Int.reduceLT,Int.reduceLE,Int.reduceGT,Int.reduceGE,Int.reduceNeg,↓n93c1,Option.map_none]
   exact ⟨by first | trivial | rfl,ee⟩
 | some q =>
  obtain ⟨lo,hi⟩:=q
  simp (disch:=try exact DI) only [↓PR,QR,Int.reduceBEq,Int.reduceBNe,Int.reduceLT,Int.reduceLE,Int.reduceGT,Int.reduceGE,Int.reduceNeg,↓n93c1,h1,h2,rangeVal]
  cases (least == decide (0 < t.factor)) with
  | true=>simp (disch:=try exact DI) only [↓PR,QR,Int.reduceBEq,Int.reduceBNe,Int.reduceLT,Int.reduceLE,Int.reduceGT,Int.reduceGE,Int.reduceNeg,↓n93c1,h1,h2];exact ⟨by first | trivial | rfl,ee⟩
  | false =>
   simp (disch:=try exact DI) only [↓PR,QR,Int.reduceBEq,Int.reduceBNe,Int.reduceLT,Int.reduceLE,Int.reduceGT,Int.reduceGE,Int.reduceNeg,↓n93c1,h1,h2]
   rw [op_lookup1O Tryz.underlying55 Tryz.underlying9 ty58 (hm.ext ee),lastOf_RP,hl]
   simp (disch:=try exact DI) only [↓PR,QR,Int.reduceBEq,Int.reduceBNe,Int.reduceLT,Int.reduceLE,Int.reduceGT,Int.reduceGE,Int.reduceNeg,↓n93c1,rangeVal]
   exact ⟨by first | trivial | rfl,ee⟩
def wideB (lo hi:Int):Bool:=decide (0≤lo)&&decide (lo≤hi)&&decide (hi < 34359738368)
def wideV:Value→Bool
 | .agg a=>match a.toList with
  | [.int _ lo,.int _ hi]=>wideB lo hi
  | _=>false
 | _=>false
theorem fine_ret (w0:World) (lo hi:Int):Ret Pg 121 #[rangeVal lo hi] w0 fun r w'=>r = .bool (wideV (rangeVal lo hi))∧Ext w0 w':=by
 unfold rangeVal
 refine n91s (R:=retR _) ?_;unfold n91
 simp (disch:=try exact DI) only [↓PR,QR,Int.reduceBEq,Int.reduceBNe,Int.reduceLT,Int.reduceLE,Int.reduceGT,Int.reduceGE,Int.reduceNeg,Sw.joinK_eq]
 refine zcr (all3_ret (by simp only [World.size_alloc]) _ _ _ _) fun w1 e1=>?_
 have s1:=e1.size
 try simp only [World.size_alloc,World.size_setCell,World.size_drew,World.putObj_size,Sw.putW_size] at s1
 simp (disch:=try exact DI) only [↓PR,QR,Int.reduceBEq,Int.reduceBNe,Int.reduceLT,Int.reduceLE,Int.reduceGT,Int.reduceGE,Int.reduceNeg,Sw.joinK_eq]
 exact ⟨rfl,ee⟩
theorem ends_ret (w0:World) (pm ps m:Nat) (rp:List (ByteArray×Int×Int)) (least:Bool) (base:Int) (tv:Value) (ts:List TermD) (h0:w0.cell? ⟨ps,0,none⟩=some (.int .i64 base)) (h0':w0.cell? ⟨ps,1,none⟩=some tv) (hT:TermsOf w0 tv ts)
 (h1:w0.cell? ⟨pm,0,none⟩=some (.map (some m))) (hm:MapOf w0 m (RP rp)) :
 Ret Pg 123 #[.bool least,.pointer (some ⟨ps,0,none⟩),.pointer (some ⟨pm,0,none⟩)] w0 fun r w'=>r = .int .i64 (numW base (endF rp least) ts)∧Ext w0 w':=by
 have hb1:=World.block_lt_of_cell? w0 _ h0
 have hb2:=World.block_lt_of_cell? w0 _ h1
 simp only at hb1 hb2
 refine n92s (R:=retR _) ?_;unfold n92
 simp (disch:=try exact DI) only [↓PR,QR,Int.reduceBEq,Int.reduceBNe,Int.reduceLT,Int.reduceLE,Int.reduceGT,Int.reduceGE,Int.reduceNeg,h0,h0']
 refine callK_ret (number_ret _ _ base ts _ _ (endF rp least) ⟨tv,rfl,TermsOf.ext hT ee⟩ c125 ?_) ?_
 · intro w t e
   exact end_ret w t pm w0.heap.size m rp least (((Ext.refl w0).alloc _).trans e |>.cell h1) (e.cell (by simp (disch:=try exact DI) only [↓PR,QR,Int.reduceBEq,Int.reduceBNe,Int.reduceLT,Int.reduceLE,Int.reduceGT,Int.reduceGE,Int.reduceNeg])) (hm.ext (((Ext.refl w0).alloc _).trans e))
 rintro _ w1 ⟨rfl,e1⟩
 simp (disch:=try exact DI) only [↓PR,QR,Int.reduceBEq,Int.reduceBNe,Int.reduceLT,Int.reduceLE,Int.reduceGT,Int.reduceGE,Int.reduceNeg,Sw.joinK_eq]
 exact ⟨by first | trivial | rfl,ee⟩
def intervalE (base:Int) (ts:List TermD) (rp:List (ByteArray×Int×Int)):Int:=if sizeB base ts then checkedF ByteArray.empty (RP rp) wideV ts false else 2
def intervalL (base:Int) (ts:List TermD) (rp:List (ByteArray×Int×Int)):Int:=if intervalE base ts rp=0 then numW base (endF rp true) ts else 0
def intervalH (base:Int) (ts:List TermD) (rp:List (ByteArray×Int×Int)):Int:=if intervalE base ts rp=0 then numW base (endF rp false) ts else 0
theorem Interval_ret (w0:World) (v:Value) (base:Int) (ts:List TermD) (m:Nat) (rp:List (ByteArray×Int×Int)) (hs:SizeVal w0 v base ts) (hb:ts.length≤1048576) (hm:MapOf w0 m (RP rp)) :
 Ret Pg 114 #[v,.map (some m)] w0 fun r w'=>r = .tuple #[rangeVal (intervalL base ts rp) (intervalH base ts rp),.int .i64 (intervalE base ts rp)]∧Ext w0 w':=by
 obtain ⟨tv,rfl,hT⟩:=hs
 have hT1:=SliceOf.oneCell hT
 have hmlt:=hm.lt
 refine n90s (R:=retR _) ?_;unfold n90
 simp (disch:=try exact DI) only [↓PR,QR,Int.reduceBEq,Int.reduceBNe,Int.reduceLT,Int.reduceLE,Int.reduceGT,Int.reduceGE,Int.reduceNeg,↓n90c1,↓n90c2,↓n90c3]
 refine callK_ret (checked_Range_ret _ _ base ts ByteArray.empty m (RP rp) _ _ wideV ⟨tv,rfl,TermsOf.ext hT ee⟩ hb (hm.ext ee) (fun k v hv=>?_) c121 (fun w lo hi e=>by simpa using fine_ret w lo hi)) ?_
 · rw [lastOf_RP] at hv
   obtain ⟨q,_,rfl⟩:=Option.map_eq_some_iff.1 hv
   exact ⟨q.1,q.2,rfl⟩
 rintro _ w1 ⟨rfl,e1⟩
 have s1:=e1.size
 simp only [World.size_alloc] at s1
 show n90c3 _ _ _ (.int .i64 (intervalE base ts rp)) _ w1
 unfold intervalL intervalH
 by_cases hE:intervalE base ts rp=0
 · rw [hE]
   simp (disch:=try exact DI) only [↓PR,QR,Int.reduceBEq,Int.reduceBNe,Int.reduceLT,Int.reduceLE,Int.reduceGT,Int.reduceGE,Int.reduceNeg,↓n90c1,↓n90c2,↓n90c3]
   have c0:w1.cell? ⟨w0.heap.size,0,none⟩=some (.int .i64 base):=by simp (disch:=try exact DI) only [↓PR,QR,Int.reduceBEq,Int.reduceBNe,Int.reduceLT,Int.reduceLE,Int.reduceGT,Int.reduceGE,Int.reduceNeg,e1.cellQ]
   have c1:w1.cell? ⟨w0.heap.size,1,none⟩=some tv:=by simp (disch:=try exact DI) only [↓PR,QR,Int.reduceBEq,Int.reduceBNe,Int.reduceLT,Int.reduceLE,Int.reduceGT,Int.reduceGE,Int.reduceNeg,e1.cellQ]
   have c2:w1.cell? ⟨w0.heap.size+1,0,none⟩=some (.map (some m)):=by simp (disch:=try exact DI) only [↓PR,QR,Int.reduceBEq,Int.reduceBNe,Int.reduceLT,Int.reduceLE,Int.reduceGT,Int.reduceGE,Int.reduceNeg,e1.cellQ]
   have eW:Ext w0 w1:=ee
   rw [callV_func c123]
   refine zcr (ends_ret w1 _ _ m rp true base tv ts c0 c1 (hT.ext eW) c2 (hm.ext eW)) fun w2 e2=>?_
   have s2:=e2.size
   simp only [World.size_alloc]
   rw [callV_func c123]
   refine zcr (ends_ret w2 _ _ m rp false base tv ts (e2.cell c0) (e2.cell c1) ((TermsOf.ext hT eW).ext e2) (e2.cell c2) ((hm.ext eW).ext e2)) fun w3 e3=>?_
   have s3:=e3.size
   simp (disch:=try exact DI) only [↓PR,QR,Int.reduceBEq,Int.reduceBNe,Int.reduceLT,Int.reduceLE,Int.reduceGT,Int.reduceGE,Int.reduceNeg,↓n90c1,↓n90c2,↓n90c3,e1.cellQ,e1.frozenQ,e2.cellQ,e2.frozenQ,e3.cellQ,e3.frozenQ]
   exact ⟨by first | trivial | rfl,ee⟩
 · have hne:(intervalE base ts rp != 0)=true:=by simpa using hE
   simp (disch:=try exact DI) only [↓PR,QR,Int.reduceBEq,Int.reduceBNe,Int.reduceLT,Int.reduceLE,Int.reduceGT,Int.reduceGE,Int.reduceNeg,↓n90c1,↓n90c2,↓n90c3,hne,e1.cellQ,e1.frozenQ]
   simp only [hE,if_false]
   exact ⟨by first | trivial | rfl,ee⟩
end Go.Proofs.YtiajhbbmgglmlaaGreat
namespace Go.Proofs.YtiajhbbmgglmlaaGreat
open Sw
def n58c1 (t0 t12 t15 t19 t23:Value) (next1:KW) (R:RT) (w:World):Prop :=
 pickK t19 t23 (.bool false) fun t24 =>
 C0 37 #[t0,t24,(.int .i64 7)] R w fun t25 w =>
 B0 .add 3 true t12 (.int .i64 1) R w fun t27 w =>
 next1 t15 t27 w
def n58c2 (t0 t1 t2 t3 t12:Value) (next1:KW) (R:RT) (w:World):Prop :=
 X0 85 t3 t12 R w fun t14 w =>
 L0 3 t14 R w fun t15 w =>
 B0 .geq 3 false t15 t1 R w fun t19 w =>
 joinK (fun (t23:Value) (w:World) =>
 n58c1 t0 t12 t15 t19 t23 next1 R w) fun K2 =>
 guardP t19 true (
 B0 .leq 3 false t15 t2 R w fun t23 w =>
 K2 t23 w) (
 K2 undef w)
def n58 (t0 t1 t2 t3:Value) (R:RT) (w:World):Prop :=
 opV Pg (Builtin.len_ #[85] 3 #[t3]) (panK R) w fun t11 w =>
 loop2 (fun t1 t12 w next1 =>
 B0 .lss 3 false t12 t11 R w fun t13 w =>
 condP t13 (
 n58c2 t0 t1 t2 t3 t12 next1 R w) (
 R (.returned (.tuple #[])) w)) t1 (.int .i64 0) w
theorem n58s {t0 t1 t2 t3:Value} {R:RT} {w:World} (h:n58 t0 t1 t2 t3 R w):Calls Pg 81 #[t0,t1,t2,t3] w R:=by
 refine calls_of_den (args:=[t0,t1,t2,t3]) Tryz.func81 rfl (Nat.le_of_ble_eq_true rfl) ?_
 unfold n58 at h
 refine zs<|zr<|zm ?_
 refine zx h fun t11 w h=>?_
 refine zm<|zn<|zk<|sim_block ?_
 obtain ⟨I,μ,h0,hr⟩:=h
 refine sim_loop [1,9,12,13,14,15,16,17,18,19,20,21,22,23,24,25,26,27] (by kernel_rfl) (fun ρ w=>I (ρ 1) (ρ 12) w) (fun ρ w=>μ (ρ 1) (ρ 12) w) h0 (fun σ w hI=>?_)
 have h:=hr _ _ _ hI
 clear hr h0 hI
 refine zs<|zr ?_
 refine zb h fun t13 w h=>?_
 refine zn<|zk<|zs ?_
 refine sim_cond h rfl (fun h=>?_) (fun h=>?_)
 · refine sim_skip<|zk<|zs<|sim_block<|zs<|zr ?_
   refine zv h fun t14 w h=>?_
   refine zv h fun t15 w h=>?_
   refine zm<|zn<|zk<|zs<|sim_regionG ?_
   refine sim_seg 5 rfl ?_
   refine zm<|zm<|zm ?_
   refine zb h fun t19 w h=>?_
   refine zm<|zn ?_
   refine joinK_elim h (fun K2 hK h=>?_)
   refine sim_groupJ 3 4 true [21,22,23] (fun ρ w=>K2 (ρ 23) w) rfl rfl (fun T hT=>guardP_mono h (fun h=>?_) (fun h=>?_)) (fun σ w h=>?_)
   · refine zm<|zm ?_
     refine zb h fun t23 w h=>?_
     refine zn ?_
     exact zt hT h
   · exact zt hT h
   subst hK
   refine sim_seg 2 rfl ?_
   refine sim_pick h rfl rfl rfl ?_;intro t24 h
   refine zc h c37 fun t25 w h=>?_
   refine zn<|sim_end<|zk<|zr<|zm<|zm<|zn<|sim_block_normal<|zk<|zr ?_
   refine zb h fun t27 w h=>?_
   refine zm<|zn<|zk ?_
   exact ⟨rfl,h⟩
 · refine sim_exit<|sim_then_exit<|sim_then_exit<|sim_block_hit ?_
   refine body_normal ?_
   exact body_ret0 rfl h
def n78 (t0:Value) (R:RT) (w:World):Prop :=
 opN Pg (nilN t0) (panK R) w fun t5 w =>
 F0 52 t5 2 R w fun t6 w =>
 opU Pg (Instr.storeAt 3 t6 (.int .i64 0)) (panK R) w fun w =>
 opN Pg (nilN t0) (panK R) w fun t7 w =>
 F0 52 t7 3 R w fun t8 w =>
 opU Pg (Instr.storeAt 4 t8 (.bool false)) (panK R) w fun w =>
 opN Pg (nilN t0) (panK R) w fun t9 w =>
 F0 52 t9 5 R w fun t10 w =>
 opU Pg (Instr.storeAt 3 t10 (.int .i64 0)) (panK R) w fun w =>
 R (.returned (.tuple #[])) w
theorem n78s {t0:Value} {R:RT} {w:World} (h:n78 t0 R w):Calls Pg 82 #[t0] w R:=by
 refine calls_of_den (args:=[t0]) Tryz.func82 rfl (Nat.le_of_ble_eq_true rfl) ?_
 unfold n78 at h
 refine zr<|zm<|zm<|zm ?_
 refine sim_next h rfl rfl (fun _ _ h=>⟨rfl,h⟩) ?_;intro t5 w h
 refine zv h fun t6 w h=>?_
 refine zu h fun w h=>?_
 refine sim_next h rfl rfl (fun _ _ h=>⟨rfl,h⟩) ?_;intro t7 w h
 refine zv h fun t8 w h=>?_
 refine zu h fun w h=>?_
 refine sim_next h rfl rfl (fun _ _ h=>⟨rfl,h⟩) ?_;intro t9 w h
 refine zv h fun t10 w h=>?_
 refine zu h fun w h=>?_
 refine zn ?_
 refine body_normal ?_
 exact body_ret0 rfl h
def n79c1 (t0 t3:Value) (C1:World→Prop) (R:RT) (w:World):Prop :=
 qV Pg C1 (Instr.fieldAt 52 t3 2) fun t8 =>
 qV Pg C1 (Instr.loadAt 3 t8) fun t9 =>
 qV Pg C1 (binS .shl 3 true (.int .i64 1) t9) fun t10 =>
 qV Pg C1 (binS .sub 3 true t10 (.int .i64 1)) fun t11 =>
 qV Pg C1 (Instr.fieldAt 52 t3 5) fun t12 =>
 qV Pg C1 (Instr.loadAt 3 t12) fun t13 =>
 opV Pg (Instr.buildSlice 85 1 #[(0,t13)]) (panK R) w fun t14 w =>
 C1 w∧(
 C0 81 #[t0,(.int .i64 0),t11,t14] R w fun t15 w =>
 C1 w∧(
 R (.returned (.tuple #[])) w))
def n79 (t0 t1:Value) (R:RT) (w:World):Prop :=
 opV Pg (Instr.box 52 t1) (panK R) w fun t3 w =>
 L0 52 t3 R w fun t5 w =>
 C0 80 #[t0,t5] R w fun t6 w =>
 drawK w fun C1 w =>
 n79c1 t0 t3 C1 R w
theorem n79s {t0 t1:Value} {R:RT} {w:World} (h:n79 t0 t1 R w):Calls Pg 83 #[t0,t1] w R:=by
 refine calls_of_den (args:=[t0,t1]) Tryz.func83 rfl (Nat.le_of_ble_eq_true rfl) ?_
 unfold n79 at h
 refine zs<|zr ?_
 refine zv h fun t3 w h=>?_
 refine zn<|zk<|zs<|zr<|zm ?_
 refine zv h fun t5 w h=>?_
 refine zc h c80 fun t6 w h=>?_
 refine zn<|zk ?_
 obtain ⟨C1,hC,h⟩:=h
 refine sim_draw [7,8,9,10,11,12,13,14,15] (by kernel_rfl) (by kernel_rfl) C1 ?_
 refine zw 0 hC ?_
 refine ze 1 hC h fun t8 h=>?_
 refine ze 2 hC h fun t9 h=>?_
 obtain ⟨t10,hv,h⟩:=h
 refine sim_dsilent 3 hC rfl (by kernel_rfl) (by kernel_rfl) (fun _ _=>rfl) rfl (Sw.qV_bin rfl rfl rfl hv) ?_
 obtain ⟨t11,hv,h⟩:=h
 refine sim_dsilent 4 hC rfl (by kernel_rfl) (by kernel_rfl) (fun _ _=>rfl) rfl (Sw.qV_bin rfl rfl rfl hv) ?_
 refine ze 5 hC h fun t12 h=>?_
 refine ze 6 hC h fun t13 h=>?_
 refine sim_dloud 7 rfl (by kernel_rfl) (fun _ _=>rfl) ?_
 refine sim_buildSlice h rfl (fun _ _ h _ _=>⟨rfl,h⟩) ?_;intro t14 w h
 refine zn ?_
 obtain ⟨hC,h⟩:=h
 refine ⟨hC,?_⟩
 refine sim_dloud 8 rfl (by kernel_rfl) (fun _ _=>rfl) ?_
 refine sim_call h c81 rfl (fun _ _ h _ _=>⟨rfl,h⟩) ?_;intro t15 w h
 refine zn ?_
 obtain ⟨hC,h⟩:=h
 refine ⟨hC,?_⟩
 refine sim_dend (by kernel_rfl) ?_
 refine body_normal ?_
 exact body_ret0 rfl h
def n80 (t0:Value) (R:RT) (w:World):Prop :=
 opN Pg (nilN t0) (panK R) w fun t5 w =>
 F0 52 t5 4 R w fun t6 w =>
 opU Pg (Instr.storeAt 4 t6 (.bool false)) (panK R) w fun w =>
 opN Pg (nilN t0) (panK R) w fun t7 w =>
 F0 52 t7 5 R w fun t8 w =>
 opU Pg (Instr.storeAt 3 t8 (.int .i64 0)) (panK R) w fun w =>
 opN Pg (nilN t0) (panK R) w fun t9 w =>
 F0 52 t9 6 R w fun t10 w =>
 opU Pg (Instr.storeAt 3 t10 (.int .i64 0)) (panK R) w fun w =>
 R (.returned (.tuple #[])) w
theorem n80s {t0:Value} {R:RT} {w:World} (h:n80 t0 R w):Calls Pg 84 #[t0] w R:=by
 refine calls_of_den (args:=[t0]) Tryz.func84 rfl (Nat.le_of_ble_eq_true rfl) ?_
 unfold n80 at h
 refine zr<|zm<|zm<|zm ?_
 refine sim_next h rfl rfl (fun _ _ h=>⟨rfl,h⟩) ?_;intro t5 w h
 refine zv h fun t6 w h=>?_
 refine zu h fun w h=>?_
 refine sim_next h rfl rfl (fun _ _ h=>⟨rfl,h⟩) ?_;intro t7 w h
 refine zv h fun t8 w h=>?_
 refine zu h fun w h=>?_
 refine sim_next h rfl rfl (fun _ _ h=>⟨rfl,h⟩) ?_;intro t9 w h
 refine zv h fun t10 w h=>?_
 refine zu h fun w h=>?_
 refine zn ?_
 refine body_normal ?_
 exact body_ret0 rfl h
def n81 (t0 t1:Value) (R:RT) (w:World):Prop :=
 opV Pg (Instr.box 52 t1) (panK R) w fun t3 w =>
 F0 52 t3 5 R w fun t5 w =>
 L0 3 t5 R w fun t6 w =>
 F0 52 t3 6 R w fun t7 w =>
 L0 3 t7 R w fun t8 w =>
 opV Pg (Instr.buildSlice 85 2 #[(0,t6),(1,t8)]) (panK R) w fun t9 w =>
 C0 81 #[t0,(.int .i64 0),(.int .i64 34359738367),t9] R w fun t10 w =>
 R (.returned (.tuple #[])) w
theorem n81s {t0 t1:Value} {R:RT} {w:World} (h:n81 t0 t1 R w):Calls Pg 85 #[t0,t1] w R:=by
 refine calls_of_den (args:=[t0,t1]) Tryz.func85 rfl (Nat.le_of_ble_eq_true rfl) ?_
 unfold n81 at h
 refine zs<|zr ?_
 refine zv h fun t3 w h=>?_
 refine zn<|zk<|zr<|zm ?_
 refine zv h fun t5 w h=>?_
 refine zv h fun t6 w h=>?_
 refine zv h fun t7 w h=>?_
 refine zv h fun t8 w h=>?_
 refine sim_buildSlice h rfl (fun _ _ h=>⟨rfl,h⟩) ?_;intro t9 w h
 refine zc h c81 fun t10 w h=>?_
 refine zn ?_
 refine body_normal ?_
 exact body_ret0 rfl h
def n82 (t0:Value) (R:RT) (w:World):Prop :=
 opV Pg (Instr.build 49 #[]) (panK R) w fun t3 w =>
 opN Pg (nilN t0) (panK R) w fun t4 w =>
 F0 52 t4 7 R w fun t5 w =>
 opU Pg (Instr.storeAt 49 t5 t3) (panK R) w fun w =>
 R (.returned (.tuple #[])) w
theorem n82s {t0:Value} {R:RT} {w:World} (h:n82 t0 R w):Calls Pg 86 #[t0] w R:=by
 refine calls_of_den (args:=[t0]) Tryz.func86 rfl (Nat.le_of_ble_eq_true rfl) ?_
 unfold n82 at h
 refine zr<|zm ?_
 refine sim_build h rfl (fun _ _ h=>⟨rfl,h⟩) ?_;intro t3 w h
 refine sim_next h rfl rfl (fun _ _ h=>⟨rfl,h⟩) ?_;intro t4 w h
 refine zv h fun t5 w h=>?_
 refine zu h fun w h=>?_
 refine zn ?_
 refine body_normal ?_
 exact body_ret0 rfl h
def n57c1 (t2 t4 t21:Value) (Kr2:World→Prop) (Qr2:List PanicEntry→World→Prop) (R:RT) (w:World):Prop :=
 opV Pg (Instr.loadAt 55 t4) Qr2 w fun t23 w =>
 opV Pg (Instr.lookup 55 t23 t21 true) Qr2 w fun t25 w =>
 opV Pg (Instr.extract t25 0) Qr2 w fun t26 w =>
 opV Pg (Instr.extract t25 1) Qr2 w fun t27 w =>
 opV Pg (Instr.alloc 58 true (.tuple #[])) Qr2 w fun t6 w =>
 opU Pg (Instr.storeAt 58 t6 t26) Qr2 w fun w =>
 opV Pg (Instr.loadAt 61 t2) Qr2 w fun t28 w =>
 callK Pg 37 #[t28,t27,(.int .i64 8)] Qr2 w fun t30 w =>
 Kr2 w
def n57c2 (t8 t38 t40 t44:Value) (ds:List Deferred) (R:RT) (w:World):Prop :=
 pickK t40 t44 (.bool false) fun t45 =>
 joinK (fun (t49:Value) (w:World) =>
 pickK t45 t49 (.bool false) fun t50 =>
 callK Pg 37 #[t38,t50,(.int .i64 9)] (outQ Pg ds [] R) w fun t51 w =>
 outX Pg ds [] R w) fun K4 =>
 guardP t45 true (
 opV Pg (Instr.fieldAt 58 t8 1) (outQ Pg ds [] R) w fun t47 w =>
 opV Pg (Instr.loadAt 3 t47) (outQ Pg ds [] R) w fun t48 w =>
 opV Pg (binS .leq 3 true t48 (.int .i64 1048576)) (outQ Pg ds [] R) w fun t49 w =>
 K4 t49 w) (
 K4 undef w)
def n57c3 (t2 t35:Value) (ds:List Deferred) (R:RT) (w:World):Prop :=
 opV Pg (Instr.extract t35 0) (outQ Pg ds [] R) w fun t36 w =>
 opV Pg (Instr.extract t35 1) (outQ Pg ds [] R) w fun t37 w =>
 opV Pg (Instr.alloc 58 true (.tuple #[])) (outQ Pg ds [] R) w fun t8 w =>
 opU Pg (Instr.storeAt 58 t8 t36) (outQ Pg ds [] R) w fun w =>
 opV Pg (Instr.loadAt 61 t2) (outQ Pg ds [] R) w fun t38 w =>
 opV Pg (binS .eql 27 true t37 (.int .i64 0)) (outQ Pg ds [] R) w fun t40 w =>
 joinK (fun (t44:Value) (w:World) =>
 n57c2 t8 t38 t40 t44 ds R w) fun K3 =>
 guardP t40 true (
 opV Pg (Instr.fieldAt 58 t8 0) (outQ Pg ds [] R) w fun t42 w =>
 opV Pg (Instr.loadAt 3 t42) (outQ Pg ds [] R) w fun t43 w =>
 opV Pg (binS .geq 3 true t43 (.int .i64 0)) (outQ Pg ds [] R) w fun t44 w =>
 K3 t44 w) (
 K3 undef w)
def n57c4 (t2 t3 t4:Value) (ds:List Deferred) (R:RT) (w:World):Prop :=
 opV Pg (Instr.fieldAt 52 t3 7) (outQ Pg ds [] R) w fun t32 w =>
 opV Pg (Instr.loadAt 49 t32) (outQ Pg ds [] R) w fun t33 w =>
 opV Pg (Instr.loadAt 55 t4) (outQ Pg ds [] R) w fun t34 w =>
 callK Pg 114 #[t33,t34] (outQ Pg ds [] R) w fun t35 w =>
 n57c3 t2 t35 ds R w
def n57c5 (t2 t3 t4 t20:Value) (ds:List Deferred) (R:RT) (w:World):Prop :=
 rangeN Pg t20 ds (fun l2 t21 w Kr2 Xr2 Qr2 =>
 busyK l2 w fun w =>
 n57c1 t2 t4 t21 Kr2 Qr2 R w) (fun ch ds w=>outQ Pg ds [] R ch w) w (fun ds w =>
 n57c4 t2 t3 t4 ds R w) []
def n57c6 (t2 t3 t17:Value) (ds:List Deferred) (R:RT) (w:World):Prop :=
 opV Pg (Instr.alloc 55 true (.tuple #[])) (outQ Pg ds [] R) w fun t4 w =>
 opU Pg (Instr.storeAt 55 t4 t17) (outQ Pg ds [] R) w fun w =>
 opV Pg (Instr.fieldAt 52 t3 7) (outQ Pg ds [] R) w fun t18 w =>
 opV Pg (Instr.loadAt 49 t18) (outQ Pg ds [] R) w fun t19 w =>
 callK Pg 113 #[t19] (outQ Pg ds [] R) w fun t20 w =>
 n57c5 t2 t3 t4 t20 ds R w
def n57c7 (t2 t3:Value) (ds:List Deferred) (R:RT) (w:World):Prop :=
 opV Pg (Instr.loadAt 61 t2) (outQ Pg ds [] R) w fun t15 w =>
 callK Pg 68 #[t15] (outQ Pg ds [] R) w fun t16 w =>
 callK Pg 35 #[t16] (outQ Pg ds [] R) w fun t17 w =>
 n57c6 t2 t3 t17 ds R w
def n57c8 (t2 t3:Value) (C1:World→Prop) (ds:List Deferred) (R:RT) (w:World):Prop :=
 qV Pg C1 (Instr.loadAt 61 t2) fun t10 =>
 qV Pg C1 (Instr.fieldAt 52 t3 7) fun t11 =>
 qV Pg C1 (Instr.loadAt 49 t11) fun t12 =>
 callK Pg 112 #[t12] (outQ Pg ds [] R) w fun t13 w =>
 C1 w∧(
 callK Pg 37 #[t10,t13,(.int .i64 9)] (outQ Pg ds [] R) w fun t14 w =>
 C1 w∧(
 n57c7 t2 t3 ds R w))
def n57 (t0 t1:Value) (R:RT) (w:World):Prop :=
 (fun (ds:List Deferred) =>
 opV Pg (Instr.box 61 t0) (outQ Pg ds [] R) w fun t2 w =>
 opV Pg (Instr.box 52 t1) (outQ Pg ds [] R) w fun t3 w =>
 drawK w fun C1 w =>
 n57c8 t2 t3 C1 ds R w) []
theorem n57s {t0 t1:Value} {R:RT} {w:World} (h:n57 t0 t1 R w):Calls Pg 87 #[t0,t1] w R:=by
 refine calls_of_denM (args:=[t0,t1]) Tryz.func87 rfl (Nat.le_of_ble_eq_true rfl) ?_
 unfold n57 at h
 dsimp only at h
 refine zs<|zr ?_
 refine zq h fun t2 w h=>?_
 refine zq h fun t3 w h=>?_
 refine zn<|zk<|zs ?_
 obtain ⟨C1,hC,h⟩:=h
 refine sim_draw [10,11,12,13,14] (by kernel_rfl) (by kernel_rfl) C1 ?_
 refine ze 0 hC h fun t10 h=>?_
 refine ze 1 hC h fun t11 h=>?_
 refine ze 2 hC h fun t12 h=>?_
 refine sim_dloud 3 rfl (by kernel_rfl) (fun _ _=>rfl) ?_
 refine sim_call h c112 rfl (fun _ _ h=>outQ_ofD rfl rfl h) ?_;intro t13 w h
 refine zn ?_
 obtain ⟨hC,h⟩:=h
 refine ⟨hC,?_⟩
 refine sim_dloud 4 rfl (by kernel_rfl) (fun _ _=>rfl) ?_
 refine sim_call h c37 rfl (fun _ _ h=>outQ_ofD rfl rfl h) ?_;intro t14 w h
 refine zn ?_
 obtain ⟨hC,h⟩:=h
 refine ⟨hC,?_⟩
 refine sim_dend (by kernel_rfl) ?_
 refine zk<|zs<|zr ?_
 refine zq h fun t15 w h=>?_
 refine sim_call h c68 rfl (fun _ _ h=>outQ_of rfl h) ?_;intro t16 w h
 refine sim_call h c35 rfl (fun _ _ h=>outQ_of rfl h) ?_;intro t17 w h
 refine zq h fun t4 w h=>?_
 refine sim_unit h rfl rfl (fun _ _ h=>outQ_of rfl h) ?_;intro w h
 refine zn<|zk<|zs<|zs<|zr ?_
 refine zq h fun t18 w h=>?_
 refine zq h fun t19 w h=>?_
 refine sim_call h c113 rfl (fun _ _ h=>outQ_of rfl h) ?_;intro t20 w h
 refine zn<|zk<|sim_block ?_
 refine sim_range [] h rfl (fun l2 t21 w Kr2 Xr2 Qr2 h=>?_) (fun ds w h=>?_) (fun c ds w h=>?_) (fun ch ds w h=>outQ_of rfl h)
 · refine zr<|zm<|zn<|zk ?_
   obtain ⟨hr,h⟩:=h
   refine ⟨rfl,hr,fun w hb=>?_⟩
   have h:=h w hb
   refine sim_block<|zs<|zr ?_
   refine zv h fun t23 w h=>?_
   refine zm ?_
   refine zv h fun t25 w h=>?_
   refine zm ?_
   refine zv h fun t26 w h=>?_
   refine zv h fun t27 w h=>?_
   refine zv h fun t6 w h=>?_
   refine zu h fun w h=>?_
   refine zm<|zn<|zk<|zr ?_
   refine zv h fun t28 w h=>?_
   refine zm ?_
   refine zc h c37 fun t30 w h=>?_
   refine zn<|sim_block_normal ?_
   exact ⟨rfl,h⟩
 · refine sim_block_normal<|zk<|zs<|zr ?_
   refine zq h fun t32 w h=>?_
   refine zq h fun t33 w h=>?_
   refine zq h fun t34 w h=>?_
   refine sim_call h c114 rfl (fun _ _ h=>outQ_of rfl h) ?_;intro t35 w h
   refine zm ?_
   refine zq h fun t36 w h=>?_
   refine zq h fun t37 w h=>?_
   refine zq h fun t8 w h=>?_
   refine sim_unit h rfl rfl (fun _ _ h=>outQ_of rfl h) ?_;intro w h
   refine zm<|zn<|zk<|sim_regionG ?_
   refine sim_seg 4 rfl ?_
   refine zq h fun t38 w h=>?_
   refine zm ?_
   refine sim_bin h rfl rfl rfl (fun _ _ h=>outQ_of rfl h) ?_;intro t40 w h
   refine zm<|zn ?_
   refine joinK_elim h (fun K3 hK h=>?_)
   refine sim_groupJ 3 3 true [42,43,44] (fun ρ w=>K3 (ρ 44) w) rfl rfl (fun T hT=>guardP_mono h (fun h=>?_) (fun h=>?_)) (fun σ w h=>?_)
   · refine zq h fun t42 w h=>?_
     refine zq h fun t43 w h=>?_
     refine sim_bin h rfl rfl rfl (fun _ _ h=>outQ_of rfl h) ?_;intro t44 w h
     refine zn ?_
     exact zt hT h
   · exact zt hT h
   subst hK
   refine sim_seg 2 rfl ?_
   refine sim_pick h rfl rfl rfl ?_;intro t45 h
   refine zm<|zn ?_
   refine joinK_elim h (fun K4 hK h=>?_)
   refine sim_groupJ 3 8 true [47,48,49] (fun ρ w=>K4 (ρ 49) w) rfl rfl (fun T hT=>guardP_mono h (fun h=>?_) (fun h=>?_)) (fun σ w h=>?_)
   · refine zq h fun t47 w h=>?_
     refine zq h fun t48 w h=>?_
     refine sim_bin h rfl rfl rfl (fun _ _ h=>outQ_of rfl h) ?_;intro t49 w h
     refine zn ?_
     exact zt hT h
   · exact zt hT h
   subst hK
   refine sim_seg 2 rfl ?_
   refine sim_pick h rfl rfl rfl ?_;intro t50 h
   refine sim_call h c37 rfl (fun _ _ h=>outQ_of rfl h) ?_;intro t51 w h
   refine zn<|sim_end ?_
   refine Sw.bodyM_normal ?_
   exact Sw.bodyM_ret rfl h
 · exact h.elim
def n83 (t0:Value) (R:RT) (w:World):Prop :=
 opN Pg (nilN t0) (panK R) w fun t4 w =>
 F0 52 t4 5 R w fun t5 w =>
 opU Pg (Instr.storeAt 3 t5 (.int .i64 0)) (panK R) w fun w =>
 opN Pg (nilN t0) (panK R) w fun t6 w =>
 F0 52 t6 6 R w fun t7 w =>
 opU Pg (Instr.storeAt 3 t7 (.int .i64 0)) (panK R) w fun w =>
 R (.returned (.tuple #[])) w
theorem n83s {t0:Value} {R:RT} {w:World} (h:n83 t0 R w):Calls Pg 88 #[t0] w R:=by
 refine calls_of_den (args:=[t0]) Tryz.func88 rfl (Nat.le_of_ble_eq_true rfl) ?_
 unfold n83 at h
 refine zr<|zm<|zm ?_
 refine sim_next h rfl rfl (fun _ _ h=>⟨rfl,h⟩) ?_;intro t4 w h
 refine zv h fun t5 w h=>?_
 refine zu h fun w h=>?_
 refine sim_next h rfl rfl (fun _ _ h=>⟨rfl,h⟩) ?_;intro t6 w h
 refine zv h fun t7 w h=>?_
 refine zu h fun w h=>?_
 refine zn ?_
 refine body_normal ?_
 exact body_ret0 rfl h
def n84c1 (t0 t3:Value) (R:RT) (w:World):Prop :=
 F0 52 t3 6 R w fun t10 w =>
 L0 3 t10 R w fun t11 w =>
 opV Pg (Instr.buildSlice 85 1 #[(0,t11)]) (panK R) w fun t12 w =>
 C0 81 #[t0,(.int .i64 0),(.int .i64 1048576),t12] R w fun t13 w =>
 R (.returned (.tuple #[])) w
def n84 (t0 t1:Value) (R:RT) (w:World):Prop :=
 opV Pg (Instr.box 52 t1) (panK R) w fun t3 w =>
 F0 52 t3 5 R w fun t5 w =>
 L0 3 t5 R w fun t6 w =>
 opV Pg (Instr.buildSlice 85 1 #[(0,t6)]) (panK R) w fun t7 w =>
 C0 81 #[t0,(.int .i64 0),(.int .i64 255),t7] R w fun t8 w =>
 n84c1 t0 t3 R w
theorem n84s {t0 t1:Value} {R:RT} {w:World} (h:n84 t0 t1 R w):Calls Pg 89 #[t0,t1] w R:=by
 refine calls_of_den (args:=[t0,t1]) Tryz.func89 rfl (Nat.le_of_ble_eq_true rfl) ?_
 unfold n84 at h
 refine zs<|zr ?_
 refine zv h fun t3 w h=>?_
 refine zn<|zk<|zs<|zr<|zm ?_
 refine zv h fun t5 w h=>?_
 refine zv h fun t6 w h=>?_
 refine sim_buildSlice h rfl (fun _ _ h=>⟨rfl,h⟩) ?_;intro t7 w h
 refine zc h c81 fun t8 w h=>?_
 refine zn<|zk<|zr<|zm ?_
 refine zv h fun t10 w h=>?_
 refine zv h fun t11 w h=>?_
 refine sim_buildSlice h rfl (fun _ _ h=>⟨rfl,h⟩) ?_;intro t12 w h
 refine zc h c81 fun t13 w h=>?_
 refine zn ?_
 refine body_normal ?_
 exact body_ret0 rfl h
def n64 (t0:Value) (R:RT) (w:World):Prop :=
 opN Pg (nilN t0) (panK R) w fun t4 w =>
 F0 52 t4 4 R w fun t5 w =>
 opU Pg (Instr.storeAt 4 t5 (.bool false)) (panK R) w fun w =>
 opN Pg (nilN t0) (panK R) w fun t6 w =>
 F0 52 t6 6 R w fun t7 w =>
 opU Pg (Instr.storeAt 3 t7 (.int .i64 0)) (panK R) w fun w =>
 R (.returned (.tuple #[])) w
theorem n64s {t0:Value} {R:RT} {w:World} (h:n64 t0 R w):Calls Pg 90 #[t0] w R:=by
 refine calls_of_den (args:=[t0]) Tryz.func90 rfl (Nat.le_of_ble_eq_true rfl) ?_
 unfold n64 at h
 refine zr<|zm<|zm ?_
 refine sim_next h rfl rfl (fun _ _ h=>⟨rfl,h⟩) ?_;intro t4 w h
 refine zv h fun t5 w h=>?_
 refine zu h fun w h=>?_
 refine sim_next h rfl rfl (fun _ _ h=>⟨rfl,h⟩) ?_;intro t6 w h
 refine zv h fun t7 w h=>?_
 refine zu h fun w h=>?_
 refine zn ?_
 refine body_normal ?_
 exact body_ret0 rfl h
def n65 (t0 t1:Value) (R:RT) (w:World):Prop :=
 opV Pg (Instr.box 52 t1) (panK R) w fun t3 w =>
 F0 52 t3 6 R w fun t5 w =>
 L0 3 t5 R w fun t6 w =>
 opV Pg (Instr.buildSlice 85 1 #[(0,t6)]) (panK R) w fun t7 w =>
 C0 81 #[t0,(.int .i64 2),(.int .i64 1048576),t7] R w fun t8 w =>
 R (.returned (.tuple #[])) w
theorem n65s {t0 t1:Value} {R:RT} {w:World} (h:n65 t0 t1 R w):Calls Pg 91 #[t0,t1] w R:=by
 refine calls_of_den (args:=[t0,t1]) Tryz.func91 rfl (Nat.le_of_ble_eq_true rfl) ?_
 unfold n65 at h
 refine zs<|zr ?_
 refine zv h fun t3 w h=>?_
 refine zn<|zk<|zr<|zm ?_
 refine zv h fun t5 w h=>?_
 refine zv h fun t6 w h=>?_
 refine sim_buildSlice h rfl (fun _ _ h=>⟨rfl,h⟩) ?_;intro t7 w h
 refine zc h c81 fun t8 w h=>?_
 refine zn ?_
 refine body_normal ?_
 exact body_ret0 rfl h
def n66 (t0:Value) (R:RT) (w:World):Prop :=
 opV Pg (Instr.build 49 #[]) (panK R) w fun t4 w =>
 opN Pg (nilN t0) (panK R) w fun t5 w =>
 F0 52 t5 8 R w fun t6 w =>
 opU Pg (Instr.storeAt 9 t6 (.string { data := #[] })) (panK R) w fun w =>
 opN Pg (nilN t0) (panK R) w fun t7 w =>
 F0 52 t7 7 R w fun t8 w =>
 opU Pg (Instr.storeAt 49 t8 t4) (panK R) w fun w =>
 R (.returned (.tuple #[])) w
theorem n66s {t0:Value} {R:RT} {w:World} (h:n66 t0 R w):Calls Pg 92 #[t0] w R:=by
 refine calls_of_den (args:=[t0]) Tryz.func92 rfl (Nat.le_of_ble_eq_true rfl) ?_
 unfold n66 at h
 refine zr<|zm<|zm ?_
 refine sim_build h rfl (fun _ _ h=>⟨rfl,h⟩) ?_;intro t4 w h
 refine sim_next h rfl rfl (fun _ _ h=>⟨rfl,h⟩) ?_;intro t5 w h
 refine zv h fun t6 w h=>?_
 refine zu h fun w h=>?_
 refine sim_next h rfl rfl (fun _ _ h=>⟨rfl,h⟩) ?_;intro t7 w h
 refine zv h fun t8 w h=>?_
 refine zu h fun w h=>?_
 refine zn ?_
 refine body_normal ?_
 exact body_ret0 rfl h
def n67 (t0 t1:Value) (R:RT) (w:World):Prop :=
 opV Pg (Instr.box 52 t1) (panK R) w fun t3 w =>
 F0 52 t3 8 R w fun t5 w =>
 L0 9 t5 R w fun t6 w =>
 C0 94 #[t0,t6] R w fun t7 w =>
 L0 52 t3 R w fun t9 w =>
 C0 87 #[t0,t9] R w fun t10 w =>
 R (.returned (.tuple #[])) w
theorem n67s {t0 t1:Value} {R:RT} {w:World} (h:n67 t0 t1 R w):Calls Pg 93 #[t0,t1] w R:=by
 refine calls_of_den (args:=[t0,t1]) Tryz.func93 rfl (Nat.le_of_ble_eq_true rfl) ?_
 unfold n67 at h
 refine zs<|zr ?_
 refine zv h fun t3 w h=>?_
 refine zn<|zk<|zs<|zr<|zm ?_
 refine zv h fun t5 w h=>?_
 refine zv h fun t6 w h=>?_
 refine zc h c94 fun t7 w h=>?_
 refine zn<|zk<|zr<|zm ?_
 refine zv h fun t9 w h=>?_
 refine zc h c87 fun t10 w h=>?_
 refine zn ?_
 refine body_normal ?_
 exact body_ret0 rfl h
def n56 (t0 t1:Value) (R:RT) (w:World):Prop :=
 opN Pg (nilN t0) (panK R) w fun t8 w =>
 F0 65 t8 1 R w fun t9 w =>
 L0 62 t9 R w fun t10 w =>
 opV Pg (Instr.lookup 62 t10 t1 true) (panK R) w fun t12 w =>
 opV Pg (Instr.extract t12 0) (panK R) w fun t13 w =>
 opV Pg (Instr.extract t12 1) (panK R) w fun t14 w =>
 C0 37 #[t0,t14,(.int .i64 8)] R w fun t17 w =>
 R (.returned (.tuple #[])) w
theorem n56s {t0 t1:Value} {R:RT} {w:World} (h:n56 t0 t1 R w):Calls Pg 94 #[t0,t1] w R:=by
 refine calls_of_den (args:=[t0,t1]) Tryz.func94 rfl (Nat.le_of_ble_eq_true rfl) ?_
 unfold n56 at h
 refine zs<|zr<|zm ?_
 refine sim_next h rfl rfl (fun _ _ h=>⟨rfl,h⟩) ?_;intro t8 w h
 refine zv h fun t9 w h=>?_
 refine zv h fun t10 w h=>?_
 refine zm ?_
 refine zv h fun t12 w h=>?_
 refine zm ?_
 refine zv h fun t13 w h=>?_
 refine zv h fun t14 w h=>?_
 refine zm<|zm<|zn<|zk<|zr<|zm<|zm ?_
 refine zc h c37 fun t17 w h=>?_
 refine zn ?_
 refine body_normal ?_
 exact body_ret0 rfl h
def n68 (t0:Value) (R:RT) (w:World):Prop :=
 opN Pg (nilN t0) (panK R) w fun t3 w =>
 F0 52 t3 8 R w fun t4 w =>
 opU Pg (Instr.storeAt 9 t4 (.string { data := #[] })) (panK R) w fun w =>
 R (.returned (.tuple #[])) w
theorem n68s {t0:Value} {R:RT} {w:World} (h:n68 t0 R w):Calls Pg 95 #[t0] w R:=by
 refine calls_of_den (args:=[t0]) Tryz.func95 rfl (Nat.le_of_ble_eq_true rfl) ?_
 unfold n68 at h
 refine zr<|zm ?_
 refine sim_next h rfl rfl (fun _ _ h=>⟨rfl,h⟩) ?_;intro t3 w h
 refine zv h fun t4 w h=>?_
 refine zu h fun w h=>?_
 refine zn ?_
 refine body_normal ?_
 exact body_ret0 rfl h
def n69 (t0 t1:Value) (R:RT) (w:World):Prop :=
 opV Pg (Instr.box 52 t1) (panK R) w fun t3 w =>
 F0 52 t3 8 R w fun t5 w =>
 L0 9 t5 R w fun t6 w =>
 C0 94 #[t0,t6] R w fun t7 w =>
 R (.returned (.tuple #[])) w
theorem n69s {t0 t1:Value} {R:RT} {w:World} (h:n69 t0 t1 R w):Calls Pg 96 #[t0,t1] w R:=by
 refine calls_of_den (args:=[t0,t1]) Tryz.func96 rfl (Nat.le_of_ble_eq_true rfl) ?_
 unfold n69 at h
 refine zs<|zr ?_
 refine zv h fun t3 w h=>?_
 refine zn<|zk<|zr<|zm ?_
 refine zv h fun t5 w h=>?_
 refine zv h fun t6 w h=>?_
 refine zc h c94 fun t7 w h=>?_
 refine zn ?_
 refine body_normal ?_
 exact body_ret0 rfl h
def n70 (t0:Value) (R:RT) (w:World):Prop :=
 opN Pg (nilN t0) (panK R) w fun t4 w =>
 F0 52 t4 9 R w fun t5 w =>
 opU Pg (Instr.storeAt 9 t5 (.string { data := #[] })) (panK R) w fun w =>
 opN Pg (nilN t0) (panK R) w fun t6 w =>
 F0 52 t6 11 R w fun t7 w =>
 opU Pg (Instr.storeAt 50 t7 (Value.slice none 0 0)) (panK R) w fun w =>
 R (.returned (.tuple #[])) w
theorem n70s {t0:Value} {R:RT} {w:World} (h:n70 t0 R w):Calls Pg 97 #[t0] w R:=by
 refine calls_of_den (args:=[t0]) Tryz.func97 rfl (Nat.le_of_ble_eq_true rfl) ?_
 unfold n70 at h
 refine zr<|zm<|zm ?_
 refine sim_next h rfl rfl (fun _ _ h=>⟨rfl,h⟩) ?_;intro t4 w h
 refine zv h fun t5 w h=>?_
 refine zu h fun w h=>?_
 refine sim_next h rfl rfl (fun _ _ h=>⟨rfl,h⟩) ?_;intro t6 w h
 refine zv h fun t7 w h=>?_
 refine zu h fun w h=>?_
 refine zn ?_
 refine body_normal ?_
 exact body_ret0 rfl h
end Go.Proofs.YtiajhbbmgglmlaaGreat
