/-
  phrasebooklaw04.SizeValid returns true for every size, text and number, and leaves its arguments as they were; no condition is asked but that the tables of the library lie as the program lays them (the card ties them).
-/
import Derived.Test.YtpgkjhikdhdffaaGreatDoorVa3
set_option linter.all false
set_option maxHeartbeats 4000000
set_option maxRecDepth 100000
namespace Go.Proofs.YtpgkjhikdhdffaaGreatDoor
open Sw
def n4c1 (t5 t11 t12:Value) (Kr9:World→Prop) (Qr9:List PanicEntry→World→Prop) (Xr9:Nat→World→Prop) (R:RT) (w:World):Prop :=
 opV Pg (Instr.loadAt 3 t12) Qr9 w fun t83 w =>
 opV Pg (binS .add 3 true t83 (.int .i64 1)) Qr9 w fun t84 w =>
 opU Pg (Instr.storeAt 3 t12 t84) Qr9 w fun w =>
 opV Pg (Instr.loadAt 3 t11) Qr9 w fun t85 w =>
 opV Pg (binS .eql 3 true t85 (.int .i64 0)) Qr9 w fun t86 w =>
 joinK (fun (t90:Value) (w:World) =>
 pickK t86 t90 (.bool false) fun t91 =>
 condP t91 (
 Xr9 1 w) (
 Kr9 w)) fun K11 =>
 guardP t86 true (
 opV Pg (Instr.loadAt 3 t12) Qr9 w fun t88 w =>
 opV Pg (Instr.loadAt 3 t5) Qr9 w fun t89 w =>
 opV Pg (binS .geq 3 false t88 t89) Qr9 w fun t90 w =>
 K11 t90 w) (
 K11 undef w)
def n4c2 (t3 t5 t6 t10 t11 t12 t69:Value) (Kr9:World→Prop) (Qr9:List PanicEntry→World→Prop) (Xr9:Nat→World→Prop) (R:RT) (w:World):Prop :=
 opV Pg (Instr.loadAt 3 t12) Qr9 w fun t70 w =>
 opV Pg (Instr.loadAt 3 t10) Qr9 w fun t71 w =>
 opV Pg (binS .geq 3 false t70 t71) Qr9 w fun t72 w =>
 joinK (fun (t81:Value) (w:World) =>
 pickK t72 (.bool true) t81 fun t82 =>
 condP t82 (
 opU Pg (Instr.storeAt 4 t6 (.bool false)) Qr9 w fun w =>
 Xr9 0 w) (
 n4c1 t5 t11 t12 Kr9 Qr9 Xr9 R w)) fun K10 =>
 guardP t72 false (
 opV Pg (Instr.fieldAt 24 t3 1) Qr9 w fun t75 w =>
 opV Pg (Instr.loadAt 22 t75) Qr9 w fun t76 w =>
 opV Pg (Instr.loadAt 3 t12) Qr9 w fun t77 w =>
 opV Pg (Instr.indexAt 22 t76 t77) Qr9 w fun t78 w =>
 opV Pg (Instr.fieldAt 32 t78 0) Qr9 w fun t79 w =>
 opV Pg (Instr.loadAt 9 t79) Qr9 w fun t80 w =>
 opV Pg (binS .neq 9 false t69 t80) Qr9 w fun t81 w =>
 K10 t81 w) (
 K10 undef w)
def n4c3 (t6 t11:Value) (next8:List Deferred→Value→World→Prop) (ds:List Deferred) (R:RT) (w:World):Prop :=
 opV Pg (Instr.loadAt 3 t11) (outQ Pg ds [(some 4,t6)] R) w fun t111 w =>
 opV Pg (Instr.alloc 3 true (.tuple #[])) (outQ Pg ds [(some 4,t6)] R) w fun t11 w =>
 opU Pg (Instr.storeAt 3 t11 t111) (outQ Pg ds [(some 4,t6)] R) w fun w =>
 opV Pg (Instr.loadAt 3 t11) (outQ Pg ds [(some 4,t6)] R) w fun t66 w =>
 opV Pg (binS .add 3 true t66 (.int .i64 1)) (outQ Pg ds [(some 4,t6)] R) w fun t67 w =>
 opU Pg (Instr.storeAt 3 t11 t67) (outQ Pg ds [(some 4,t6)] R) w fun w =>
 next8 ds t11 w
def n4c4 (t6 t11 t101 t109:Value) (next8:List Deferred→Value→World→Prop) (ds:List Deferred) (R:RT) (w:World):Prop :=
 pickK t101 (.bool true) t109 fun t110 =>
 condP t110 (
 opU Pg (Instr.storeAt 4 t6 (.bool false)) (outQ Pg ds [(some 4,t6)] R) w fun w =>
 outX Pg ds [(some 4,t6)] R w) (
 n4c3 t6 t11 next8 ds R w)
def n4c5 (t6 t11 t101 t105 t108:Value) (next8:List Deferred→Value→World→Prop) (ds:List Deferred) (R:RT) (w:World):Prop :=
 joinK (fun (t109:Value) (w:World) =>
 n4c4 t6 t11 t101 t109 next8 ds R w) fun K15 =>
 guardP t101 false (
 pickK t105 t108 (.bool false) fun t109 =>
 K15 t109 w) (
 K15 undef w)
def n4c6 (t6 t10 t11 t12 t101 t105:Value) (next8:List Deferred→Value→World→Prop) (ds:List Deferred) (R:RT) (w:World):Prop :=
 joinK (fun (t108:Value) (w:World) =>
 n4c5 t6 t11 t101 t105 t108 next8 ds R w) fun K14 =>
 guardP t105 true (
 opV Pg (Instr.loadAt 3 t12) (outQ Pg ds [(some 4,t6)] R) w fun t106 w =>
 opV Pg (Instr.loadAt 3 t10) (outQ Pg ds [(some 4,t6)] R) w fun t107 w =>
 opV Pg (binS .neq 3 false t106 t107) (outQ Pg ds [(some 4,t6)] R) w fun t108 w =>
 K14 t108 w) (
 K14 undef w)
def n4c7 (t6 t10 t11 t12 t93 t100:Value) (next8:List Deferred→Value→World→Prop) (ds:List Deferred) (R:RT) (w:World):Prop :=
 pickK t93 t100 (.bool false) fun t101 =>
 joinK (fun (t105:Value) (w:World) =>
 n4c6 t6 t10 t11 t12 t101 t105 next8 ds R w) fun K13 =>
 guardP t101 false (
 opV Pg (Instr.loadAt 3 t11) (outQ Pg ds [(some 4,t6)] R) w fun t103 w =>
 opV Pg (binS .eql 3 true t103 (.int .i64 1)) (outQ Pg ds [(some 4,t6)] R) w fun t104 w =>
 K13 t104 w) (
 K13 undef w)
def n4c8 (t5 t6 t10 t12:Value) (K12:KV) (ds:List Deferred) (R:RT) (w:World):Prop :=
 opV Pg (Instr.loadAt 3 t12) (outQ Pg ds [(some 4,t6)] R) w fun t95 w =>
 opV Pg (Instr.loadAt 3 t10) (outQ Pg ds [(some 4,t6)] R) w fun t96 w =>
 opV Pg (Instr.loadAt 3 t5) (outQ Pg ds [(some 4,t6)] R) w fun t97 w =>
 opV Pg (Builtin.max_ #[3,3] 3 #[(.int .i64 1),t97]) (outQ Pg ds [(some 4,t6)] R) w fun t98 w =>
 opV Pg (Builtin.min_ #[3,3] 3 #[t96,t98]) (outQ Pg ds [(some 4,t6)] R) w fun t99 w =>
 opV Pg (binS .neq 3 false t95 t99) (outQ Pg ds [(some 4,t6)] R) w fun t100 w =>
 K12 t100 w
def n4c9 (t5 t6 t10 t11 t12:Value) (next8:List Deferred→Value→World→Prop) (ds:List Deferred) (R:RT) (w:World):Prop :=
 opV Pg (Instr.loadAt 3 t11) (outQ Pg ds [(some 4,t6)] R) w fun t92 w =>
 opV Pg (binS .eql 3 true t92 (.int .i64 0)) (outQ Pg ds [(some 4,t6)] R) w fun t93 w =>
 joinK (fun (t100:Value) (w:World) =>
 n4c7 t6 t10 t11 t12 t93 t100 next8 ds R w) fun K12 =>
 guardP t93 true (
 n4c8 t5 t6 t10 t12 K12 ds R w) (
 K12 undef w)
def n4c10 (t6 t11:Value) (next8:List Deferred→Value→World→Prop) (ds:List Deferred) (R:RT) (w:World):Prop :=
 opV Pg (Instr.loadAt 3 t11) (outQ Pg ds [(some 4,t6)] R) w fun t111 w =>
 opV Pg (Instr.alloc 3 true (.tuple #[])) (outQ Pg ds [(some 4,t6)] R) w fun t11 w =>
 opU Pg (Instr.storeAt 3 t11 t111) (outQ Pg ds [(some 4,t6)] R) w fun w =>
 opV Pg (Instr.loadAt 3 t11) (outQ Pg ds [(some 4,t6)] R) w fun t66 w =>
 opV Pg (binS .add 3 true t66 (.int .i64 1)) (outQ Pg ds [(some 4,t6)] R) w fun t67 w =>
 opU Pg (Instr.storeAt 3 t11 t67) (outQ Pg ds [(some 4,t6)] R) w fun w =>
 next8 ds t11 w
def n4c11 (t6 t11 t101 t109:Value) (next8:List Deferred→Value→World→Prop) (ds:List Deferred) (R:RT) (w:World):Prop :=
 pickK t101 (.bool true) t109 fun t110 =>
 condP t110 (
 opU Pg (Instr.storeAt 4 t6 (.bool false)) (outQ Pg ds [(some 4,t6)] R) w fun w =>
 outX Pg ds [(some 4,t6)] R w) (
 n4c10 t6 t11 next8 ds R w)
def n4c12 (t6 t11 t101 t105 t108:Value) (next8:List Deferred→Value→World→Prop) (ds:List Deferred) (R:RT) (w:World):Prop :=
 joinK (fun (t109:Value) (w:World) =>
 n4c11 t6 t11 t101 t109 next8 ds R w) fun K19 =>
 guardP t101 false (
 pickK t105 t108 (.bool false) fun t109 =>
 K19 t109 w) (
 K19 undef w)
def n4c13 (t6 t10 t11 t12 t101 t105:Value) (next8:List Deferred→Value→World→Prop) (ds:List Deferred) (R:RT) (w:World):Prop :=
 joinK (fun (t108:Value) (w:World) =>
 n4c12 t6 t11 t101 t105 t108 next8 ds R w) fun K18 =>
 guardP t105 true (
 opV Pg (Instr.loadAt 3 t12) (outQ Pg ds [(some 4,t6)] R) w fun t106 w =>
 opV Pg (Instr.loadAt 3 t10) (outQ Pg ds [(some 4,t6)] R) w fun t107 w =>
 opV Pg (binS .neq 3 false t106 t107) (outQ Pg ds [(some 4,t6)] R) w fun t108 w =>
 K18 t108 w) (
 K18 undef w)
def n4c14 (t6 t10 t11 t12 t93 t100:Value) (next8:List Deferred→Value→World→Prop) (ds:List Deferred) (R:RT) (w:World):Prop :=
 pickK t93 t100 (.bool false) fun t101 =>
 joinK (fun (t105:Value) (w:World) =>
 n4c13 t6 t10 t11 t12 t101 t105 next8 ds R w) fun K17 =>
 guardP t101 false (
 opV Pg (Instr.loadAt 3 t11) (outQ Pg ds [(some 4,t6)] R) w fun t103 w =>
 opV Pg (binS .eql 3 true t103 (.int .i64 1)) (outQ Pg ds [(some 4,t6)] R) w fun t104 w =>
 K17 t104 w) (
 K17 undef w)
def n4c15 (t5 t6 t10 t12:Value) (K16:KV) (ds:List Deferred) (R:RT) (w:World):Prop :=
 opV Pg (Instr.loadAt 3 t12) (outQ Pg ds [(some 4,t6)] R) w fun t95 w =>
 opV Pg (Instr.loadAt 3 t10) (outQ Pg ds [(some 4,t6)] R) w fun t96 w =>
 opV Pg (Instr.loadAt 3 t5) (outQ Pg ds [(some 4,t6)] R) w fun t97 w =>
 opV Pg (Builtin.max_ #[3,3] 3 #[(.int .i64 1),t97]) (outQ Pg ds [(some 4,t6)] R) w fun t98 w =>
 opV Pg (Builtin.min_ #[3,3] 3 #[t96,t98]) (outQ Pg ds [(some 4,t6)] R) w fun t99 w =>
 opV Pg (binS .neq 3 false t95 t99) (outQ Pg ds [(some 4,t6)] R) w fun t100 w =>
 K16 t100 w
def n4c16 (t5 t6 t10 t11 t12:Value) (next8:List Deferred→Value→World→Prop) (ds:List Deferred) (R:RT) (w:World):Prop :=
 opV Pg (Instr.loadAt 3 t11) (outQ Pg ds [(some 4,t6)] R) w fun t92 w =>
 opV Pg (binS .eql 3 true t92 (.int .i64 0)) (outQ Pg ds [(some 4,t6)] R) w fun t93 w =>
 joinK (fun (t100:Value) (w:World) =>
 n4c14 t6 t10 t11 t12 t93 t100 next8 ds R w) fun K16 =>
 guardP t93 true (
 n4c15 t5 t6 t10 t12 K16 ds R w) (
 K16 undef w)
def n4c17 (t6:Value) (ds:List Deferred) (R:RT) (w:World):Prop :=
 callK Pg 9 #[] (outQ Pg ds [(some 4,t6)] R) w fun t112 w =>
 opU Pg (Instr.storeAt 4 t6 t112) (outQ Pg ds [(some 4,t6)] R) w fun w =>
 outX Pg ds [(some 4,t6)] R w
def n4c18 (t3 t5 t6 t10 t11 t44:Value) (next8:List Deferred→Value→World→Prop) (ds:List Deferred) (R:RT) (w:World):Prop :=
 opV Pg (Instr.alloc 3 true (.tuple #[])) (outQ Pg ds [(some 4,t6)] R) w fun t12 w =>
 opU Pg (Instr.storeAt 3 t12 (.int .i64 0)) (outQ Pg ds [(some 4,t6)] R) w fun w =>
 rangeN Pg t44 ds (fun l9 t69 w Kr9 Xr9 Qr9 =>
 busyK l9 w fun w =>
 n4c2 t3 t5 t6 t10 t11 t12 t69 Kr9 Qr9 Xr9 R w) (fun ch ds w=>outQ Pg ds [(some 4,t6)] R ch w) w (fun ds w =>
 n4c9 t5 t6 t10 t11 t12 next8 ds R w) [fun ds w =>
 outX Pg ds [(some 4,t6)] R w,fun ds w =>
 n4c16 t5 t6 t10 t11 t12 next8 ds R w]
def n4c19 (t3 t5 t6 t10 t11 t44:Value) (next8:List Deferred→Value→World→Prop) (ds:List Deferred) (R:RT) (w:World):Prop :=
 opV Pg (Instr.loadAt 3 t11) (outQ Pg ds [(some 4,t6)] R) w fun t64 w =>
 opV Pg (binS .lss 3 true t64 (.int .i64 2)) (outQ Pg ds [(some 4,t6)] R) w fun t65 w =>
 condP t65 (
 n4c18 t3 t5 t6 t10 t11 t44 next8 ds R w) (
 n4c17 t6 ds R w)
def n4c20 (t3 t5 t6 t10 t44:Value) (ds:List Deferred) (R:RT) (w:World):Prop :=
 opV Pg (Instr.alloc 3 true (.tuple #[])) (outQ Pg ds [(some 4,t6)] R) w fun t11 w =>
 opU Pg (Instr.storeAt 3 t11 (.int .i64 0)) (outQ Pg ds [(some 4,t6)] R) w fun w =>
 loopM1 (fun ds t11 w next8 =>
 n4c19 t3 t5 t6 t10 t11 t44 next8 ds R w) ds t11 w
def n4c21 (t3 t6 t10:Value) (K7:World→Prop) (ds:List Deferred) (R:RT) (w:World):Prop :=
 opV Pg (Instr.fieldAt 24 t3 1) (outQ Pg ds [(some 4,t6)] R) w fun t61 w =>
 opV Pg (Instr.loadAt 22 t61) (outQ Pg ds [(some 4,t6)] R) w fun t62 w =>
 opV Pg (Builtin.len_ #[22] 3 #[t62]) (outQ Pg ds [(some 4,t6)] R) w fun t63 w =>
 opU Pg (Instr.storeAt 3 t10 t63) (outQ Pg ds [(some 4,t6)] R) w fun w =>
 K7 w
def n4c22 (t3 t5 t6 t44:Value) (ds:List Deferred) (R:RT) (w:World):Prop :=
 opV Pg (Instr.alloc 3 true (.tuple #[])) (outQ Pg ds [(some 4,t6)] R) w fun t10 w =>
 opU Pg (Instr.storeAt 3 t10 (.int .i64 0)) (outQ Pg ds [(some 4,t6)] R) w fun w =>
 opV Pg (Instr.loadAt 24 t3) (outQ Pg ds [(some 4,t6)] R) w fun t59 w =>
 callK Pg 13 #[t59] (outQ Pg ds [(some 4,t6)] R) w fun t60 w =>
 joinK (fun (w:World) =>
 n4c20 t3 t5 t6 t10 t44 ds R w) fun K7 =>
 condP t60 (
 n4c21 t3 t6 t10 K7 ds R w) (
 K7 w)
def n4c23 (t6 t7 t9:Value) (next6:KV) (ds:List Deferred) (R:RT) (w:World):Prop :=
 opV Pg (Instr.fieldAt 24 t7 1) (outQ Pg ds [(some 4,t6)] R) w fun t54 w =>
 opV Pg (Instr.loadAt 22 t54) (outQ Pg ds [(some 4,t6)] R) w fun t55 w =>
 opV Pg (Instr.indexAt 22 t55 t9) (outQ Pg ds [(some 4,t6)] R) w fun t57 w =>
 opV Pg (Instr.fieldAt 32 t57 0) (outQ Pg ds [(some 4,t6)] R) w fun t58 w =>
 opU Pg (Instr.storeAt 9 t58 (.string { data := #[120] })) (outQ Pg ds [(some 4,t6)] R) w fun w =>
 opV Pg (binS .add 3 true t9 (.int .i64 1)) (outQ Pg ds [(some 4,t6)] R) w fun t53 w =>
 next6 t53 w
def n4c24 (t3 t5 t6 t7 t9 t44:Value) (next6:KV) (ds:List Deferred) (R:RT) (w:World):Prop :=
 opV Pg (Instr.fieldAt 24 t7 1) (outQ Pg ds [(some 4,t6)] R) w fun t48 w =>
 opV Pg (Instr.loadAt 22 t48) (outQ Pg ds [(some 4,t6)] R) w fun t49 w =>
 opV Pg (Builtin.len_ #[22] 3 #[t49]) (outQ Pg ds [(some 4,t6)] R) w fun t50 w =>
 opV Pg (binS .lss 3 false t9 t50) (outQ Pg ds [(some 4,t6)] R) w fun t51 w =>
 condP t51 (
 n4c23 t6 t7 t9 next6 ds R w) (
 n4c22 t3 t5 t6 t44 ds R w)
def n4c25 (t3 t5 t6 t7 t44:Value) (ds:List Deferred) (R:RT) (w:World):Prop :=
 opV Pg (binS .eql 29 true t44 .nilFunc) (outQ Pg ds [(some 4,t6)] R) w fun t46 w =>
 condP t46 (
 opU Pg (Instr.storeAt 4 t6 (.bool false)) (outQ Pg ds [(some 4,t6)] R) w fun w =>
 outX Pg ds [(some 4,t6)] R w) (
 loop1 (fun t9 w next6 =>
 n4c24 t3 t5 t6 t7 t9 t44 next6 ds R w) (.int .i64 0) w)
def n4c26 (t3 t5 t6 t7:Value) (ds:List Deferred) (R:RT) (w:World):Prop :=
 opV Pg (Instr.loadAt 24 t7) (outQ Pg ds [(some 4,t6)] R) w fun t43 w =>
 callK Pg 14 #[t43] (outQ Pg ds [(some 4,t6)] R) w fun t44 w =>
 n4c25 t3 t5 t6 t7 t44 ds R w
def n4c27 (t6 t37 t41:Value) (C4:World→Prop) (K5:KV) (ds:List Deferred) (R:RT) (w:World):Prop :=
 qV Pg C4 (Instr.build 24 #[(0,t37),(1,t41)]) fun t42 =>
 opV Pg (Instr.alloc 24 true (.tuple #[])) (outQ Pg ds [(some 4,t6)] R) w fun t7 w =>
 C4 w∧(
 opU Pg (Instr.storeAt 24 t7 t42) (outQ Pg ds [(some 4,t6)] R) w fun w =>
 turnK w fun C20 w =>
 K5 t7 w)
def n4c28 (t6 t7 t37 t38 t40:Value) (C4:World→Prop) (K5:KV) (ds:List Deferred) (R:RT) (w:World):Prop :=
 opV Pg (Builtin.append_ #[22,22] 22 #[t38,t40]) (outQ Pg ds [(some 4,t6)] R) w fun t41 w =>
 C4 w∧(
 qV Pg C4 (Instr.build 24 #[(0,t37),(1,t41)]) fun t42 =>
 opU Pg (Instr.storeAt 24 t7 t42) (outQ Pg ds [(some 4,t6)] R) w fun w =>
 turnK w fun C21 w =>
 K5 t7 w)
def n4c29 (t6 t37 t38 t40:Value) (C4:World→Prop) (K5:KV) (ds:List Deferred) (R:RT) (w:World):Prop :=
 (
 opV Pg (Builtin.append_ #[22,22] 22 #[t38,t40]) (outQ Pg ds [(some 4,t6)] R) w fun t41 w =>
 C4 w∧(
 n4c27 t6 t37 t41 C4 K5 ds R w))∧(
 opV Pg (Instr.alloc 24 true (.tuple #[])) (outQ Pg ds [(some 4,t6)] R) w fun t7 w =>
 C4 w∧(
 n4c28 t6 t7 t37 t38 t40 C4 K5 ds R w))
def n4c30 (t6 t7 t37 t38 t40:Value) (C4:World→Prop) (K5:KV) (ds:List Deferred) (R:RT) (w:World):Prop :=
 opV Pg (Builtin.append_ #[22,22] 22 #[t38,t40]) (outQ Pg ds [(some 4,t6)] R) w fun t41 w =>
 C4 w∧(
 qV Pg C4 (Instr.build 24 #[(0,t37),(1,t41)]) fun t42 =>
 opU Pg (Instr.storeAt 24 t7 t42) (outQ Pg ds [(some 4,t6)] R) w fun w =>
 turnK w fun C22 w =>
 K5 t7 w)
def n4c31 (t3 t5 t6:Value) (C4:World→Prop) (ds:List Deferred) (R:RT) (w:World):Prop :=
 qV Pg C4 (Instr.fieldAt 24 t3 0) fun t36 =>
 qV Pg C4 (Instr.loadAt 3 t36) fun t37 =>
 qV Pg C4 (Instr.fieldAt 24 t3 1) fun t39 =>
 qV Pg C4 (Instr.loadAt 22 t39) fun t40 =>
 joinK (fun (t7:Value) (w:World) =>
 n4c26 t3 t5 t6 t7 ds R w) fun K5 =>
 (
 opV Pg (Instr.buildSlice 22 0 #[]) (outQ Pg ds [(some 4,t6)] R) w fun t38 w =>
 C4 w∧(
 n4c29 t6 t37 t38 t40 C4 K5 ds R w))∧(
 opV Pg (Instr.alloc 24 true (.tuple #[])) (outQ Pg ds [(some 4,t6)] R) w fun t7 w =>
 C4 w∧(
 opV Pg (Instr.buildSlice 22 0 #[]) (outQ Pg ds [(some 4,t6)] R) w fun t38 w =>
 C4 w∧(
 n4c30 t6 t7 t37 t38 t40 C4 K5 ds R w)))
def n4c32 (t3 t5 t6 t28 t34:Value) (ds:List Deferred) (R:RT) (w:World):Prop :=
 pickK t28 (.bool true) t34 fun t35 =>
 condP t35 (
 opU Pg (Instr.storeAt 4 t6 (.bool false)) (outQ Pg ds [(some 4,t6)] R) w fun w =>
 outX Pg ds [(some 4,t6)] R w) (
 drawK w fun C4 w =>
 n4c31 t3 t5 t6 C4 ds R w)
def n4c33 (t3 t5 t6 t25 t27:Value) (C2:World→Prop) (ds:List Deferred) (R:RT) (w:World):Prop :=
 qV Pg C2 (binS .neq 4 false t25 t27) fun t28 =>
 joinK (fun (t34:Value) (w:World) =>
 n4c32 t3 t5 t6 t28 t34 ds R w) fun K3 =>
 guardP t28 false (
 qV Pg C2 (Instr.loadAt 24 t3) fun t30 =>
 qV Pg C2 (Instr.loadAt 24 t3) fun t32 =>
 callK Pg 12 #[t30] (outQ Pg ds [(some 4,t6)] R) w fun t31 w =>
 C2 w∧(
 callK Pg 13 #[t32] (outQ Pg ds [(some 4,t6)] R) w fun t33 w =>
 C2 w∧(
 qV Pg C2 (binS .neq 4 false t31 t33) fun t34 =>
 K3 t34 w))) (
 K3 undef w)
def n4c34 (t1 t3 t5 t6:Value) (C2:World→Prop) (ds:List Deferred) (R:RT) (w:World):Prop :=
 callK Pg 10 #[t1] (outQ Pg ds [(some 4,t6)] R) w fun t25 w =>
 C2 w∧(
 callK Pg 11 #[t1] (outQ Pg ds [(some 4,t6)] R) w fun t27 w =>
 C2 w∧(
 n4c33 t3 t5 t6 t25 t27 C2 ds R w))
def n4c35 (t6:Value) (ds:List Deferred) (R:RT) (w:World):Prop :=
 callK Pg 9 #[] (outQ Pg ds [(some 4,t6)] R) w fun t23 w =>
 opU Pg (Instr.storeAt 4 t6 t23) (outQ Pg ds [(some 4,t6)] R) w fun w =>
 outX Pg ds [(some 4,t6)] R w
def n4 (t0 t1 t2:Value) (R:RT) (w:World):Prop :=
 (fun (ds:List Deferred) =>
 opV Pg (Instr.box 24 t0) (outQ Pg ds [(some 4,undef)] R) w fun t3 w =>
 opV Pg (Instr.box 3 t2) (outQ Pg ds [(some 4,undef)] R) w fun t5 w =>
 opV Pg (Instr.alloc 4 true (.tuple #[])) (outQ Pg ds [(some 4,undef)] R) w fun t6 w =>
 opV Pg (Instr.fieldAt 24 t3 1) (outQ Pg ds [(some 4,t6)] R) w fun t14 w =>
 opV Pg (Instr.loadAt 22 t14) (outQ Pg ds [(some 4,t6)] R) w fun t15 w =>
 opV Pg (Builtin.len_ #[22] 3 #[t15]) (outQ Pg ds [(some 4,t6)] R) w fun t16 w =>
 opV Pg (binS .gtr 3 true t16 (.int .i64 10)) (outQ Pg ds [(some 4,t6)] R) w fun t17 w =>
 joinK (fun (t21:Value) (w:World) =>
 pickK t17 (.bool true) t21 fun t22 =>
 condP t22 (
 n4c35 t6 ds R w) (
 drawK w fun C2 w =>
 n4c34 t1 t3 t5 t6 C2 ds R w)) fun K1 =>
 guardP t17 false (
 opV Pg (Builtin.len_ #[9] 3 #[t1]) (outQ Pg ds [(some 4,t6)] R) w fun t20 w =>
 opV Pg (binS .gtr 3 true t20 (.int .i64 50)) (outQ Pg ds [(some 4,t6)] R) w fun t21 w =>
 K1 t21 w) (
 K1 undef w)) []
set_option maxHeartbeats 40000000 in
theorem n4s {t0 t1 t2:Value} {R:RT} {w:World} (h:n4 t0 t1 t2 R w):Calls Pg 3 #[t0,t1,t2] w R:=by
 refine yE Tryz.func3 ?_
 unfold n4 at h
 dsimp only at h
 refine zs<|zr<|yv h fun _ w h=>yv h fun _ w h=>yv h fun _ w h=>zn<|zk<|zs<|zs<|sim_regionG<|yG 5<|yv h fun _ w h=>yv h fun _ w h=>yx h fun _ w h=>yb h fun _ w h=>?_
 refine zm<|zn<|yg1 3 4 false [19,20,21] 21 h (fun _ T hT h=>?_) fun σ w h=>?_
 · refine zm<|yx h fun _ w h=>yb h fun _ w h=>zn ?_
   exact zt hT h
 refine yG 1<|yp h fun _ h=>zn<|sim_end<|zk<|yC h (fun h=>zs<|zr<|yc h c9 fun _ w h=>yu h fun w h=>zn<|zk<|sim_ret<|sim_then_ret<|bodyM_ret rfl h) fun h=>sim_skip<|zk<|zs<|zs<|yh [24,25,26,27,28,29,30,31,32,33,34,35] h fun C hC h=>yw 0 hC ?_
 refine yw 2 hC ?_
 refine yo 1 ?_
 refine yc h c10 fun _ w h=>zn ?_
 obtain ⟨hC,h⟩:=h
 refine ⟨hC,?_⟩
 refine yo 3 ?_
 refine yc h c11 fun _ w h=>zn ?_
 obtain ⟨hC,h⟩:=h
 refine ⟨hC,?_⟩
 refine ye 4 hC h fun _ h=>?_
 refine yw 5 hC ?_
 refine yj1 1 [10,9,7,8,6,5,4,3,1,2,0] [30,31,32,33,34] 34 h (fun _ hT hb h=>?_) (fun _ hT hb h=>?_) fun σ w hC h=>?_
 · refine ye 6 hC h fun _ h=>?_
   refine ye 8 hC h fun _ h=>?_
   refine yo 7 ?_
   refine yc h c12 fun _ w h=>zn ?_
   obtain ⟨hC,h⟩:=h
   refine ⟨hC,?_⟩
   refine yo 9 ?_
   refine yc h c13 fun _ w h=>zn ?_
   obtain ⟨hC,h⟩:=h
   refine ⟨hC,?_⟩
   refine ye 10 hC h fun _ h=>?_
   exact yt hT hC h
 · refine yi 6 hC ?_
   refine yi 8 hC ?_
   refine yi 7 hC ?_
   refine yi 9 hC ?_
   refine yi 10 hC ?_
   exact yt hT hC h
 refine yP 11 hC h fun _ h=>?_
 refine yz<|zk<|yC h (fun h=>zs<|zr<|yu h fun w h=>zn<|zk<|sim_ret<|sim_then_ret<|bodyM_ret rfl h) fun h=>sim_skip<|zk<|zs<|yh [7,36,37,38,39,40,41,42] h fun C hC h=>ye 0 hC h fun _ h=>?_
 refine ye 1 hC h fun _ h=>?_
 refine ye 3 hC h fun _ h=>?_
 refine ye 4 hC h fun _ h=>?_
 refine joinK_elim h (fun K5 hK h=>?_)
 refine sim_dmeet [7,38,41,42] (fun ρ w=>K5 (ρ 7) w) (fun T hT=>?_) (fun σ w h=>?_)
 · obtain ⟨h0,h1⟩:=h
   refine sim_dloud2 2 7 rfl rfl (by kernel_rfl) (fun _ _=>rfl) (fun _ _=>rfl) ?_ ?_
   · have h:=h0
     refine yS h fun _ w h=>zn ?_
     obtain ⟨hC,h⟩:=h
     refine ⟨_,fun _ h=>h,hC,?_⟩
     obtain ⟨h0,h1⟩:=h
     refine sim_dloud2 5 7 rfl rfl (by kernel_rfl) (fun _ _=>rfl) (fun _ _=>rfl) ?_ ?_
     · have h:=h0
       refine yx h fun _ w h=>zn ?_
       obtain ⟨hC,h⟩:=h
       refine ⟨_,fun _ h=>h,hC,?_⟩
       refine ye 6 hC h fun _ h=>?_
       refine yo 7 ?_
       refine yv h fun _ w h=>zn ?_
       obtain ⟨hC,h⟩:=h
       refine ⟨hC,?_⟩
       refine yq 8 1 ?_
       refine yu h fun w h=>zn ?_
       obtain ⟨C20,hC,h⟩:=h
       refine ⟨C20,hC,?_⟩
       refine yz ?_
       exact zt hT h
     have h:=h1
     refine yv h fun _ w h=>zn ?_
     obtain ⟨hC,h⟩:=h
     refine ⟨_,fun _ h=>h,hC,?_⟩
     refine yo 5 ?_
     refine yx h fun _ w h=>zn ?_
     obtain ⟨hC,h⟩:=h
     refine ⟨hC,?_⟩
     refine ye 6 hC h fun _ h=>?_
     refine yq 8 1 ?_
     refine yu h fun w h=>zn ?_
     obtain ⟨C21,hC,h⟩:=h
     refine ⟨C21,hC,?_⟩
     refine yz ?_
     exact zt hT h
   have h:=h1
   refine yv h fun _ w h=>zn ?_
   obtain ⟨hC,h⟩:=h
   refine ⟨_,fun _ h=>h,hC,?_⟩
   refine yo 2 ?_
   refine yS h fun _ w h=>zn ?_
   obtain ⟨hC,h⟩:=h
   refine ⟨hC,?_⟩
   refine yo 5 ?_
   refine yx h fun _ w h=>zn ?_
   obtain ⟨hC,h⟩:=h
   refine ⟨hC,?_⟩
   refine ye 6 hC h fun _ h=>?_
   refine yq 8 1 ?_
   refine yu h fun w h=>zn ?_
   obtain ⟨C22,hC,h⟩:=h
   refine ⟨C22,hC,?_⟩
   refine yz ?_
   exact zt hT h
 subst hK
 refine zk<|zs<|zr<|yv h fun _ w h=>yc h c14 fun _ w h=>zm<|zn<|zk<|zs<|zs<|zr<|zm<|yb h fun _ w h=>zn<|zk ?_
 refine yC h (fun h=>zs<|zr<|yu h fun w h=>zn<|zk<|sim_ret<|sim_then_ret<|bodyM_ret rfl h) fun h=>sim_skip<|zk<|zs<|zs<|zr<|zm<|zn<|zk<|sim_block<|yl1 [9,47,48,49,50,51,52,53,54,55,56,57,58] 9 h fun σ w next h=>zs<|zs<|zr ?_
 refine zm<|yv h fun _ w h=>yv h fun _ w h=>yx h fun _ w h=>yb h fun _ w h=>zn<|zk<|yC h (fun h=>?_) fun h=>?_
 · refine sim_skip<|zk<|zs<|sim_block<|zr<|yv h fun _ w h=>yv h fun _ w h=>zm<|yv h fun _ w h=>yv h fun _ w h=>yu h fun w h=>zn<|sim_block_normal<|zk<|zr ?_
   exact zm<|yb h fun _ w h=>zm<|zn<|zk<|⟨rfl,h⟩
 refine sim_exit<|sim_then_exit<|sim_then_exit<|sim_block_hit<|zk<|zs<|zr<|yv h fun _ w h=>yu h fun w h=>zn<|zk<|zs<|zs<|zr<|yv h fun _ w h=>?_
 refine yc h c13 fun _ w h=>zn<|zk<|yJ0 [61,62,63] h (fun _ _ hkK7 h=>?_) fun σ w h=>?_
 · refine yC h (fun h=>?_) fun h=>?_
   · refine zr<|yv h fun _ w h=>yv h fun _ w h=>yx h fun _ w h=>yu h fun w h=>zn<|zk ?_
     exact zt hkK7 h
   refine sim_skip<|zk ?_
   exact zt hkK7 h
 refine zk<|zs<|zs<|zr<|yv h fun _ w h=>yu h fun w h=>zn<|zk<|sim_block<|yL1 [11,12,64,65,66,67,68,92,93,94,95,96,97,98,99,100,101,102,103,104,105,106,107,108,109,110,111] 11 h fun σ ds w next h=>zs<|zs<|zr<|yv h fun _ w h=>yb h fun _ w h=>?_
 refine zn<|zk<|yC h (fun h=>?_) fun h=>?_
 · refine sim_skip<|zk<|zs<|sim_block<|zs<|zr<|yv h fun _ w h=>yu h fun w h=>zn<|zk<|zs<|zs<|zr<|zm<|zn ?_
   refine zk<|sim_block<|sim_range [.ret,.exit 4] h rfl (fun l9 t69 w Kr9 Xr9 Qr9 h=>?_) (fun ds w h=>?_) (fun c ds w h=>?_) (fun ch ds w h=>outQ_of rfl h)
   · refine zr<|zm<|zn<|zk ?_
     obtain ⟨hr,h⟩:=h
     refine ⟨rfl,hr,fun w hb=>?_⟩
     have h:=h w hb
     refine sim_block<|zs<|zs<|sim_regionG<|yG 4<|yv h fun _ w h=>yv h fun _ w h=>yb h fun _ w h=>zm<|zn<|yg1 8 3 false [74,75,76,77,78,79,80,81] 81 h (fun _ T hT h=>?_) fun σ w h=>?_
     · refine zm<|yv h fun _ w h=>yv h fun _ w h=>yv h fun _ w h=>yv h fun _ w h=>yv h fun _ w h=>yv h fun _ w h=>yb h fun _ w h=>zn ?_
       exact zt hT h
     refine yG 1<|yp h fun _ h=>zn<|sim_end<|zk<|yC h (fun h=>zs<|zr<|yu h fun w h=>zn<|zk<|sim_ret<|sim_then_ret<|sim_block_ret<|⟨rfl,0,rfl,h⟩) fun h=>sim_skip<|zk<|zs<|zr<|yv h fun _ w h=>yb h fun _ w h=>yu h fun w h=>zn ?_
     refine zk<|zs<|sim_regionG<|yG 3<|yv h fun _ w h=>yb h fun _ w h=>zm<|zn<|yg1 3 2 true [88,89,90] 90 h (fun _ T hT h=>?_) fun σ w h=>?_
     · refine yv h fun _ w h=>yv h fun _ w h=>yb h fun _ w h=>zn ?_
       exact zt hT h
     exact yG 1<|yp h fun _ h=>zn<|sim_end<|zk<|yC h (fun h=>sim_exit<|sim_block_miss rfl<|⟨rfl,1,rfl,h⟩) fun h=>sim_skip<|sim_block_normal<|⟨rfl,h⟩
   · refine sim_block_normal<|zk<|zs<|sim_regionG<|yG 3<|yv h fun _ w h=>yb h fun _ w h=>zm<|zn<|yg1 6 2 true [95,96,97,98,99,100] 100 h (fun _ T hT h=>?_) fun σ w h=>?_
     · refine yv h fun _ w h=>yv h fun _ w h=>yv h fun _ w h=>yx h fun _ w h=>yx h fun _ w h=>yb h fun _ w h=>zn ?_
       exact zt hT h
     refine yG 2<|yp h fun _ h=>zm<|zn<|yg1 3 10 false [103,104,105] 105 h (fun _ T hT h=>?_) fun σ w h=>?_
     · refine yv h fun _ w h=>yb h fun _ w h=>zm<|zn ?_
       exact zt hT h
     refine yg1 3 13 true [106,107,108] 108 h (fun _ T hT h=>?_) fun σ w h=>?_
     · refine yv h fun _ w h=>yv h fun _ w h=>yb h fun _ w h=>zn ?_
       exact zt hT h
     refine yg1 1 10 false [109] 109 h (fun _ T hT h=>?_) fun σ w h=>?_
     · refine yp h fun _ h=>zn ?_
       exact zt hT h
     refine yG 1<|yp h fun _ h=>zn<|sim_end<|zk<|yC h (fun h=>zs<|zr<|yu h fun w h=>zn<|zk<|sim_ret<|sim_block_ret<|sim_then_ret<|sim_then_ret<|sim_block_ret<|sim_then_ret<|bodyM_ret rfl h) fun h=>sim_skip<|sim_block_normal<|zk<|zs<|zs<|zr<|yv h fun _ w h=>zn ?_
     exact zk<|zr<|yv h fun _ w h=>yu h fun w h=>zn<|zk<|zr<|yv h fun _ w h=>yb h fun _ w h=>yu h fun w h=>zn<|zk<|h
   rcases c with _ | c
   · refine ⟨_,rfl,.inl ⟨rfl,?_⟩⟩
     exact sim_block_ret<|sim_then_ret<|sim_block_ret<|sim_then_ret<|sim_then_ret<|sim_block_ret<|sim_then_ret<|bodyM_ret rfl h
   rcases c with _ | c
   · refine ⟨_,rfl,.inr ⟨_,rfl,?_⟩⟩
     refine sim_block_hit<|zk<|zs<|sim_regionG<|yG 3<|yv h fun _ w h=>yb h fun _ w h=>zm<|zn<|yg1 6 2 true [95,96,97,98,99,100] 100 h (fun _ T hT h=>?_) fun σ w h=>?_
     · refine yv h fun _ w h=>yv h fun _ w h=>yv h fun _ w h=>yx h fun _ w h=>yx h fun _ w h=>yb h fun _ w h=>zn ?_
       exact zt hT h
     refine yG 2<|yp h fun _ h=>zm<|zn<|yg1 3 10 false [103,104,105] 105 h (fun _ T hT h=>?_) fun σ w h=>?_
     · refine yv h fun _ w h=>yb h fun _ w h=>zm<|zn ?_
       exact zt hT h
     refine yg1 3 13 true [106,107,108] 108 h (fun _ T hT h=>?_) fun σ w h=>?_
     · refine yv h fun _ w h=>yv h fun _ w h=>yb h fun _ w h=>zn ?_
       exact zt hT h
     refine yg1 1 10 false [109] 109 h (fun _ T hT h=>?_) fun σ w h=>?_
     · refine yp h fun _ h=>zn ?_
       exact zt hT h
     refine yG 1<|yp h fun _ h=>zn<|sim_end<|zk<|yC h (fun h=>zs<|zr<|yu h fun w h=>zn<|zk<|sim_ret<|sim_block_ret<|sim_then_ret<|sim_then_ret<|sim_block_ret<|sim_then_ret<|bodyM_ret rfl h) fun h=>sim_skip<|sim_block_normal<|zk<|zs<|zs<|zr<|yv h fun _ w h=>zn ?_
     exact zk<|zr<|yv h fun _ w h=>yu h fun w h=>zn<|zk<|zr<|yv h fun _ w h=>yb h fun _ w h=>yu h fun w h=>zn<|zk<|h
   exact h.elim
 exact sim_exit<|sim_then_exit<|sim_then_exit<|sim_block_hit<|zk<|zs<|zr<|yc h c9 fun _ w h=>yu h fun w h=>zn<|zk<|sim_ret<|bodyM_ret rfl h
open Go.RowKit (intOf Below)
def turnM (a:Value) (w:World):Nat:=match a with
 | .pointer (some p)=>(match w.cell? p with
  | some (.int _ t)=>(2 - t).toNat
  | _=>0)
 | _=>0
theorem outs_true {l:List Nat}:∀ {w:World} {w0:World} {p4 lo:Nat},l.Nodup→(∀ b∈l,MarkAt b w∧lo≤b)→p4 < lo→w0.heap.size≤lo→Ext w0 w→w.heap[p4]?=some (.cells #[.bool true] 4 (0,0)) →
 outX Pg (l.map Sw.mark) [(some 4,.pointer (some ⟨p4,0,none⟩))] (retR fun r w'=>r = .bool true∧Ext w0 w') w:=by
 induction l with
 | nil =>
  intro w w0 p4 lo _ _ _ _ e h4
  show outX _ [] _ _ _
  simp (disch:=try exact DI) only [↓PR,QR,simprocAttr,outX_nil,retV,resOne,(cells_of_heap h4).1]
  exact ⟨trivial,e⟩
 | cons b l ih =>
  intro w w0 p4 lo hn hm hp hl e h4
  obtain ⟨hb,hn'⟩:=List.nodup_cons.1 hn
  have hmb:=hm b (List.mem_cons_self ..)
  refine outX_mark hmb.1 (ih hn' (fun c hc=>⟨?_,(hm c (List.mem_cons_of_mem _ hc)).2⟩) hp hl (e.putObj (by omega) _) ((World.putObj_heap_other (by omega)).trans h4))
  exact (World.putObj_heap_other (fun (e:c=b)=>hb (by rw [← e];exact hc))).trans (hm c (List.mem_cons_of_mem _ hc)).1
theorem lasts_marks (B:Nat) (l:List Nat):Lasts B (fun w=>∀ b∈l,MarkAt b w):=⟨fun w w' h e b hb=>(h b hb).ext e,fun w q r r' hl h hr b hb=>by
 have:=h b hb
 exact (World.putObj_heap_other (by rintro rfl;unfold MarkAt at this;rw [this] at hr;cases hr)).trans this⟩
section
variable {R:RT}
theorem sv_after1 {w2:World} {p5 p6 p10 p11 p12:Nat} {many:Int} {t k n:Nat} {ds:List Deferred} {next3:List Deferred→Value→World→Prop} (x5:w2.heap[p5]?=some (.cells #[.int .i64 many] 3 (0,0))) (x10:w2.heap[p10]?=some (.cells #[.int .i64 (n:Int)] 3 (0,0))) (y11:w2.heap[p11]?=some (.cells #[.int .i64 (t:Int)] 3 (0,0))) (y12:w2.heap[p12]?=some (.cells #[.int .i64 (k:Int)] 3 (0,0)))
 (ht:t < 2) (h0:t=0→(k:Int)=min (n:Int) (max 1 many)) (h1:t=1→k=n) (hn:∀ w',w2.heap.size < w'.heap.size→w'.heap[w2.heap.size]?=some (.cells #[.int .i64 ((t+1:Nat):Int)] 3 (0,0))→Ext w2 w'→next3 ds (.pointer (some ⟨w2.heap.size,0,none⟩)) w') :
 n4c9 (.pointer (some ⟨p5,0,none⟩)) (.pointer (some ⟨p6,0,none⟩)) (.pointer (some ⟨p10,0,none⟩)) (.pointer (some ⟨p11,0,none⟩)) (.pointer (some ⟨p12,0,none⟩)) next3 ds R w2:=by
 have fin:n4c3 (.pointer (some ⟨p6,0,none⟩)) (.pointer (some ⟨p11,0,none⟩)) next3 ds R w2:=by
  unfold n4c3
  simp (disch:=try exact DI) only [↓PR,QR,simprocAttr,(cells_of_heap y11).1]
  exact hn _ (by simp only [World.size_alloc];omega) (by simpa using heap_new w2 #[.int .i64 ((t+1:Nat):Int)] 3) ee
 unfold n4c9
 have hcase:t=0∨t=1:=by omega
 rcases hcase with rfl | rfl
 · have hm:(if (if many > 1 then many else 1) < (n:Int) then (if many > 1 then many else 1) else (n:Int))=(k:Int):=by
    rw [h0 rfl]
    split<;>split<;>omega
   have d0:((((0:Nat):Int)) == 0)=true:=rfl
   have d1:((((0:Nat):Int)) == 1)=false:=rfl
   have dk:((k:Int) != (k:Int))=false:=by simp
   simp (disch:=try exact DI) only [↓PR,QR,simprocAttr,(cells_of_heap y11).1,d0,d1,↓n4c8,↓n4c7,↓n4c6,↓n4c5,↓n4c4,(cells_of_heap y12).1,(cells_of_heap x10).1,(cells_of_heap x5).1,hm,dk]
   exact fin
 · have d0:((((1:Nat):Int)) == 0)=false:=rfl
   have d1:((((1:Nat):Int)) == 1)=true:=rfl
   have dk:((k:Int) != (n:Int))=false:=by rw [h1 rfl];simp
   simp (disch:=try exact DI) only [↓PR,QR,simprocAttr,(cells_of_heap y11).1,d0,d1,↓n4c8,↓n4c7,↓n4c6,↓n4c5,↓n4c4,(cells_of_heap y12).1,(cells_of_heap x10).1,dk]
   exact fin
theorem sv_after2 {w2:World} {p5 p6 p10 p11 p12:Nat} {many:Int} {t k n:Nat} {ds:List Deferred} {next3:List Deferred→Value→World→Prop} (x5:w2.heap[p5]?=some (.cells #[.int .i64 many] 3 (0,0))) (x10:w2.heap[p10]?=some (.cells #[.int .i64 (n:Int)] 3 (0,0))) (y11:w2.heap[p11]?=some (.cells #[.int .i64 (t:Int)] 3 (0,0))) (y12:w2.heap[p12]?=some (.cells #[.int .i64 (k:Int)] 3 (0,0)))
 (ht:t < 2) (h0:t=0→(k:Int)=min (n:Int) (max 1 many)) (h1:t=1→k=n) (hn:∀ w',w2.heap.size < w'.heap.size→w'.heap[w2.heap.size]?=some (.cells #[.int .i64 ((t+1:Nat):Int)] 3 (0,0))→Ext w2 w'→next3 ds (.pointer (some ⟨w2.heap.size,0,none⟩)) w') :
 n4c16 (.pointer (some ⟨p5,0,none⟩)) (.pointer (some ⟨p6,0,none⟩)) (.pointer (some ⟨p10,0,none⟩)) (.pointer (some ⟨p11,0,none⟩)) (.pointer (some ⟨p12,0,none⟩)) next3 ds R w2:=by
 have fin:n4c10 (.pointer (some ⟨p6,0,none⟩)) (.pointer (some ⟨p11,0,none⟩)) next3 ds R w2:=by
  unfold n4c10
  simp (disch:=try exact DI) only [↓PR,QR,simprocAttr,(cells_of_heap y11).1]
  exact hn _ (by simp only [World.size_alloc];omega) (by simpa using heap_new w2 #[.int .i64 ((t+1:Nat):Int)] 3) ee
 unfold n4c16
 have hcase:t=0∨t=1:=by omega
 rcases hcase with rfl | rfl
 · have hm:(if (if many > 1 then many else 1) < (n:Int) then (if many > 1 then many else 1) else (n:Int))=(k:Int):=by
    rw [h0 rfl]
    split<;>split<;>omega
   have d0:((((0:Nat):Int)) == 0)=true:=rfl
   have d1:((((0:Nat):Int)) == 1)=false:=rfl
   have dk:((k:Int) != (k:Int))=false:=by simp
   simp (disch:=try exact DI) only [↓PR,QR,simprocAttr,(cells_of_heap y11).1,d0,d1,↓n4c15,↓n4c14,↓n4c13,↓n4c12,↓n4c11,(cells_of_heap y12).1,(cells_of_heap x10).1,(cells_of_heap x5).1,hm,dk]
   exact fin
 · have d0:((((1:Nat):Int)) == 0)=false:=rfl
   have d1:((((1:Nat):Int)) == 1)=true:=rfl
   have dk:((k:Int) != (n:Int))=false:=by rw [h1 rfl];simp
   simp (disch:=try exact DI) only [↓PR,QR,simprocAttr,(cells_of_heap y11).1,d0,d1,↓n4c15,↓n4c14,↓n4c13,↓n4c12,↓n4c11,(cells_of_heap y12).1,(cells_of_heap x10).1,dk]
   exact fin
theorem sv_turns {w0 w:World} {base:Int} {ts:List TermD} {tv2 v:Value} {p3 p5 p6 p10 pb:Nat} (hT:TermsOf w0 v ts) (hn4:ts.length≤1048576) (many:Int) (e:Ext w0 w) (hE:EnvOK w0) (o2:w.heap[p3]?=some (.cells #[.int .i64 base,v] TSz (0,0))) (o3:w.heap[p5]?=some (.cells #[.int .i64 many] 3 (0,0)))
 (o4:w.heap[p6]?=some (.cells #[.bool false] 4 (0,0))) (n:Nat) (hnn:(if sizeB base ts then ts else []).length=n) (o10:w.heap[p10]?=some (.cells #[.int .i64 (n:Int)] 3 (0,0))) (hS:TermsAt w pb tv2 (if sizeB base ts then ts else [])) (l6:w0.heap.size≤p6) :
 n4c20 (.pointer (some ⟨p3,0,none⟩)) (.pointer (some ⟨p5,0,none⟩)) (.pointer (some ⟨p6,0,none⟩)) (.pointer (some ⟨p10,0,none⟩)) (.func (.func 50) #[] #[.pointer (some ⟨pb,0,none⟩)]) [] (retR fun r w'=>r = .bool true∧Ext w0 w') w:=by
 have hsub:∀ (k:Nat) (x:TermD),(if sizeB base ts then ts else ([]:List TermD))[k]?=some x→ts[k]?=some x:=fun k x h=>by
  cases hb:sizeB base ts<;>rw [hb] at h
  · cases h
  · exact h
 have hnl:n≤ts.length:=by
  rw [← hnn]
  cases sizeB base ts
  · exact Nat.zero_le _
  · exact Nat.le_refl _
 obtain ⟨A,cc,rfl,hlc,hcm,hlm,hel⟩:=SliceOf.open hT
 generalize (if sizeB base ts then ts else ([]:List TermD))=want at *
 have l6w:p6 < w.heap.size:=(Array.getElem?_eq_some_iff.1 o4).1
 unfold n4c20
 simp (disch:=try exact DI) only [↓PR,QR,simprocAttr]
 have eA:Ext w (w.alloc (Obj.cells #[.int .i64 0] 3)):=ee
 have o11:=heap_new w #[.int .i64 0] 3
 have l10:=(Array.getElem?_eq_some_iff.1 o10).1
 have hzW:(w.alloc (Obj.cells #[.int .i64 0] 3)).heap.size=w.heap.size+1:=World.size_alloc ..
 generalize (w.alloc (Obj.cells #[.int .i64 0] 3))=W at eA o11 hzW ⊢
 have x2:=eA.obj o2
 have x3:=eA.obj o3
 have x4:=eA.obj o4
 have o10:=eA.obj o10
 have hSW:=hS.ext eA
 have EW:=e.trans eA
 subst hnn
 refine loopM1_intro (fun ds a w'=>∃ (p11:Nat) (t:Nat),a = .pointer (some ⟨p11,0,none⟩)∧t≤2∧w.heap.size≤p11∧w'.heap[p11]?=some (.cells #[.int .i64 (t:Int)] 3 (0,0))∧Ext W w'∧(∃ bs:List Nat,ds=bs.map Sw.mark∧bs.Nodup∧(∀ b∈bs,MarkAt b w')∧∀ b∈bs,w.heap.size≤b)) turnM ⟨w.heap.size,0,rfl,by omega,Nat.le_refl _,o11,Ext.refl _,[],rfl,by simp,by simp,by simp⟩ ?_
 rintro ds _ w2 ⟨p11,t,rfl,ht2,hp11,y11,e2,bs,rfl,hnd,hbs,hbl⟩
 have hcw:∀ (w':World) (p u:Nat),w'.heap[p]?=some (.cells #[.int .i64 (u:Int)] 3 (0,0))→turnM (.pointer (some ⟨p,0,none⟩)) w'=2 - u:=by
  intro w' p u h
  unfold turnM
  simp only
  rw [(cells_of_heap h).1 0]
  show ((2:Int) - (u:Int)).toNat=2 - u
  omega
 have s2:=e2.size
 unfold n4c19
 by_cases ht:t < 2
 · have dt:decide ((t:Int) < 2)=true:=by simp;omega
   simp (disch:=try exact DI) only [↓PR,QR,simprocAttr,(cells_of_heap y11).1,dt]
   unfold n4c18
   simp (disch:=try exact DI) only [↓PR,QR,simprocAttr]
   have l11:p11 < w2.heap.size:=(Array.getElem?_eq_some_iff.1 y11).1
   have eB:Ext w2 (w2.alloc (Obj.cells #[.int .i64 0] 3)):=ee
   have o12:=heap_new w2 #[.int .i64 0] 3
   have hs3:(w2.alloc (Obj.cells #[.int .i64 0] 3)).heap.size=w2.heap.size+1:=by simp only [World.size_alloc]
   generalize hp12:w2.heap.size=p12 at o12 hs3 ⊢
   generalize (w2.alloc (Obj.cells #[.int .i64 0] 3))=w3 at eB o12 hs3 ⊢
   let I:Nat→World→Prop:=fun k w'=>Ext W w'∧(∀ b∈bs,MarkAt b w')∧w'.heap[p11]?=some (.cells #[.int .i64 (t:Int)] 3 (0,0))∧w'.heap[p12]?=some (.cells #[.int .i64 (k:Int)] 3 (0,0))∧(t=0→k=0∨(k:Int) < many)
   let Ix:Nat→World→Prop:=fun c w'=>c=1∧Ext W w'∧(∀ b∈bs,MarkAt b w')∧w'.heap[p11]?=some (.cells #[.int .i64 (t:Int)] 3 (0,0))∧∃ k:Nat,w'.heap[p12]?=some (.cells #[.int .i64 (k:Int)] 3 (0,0))∧t=0∧(k:Int)=min (want.length:Int) (max 1 many)
   have hLI:∀ k,Lasts w3.heap.size (I k):=fun k=>Lasts.and (Lasts.from (by omega)) (Lasts.and (lasts_marks _ _) (Lasts.and (Lasts.has _ (by simp)) (Lasts.and (Lasts.has _ (by simp)) (Lasts.const _ _))))
   have hLX:∀ k,Lasts w3.heap.size (Ix k):=fun k=>Lasts.and (Lasts.const _ _) (Lasts.and (Lasts.from (by omega)) (Lasts.and (lasts_marks _ _) (Lasts.and (Lasts.has _ (by simp)) (Lasts.ex fun k=>Lasts.and (Lasts.has _ (by simp)) (Lasts.const _ _)))))
   have hfin:∀ (w4:World),Ext W w4→(∀ b∈bs,MarkAt b w4)→w4.heap[p11]?=some (.cells #[.int .i64 (t:Int)] 3 (0,0))→MarkAt w3.heap.size w4→∀ w5,w4.heap.size < w5.heap.size→w5.heap[w4.heap.size]?=some (.cells #[.int .i64 ((t+1:Nat):Int)] 3 (0,0))→Ext w4 w5 →
    (∃ (p11:Nat) (t':Nat),Value.pointer (some ⟨w4.heap.size,0,none⟩) = .pointer (some ⟨p11,0,none⟩)∧t'≤2∧w.heap.size≤p11∧w5.heap[p11]?=some (.cells #[.int .i64 (t':Int)] 3 (0,0))∧Ext W w5∧(∃ bs':List Nat,(Sw.mark w3.heap.size::bs.map Sw.mark)=bs'.map Sw.mark∧bs'.Nodup∧(∀ b∈bs',MarkAt b w5)∧∀ b∈bs',w.heap.size≤b)) ∧
    turnM (.pointer (some ⟨w4.heap.size,0,none⟩)) w5 < turnM (.pointer (some ⟨p11,0,none⟩)) w2:=by
    intro w4 e4 hm4 q11 hmk w5 hlt5 h5 e5
    have s4:=e4.size
    refine ⟨⟨w4.heap.size,t+1,rfl,by omega,by omega,h5,e4.trans e5,w3.heap.size::bs,rfl,List.nodup_cons.2 ⟨fun hin=>?_,hnd⟩,fun b hb=>?_,fun b hb=>?_⟩,?_⟩
    · have:=hbs _ hin
      have:=(Array.getElem?_eq_some_iff.1 this).1
      omega
    · rcases List.mem_cons.1 hb with rfl | hb
      · exact hmk.ext e5
      · exact (hm4 b hb).ext e5
    · rcases List.mem_cons.1 hb with rfl | hb
      · omega
      · exact hbl b hb
    · rw [hcw w5 _ (t+1) h5,hcw w2 p11 t y11];omega
   refine ⟨_,_,want.length,namesX want,fun w=>TermsAt w pb tv2 want,I,Ix,fun _ _=>False,rfl,c50,Names_seq pb tv2 _,⟨e2.trans eB,fun b hb=>(hbs b hb).ext eB,eB.obj y11,o12,fun _ => .inl rfl⟩,fun k w' h=>hSW.ext h.1,hLI,hLX,?_,?_,?_,?_⟩
   · intro rec j w4 hj hI4 hrec hready
     refine ⟨hready,fun w5 hbz=>?_⟩
     have hrec5:=hrec.busied hbz
     have hI5:=(hLI j).busied hbz (Nat.le_succ _) hI4
     clear hI4 hrec hready hbz
     obtain ⟨e5,hm5,q11,q12,hjm⟩:=hI5
     obtain ⟨x,hx⟩:=getElem?_lt hj
     have hx':=hsub j x hx
     obtain ⟨b,o,cs,rfl,_,hE1,rfl⟩:=hel j x hx'
     have hjl:j < ts.length:=(List.getElem?_eq_some_iff.1 hx').1
     rw [show namesX want j = .string x.field by unfold namesX;rw [hx]]
     have l12:p12 < w5.heap.size:=(Array.getElem?_eq_some_iff.1 q12).1
     have hge:decide ((j:Int)≥(want.length:Int))=false:=by simp;omega
     have hss:(!decide (x.field=x.field))=false:=by simp
     have dk:(j:Int) < (ts.length:Int):=by omega
     have d1:decide ((j:Int) < (ts.length:Int))=true:=decide_eq_true dk
     have E5:=EW.trans e5
     unfold n4c2
     simp (disch:=try exact DI) only [↓PR,QR,simprocAttr,(cells_of_heap q12).1,(cells_of_heap (e5.obj o10)).1,(cells_of_heap (e5.obj x2)).1,hge,hE1.c2 E5,hss,dk,d1]
     unfold n4c1
     have hw:IntKind.i64.wrap ((j:Int)+1)=((j+1:Nat):Int):=by rw [wrap_ok (by omega) (by omega)];omega
     have r12:=heap_set (o:=0) q12 (.int .i64 ((j+1:Nat):Int))
     simp only [List.setIfInBounds_toArray,List.set_cons_zero] at r12
     have r11:=(Only.setCell w5 p12 0 (.int .i64 ((j+1:Nat):Int)) p11 (by omega)).trans q11
     have e6:Ext W (w5.setCell ⟨p12,0,none⟩ (.int .i64 ((j+1:Nat):Int))):=e5.setCell (by show W.heap.size≤p12;omega) _
     have hm6:∀ b∈bs,MarkAt b (w5.setCell ⟨p12,0,none⟩ (.int .i64 ((j+1:Nat):Int))):=fun b hb=>(hm5 b hb).setCell _ _
     have hrec6:=hrec5.setCell ⟨p12,0,none⟩ (.int .i64 ((j+1:Nat):Int))
     have x3':=e6.obj x3
     have hcase:t=0∨t=1:=by omega
     rcases hcase with ht0 | ht1
     · have d0:((t:Int) == 0)=true:=by rw [ht0];rfl
       by_cases hmy:((j+1:Nat):Int)≥many
       · have dm:decide (((j+1:Nat):Int)≥many)=true:=by simpa using hmy
         simp (disch:=try exact DI) only [↓PR,QR,simprocAttr,(cells_of_heap q12).1,(cells_of_heap q12).2,(cells_of_heap q11).1,d0,(cells_of_heap r12).1,(cells_of_heap x3').1,dm]
         refine ⟨hrec6,rfl,e6,hm6,r11,j+1,r12,ht0,?_⟩
         have:=hjm ht0
         omega
       · have dm:decide (((j+1:Nat):Int)≥many)=false:=by simpa using hmy
         simp (disch:=try exact DI) only [↓PR,QR,simprocAttr,(cells_of_heap q12).1,(cells_of_heap q12).2,(cells_of_heap q11).1,d0,(cells_of_heap r12).1,(cells_of_heap x3').1,dm]
         exact ⟨hrec6,e6,hm6,r11,r12,fun _ => .inr (by omega)⟩
     · have d0:((t:Int) == 0)=false:=by rw [ht1];rfl
       simp (disch:=try exact DI) only [↓PR,QR,simprocAttr,(cells_of_heap q12).1,(cells_of_heap q12).2,(cells_of_heap q11).1,d0]
       exact ⟨hrec6,e6,hm6,r11,r12,fun h=>by omega⟩
   · rintro w4 ⟨e4,hm4,q11,q12,hjm⟩ hmk
     exact sv_after1 (e4.obj x3) (e4.obj o10) q11 q12 ht (fun h=>by have:=hjm h;omega) (fun _=>rfl) (hfin w4 e4 hm4 q11 hmk)
   · rintro c w4 ⟨rfl,e4,hm4,q11,k,q12,ht0,hk⟩ hmk
     exact sv_after2 (e4.obj x3) (e4.obj o10) q11 q12 ht (fun _=>hk) (fun h=>by omega) (hfin w4 e4 hm4 q11 hmk)
   · rintro ch w4 h
     exact h.elim
 · have dt:decide ((t:Int) < 2)=false:=by simp;omega
   simp (disch:=try exact DI) only [↓PR,QR,simprocAttr,(cells_of_heap y11).1,dt]
   unfold n4c17
   refine zcr (known_ret (hE.ext (EW.trans e2))) fun w4 e4=>?_
   have q4:=(e2.trans e4).obj x4
   simp (disch:=try exact DI) only [↓PR,QR,simprocAttr,(cells_of_heap q4).1,(cells_of_heap q4).2]
   have r4:=heap_set (o:=0) q4 (.bool true)
   simp only [List.setIfInBounds_toArray,List.set_cons_zero] at r4
   exact outs_true (lo:=w.heap.size) hnd (fun b hb=>⟨((hbs b hb).ext e4).setCell _ _,hbl b hb⟩) l6w e.size ((EW.trans (e2.trans e4)).setCell (by show w0.heap.size≤p6;omega) _) r4
end
def RowS (w:World) (lo n:Nat) (T:TypeId) (v:Value) (len:Nat):Prop:=(v = .slice none 0 0∧len=0)∨∃ g cap cur,v = .slice (some ⟨g,0,none⟩) len cap∧lo≤g∧w.heap[g]?=some (.cells cur T (0,0))∧len≤cap∧cur.size=cap*n
theorem RowS.of {α:Type} {w:World} {lo n:Nat} {T:TypeId} {enc:α→List Value} {v:Value} {l:List α} (h:OwnE w lo T n enc v l):RowS w lo n T v l.length:=by
 rcases h.2 with ⟨a,b⟩ | ⟨g,cap,cur,a,b,c,d,_,e,_⟩
 · exact .inl ⟨a,b⟩
 · exact .inr ⟨g,cap,cur,a,b,c,d,e⟩
theorem cell_same {w w':World} {b i:Nat} (h:w'.heap[b]?=w.heap[b]?):w'.cell? ⟨b,i,none⟩=w.cell? ⟨b,i,none⟩:=by
 unfold World.cell?
 simp only [h]
theorem SliceOf_same {α:Type} {w w':World} {n:Nat} {E:World→List Value→α→Prop} {v:Value} {l:List α} (h:SliceOf w n E v l) (hb:∀ A m c,v = .slice (some A) m c→w'.heap[A.block]?=w.heap[A.block]?) (hE:∀ cs x,E w cs x→E w' cs x):SliceOf w' n E v l:=by
 obtain ⟨A,c,hv,h1,h2,h3⟩:=h
 refine ⟨A,c,hv,h1,h2,fun hne=>?_⟩
 obtain ⟨b,o,hA,hel⟩:=h3 hne
 refine ⟨b,o,hA,fun k x hx=>?_⟩
 obtain ⟨cs,a1,a2,a3⟩:=hel k x hx
 have hsame:=hb ⟨b,o,none⟩ _ _ (by rw [hv,hA])
 exact ⟨cs,a1,fun j u hu=>(World.cell?_of_block (a:=⟨b,o+k*n+j,none⟩) hsame).trans (a2 j u hu),hE _ _ a3⟩
section
variable {R:RT}
theorem sv_writes {A w5:World} {p7 lo n:Nat} {base:Int} {tv t3 t5 t6 t44:Value} (eA:Ext A w5) (hlo:A.heap.size≤lo) (h7:w5.heap[p7]?=some (.cells #[.int .i64 base,tv] TSz (0,0))) (hr:RowS w5 lo 2 TTm tv n) (hl:n≤1000000)
 (hk:∀ w',Ext A w'→w'.heap.size=w5.heap.size→(∀ b,tv.ownBlock≠some b→w'.heap[b]?=w5.heap[b]?)→n4c22 t3 t5 t6 t44 [] R w') :
 loop1 (fun t9 w next6=>n4c24 t3 t5 t6 (.pointer (some ⟨p7,0,none⟩)) t9 t44 next6 [] R w) (.int .i64 0) w5:=by
 refine loop1_intro (fun a w=>∃ k:Nat,a = .int .i64 (k:Int)∧k≤n∧Ext A w∧w.heap[p7]?=some (.cells #[.int .i64 base,tv] TSz (0,0))∧RowS w lo 2 TTm tv n∧w.heap.size=w5.heap.size∧∀ b,tv.ownBlock≠some b→w.heap[b]?=w5.heap[b]?) (fun a _=>n - (intOf a).toNat) ⟨0,rfl,by omega,eA,h7,hr,rfl,fun _ _=>rfl⟩ ?_
 clear h7 hr eA
 rintro _ w ⟨k,rfl,hk',eA,h7,hr,hsz,hsm⟩
 unfold n4c24
 rcases hr with ⟨hv,hn⟩ | ⟨g,cap,cur,hv,hg0,hg,hcap,hcs⟩
 · have hk0:k=0:=by omega
   subst hk0 hv
   have d1:decide (((0:Nat):Int) < ((0:Nat):Int))=false:=rfl
   simp (disch:=try exact DI) only [↓PR,QR,simprocAttr,(cells_of_heap h7).1,d1]
   exact hk _ eA hsz hsm
 subst hv
 by_cases hlt:k < n
 case neg =>
  obtain rfl:k=n:=by omega
  have d1:decide ((k:Int) < (k:Int))=false:=decide_eq_false (by omega)
  simp (disch:=try exact DI) only [↓PR,QR,simprocAttr,(cells_of_heap h7).1,d1]
  exact hk _ eA hsz hsm
 have dk:(k:Int) < (n:Int):=by omega
 have d1:decide ((k:Int) < (n:Int))=true:=decide_eq_true dk
 have hw:IntKind.i64.wrap ((k:Int)+1)=((k+1:Nat):Int):=by rw [wrap_ok (by omega) (by omega)];omega
 have hne:g≠p7:=fun e=>by rw [e,h7] at hg;cases hg
 obtain ⟨u,hu⟩:∃ u,cur[k*2]?=some u:=⟨_,Array.getElem?_eq_getElem (by rw [hcs];omega)⟩
 have cu:w.cell? ⟨g,k*2,none⟩=some u:=by rw [(cells_of_heap hg).1];exact hu
 have fu:w.frozen? ⟨g,k*2,none⟩=false:=(cells_of_heap hg).2 _
 have h7':(w.setCell ⟨g,k*2,none⟩ (.string ⟨#[120]⟩)).heap[p7]?=some (.cells #[.int .i64 base,.slice (some ⟨g,0,none⟩) n cap] TSz (0,0)):=(Only.setCell w g _ _ p7 (Ne.symm hne)).trans h7
 simp (disch:=try exact DI) only [↓PR,QR,simprocAttr,(cells_of_heap h7).1,d1,dk,↓n4c23,Nat.zero_add,Nat.add_zero,cu,fu,hw]
 refine ⟨⟨k+1,rfl,by omega,eA.setCell (p:=⟨g,k*2,none⟩) (by show A.heap.size≤g;omega) _,h7,.inr ⟨g,cap,_,rfl,hg0,heap_set hg _,hcap,by simp [hcs]⟩,hsz,fun b hb=>?_⟩,meas_lt (kd := .i64) hlt⟩
 exact (Only.setCell w g _ _ b (fun e=>hb (by rw [e];rfl))).trans (hsm b hb)
end
theorem sv_rest {w0 W:World} {base:Int} {ts:List TermD} {v tv:Value} {many:Int} {p3 p5 p6 p7 lo:Nat} (hT:TermsOf w0 v ts) (hn:ts.length≤1000) (hE:EnvOK w0) (e:Ext w0 W) (o3:W.heap[p3]?=some (.cells #[.int .i64 base,v] TSz (0,0))) (o5:W.heap[p5]?=some (.cells #[.int .i64 many] 3 (0,0)))
 (o6:W.heap[p6]?=some (.cells #[.bool false] 4 (0,0))) (h7:W.heap[p7]?=some (.cells #[.int .i64 base,tv] TSz (0,0))) (hO:OwnE W lo TTm 2 termCells tv ts) (hlo:w0.heap.size≤lo) (l3:p3 < lo) (l5:p5 < lo) (l6:p6 < lo) (l6':w0.heap.size≤p6) :
 n4c26 (.pointer (some ⟨p3,0,none⟩)) (.pointer (some ⟨p5,0,none⟩)) (.pointer (some ⟨p6,0,none⟩)) (.pointer (some ⟨p7,0,none⟩)) [] (retR fun r w'=>r = .bool true∧Ext w0 w') W:=by
 have ht1:=SliceOf.oneCell (own_terms hO)
 unfold n4c26
 simp (disch:=try exact DI) only [↓PR,QR,simprocAttr,(cells_of_heap h7).1]
 refine callK_ret (Names_ret W _ base ts ⟨tv,rfl,own_terms hO⟩ (by omega)) ?_
 rintro _ w1 ⟨pb,tv2,rfl,hTA,hpb,e1⟩
 unfold n4c25
 rw [op_eqNilF Tryz.underlying29]
 simp (disch:=try exact DI) only [↓PR,QR,simprocAttr]
 have E1:=e.trans e1
 have hO1:=hO.ext e1
 refine sv_writes (A:=w0) (lo:=lo) (n:=ts.length) E1 hlo (e1.obj h7) (RowS.of hO1) (by omega) fun w2 E2 hz hsm=>?_
 have hlt:=World.ownsRow.lt hO1
 have hlt0:=World.ownsRow.lt hO
 have q3:=(hsm p3 fun h=>by have:=(hlt p3 h).1;omega).trans (e1.obj o3)
 have q5:=(hsm p5 fun h=>by have:=(hlt p5 h).1;omega).trans (e1.obj o5)
 have q6:=(hsm p6 fun h=>by have:=(hlt p6 h).1;omega).trans (e1.obj o6)
 have hTA2:TermsAt w2 pb tv2 (if sizeB base ts then ts else []):=by
  obtain ⟨c1,c2,c3⟩:=hTA
  refine ⟨?_,?_,c3⟩
  · rw [cell_same (hsm pb fun h=>by have:=(hlt0 pb h).2;omega)]
    exact c1
  · exact SliceOf_same c2 (fun A n c h=>hsm _ fun hb=>by have:=c3 A n c h;have:=(hlt0 _ hb).2;omega) fun _ _ h=>h
 have hT2:=TermsOf.ext hT E2
 have hv1:=SliceOf.oneCell hT2
 unfold n4c22
 have eX:Ext w2 (w2.alloc (Obj.cells #[.int .i64 0] 3)):=ee
 have o10:=heap_new w2 #[.int .i64 0] 3
 have hz10:(w2.alloc (Obj.cells #[.int .i64 0] 3)).heap.size=w2.heap.size+1:=World.size_alloc ..
 simp (disch:=try exact DI) only [↓PR,QR,simprocAttr,(cells_of_heap (eX.obj q3)).1]
 generalize (w2.alloc (Obj.cells #[.int .i64 0] 3))=X at eX o10 hz10 ⊢
 generalize hp10:w2.heap.size=p10 at o10 hz10 ⊢
 refine zcr (rSizeValid_ret X _ base ts ⟨v,rfl,TermsOf.ext hT2 eX⟩) fun w3 e3=>?_
 have e23:=eX.trans e3
 have l10:w0.heap.size≤p10:=by have:=E2.size;omega
 have hl6:=(Array.getElem?_eq_some_iff.1 q6).1
 have hl3:=(Array.getElem?_eq_some_iff.1 q3).1
 have hl5:=(Array.getElem?_eq_some_iff.1 q5).1
 have E3:=E2.trans e23
 have g10:=e3.obj o10
 cases hv:sizeB base ts with
 | false =>
  simp (disch:=try exact DI) only [↓PR,QR,simprocAttr]
  exact sv_turns (base:=base) (ts:=ts) hT (by omega) many E3 hE (e23.obj q3) (e23.obj q5) (e23.obj q6) 0 (by rw [hv];rfl) g10 (hTA2.ext e23) l6'
 | true =>
  obtain ⟨A,c,rfl,_,_,_,_⟩:=SliceOf.open hT
  simp (disch:=try exact DI) only [↓PR,QR,simprocAttr]
  unfold n4c21
  simp (disch:=try exact DI) only [↓PR,QR,simprocAttr,(cells_of_heap (e23.obj q3)).1,(cells_of_heap g10).1,(cells_of_heap g10).2]
  have gg:=heap_set (o:=0) g10 (.int .i64 (ts.length:Int))
  have e24:=e23.setCell (p:=⟨p10,0,none⟩) (by show w2.heap.size≤p10;omega) (.int .i64 (ts.length:Int))
  exact sv_turns (base:=base) (ts:=ts) hT (by omega) many (E2.trans e24) hE (e24.obj q3) (e24.obj q5) (e24.obj q6) ts.length (by rw [hv];rfl) gg (hTA2.ext e24) l6'
theorem appendL_term {a w:World} {QP:List PanicEntry→World→Prop} {k:Value→World→Prop} {base N:Nat} {v:Value} {l:List TermD} (hO:OwnE w base 32 2 termCells (.slice (some ⟨N,0,none⟩) 0 0) []) (hs:SliceOf w 2 ETerm v l) (hbase:base≤w.heap.size) (hb:l.length≤1048576) (ea:Ext a w) (hN:a.heap.size≤N) (hNw:N < w.heap.size)
 (hk:∀ g cap w',OwnE w' base 32 2 termCells (.slice (some ⟨g,0,none⟩) l.length cap) l→(g=N∨g=w.heap.size)→g < w'.heap.size→w.heap.size≤w'.heap.size→Ext a w'→(∀ b,b < w.heap.size→b≠N→w'.heap[b]?=w.heap[b]?)→k (.slice (some ⟨g,0,none⟩) l.length cap) w') :
 opV Pg (Builtin.append_ #[22,22] 22 #[.slice (some ⟨N,0,none⟩) 0 0,v]) QP w k:=by
 obtain ⟨A,c,rfl,hlc,hcm,hlm,hel⟩:=SliceOf.open hs
 cases hl:l with
 | nil =>
  rw [hl] at hk
  rw [List.length_nil,op_append0 Tryz.underlying22 ty32 _ _ _ _ _ (Nat.le_refl 0)]
  exact hk _ _ _ hO (.inl rfl) hNw (Nat.le_refl _) ea fun _ _ _=>rfl
 | cons x0 l0 =>
  obtain ⟨b,o,_,hA,_⟩:=hel 0 x0 (by rw [hl];rfl)
  subst hA
  rw [← hl]
  refine op_appendL (l:=[]) (l':=l) Tryz.underlying22 ty32 rfl (by decide) (fun x=>rfl) (fun x _=>ETerm.one (w:=w) (t:=x) rfl) hO (fun j x hx=>?_) hbase (by rw [hl];simp) ?_ (by simp;omega) ?_
  · obtain ⟨b',o',cs,hA',hl',hE,rfl⟩:=hel j x hx
    injection hA' with hA'
    injection hA' with h3 h4
    subst h3 h4
    exact hE
  · have:=by32
    rw [List.length_nil,Nat.zero_add]
    exact Nat.le_trans (Nat.mul_le_mul hb this) (by decide)
  · intro g cap w' ho hg hgg hlt
    rw [List.length_nil,Nat.zero_add] at ho ⊢
    exact hk g cap w' ho (hgg.elim (fun h => .inl (Option.some.inj h).symm) .inr) hlt hg.size (ea.grown hg fun g hgg=>(Option.some.inj hgg) ▸ hN) fun b h1 h2=>hg.block b h1 fun e=>h2 (Option.some.inj e)
theorem sv_copy {w0 w:World} {base:Int} {ts:List TermD} {v:Value} {many:Int} {p3 p5 p6:Nat} (hT:TermsOf w0 v ts) (hn:ts.length≤1000) (hE:EnvOK w0) (e:Ext w0 w) (o3:w.heap[p3]?=some (.cells #[.int .i64 base,v] TSz (0,0))) (o5:w.heap[p5]?=some (.cells #[.int .i64 many] 3 (0,0)))
 (o6:w.heap[p6]?=some (.cells #[.bool false] 4 (0,0))) (l6:w0.heap.size≤p6) :
 drawK w fun C4 w=>n4c31 (.pointer (some ⟨p3,0,none⟩)) (.pointer (some ⟨p5,0,none⟩)) (.pointer (some ⟨p6,0,none⟩)) C4 [] (retR fun r w'=>r = .bool true∧Ext w0 w') w:=by
 refine drawK_intro ?_
 have eD:Ext w w.drew:=(Ext.refl w).drew
 have E:=e.trans eD
 have g3:=eD.obj o3
 have g5:=eD.obj o5
 have g6:=eD.obj o6
 change n4c31 _ _ _ (EC w.drew) _ _ w.drew
 generalize w.drew=D at *
 have q3:=(Array.getElem?_eq_some_iff.1 g3).1
 have q5:=(Array.getElem?_eq_some_iff.1 g5).1
 have q6:=(Array.getElem?_eq_some_iff.1 g6).1
 have hlD:=E.size
 have hTD:=TermsOf.ext hT E
 have hv1:=SliceOf.oneCell hT
 have key:∀ (w':World) (p7:Nat) (tv:Value),Ext D w'→w'.heap[p7]?=some (.cells #[.int .i64 base,tv] TSz (0,0))→OwnE w' D.heap.size TTm 2 termCells tv ts→n4c26 (.pointer (some ⟨p3,0,none⟩)) (.pointer (some ⟨p5,0,none⟩)) (.pointer (some ⟨p6,0,none⟩)) (.pointer (some ⟨p7,0,none⟩)) [] (retR fun r w'=>r = .bool true∧Ext w0 w') w' :=
  fun w' p7 tv e' h7 hO=>sv_rest hT hn hE (E.trans e') (e'.obj g3) (e'.obj g5) (e'.obj g6) h7 hO hlD q3 q5 q6 l6
 have fin:∀ (w':World) (p7 g cap:Nat),Ext D w'→D.heap.size≤p7→g≠p7→w'.heap[p7]?=some (.cells #[.int .i64 0,.slice none 0 0] TSz (0,0))→OwnE w' D.heap.size TTm 2 termCells (.slice (some ⟨g,0,none⟩) ts.length cap) ts→n4c26 (.pointer (some ⟨p3,0,none⟩)) (.pointer (some ⟨p5,0,none⟩)) (.pointer (some ⟨p6,0,none⟩)) (.pointer (some ⟨p7,0,none⟩)) [] (retR fun r w'=>r = .bool true∧Ext w0 w') ((w'.setCell ⟨p7,0,none⟩ (.int .i64 base)).setCell ⟨p7,1,none⟩ (.slice (some ⟨g,0,none⟩) ts.length cap)):=by
  intro w' p7 g cap e' h1 h2 h7 hO
  refine key _ _ _ ((e'.setCell (p:=⟨p7,0,none⟩) h1 _).setCell (p:=⟨p7,1,none⟩) h1 _) (heap_set (o:=1) (heap_set (o:=0) h7 (.int .i64 base)) _) (OwnE.keep hO fun b hb=>?_)
  have hb:g=b:=Option.some.inj hb
  rw [Only.setCell _ p7 _ _ b (by omega),Only.setCell _ p7 _ _ b (by omega)]
 unfold n4c31
 simp (disch:=try exact DI) only [↓PR,QR,simprocAttr,(cells_of_heap g3).1]
 have hnew:∀ w:World,OwnE (w.alloc (.cells #[] TTm)) w.heap.size TTm 2 termCells (.slice (some ⟨w.heap.size,0,none⟩) 0 0) []:=fun w=>OwnE.new w TTm 2 termCells [] (fun _=>rfl) (by decide)
 have eN:Ext D (D.alloc (.cells #[] TTm)):=(Ext.refl _).alloc _
 have hN:=hnew D
 have hzN:(D.alloc (.cells #[] TTm)).heap.size=D.heap.size+1:=World.size_alloc ..
 have eP:Ext D (D.alloc (.cells #[.int .i64 0,.slice none 0 0] TSz)):=(Ext.refl _).alloc _
 have oP:=heap_new D #[.int .i64 0,.slice none 0 0] TSz
 have hzP:(D.alloc (.cells #[.int .i64 0,.slice none 0 0] TSz)).heap.size=D.heap.size+1:=World.size_alloc ..
 refine ⟨⟨eN,?_⟩,eP,eP.alloc _,?_⟩
 · unfold n4c29
   change (opV _ _ _ (D.alloc (.cells #[] TTm)) _)∧(opV _ _ _ (D.alloc (.cells #[] TTm)) _)
   generalize D.alloc (.cells #[] TTm)=w1 at *
   refine ⟨?_,?_⟩
   · refine appendL_term (a:=D) hN (hTD.ext eN) (by omega) (by omega) eN (Nat.le_refl _) (by omega) fun g cap w' hO hg hgl hsz e' hk=>⟨e',?_⟩
     unfold n4c27
     have hO1:=SliceOf.oneCell (own_terms hO)
     simp (disch:=try exact DI) only [↓PR,QR,simprocAttr]
     refine ⟨e'.alloc _,turnK_intro ?_⟩
     have eA:Ext w' (w'.alloc (.cells #[.int .i64 base,.slice (some ⟨g,0,none⟩) ts.length cap] TSz)):=(Ext.refl _).alloc _
     exact key _ _ _ (e'.trans eA) (heap_new _ _ _) (hO.ext eA)
   · simp (disch:=try exact DI) only [↓PR,QR,simprocAttr]
     have eZ:Ext w1 (w1.alloc (.cells #[.int .i64 0,.slice none 0 0] TSz)):=(Ext.refl _).alloc _
     have oZ:=heap_new w1 #[.int .i64 0,.slice none 0 0] TSz
     have hzZ:(w1.alloc (.cells #[.int .i64 0,.slice none 0 0] TSz)).heap.size=w1.heap.size+1:=World.size_alloc ..
     refine ⟨eN.trans eZ,?_⟩
     unfold n4c28
     change opV _ _ _ (w1.alloc (.cells #[.int .i64 0,.slice none 0 0] TSz)) _
     generalize w1.alloc (.cells #[.int .i64 0,.slice none 0 0] TSz)=w2 at *
     refine appendL_term (a:=D) (hN.ext eZ) (hTD.ext (eN.trans eZ)) (by omega) (by omega) (eN.trans eZ) (Nat.le_refl _) (by omega) fun g cap w' hO hg hgl hsz e' hk=>⟨e',?_⟩
     have hO1:=SliceOf.oneCell (own_terms hO)
     have o7:=(hk w1.heap.size (by omega) (by omega)).trans oZ
     simp (disch:=try exact DI) only [↓PR,QR,simprocAttr,(cells_of_heap o7).1,(cells_of_heap o7).2]
     refine turnK_intro ?_
     exact fin w' w1.heap.size g cap e' (by omega) (by omega) o7 hO
 · unfold n4c30
   have hN2:=hnew (D.alloc (.cells #[.int .i64 0,.slice none 0 0] TSz))
   have eN2:Ext (D.alloc (.cells #[.int .i64 0,.slice none 0 0] TSz)) ((D.alloc (.cells #[.int .i64 0,.slice none 0 0] TSz)).alloc (.cells #[] TTm)):=(Ext.refl _).alloc _
   have hzN2:((D.alloc (.cells #[.int .i64 0,.slice none 0 0] TSz)).alloc (.cells #[] TTm)).heap.size=D.heap.size+1+1:=by simp
   rw [hzP] at hN2
   change opV _ _ _ ((D.alloc (.cells #[.int .i64 0,.slice none 0 0] TSz)).alloc (.cells #[] TTm)) _
   generalize ((D.alloc (.cells #[.int .i64 0,.slice none 0 0] TSz)).alloc (.cells #[] TTm))=w2 at *
   generalize D.alloc (.cells #[.int .i64 0,.slice none 0 0] TSz)=w1 at *
   refine appendL_term (a:=D) (hN2.base (Nat.le_succ _)) (hTD.ext (eP.trans eN2)) (by omega) (by omega) (eP.trans eN2) (Nat.le_succ _) (by omega) fun g cap w' hO hg hgl hsz e' hk=>⟨e',?_⟩
   have hO1:=SliceOf.oneCell (own_terms hO)
   have o7:=(hk D.heap.size (by omega) (by omega)).trans (eN2.obj oP)
   simp (disch:=try exact DI) only [↓PR,QR,simprocAttr,(cells_of_heap o7).1,(cells_of_heap o7).2]
   refine turnK_intro ?_
   exact fin w' D.heap.size g cap e' (Nat.le_refl _) (by omega) o7 hO
theorem SizeValid_ret (W:World) (v0:Value) (base:Int) (ts:List TermD) (s:ByteArray) (many:Int) (hs:SizeVal W v0 base ts) (hE:EnvOK W) :
 Ret Pg 3 #[v0,.string s,.int .i64 many] W fun r w'=>r = .bool true∧Ext W w':=by
 obtain ⟨tv,rfl,hT⟩:=hs
 obtain ⟨A,c,rfl,_,_,_,_⟩:=SliceOf.open hT
 have ht1:=SliceOf.oneCell hT
 refine n4s (R:=retR _) ?_;unfold n4
 simp (disch:=try exact DI) only [↓PR,QR,simprocAttr]
 simp only [World.size_alloc]
 generalize hW:World.alloc (World.alloc (World.alloc W _) _) _=D
 have e0:Ext W D:=by rw [← hW];exact ee
 have o3:D.heap[W.heap.size]?=some (.cells #[.int .i64 base,.slice A ts.length c] TSz (0,0)):=by rw [← hW];simp (disch:=try exact DI) only [↓PR,QR,simprocAttr]
 have o5:D.heap[W.heap.size+1]?=some (.cells #[.int .i64 many] 3 (0,0)):=by rw [← hW];simp (disch:=try exact DI) only [↓PR,QR,simprocAttr]
 have o6:D.heap[W.heap.size+1+1]?=some (.cells #[.bool false] 4 (0,0)):=by rw [← hW];simp (disch:=try exact DI) only [↓PR,QR,simprocAttr]
 clear hW
 have known:n4c35 (.pointer (some ⟨W.heap.size+1+1,0,none⟩)) [] (retR fun r w'=>r = .bool true∧Ext W w') D:=by
  unfold n4c35
  refine zcr (known_ret (hE.ext e0)) fun w6 e6=>?_
  have q6:=e6.obj o6
  simp (disch:=try exact DI) only [↓PR,QR,simprocAttr,(cells_of_heap q6).1,(cells_of_heap q6).2]
  have r6:(w6.setCell ⟨W.heap.size+1+1,0,none⟩ (.bool true)).heap[W.heap.size+1+1]?=some (.cells #[.bool true] 4 (0,0)):=by simpa using heap_set (o:=0) q6 (.bool true)
  simp (disch:=try exact DI) only [↓PR,QR,simprocAttr,outX_nil,retV,resOne,(cells_of_heap r6).1]
  exact ⟨by trivial,(e0.trans e6).setCell (p:=⟨W.heap.size+1+1,0,none⟩) (by show W.heap.size≤W.heap.size+1+1;omega) _⟩
 by_cases h1:ts.length > 10
 · have d1:decide ((ts.length:Int) > 10)=true:=decide_eq_true (by omega)
   simp (disch:=try exact DI) only [↓PR,QR,simprocAttr,(cells_of_heap o3).1,d1]
   exact known
 have d1:decide ((ts.length:Int) > 10)=false:=decide_eq_false (by omega)
 by_cases h2:s.size > 50
 · have d2:decide ((s.size:Int) > 50)=true:=decide_eq_true (by omega)
   simp (disch:=try exact DI) only [↓PR,QR,simprocAttr,(cells_of_heap o3).1,d1,d2]
   exact known
 have d2:decide ((s.size:Int) > 50)=false:=decide_eq_false (by omega)
 simp (disch:=try exact DI) only [↓PR,QR,simprocAttr,(cells_of_heap o3).1,d1,d2]
 refine drawK_intro ?_
 have eD:Ext D D.drew:=(Ext.refl D).drew
 have E:=e0.trans eD
 have g3:=eD.obj o3
 have g5:=eD.obj o5
 have g6:=eD.obj o6
 change n4c34 _ _ _ _ (EC D.drew) _ _ D.drew
 clear known
 generalize D.drew=D1 at *
 unfold n4c34
 refine zcr (Name_ret D1 s) fun w1 e1=>?_
 refine ⟨e1,callK_ret (rName_ret w1 s) ?_⟩
 rintro _ w2 ⟨rfl,e2⟩
 have e12:=e1.trans e2
 refine ⟨e12,?_⟩
 have hbb:∀ b:Bool,(b != b)=false:=fun b=>by cases b<;>rfl
 unfold n4c33
 simp (disch:=try exact DI) only [↓PR,QR,simprocAttr,(cells_of_heap g3).1,hbb]
 refine zcr (Valid_ret w2 _ base ts ⟨_,rfl,TermsOf.ext hT (E.trans e12)⟩) fun w3 e3=>?_
 have e13:=e12.trans e3
 refine ⟨e13,callK_ret (rSizeValid_ret w3 _ base ts ⟨_,rfl,TermsOf.ext hT (E.trans e13)⟩) ?_⟩
 rintro _ w4 ⟨rfl,e4⟩
 have e14:=e13.trans e4
 refine ⟨e14,?_⟩
 simp (disch:=try exact DI) only [↓PR,QR,simprocAttr,hbb,↓n4c32]
 exact sv_copy hT (by omega) hE (E.trans e14) (e14.obj g3) (e14.obj g5) (e14.obj g6) (by omega)
end Go.Proofs.YtpgkjhikdhdffaaGreatDoor
namespace Go.Proofs.YtpgkjhikdhdffaaGreatDoor
open Sw
open Go.RowKit Go.Deep
theorem SizeValid_at (W:World) (v0:Value) (f0:Int×List TermD) (s:ByteArray) (n:Int) (h0:SizeVal W v0 f0.1 f0.2) (_:True) (hE:EnvOK W):Ret Pg 3 #[v0,.string s,.int .i64 n] W fun r w'=>r = .bool true∧Ext W w':=SizeValid_ret W v0 f0.1 f0.2 s n h0 hE
end Go.Proofs.YtpgkjhikdhdffaaGreatDoor
namespace Go.Proofs.YtpgkjhikdhdffaaGreatDoor
open Sw
open Go.ChangeShapes Go.WideShapes Go.RowKit Go.ChangeAt Go.Deep
theorem zvalid_lifted (os:Os) (started:os.Started) (H:Type) (enc:TypeId×Value→H) :
 ReturnsInHanded {} Tryz.checked os 3 .any (fun w args=>(Rows.sizeValidSpec.pre enc Pg Tryz.f3 Rows.sizeValidRow.domain false w args∧laidMetH Pg role_laid w)∧sizedMet enc Pg Tryz.f3 (OpenSpec.ofChange Rows.sizeValidSpec) false w args) (Rows.sizeValidSpec.post enc Pg Tryz.f3 false true false false):=by
 refine handed_and (C:=Tryz.checked) (X:=fun w _=>laidMetH Pg role_laid w) (fun _ _ _ hh h=>h.of_heap hh) role_own started (by kernel_rfl) Tryz.func3
  (ChangeSpec.witness_shaped (enc:=enc) (C:=Tryz.checked) (os:=os) (X:=fun w _=>laidMetH Pg role_laid w) false (World.laidAll Pg os role_laid) #[.agg #[.int .i64 0,.slice none 0 0],.string ByteArray.empty,.int .i64 0] 8 (World.laidAll_os _ _ _) (World.shaped_of_ZipB (by kernel_rfl) (by kernel_rfl)) (by kernel_rfl) (by kernel_rfl) (by kernel_rfl) (role_met os _)) ?_
 intro W base args ds gs before hval hW _ hsz hL hsh _
 have hW':=hW
 obtain ⟨p,q,hA0,hV,rfl,_,_⟩:=hW
 have hA:DataW.TrodAll enc Pg W 0 (fun _=>true) true Tryz.f3.params.toList args.toList ds p:=hA0
 rw [Tryz.params3] at hA hval hsz
 obtain ⟨v0,vs0,d0,ds0,p0,q0,ha0,rfl,rfl,h0,r0⟩:=trodAll_cons hA
 obtain ⟨v1,vs1,d1,ds1,p1,q1,ha1,rfl,rfl,h1,r1⟩:=trodAll_cons r0
 obtain ⟨v2,vs2,d2,ds2,p2,q2,ha2,rfl,rfl,h2,r2⟩:=trodAll_cons r1
 obtain ⟨rfl,rfl,rfl⟩:=trodAll_nil r2
 subst ha2 ha1
 obtain rfl:args = #[v0,v1,v2]:=by cases args;simp_all
 obtain ⟨f0,hf0,hs0⟩:=siz_val (hval 0 _ v0 rfl rfl) h0 (reached_of (j:=0) hsz rfl rfl)
 obtain ⟨s1,rfl,_⟩:=open_str Tryz.underlying9 (hval 1 _ v1 rfl rfl) h1
 obtain ⟨n2,rfl,_,_,hw2⟩:=open_int Tryz.underlying3 (hval 2 _ v2 rfl rfl) h2
 refine Calls.mono (SizeValid_at W v0 f0 s1 n2 hf0 hs0 (role_env hsh hL)) fun e W' ⟨v,he,hv,hx⟩=>?_
 subst he hv
 exact ⟨_,rfl,law_post role_laidOut (by decide +kernel) rfl hW' hx rfl Tryz.underlying4 rfl rfl rfl⟩
theorem zvalid_holds:Rows.SizeValidSaid :=
 OpenClaim.holds_of_wide 3 Tryz.f3 rfl rfl rfl rfl rfl rfl rfl ⟨rfl,rfl,rfl,rfl,rfl⟩ rfl rfl rfl rfl rfl (by kernel_rfl) Tryz.func3 (by kernel_rfl)
  (of_decide_eq_true (by kernel_rfl)) (by unfold Func.isWrapper;first | (rw [if_pos (by decide +kernel)];kernel_rfl) | (rw [if_neg (by decide +kernel)];exact ⟨rfl,rfl⟩))
  (fun os started H enc _=>zvalid_lifted os started H enc)
theorem zvalid_card:Rows.SizeValidCardSaid :=
 Claim7.holds_tied_plain_at .later [] [.data,.data,.data,.sentinel,.sentinel] true (true, "b28e11fa6ee41b26e56fb3f3301f1cebdb04d4d8f758d2c888fe09ee37c1016c") true
  zvalid_holds (fun _ h=>by cases h) (by kernel_rfl) (fun _ h=>by cases h) sizeValid_row_tie rfl ⟨rfl,rfl⟩ (by kernel_rfl) rfl
  (fun f fn hf hfn=>by
   obtain rfl:f=3:=Option.some.inj ((show Pg.funcNamed "phrasebook/phrasebooklaw04.SizeValid" = some 3 by kernel_rfl).symm.trans hf) |>.symm
   obtain rfl:fn=Tryz.f3:=(Option.some.inj (Tryz.func3.symm.trans hfn)).symm
   exact ⟨by kernel_rfl,fun j t ht=>by
    rw [Tryz.params3] at ht
    have hm:t∈[24,9,3]:=by simpa using Array.mem_of_getElem? ht
    have hall:([24,9,3].all fun u=>!Pg.wantsStandIn u)=true:=by kernel_rfl
    exact (show Pg.wantsStandIn t=false by simpa using List.all_eq_true.1 hall t hm)⟩)
  (by kernel_rfl)
end Go.Proofs.YtpgkjhikdhdffaaGreatDoor
