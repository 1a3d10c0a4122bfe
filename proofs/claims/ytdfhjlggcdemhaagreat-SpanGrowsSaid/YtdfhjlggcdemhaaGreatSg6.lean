/-
  Lemmas for the claim.
-/
import Derived.Test.YtdfhjlggcdemhaaGreatSg5
set_option linter.all false
set_option maxHeartbeats 4000000
set_option maxRecDepth 100000
namespace Go.Proofs.YtdfhjlggcdemhaaGreat
open Sw
def n5c1 (t17 t21 t231 t237:Value) (K23:World→Prop) (R:RT) (w:World):Prop :=
 pickK t231 (.bool true) t237 fun t238 =>
 joinK (fun (t244:Value) (w:World) =>
 pickK t238 (.bool true) t244 fun t245 =>
 condP t245 (
 R (.returned (.bool false)) w) (
 K23 w)) fun K25 =>
 guardP t238 false (
 F0 67 t21 1 R w fun t240 w =>
 L0 3 t240 R w fun t241 w =>
 F0 67 t17 1 R w fun t242 w =>
 L0 3 t242 R w fun t243 w =>
 B0 .lss 3 false t241 t243 R w fun t244 w =>
 K25 t244 w) (
 K25 undef w)
def n5c2 (t17 t227:Value) (K23:World→Prop) (R:RT) (w:World):Prop :=
 opV Pg (Instr.extract t227 0) (panK R) w fun t228 w =>
 opV Pg (Instr.extract t227 1) (panK R) w fun t229 w =>
 opV Pg (Instr.alloc 67 true (.tuple #[])) (panK R) w fun t21 w =>
 opU Pg (Instr.storeAt 67 t21 t228) (panK R) w fun w =>
 B0 .neq 52 true t229 (.int .i64 0) R w fun t231 w =>
 joinK (fun (t237:Value) (w:World) =>
 n5c1 t17 t21 t231 t237 K23 R w) fun K24 =>
 guardP t231 false (
 F0 67 t21 0 R w fun t233 w =>
 L0 3 t233 R w fun t234 w =>
 F0 67 t17 0 R w fun t235 w =>
 L0 3 t235 R w fun t236 w =>
 B0 .gtr 3 false t234 t236 R w fun t237 w =>
 K24 t237 w) (
 K24 undef w)
def n5c3 (t13 t16 t17 t223:Value) (next18:KV) (R:RT) (w:World):Prop :=
 joinK (fun (w:World) =>
 B0 .add 3 true t16 (.int .i64 1) R w fun t172 w =>
 next18 t172 w) fun K23 =>
 condP t223 (
 L0 24 t13 R w fun t225 w =>
 C0 39 #[t225,t16] R w fun t227 w =>
 n5c2 t17 t227 K23 R w) (
 K23 w)
def n5c4 (t17 t19 t207 t213:Value) (K22:World→Prop) (R:RT) (w:World):Prop :=
 pickK t207 (.bool true) t213 fun t214 =>
 joinK (fun (t220:Value) (w:World) =>
 pickK t214 (.bool true) t220 fun t221 =>
 condP t221 (
 R (.returned (.bool false)) w) (
 K22 w)) fun K27 =>
 guardP t214 false (
 F0 67 t19 1 R w fun t216 w =>
 L0 3 t216 R w fun t217 w =>
 F0 67 t17 1 R w fun t218 w =>
 L0 3 t218 R w fun t219 w =>
 B0 .lss 3 false t217 t219 R w fun t220 w =>
 K27 t220 w) (
 K27 undef w)
def n5c5 (t17 t203:Value) (K22:World→Prop) (R:RT) (w:World):Prop :=
 opV Pg (Instr.extract t203 0) (panK R) w fun t204 w =>
 opV Pg (Instr.extract t203 1) (panK R) w fun t205 w =>
 opV Pg (Instr.alloc 67 true (.tuple #[])) (panK R) w fun t19 w =>
 opU Pg (Instr.storeAt 67 t19 t204) (panK R) w fun w =>
 B0 .neq 52 true t205 (.int .i64 0) R w fun t207 w =>
 joinK (fun (t213:Value) (w:World) =>
 n5c4 t17 t19 t207 t213 K22 R w) fun K26 =>
 guardP t207 false (
 F0 67 t19 0 R w fun t209 w =>
 L0 3 t209 R w fun t210 w =>
 F0 67 t17 0 R w fun t211 w =>
 L0 3 t211 R w fun t212 w =>
 B0 .lss 3 false t210 t212 R w fun t213 w =>
 K26 t213 w) (
 K26 undef w)
def n5c6 (t12 t13 t16 t17 t199:Value) (next18:KV) (R:RT) (w:World):Prop :=
 joinK (fun (w:World) =>
 L0 24 t13 R w fun t222 w =>
 C0 43 #[t222] R w fun t223 w =>
 n5c3 t13 t16 t17 t223 next18 R w) fun K22 =>
 condP t199 (
 L0 24 t12 R w fun t201 w =>
 C0 39 #[t201,t16] R w fun t203 w =>
 n5c5 t17 t203 K22 R w) (
 K22 w)
def n5c7 (t12 t13 t16 t17 t192 t196:Value) (next18:KV) (R:RT) (w:World):Prop :=
 pickK t192 (.bool true) t196 fun t197 =>
 condP t197 (
 R (.returned (.bool false)) w) (
 L0 24 t12 R w fun t198 w =>
 C0 43 #[t198] R w fun t199 w =>
 n5c6 t12 t13 t16 t17 t199 next18 R w)
def n5c8 (t12 t13 t16 t17 t185 t191:Value) (next18:KV) (R:RT) (w:World):Prop :=
 pickK t185 (.bool true) t191 fun t192 =>
 joinK (fun (t196:Value) (w:World) =>
 n5c7 t12 t13 t16 t17 t192 t196 next18 R w) fun K21 =>
 guardP t192 false (
 F0 67 t17 1 R w fun t194 w =>
 L0 3 t194 R w fun t195 w =>
 B0 .gtr 3 true t195 (.int .i64 1099511627776) R w fun t196 w =>
 K21 t196 w) (
 K21 undef w)
def n5c9 (t12 t13 t16 t17 t180 t184:Value) (next18:KV) (R:RT) (w:World):Prop :=
 pickK t180 (.bool true) t184 fun t185 =>
 joinK (fun (t191:Value) (w:World) =>
 n5c8 t12 t13 t16 t17 t185 t191 next18 R w) fun K20 =>
 guardP t185 false (
 F0 67 t17 0 R w fun t187 w =>
 L0 3 t187 R w fun t188 w =>
 F0 67 t17 1 R w fun t189 w =>
 L0 3 t189 R w fun t190 w =>
 B0 .gtr 3 false t188 t190 R w fun t191 w =>
 K20 t191 w) (
 K20 undef w)
def n5c10 (t12 t13 t16 t176:Value) (next18:KV) (R:RT) (w:World):Prop :=
 opV Pg (Instr.extract t176 0) (panK R) w fun t177 w =>
 opV Pg (Instr.extract t176 1) (panK R) w fun t178 w =>
 opV Pg (Instr.alloc 67 true (.tuple #[])) (panK R) w fun t17 w =>
 opU Pg (Instr.storeAt 67 t17 t177) (panK R) w fun w =>
 B0 .neq 52 true t178 (.int .i64 0) R w fun t180 w =>
 joinK (fun (t184:Value) (w:World) =>
 n5c9 t12 t13 t16 t17 t180 t184 next18 R w) fun K19 =>
 guardP t180 false (
 F0 67 t17 0 R w fun t182 w =>
 L0 3 t182 R w fun t183 w =>
 B0 .lss 3 true t183 (.int .i64 0) R w fun t184 w =>
 K19 t184 w) (
 K19 undef w)
def n5c11 (t23 t25 t271 t274:Value) (K28:World→Prop) (R:RT) (w:World):Prop :=
 pickK t271 (.bool true) t274 fun t275 =>
 joinK (fun (t279:Value) (w:World) =>
 pickK t275 (.bool true) t279 fun t280 =>
 condP t280 (
 R (.returned (.bool false)) w) (
 K28 w)) fun K30 =>
 guardP t275 false (
 L0 67 t23 R w fun t277 w =>
 L0 67 t25 R w fun t278 w =>
 B0 .neq 67 false t277 t278 R w fun t279 w =>
 K30 t279 w) (
 K30 undef w)
def n5c12 (t23 t263 t267:Value) (K28:World→Prop) (R:RT) (w:World):Prop :=
 opV Pg (Instr.extract t267 0) (panK R) w fun t268 w =>
 opV Pg (Instr.extract t267 1) (panK R) w fun t269 w =>
 opV Pg (Instr.alloc 67 true (.tuple #[])) (panK R) w fun t25 w =>
 opU Pg (Instr.storeAt 67 t25 t268) (panK R) w fun w =>
 B0 .neq 52 true t263 (.int .i64 0) R w fun t271 w =>
 joinK (fun (t274:Value) (w:World) =>
 n5c11 t23 t25 t271 t274 K28 R w) fun K29 =>
 guardP t271 false (
 B0 .neq 52 true t269 (.int .i64 0) R w fun t274 w =>
 K29 t274 w) (
 K29 undef w)
def n5c13 (t14 t29 t261:Value) (K28:World→Prop) (R:RT) (w:World):Prop :=
 opV Pg (Instr.extract t261 0) (panK R) w fun t262 w =>
 opV Pg (Instr.extract t261 1) (panK R) w fun t263 w =>
 opV Pg (Instr.alloc 67 true (.tuple #[])) (panK R) w fun t23 w =>
 opU Pg (Instr.storeAt 67 t23 t262) (panK R) w fun w =>
 L0 24 t14 R w fun t265 w =>
 C0 39 #[t265,t29] R w fun t267 w =>
 n5c12 t23 t263 t267 K28 R w
def n5c14 (t14 t29 t50 t257:Value) (R:RT) (w:World):Prop :=
 joinK (fun (w:World) =>
 C0 32 #[] R w fun t281 w =>
 R (.returned t281) w) fun K28 =>
 condP t257 (
 L0 24 t14 R w fun t259 w =>
 C0 39 #[t259,t50] R w fun t261 w =>
 n5c13 t14 t29 t261 K28 R w) (
 K28 w)
def n5c15 (t11 t14 t29 t50:Value) (R:RT) (w:World):Prop :=
 F0 24 t14 1 R w fun t246 w =>
 L0 22 t246 R w fun t247 w =>
 F0 44 t11 0 R w fun t248 w =>
 L0 9 t248 R w fun t249 w =>
 opV Pg (Instr.build 38 #[(0,(.string { data := #[120] })),(1,(.int .i64 8)),(8,t249)]) (panK R) w fun t250 w =>
 opV Pg (Instr.buildSlice 42 1 #[(0,t250)]) (panK R) w fun t251 w =>
 opV Pg (Instr.build 44 #[(0,(.string { data := #[122,122,122,122] })),(1,t251)]) (panK R) w fun t252 w =>
 opV Pg (Instr.buildSlice 22 1 #[(0,t252)]) (panK R) w fun t253 w =>
 opV Pg (Builtin.append_ #[22,22] 22 #[t247,t253]) (panK R) w fun t254 w =>
 F0 24 t14 1 R w fun t255 w =>
 opU Pg (Instr.storeAt 22 t255 t254) (panK R) w fun w =>
 L0 24 t14 R w fun t256 w =>
 C0 43 #[t256] R w fun t257 w =>
 n5c14 t14 t29 t50 t257 R w
def n5c16 (t4 t11 t12 t13 t14 t16 t29 t50:Value) (next18:KV) (R:RT) (w:World):Prop :=
 B0 .lss 3 false t16 t29 R w fun t170 w =>
 condP t170 (
 L0 24 t4 R w fun t174 w =>
 C0 39 #[t174,t16] R w fun t176 w =>
 n5c10 t12 t13 t16 t176 next18 R w) (
 n5c15 t11 t14 t29 t50 R w)
def n5c17 (t134:Value) (K17:World→Prop) (R:RT) (w:World):Prop :=
 opN Pg (nilN t134) (panK R) w fun t162 w =>
 F0 38 t162 6 R w fun t163 w =>
 L0 3 t163 R w fun t164 w =>
 B0 .add 3 true t164 (.int .i64 1) R w fun t165 w =>
 opN Pg (nilN t134) (panK R) w fun t166 w =>
 F0 38 t166 6 R w fun t167 w =>
 opU Pg (Instr.storeAt 3 t167 t165) (panK R) w fun w =>
 K17 w
def n5c18 (t4 t11 t12 t13 t14 t29 t50 t134 t153 t159:Value) (R:RT) (w:World):Prop :=
 pickK t153 (.bool true) t159 fun t160 =>
 joinK (fun (w:World) =>
 loop1 (fun t16 w next18 =>
 n5c16 t4 t11 t12 t13 t14 t16 t29 t50 next18 R w) (.int .i64 0) w) fun K17 =>
 condP t160 (
 n5c17 t134 K17 R w) (
 K17 w)
def n5c19 (t4 t11 t12 t13 t14 t29 t50 t134 t146 t152:Value) (R:RT) (w:World):Prop :=
 pickK t146 (.bool true) t152 fun t153 =>
 joinK (fun (t159:Value) (w:World) =>
 n5c18 t4 t11 t12 t13 t14 t29 t50 t134 t153 t159 R w) fun K16 =>
 guardP t153 false (
 opN Pg (nilN t134) (panK R) w fun t156 w =>
 F0 38 t156 1 R w fun t157 w =>
 L0 32 t157 R w fun t158 w =>
 B0 .eql 32 true t158 (.int .i64 6) R w fun t159 w =>
 K16 t159 w) (
 K16 undef w)
def n5c20 (t4 t11 t12 t13 t14 t29 t50 t134 t139 t145:Value) (R:RT) (w:World):Prop :=
 pickK t139 (.bool true) t145 fun t146 =>
 joinK (fun (t152:Value) (w:World) =>
 n5c19 t4 t11 t12 t13 t14 t29 t50 t134 t146 t152 R w) fun K15 =>
 guardP t146 false (
 opN Pg (nilN t134) (panK R) w fun t149 w =>
 F0 38 t149 1 R w fun t150 w =>
 L0 32 t150 R w fun t151 w =>
 B0 .eql 32 true t151 (.int .i64 5) R w fun t152 w =>
 K15 t152 w) (
 K15 undef w)
def n5c21 (t2 t4 t11 t12 t13 t14 t29 t50:Value) (C13:World→Prop) (R:RT) (w:World):Prop :=
 qV Pg C13 (Instr.fieldAt 24 t13 1) fun t122 =>
 qV Pg C13 (Instr.loadAt 22 t122) fun t123 =>
 qV Pg C13 (Instr.indexAt 22 t123 t50) fun t125 =>
 qV Pg C13 (Instr.fieldAt 44 t125 1) fun t126 =>
 qV Pg C13 (Instr.loadAt 42 t126) fun t127 =>
 qV Pg C13 (Go.convert 5 3 t2) fun t129 =>
 qV Pg C13 (Instr.fieldAt 44 t11 1) fun t130 =>
 qV Pg C13 (Instr.loadAt 42 t130) fun t131 =>
 qV Pg C13 (Builtin.len_ #[42] 3 #[t131]) fun t132 =>
 qV Pg C13 (binS .rem 3 false t129 t132) fun t133 =>
 qV Pg C13 (Instr.indexAt 42 t127 t133) fun t134 =>
 opN Pg (nilN t134) (panK R) w fun t136 w =>
 F0 38 t136 1 R w fun t137 w =>
 L0 32 t137 R w fun t138 w =>
 B0 .eql 32 true t138 (.int .i64 1) R w fun t139 w =>
 joinK (fun (t145:Value) (w:World) =>
 n5c20 t4 t11 t12 t13 t14 t29 t50 t134 t139 t145 R w) fun K14 =>
 guardP t139 false (
 opN Pg (nilN t134) (panK R) w fun t142 w =>
 F0 38 t142 1 R w fun t143 w =>
 L0 32 t143 R w fun t144 w =>
 B0 .eql 32 true t144 (.int .i64 3) R w fun t145 w =>
 K14 t145 w) (
 K14 undef w)
def n5c22 (t2 t4 t11 t12 t13 t14 t29 t50 t105 t119:Value) (C11:World→Prop) (R:RT) (w:World):Prop :=
 qV Pg C11 (Instr.indexAt 22 t105 t50) fun t120 =>
 qV Pg C11 (Instr.fieldAt 44 t120 1) fun t121 =>
 opU Pg (Instr.storeAt 42 t121 t119) (panK R) w fun w =>
 turnK w fun C12 w =>
 drawK w fun C13 w =>
 n5c21 t2 t4 t11 t12 t13 t14 t29 t50 C13 R w
def n5c23 (t2 t3 t4 t11 t12 t13 t14 t29 t50:Value) (C11:World→Prop) (R:RT) (w:World):Prop :=
 qV Pg C11 (Instr.fieldAt 24 t12 1) fun t104 =>
 qV Pg C11 (Instr.loadAt 22 t104) fun t105 =>
 qV Pg C11 (Instr.fieldAt 24 t12 1) fun t107 =>
 qV Pg C11 (Instr.loadAt 22 t107) fun t108 =>
 qV Pg C11 (Instr.indexAt 22 t108 t50) fun t110 =>
 qV Pg C11 (Instr.fieldAt 44 t110 1) fun t111 =>
 qV Pg C11 (Instr.loadAt 42 t111) fun t112 =>
 qV Pg C11 (Go.convert 5 3 t3) fun t114 =>
 qV Pg C11 (binS .rem 3 true t114 (.int .i64 32)) fun t115 =>
 qV Pg C11 (binS .add 3 true (.int .i64 1) t115) fun t116 =>
 qV Pg C11 (Instr.build 38 #[(0,(.string { data := #[122,122,122,122] })),(1,(.int .i64 1)),(2,t116)]) fun t117 =>
 opV Pg (Instr.buildSlice 42 1 #[(0,t117)]) (panK R) w fun t118 w =>
 C11 w∧(
 opV Pg (Builtin.append_ #[42,42] 42 #[t112,t118]) (panK R) w fun t119 w =>
 C11 w∧(
 n5c22 t2 t4 t11 t12 t13 t14 t29 t50 t105 t119 C11 R w))
def n5c24 (t11 t13 t50:Value) (C6:World→Prop) (K10:KV) (R:RT) (w:World):Prop :=
 qV Pg C6 (Instr.fieldAt 24 t13 1) fun t92 =>
 qV Pg C6 (Instr.loadAt 22 t92) fun t93 =>
 qV Pg C6 (Instr.indexAt 22 t93 t50) fun t95 =>
 qV Pg C6 (Instr.fieldAt 44 t95 1) fun t96 =>
 qV Pg C6 (Instr.loadAt 42 t96) fun t97 =>
 qV Pg C6 (Builtin.len_ #[42] 3 #[t97]) fun t98 =>
 qV Pg C6 (Instr.fieldAt 44 t11 1) fun t99 =>
 qV Pg C6 (Instr.loadAt 42 t99) fun t100 =>
 qV Pg C6 (Builtin.len_ #[42] 3 #[t100]) fun t101 =>
 qV Pg C6 (binS .neq 3 false t98 t101) fun t102 =>
 K10 t102 w
def n5c25 (t2 t3 t4 t11 t12 t13 t14 t29 t50 t83 t89:Value) (C6:World→Prop) (R:RT) (w:World):Prop :=
 pickK t83 (.bool true) t89 fun t90 =>
 joinK (fun (t102:Value) (w:World) =>
 pickK t90 (.bool true) t102 fun t103 =>
 condP t103 (
 R (.returned (.bool false)) w) (
 drawK w fun C11 w =>
 n5c23 t2 t3 t4 t11 t12 t13 t14 t29 t50 C11 R w)) fun K10 =>
 guardP t90 false (
 n5c24 t11 t13 t50 C6 K10 R w) (
 K10 undef w)
def n5c26 (t2 t3 t4 t11 t12 t13 t14 t29 t50 t76 t82:Value) (C6:World→Prop) (R:RT) (w:World):Prop :=
 pickK t76 (.bool true) t82 fun t83 =>
 joinK (fun (t89:Value) (w:World) =>
 n5c25 t2 t3 t4 t11 t12 t13 t14 t29 t50 t83 t89 C6 R w) fun K9 =>
 guardP t83 false (
 qV Pg C6 (Instr.fieldAt 24 t13 1) fun t85 =>
 qV Pg C6 (Instr.loadAt 22 t85) fun t86 =>
 qV Pg C6 (Builtin.len_ #[22] 3 #[t86]) fun t87 =>
 qV Pg C6 (binS .neq 3 false t87 t29) fun t89 =>
 K9 t89 w) (
 K9 undef w)
def n5c27 (t2 t3 t4 t11 t12 t13 t14 t29 t50 t70 t75:Value) (C6:World→Prop) (R:RT) (w:World):Prop :=
 pickK t70 (.bool true) t75 fun t76 =>
 joinK (fun (t82:Value) (w:World) =>
 n5c26 t2 t3 t4 t11 t12 t13 t14 t29 t50 t76 t82 C6 R w) fun K8 =>
 guardP t76 false (
 qV Pg C6 (Instr.fieldAt 24 t12 1) fun t78 =>
 qV Pg C6 (Instr.loadAt 22 t78) fun t79 =>
 qV Pg C6 (Builtin.len_ #[22] 3 #[t79]) fun t80 =>
 qV Pg C6 (binS .neq 3 false t80 t29) fun t82 =>
 K8 t82 w) (
 K8 undef w)
def n5c28 (t2 t3 t4 t11 t12 t13 t14 t29 t50 t69:Value) (C6:World→Prop) (R:RT) (w:World):Prop :=
 qV Pg C6 (Op.unary .not t69) fun t70 =>
 joinK (fun (t75:Value) (w:World) =>
 n5c27 t2 t3 t4 t11 t12 t13 t14 t29 t50 t70 t75 C6 R w) fun K7 =>
 guardP t70 false (
 qV Pg C6 (Instr.loadAt 24 t13) fun t72 =>
 qV Pg C6 (Instr.loadAt 24 t4) fun t73 =>
 C0 45 #[t72,t73] R w fun t74 w =>
 C6 w∧(
 qV Pg C6 (Op.unary .not t74) fun t75 =>
 K7 t75 w)) (
 K7 undef w)
def n5c29 (t2 t3 t4 t11 t12 t13 t14 t29 t50:Value) (C6:World→Prop) (R:RT) (w:World):Prop :=
 qV Pg C6 (Instr.loadAt 24 t12) fun t67 =>
 qV Pg C6 (Instr.loadAt 24 t4) fun t68 =>
 C0 45 #[t67,t68] R w fun t69 w =>
 C6 w∧(
 n5c28 t2 t3 t4 t11 t12 t13 t14 t29 t50 t69 C6 R w)
def n5c30 (t12 t13 t14 t62 t64 t66:Value) (K5:Value→Value→Value→World→Prop) (R:RT) (w:World):Prop :=
 opU Pg (Instr.storeAt 24 t12 t62) (panK R) w fun w =>
 turnK w fun C31 w =>
 opU Pg (Instr.storeAt 24 t13 t64) (panK R) w fun w =>
 turnK w fun C32 w =>
 opU Pg (Instr.storeAt 24 t14 t66) (panK R) w fun w =>
 turnK w fun C33 w =>
 K5 t12 t13 t14 w
def n5c31 (t12 t62 t64 t66:Value) (C4:World→Prop) (K5:Value→Value→Value→World→Prop) (R:RT) (w:World):Prop :=
 (
 opV Pg (Instr.alloc 24 true (.tuple #[])) (panK R) w fun t13 w =>
 C4 w∧(
 opV Pg (Instr.alloc 24 true (.tuple #[])) (panK R) w fun t14 w =>
 C4 w∧(
 n5c30 t12 t13 t14 t62 t64 t66 K5 R w)))∧(
 opV Pg (Instr.alloc 24 true (.tuple #[])) (panK R) w fun t14 w =>
 C4 w∧(
 opV Pg (Instr.alloc 24 true (.tuple #[])) (panK R) w fun t13 w =>
 C4 w∧(
 n5c30 t12 t13 t14 t62 t64 t66 K5 R w)))
def n5c32 (t13 t62 t64 t66:Value) (C4:World→Prop) (K5:Value→Value→Value→World→Prop) (R:RT) (w:World):Prop :=
 (
 opV Pg (Instr.alloc 24 true (.tuple #[])) (panK R) w fun t12 w =>
 C4 w∧(
 opV Pg (Instr.alloc 24 true (.tuple #[])) (panK R) w fun t14 w =>
 C4 w∧(
 n5c30 t12 t13 t14 t62 t64 t66 K5 R w)))∧(
 opV Pg (Instr.alloc 24 true (.tuple #[])) (panK R) w fun t14 w =>
 C4 w∧(
 opV Pg (Instr.alloc 24 true (.tuple #[])) (panK R) w fun t12 w =>
 C4 w∧(
 n5c30 t12 t13 t14 t62 t64 t66 K5 R w)))
def n5c33 (t14 t62 t64 t66:Value) (C4:World→Prop) (K5:Value→Value→Value→World→Prop) (R:RT) (w:World):Prop :=
 (
 opV Pg (Instr.alloc 24 true (.tuple #[])) (panK R) w fun t12 w =>
 C4 w∧(
 opV Pg (Instr.alloc 24 true (.tuple #[])) (panK R) w fun t13 w =>
 C4 w∧(
 n5c30 t12 t13 t14 t62 t64 t66 K5 R w)))∧(
 opV Pg (Instr.alloc 24 true (.tuple #[])) (panK R) w fun t13 w =>
 C4 w∧(
 opV Pg (Instr.alloc 24 true (.tuple #[])) (panK R) w fun t12 w =>
 C4 w∧(
 n5c30 t12 t13 t14 t62 t64 t66 K5 R w)))
def n5c34 (t62 t64 t66:Value) (C4:World→Prop) (K5:Value→Value→Value→World→Prop) (R:RT) (w:World):Prop :=
 (
 opV Pg (Instr.alloc 24 true (.tuple #[])) (panK R) w fun t12 w =>
 C4 w∧(
 n5c31 t12 t62 t64 t66 C4 K5 R w))∧(
 opV Pg (Instr.alloc 24 true (.tuple #[])) (panK R) w fun t13 w =>
 C4 w∧(
 n5c32 t13 t62 t64 t66 C4 K5 R w))∧(
 opV Pg (Instr.alloc 24 true (.tuple #[])) (panK R) w fun t14 w =>
 C4 w∧(
 n5c33 t14 t62 t64 t66 C4 K5 R w))
def n5c35 (t12 t13 t62 t64 t65:Value) (C4:World→Prop) (K5:Value→Value→Value→World→Prop) (R:RT) (w:World):Prop :=
 (
 C0 44 #[t65] R w fun t66 w =>
 C4 w∧(
 opV Pg (Instr.alloc 24 true (.tuple #[])) (panK R) w fun t14 w =>
 C4 w∧(
 n5c30 t12 t13 t14 t62 t64 t66 K5 R w)))∧(
 opV Pg (Instr.alloc 24 true (.tuple #[])) (panK R) w fun t14 w =>
 C4 w∧(
 C0 44 #[t65] R w fun t66 w =>
 C4 w∧(
 n5c30 t12 t13 t14 t62 t64 t66 K5 R w)))
def n5c36 (t12 t14 t62 t64 t65:Value) (C4:World→Prop) (K5:Value→Value→Value→World→Prop) (R:RT) (w:World):Prop :=
 (
 C0 44 #[t65] R w fun t66 w =>
 C4 w∧(
 opV Pg (Instr.alloc 24 true (.tuple #[])) (panK R) w fun t13 w =>
 C4 w∧(
 n5c30 t12 t13 t14 t62 t64 t66 K5 R w)))∧(
 opV Pg (Instr.alloc 24 true (.tuple #[])) (panK R) w fun t13 w =>
 C4 w∧(
 C0 44 #[t65] R w fun t66 w =>
 C4 w∧(
 n5c30 t12 t13 t14 t62 t64 t66 K5 R w)))
def n5c37 (t12 t62 t64 t65:Value) (C4:World→Prop) (K5:Value→Value→Value→World→Prop) (R:RT) (w:World):Prop :=
 (
 C0 44 #[t65] R w fun t66 w =>
 C4 w∧(
 n5c31 t12 t62 t64 t66 C4 K5 R w))∧(
 opV Pg (Instr.alloc 24 true (.tuple #[])) (panK R) w fun t13 w =>
 C4 w∧(
 n5c35 t12 t13 t62 t64 t65 C4 K5 R w))∧(
 opV Pg (Instr.alloc 24 true (.tuple #[])) (panK R) w fun t14 w =>
 C4 w∧(
 n5c36 t12 t14 t62 t64 t65 C4 K5 R w))
def n5c38 (t13 t14 t62 t64 t65:Value) (C4:World→Prop) (K5:Value→Value→Value→World→Prop) (R:RT) (w:World):Prop :=
 (
 C0 44 #[t65] R w fun t66 w =>
 C4 w∧(
 opV Pg (Instr.alloc 24 true (.tuple #[])) (panK R) w fun t12 w =>
 C4 w∧(
 n5c30 t12 t13 t14 t62 t64 t66 K5 R w)))∧(
 opV Pg (Instr.alloc 24 true (.tuple #[])) (panK R) w fun t12 w =>
 C4 w∧(
 C0 44 #[t65] R w fun t66 w =>
 C4 w∧(
 n5c30 t12 t13 t14 t62 t64 t66 K5 R w)))
def n5c39 (t13 t62 t64 t65:Value) (C4:World→Prop) (K5:Value→Value→Value→World→Prop) (R:RT) (w:World):Prop :=
 (
 C0 44 #[t65] R w fun t66 w =>
 C4 w∧(
 n5c32 t13 t62 t64 t66 C4 K5 R w))∧(
 opV Pg (Instr.alloc 24 true (.tuple #[])) (panK R) w fun t12 w =>
 C4 w∧(
 n5c35 t12 t13 t62 t64 t65 C4 K5 R w))∧(
 opV Pg (Instr.alloc 24 true (.tuple #[])) (panK R) w fun t14 w =>
 C4 w∧(
 n5c38 t13 t14 t62 t64 t65 C4 K5 R w))
def n5c40 (t14 t62 t64 t65:Value) (C4:World→Prop) (K5:Value→Value→Value→World→Prop) (R:RT) (w:World):Prop :=
 (
 C0 44 #[t65] R w fun t66 w =>
 C4 w∧(
 n5c33 t14 t62 t64 t66 C4 K5 R w))∧(
 opV Pg (Instr.alloc 24 true (.tuple #[])) (panK R) w fun t12 w =>
 C4 w∧(
 n5c36 t12 t14 t62 t64 t65 C4 K5 R w))∧(
 opV Pg (Instr.alloc 24 true (.tuple #[])) (panK R) w fun t13 w =>
 C4 w∧(
 n5c38 t13 t14 t62 t64 t65 C4 K5 R w))
def n5c41 (t62 t64 t65:Value) (C4:World→Prop) (K5:Value→Value→Value→World→Prop) (R:RT) (w:World):Prop :=
 (
 C0 44 #[t65] R w fun t66 w =>
 C4 w∧(
 n5c34 t62 t64 t66 C4 K5 R w))∧(
 opV Pg (Instr.alloc 24 true (.tuple #[])) (panK R) w fun t12 w =>
 C4 w∧(
 n5c37 t12 t62 t64 t65 C4 K5 R w))∧(
 opV Pg (Instr.alloc 24 true (.tuple #[])) (panK R) w fun t13 w =>
 C4 w∧(
 n5c39 t13 t62 t64 t65 C4 K5 R w))∧(
 opV Pg (Instr.alloc 24 true (.tuple #[])) (panK R) w fun t14 w =>
 C4 w∧(
 n5c40 t14 t62 t64 t65 C4 K5 R w))
def n5c42 (t12 t13 t62 t63 t65:Value) (C4:World→Prop) (K5:Value→Value→Value→World→Prop) (R:RT) (w:World):Prop :=
 (
 C0 44 #[t63] R w fun t64 w =>
 C4 w∧(
 n5c35 t12 t13 t62 t64 t65 C4 K5 R w))∧(
 opV Pg (Instr.alloc 24 true (.tuple #[])) (panK R) w fun t14 w =>
 C4 w∧(
 C0 44 #[t63] R w fun t64 w =>
 C4 w∧(
 C0 44 #[t65] R w fun t66 w =>
 C4 w∧(
 n5c30 t12 t13 t14 t62 t64 t66 K5 R w))))
def n5c43 (t12 t14 t62 t63 t65:Value) (C4:World→Prop) (K5:Value→Value→Value→World→Prop) (R:RT) (w:World):Prop :=
 (
 C0 44 #[t63] R w fun t64 w =>
 C4 w∧(
 n5c36 t12 t14 t62 t64 t65 C4 K5 R w))∧(
 opV Pg (Instr.alloc 24 true (.tuple #[])) (panK R) w fun t13 w =>
 C4 w∧(
 C0 44 #[t63] R w fun t64 w =>
 C4 w∧(
 C0 44 #[t65] R w fun t66 w =>
 C4 w∧(
 n5c30 t12 t13 t14 t62 t64 t66 K5 R w))))
def n5c44 (t12 t62 t63 t65:Value) (C4:World→Prop) (K5:Value→Value→Value→World→Prop) (R:RT) (w:World):Prop :=
 (
 C0 44 #[t63] R w fun t64 w =>
 C4 w∧(
 n5c37 t12 t62 t64 t65 C4 K5 R w))∧(
 opV Pg (Instr.alloc 24 true (.tuple #[])) (panK R) w fun t13 w =>
 C4 w∧(
 n5c42 t12 t13 t62 t63 t65 C4 K5 R w))∧(
 opV Pg (Instr.alloc 24 true (.tuple #[])) (panK R) w fun t14 w =>
 C4 w∧(
 n5c43 t12 t14 t62 t63 t65 C4 K5 R w))
def n5c45 (t13 t14 t62 t63 t65:Value) (C4:World→Prop) (K5:Value→Value→Value→World→Prop) (R:RT) (w:World):Prop :=
 (
 C0 44 #[t63] R w fun t64 w =>
 C4 w∧(
 n5c38 t13 t14 t62 t64 t65 C4 K5 R w))∧(
 opV Pg (Instr.alloc 24 true (.tuple #[])) (panK R) w fun t12 w =>
 C4 w∧(
 C0 44 #[t63] R w fun t64 w =>
 C4 w∧(
 C0 44 #[t65] R w fun t66 w =>
 C4 w∧(
 n5c30 t12 t13 t14 t62 t64 t66 K5 R w))))
def n5c46 (t13 t62 t63 t65:Value) (C4:World→Prop) (K5:Value→Value→Value→World→Prop) (R:RT) (w:World):Prop :=
 (
 C0 44 #[t63] R w fun t64 w =>
 C4 w∧(
 n5c39 t13 t62 t64 t65 C4 K5 R w))∧(
 opV Pg (Instr.alloc 24 true (.tuple #[])) (panK R) w fun t12 w =>
 C4 w∧(
 n5c42 t12 t13 t62 t63 t65 C4 K5 R w))∧(
 opV Pg (Instr.alloc 24 true (.tuple #[])) (panK R) w fun t14 w =>
 C4 w∧(
 n5c45 t13 t14 t62 t63 t65 C4 K5 R w))
def n5c47 (t14 t62 t63 t65:Value) (C4:World→Prop) (K5:Value→Value→Value→World→Prop) (R:RT) (w:World):Prop :=
 (
 C0 44 #[t63] R w fun t64 w =>
 C4 w∧(
 n5c40 t14 t62 t64 t65 C4 K5 R w))∧(
 opV Pg (Instr.alloc 24 true (.tuple #[])) (panK R) w fun t12 w =>
 C4 w∧(
 n5c43 t12 t14 t62 t63 t65 C4 K5 R w))∧(
 opV Pg (Instr.alloc 24 true (.tuple #[])) (panK R) w fun t13 w =>
 C4 w∧(
 n5c45 t13 t14 t62 t63 t65 C4 K5 R w))
def n5c48 (t62 t63 t65:Value) (C4:World→Prop) (K5:Value→Value→Value→World→Prop) (R:RT) (w:World):Prop :=
 (
 C0 44 #[t63] R w fun t64 w =>
 C4 w∧(
 n5c41 t62 t64 t65 C4 K5 R w))∧(
 opV Pg (Instr.alloc 24 true (.tuple #[])) (panK R) w fun t12 w =>
 C4 w∧(
 n5c44 t12 t62 t63 t65 C4 K5 R w))∧(
 opV Pg (Instr.alloc 24 true (.tuple #[])) (panK R) w fun t13 w =>
 C4 w∧(
 n5c46 t13 t62 t63 t65 C4 K5 R w))∧(
 opV Pg (Instr.alloc 24 true (.tuple #[])) (panK R) w fun t14 w =>
 C4 w∧(
 n5c47 t14 t62 t63 t65 C4 K5 R w))
def n5c49 (t12 t13 t14 t62 t63 t65:Value) (C4:World→Prop) (K5:Value→Value→Value→World→Prop) (R:RT) (w:World):Prop :=
 C4 w∧(
 C0 44 #[t63] R w fun t64 w =>
 C4 w∧(
 C0 44 #[t65] R w fun t66 w =>
 C4 w∧(
 n5c30 t12 t13 t14 t62 t64 t66 K5 R w)))
def n5c50 (t12 t13 t61 t63 t65:Value) (C4:World→Prop) (K5:Value→Value→Value→World→Prop) (R:RT) (w:World):Prop :=
 (
 C0 44 #[t61] R w fun t62 w =>
 C4 w∧(
 n5c42 t12 t13 t62 t63 t65 C4 K5 R w))∧(
 opV Pg (Instr.alloc 24 true (.tuple #[])) (panK R) w fun t14 w =>
 C4 w∧(
 C0 44 #[t61] R w fun t62 w =>
 n5c49 t12 t13 t14 t62 t63 t65 C4 K5 R w))
def n5c51 (t12 t14 t61 t63 t65:Value) (C4:World→Prop) (K5:Value→Value→Value→World→Prop) (R:RT) (w:World):Prop :=
 (
 C0 44 #[t61] R w fun t62 w =>
 C4 w∧(
 n5c43 t12 t14 t62 t63 t65 C4 K5 R w))∧(
 opV Pg (Instr.alloc 24 true (.tuple #[])) (panK R) w fun t13 w =>
 C4 w∧(
 C0 44 #[t61] R w fun t62 w =>
 n5c49 t12 t13 t14 t62 t63 t65 C4 K5 R w))
def n5c52 (t12 t61 t63 t65:Value) (C4:World→Prop) (K5:Value→Value→Value→World→Prop) (R:RT) (w:World):Prop :=
 (
 C0 44 #[t61] R w fun t62 w =>
 C4 w∧(
 n5c44 t12 t62 t63 t65 C4 K5 R w))∧(
 opV Pg (Instr.alloc 24 true (.tuple #[])) (panK R) w fun t13 w =>
 C4 w∧(
 n5c50 t12 t13 t61 t63 t65 C4 K5 R w))∧(
 opV Pg (Instr.alloc 24 true (.tuple #[])) (panK R) w fun t14 w =>
 C4 w∧(
 n5c51 t12 t14 t61 t63 t65 C4 K5 R w))
def n5c53 (t13 t14 t61 t63 t65:Value) (C4:World→Prop) (K5:Value→Value→Value→World→Prop) (R:RT) (w:World):Prop :=
 (
 C0 44 #[t61] R w fun t62 w =>
 C4 w∧(
 n5c45 t13 t14 t62 t63 t65 C4 K5 R w))∧(
 opV Pg (Instr.alloc 24 true (.tuple #[])) (panK R) w fun t12 w =>
 C4 w∧(
 C0 44 #[t61] R w fun t62 w =>
 n5c49 t12 t13 t14 t62 t63 t65 C4 K5 R w))
def n5c54 (t13 t61 t63 t65:Value) (C4:World→Prop) (K5:Value→Value→Value→World→Prop) (R:RT) (w:World):Prop :=
 (
 C0 44 #[t61] R w fun t62 w =>
 C4 w∧(
 n5c46 t13 t62 t63 t65 C4 K5 R w))∧(
 opV Pg (Instr.alloc 24 true (.tuple #[])) (panK R) w fun t12 w =>
 C4 w∧(
 n5c50 t12 t13 t61 t63 t65 C4 K5 R w))∧(
 opV Pg (Instr.alloc 24 true (.tuple #[])) (panK R) w fun t14 w =>
 C4 w∧(
 n5c53 t13 t14 t61 t63 t65 C4 K5 R w))
def n5c55 (t14 t61 t63 t65:Value) (C4:World→Prop) (K5:Value→Value→Value→World→Prop) (R:RT) (w:World):Prop :=
 (
 C0 44 #[t61] R w fun t62 w =>
 C4 w∧(
 n5c47 t14 t62 t63 t65 C4 K5 R w))∧(
 opV Pg (Instr.alloc 24 true (.tuple #[])) (panK R) w fun t12 w =>
 C4 w∧(
 n5c51 t12 t14 t61 t63 t65 C4 K5 R w))∧(
 opV Pg (Instr.alloc 24 true (.tuple #[])) (panK R) w fun t13 w =>
 C4 w∧(
 n5c53 t13 t14 t61 t63 t65 C4 K5 R w))
def n5c56 (t2 t3 t4 t11 t29 t50:Value) (C4:World→Prop) (R:RT) (w:World):Prop :=
 qV Pg C4 (Instr.loadAt 24 t4) fun t61 =>
 qV Pg C4 (Instr.loadAt 24 t4) fun t63 =>
 qV Pg C4 (Instr.loadAt 24 t4) fun t65 =>
 joinK (fun (t12:Value) (t13:Value) (t14:Value) (w:World) =>
 drawK w fun C6 w =>
 n5c29 t2 t3 t4 t11 t12 t13 t14 t29 t50 C6 R w) fun K5 =>
 (
 C0 44 #[t61] R w fun t62 w =>
 C4 w∧(
 n5c48 t62 t63 t65 C4 K5 R w))∧(
 opV Pg (Instr.alloc 24 true (.tuple #[])) (panK R) w fun t12 w =>
 C4 w∧(
 n5c52 t12 t61 t63 t65 C4 K5 R w))∧(
 opV Pg (Instr.alloc 24 true (.tuple #[])) (panK R) w fun t13 w =>
 C4 w∧(
 n5c54 t13 t61 t63 t65 C4 K5 R w))∧(
 opV Pg (Instr.alloc 24 true (.tuple #[])) (panK R) w fun t14 w =>
 C4 w∧(
 n5c55 t14 t61 t63 t65 C4 K5 R w))
def n5c57 (t1 t2 t3 t4 t29:Value) (R:RT) (w:World):Prop :=
 opV Pg (Go.convert 5 3 t1) (panK R) w fun t48 w =>
 B0 .rem 3 false t48 t29 R w fun t50 w =>
 F0 24 t4 1 R w fun t51 w =>
 L0 22 t51 R w fun t52 w =>
 X0 22 t52 t50 R w fun t54 w =>
 L0 44 t54 R w fun t55 w =>
 opV Pg (Instr.alloc 44 true (.tuple #[])) (panK R) w fun t11 w =>
 opU Pg (Instr.storeAt 44 t11 t55) (panK R) w fun w =>
 F0 44 t11 1 R w fun t56 w =>
 L0 42 t56 R w fun t57 w =>
 opV Pg (Builtin.len_ #[42] 3 #[t57]) (panK R) w fun t58 w =>
 B0 .geq 3 true t58 (.int .i64 40) R w fun t59 w =>
 condP t59 (
 C0 32 #[] R w fun t60 w =>
 R (.returned t60) w) (
 drawK w fun C4 w =>
 n5c56 t2 t3 t4 t11 t29 t50 C4 R w)
def n5c58 (t1 t2 t3 t4 t29 t36 t39:Value) (R:RT) (w:World):Prop :=
 pickK t36 (.bool true) t39 fun t40 =>
 joinK (fun (t44:Value) (w:World) =>
 pickK t40 (.bool true) t44 fun t45 =>
 condP t45 (
 C0 32 #[] R w fun t46 w =>
 R (.returned t46) w) (
 n5c57 t1 t2 t3 t4 t29 R w)) fun K3 =>
 guardP t40 false (
 L0 24 t4 R w fun t42 w =>
 C0 43 #[t42] R w fun t43 w =>
 opV Pg (Op.unary .not t43) (panK R) w fun t44 w =>
 K3 t44 w) (
 K3 undef w)
def n5c59 (t1 t2 t3 t4 t29 t32 t35:Value) (R:RT) (w:World):Prop :=
 pickK t32 (.bool true) t35 fun t36 =>
 joinK (fun (t39:Value) (w:World) =>
 n5c58 t1 t2 t3 t4 t29 t36 t39 R w) fun K2 =>
 guardP t36 false (
 B0 .gtr 3 true t29 (.int .i64 10) R w fun t39 w =>
 K2 t39 w) (
 K2 undef w)
def n5c60 (t1 t2 t3 t4 t29 t31:Value) (R:RT) (w:World):Prop :=
 opV Pg (Op.unary .not t31) (panK R) w fun t32 w =>
 joinK (fun (t35:Value) (w:World) =>
 n5c59 t1 t2 t3 t4 t29 t32 t35 R w) fun K1 =>
 guardP t32 false (
 B0 .eql 3 true t29 (.int .i64 0) R w fun t35 w =>
 K1 t35 w) (
 K1 undef w)
def n5 (t0 t1 t2 t3:Value) (R:RT) (w:World):Prop :=
 opV Pg (Instr.box 24 t0) (panK R) w fun t4 w =>
 F0 24 t4 1 R w fun t27 w =>
 L0 22 t27 R w fun t28 w =>
 opV Pg (Builtin.len_ #[22] 3 #[t28]) (panK R) w fun t29 w =>
 L0 24 t4 R w fun t30 w =>
 C0 31 #[t30] R w fun t31 w =>
 n5c60 t1 t2 t3 t4 t29 t31 R w
set_option maxHeartbeats 40000000 in
theorem n5s {t0 t1 t2 t3:Value} {R:RT} {w:World} (h:n5 t0 t1 t2 t3 R w):Calls Pg 13 #[t0,t1,t2,t3] w R:=by
 refine yD Tryz.func13 ?_
 refine zs<|zr<|yv h fun _ w h=>zm<|zn<|zk<|zs<|zr<|yv h fun _ w h=>yv h fun _ w h=>yx h fun _ w h=>zm<|zn<|zk<|zs ?_
 refine zs<|sim_regionG<|yG 4<|yv h fun _ w h=>yc h c31 fun _ w h=>yv h fun _ w h=>zm<|zn<|yg1 2 3 false [34,35] 35 h (fun _ T hT h=>?_) fun σ w h=>?_
 · refine zm<|yb h fun _ w h=>zn ?_
   exact zt hT h
 refine yG 2<|yp h fun _ h=>zm<|zn<|yg1 2 7 false [38,39] 39 h (fun _ T hT h=>?_) fun σ w h=>?_
 · refine zm<|yb h fun _ w h=>zn ?_
   exact zt hT h
 refine yG 2<|yp h fun _ h=>zm<|zn<|yg1 3 11 false [42,43,44] 44 h (fun _ T hT h=>?_) fun σ w h=>?_
 · refine yv h fun _ w h=>yc h c43 fun _ w h=>yv h fun _ w h=>zn ?_
   exact zt hT h
 refine yG 1<|yp h fun _ h=>zn<|sim_end<|zk<|yC h (fun h=>zs<|zr<|yc h c32 fun _ w h=>zm<|zn<|zk<|sim_ret<|sim_then_ret<|body_ret1 rfl rfl h) fun h=>sim_skip<|zk<|zs<|zr<|zm<|yv h fun _ w h=>zm<|yb h fun _ w h=>?_
 refine zm<|zn<|zk<|zs<|zr<|yv h fun _ w h=>yv h fun _ w h=>zm<|yv h fun _ w h=>yv h fun _ w h=>yv h fun _ w h=>yu h fun w h=>zn<|zk<|zs ?_
 refine zs<|zr<|yv h fun _ w h=>yv h fun _ w h=>yx h fun _ w h=>yb h fun _ w h=>zn<|zk<|yC h (fun h=>zs<|zr<|yc h c32 fun _ w h=>zm<|zn<|zk<|sim_ret<|sim_then_ret<|body_ret1 rfl rfl h) fun h=>sim_skip<|zk<|zs<|yh [12,13,14,61,62,63,64,65,66] h fun C hC h=>ye 0 hC h fun _ h=>?_
 refine ye 2 hC h fun _ h=>?_
 refine ye 4 hC h fun _ h=>?_
 refine joinK_elim h (fun K5 hK h=>?_)
 refine sim_dmeet [12,13,14,62,64,66] (fun ρ w=>K5 (ρ 12) (ρ 13) (ρ 14) w) (fun T hT=>?_) (fun σ w h=>?_)
 · obtain ⟨h0,h1,h2,h3⟩:=h
   refine sim_dloud4 1 6 7 8 rfl rfl rfl rfl (by kernel_rfl) (fun _ _=>rfl) (fun _ _=>rfl) (fun _ _=>rfl) (fun _ _=>rfl) ?_ ?_ ?_ ?_
   · have h:=h0
     refine yc h c44 fun _ w h=>zn ?_
     obtain ⟨hC,h⟩:=h
     refine ⟨_,fun _ h=>h,hC,?_⟩
     obtain ⟨h0,h1,h2,h3⟩:=h
     refine sim_dloud4 3 6 7 8 rfl rfl rfl rfl (by kernel_rfl) (fun _ _=>rfl) (fun _ _=>rfl) (fun _ _=>rfl) (fun _ _=>rfl) ?_ ?_ ?_ ?_
     · have h:=h0
       refine yc h c44 fun _ w h=>zn ?_
       obtain ⟨hC,h⟩:=h
       refine ⟨_,fun _ h=>h,hC,?_⟩
       obtain ⟨h0,h1,h2,h3⟩:=h
       refine sim_dloud4 5 6 7 8 rfl rfl rfl rfl (by kernel_rfl) (fun _ _=>rfl) (fun _ _=>rfl) (fun _ _=>rfl) (fun _ _=>rfl) ?_ ?_ ?_ ?_
       · have h:=h0
         refine yc h c44 fun _ w h=>zn ?_
         obtain ⟨hC,h⟩:=h
         refine ⟨_,fun _ h=>h,hC,?_⟩
         obtain ⟨h0,h1,h2⟩:=h
         refine sim_dloud3 6 7 8 rfl rfl rfl (by kernel_rfl) (fun _ _=>rfl) (fun _ _=>rfl) (fun _ _=>rfl) ?_ ?_ ?_
         · have h:=h0
           refine yv h fun _ w h=>zn ?_
           obtain ⟨hC,h⟩:=h
           refine ⟨_,fun _ h=>h,hC,?_⟩
           obtain ⟨h0,h1⟩:=h
           refine sim_dloud2 7 8 rfl rfl (by kernel_rfl) (fun _ _=>rfl) (fun _ _=>rfl) ?_ ?_
           · have h:=h0
             refine yv h fun _ w h=>zn ?_
             obtain ⟨hC,h⟩:=h
             refine ⟨_,fun _ h=>h,hC,?_⟩
             refine yo 8 ?_
             refine yv h fun _ w h=>zn ?_
             obtain ⟨hC,h⟩:=h
             refine ⟨hC,?_⟩
             refine yq 9 3 ?_
             refine yu h fun w h=>zn ?_
             obtain ⟨C31,hC,h⟩:=h
             refine ⟨C31,hC,?_⟩
             refine yq 10 3 ?_
             refine yu h fun w h=>zn ?_
             obtain ⟨C32,hC,h⟩:=h
             refine ⟨C32,hC,?_⟩
             refine yq 11 1 ?_
             refine yu h fun w h=>zn ?_
             obtain ⟨C33,hC,h⟩:=h
             refine ⟨C33,hC,?_⟩
             refine yz ?_
             exact zt hT h
           have h:=h1
           refine yv h fun _ w h=>zn ?_
           obtain ⟨hC,h⟩:=h
           refine ⟨_,fun _ h=>h,hC,?_⟩
           refine yo 7 ?_
           refine yv h fun _ w h=>zn ?_
           obtain ⟨hC,h⟩:=h
           refine ⟨hC,?_⟩
           refine yq 9 3 ?_
           refine yu h fun w h=>zn ?_
           obtain ⟨C34,hC,h⟩:=h
           refine ⟨C34,hC,?_⟩
           refine yq 10 3 ?_
           refine yu h fun w h=>zn ?_
           obtain ⟨C35,hC,h⟩:=h
           refine ⟨C35,hC,?_⟩
           refine yq 11 1 ?_
           refine yu h fun w h=>zn ?_
           obtain ⟨C36,hC,h⟩:=h
           refine ⟨C36,hC,?_⟩
           refine yz ?_
           exact zt hT h
         · have h:=h1
           refine yv h fun _ w h=>zn ?_
           obtain ⟨hC,h⟩:=h
           refine ⟨_,fun _ h=>h,hC,?_⟩
           obtain ⟨h0,h1⟩:=h
           refine sim_dloud2 6 8 rfl rfl (by kernel_rfl) (fun _ _=>rfl) (fun _ _=>rfl) ?_ ?_
           · have h:=h0
             refine yv h fun _ w h=>zn ?_
             obtain ⟨hC,h⟩:=h
             refine ⟨_,fun _ h=>h,hC,?_⟩
             refine yo 8 ?_
             refine yv h fun _ w h=>zn ?_
             obtain ⟨hC,h⟩:=h
             refine ⟨hC,?_⟩
             refine yq 9 3 ?_
             refine yu h fun w h=>zn ?_
             obtain ⟨C37,hC,h⟩:=h
             refine ⟨C37,hC,?_⟩
             refine yq 10 3 ?_
             refine yu h fun w h=>zn ?_
             obtain ⟨C38,hC,h⟩:=h
             refine ⟨C38,hC,?_⟩
             refine yq 11 1 ?_
             refine yu h fun w h=>zn ?_
             obtain ⟨C39,hC,h⟩:=h
             refine ⟨C39,hC,?_⟩
             refine yz ?_
             exact zt hT h
           have h:=h1
           refine yv h fun _ w h=>zn ?_
           obtain ⟨hC,h⟩:=h
           refine ⟨_,fun _ h=>h,hC,?_⟩
           refine yo 6 ?_
           refine yv h fun _ w h=>zn ?_
           obtain ⟨hC,h⟩:=h
           refine ⟨hC,?_⟩
           refine yq 9 3 ?_
           refine yu h fun w h=>zn ?_
           obtain ⟨C40,hC,h⟩:=h
           refine ⟨C40,hC,?_⟩
           refine yq 10 3 ?_
           refine yu h fun w h=>zn ?_
           obtain ⟨C41,hC,h⟩:=h
           refine ⟨C41,hC,?_⟩
           refine yq 11 1 ?_
           refine yu h fun w h=>zn ?_
           obtain ⟨C42,hC,h⟩:=h
           refine ⟨C42,hC,?_⟩
           refine yz ?_
           exact zt hT h
         have h:=h2
         refine yv h fun _ w h=>zn ?_
         obtain ⟨hC,h⟩:=h
         refine ⟨_,fun _ h=>h,hC,?_⟩
         obtain ⟨h0,h1⟩:=h
         refine sim_dloud2 6 7 rfl rfl (by kernel_rfl) (fun _ _=>rfl) (fun _ _=>rfl) ?_ ?_
         · have h:=h0
           refine yv h fun _ w h=>zn ?_
           obtain ⟨hC,h⟩:=h
           refine ⟨_,fun _ h=>h,hC,?_⟩
           refine yo 7 ?_
           refine yv h fun _ w h=>zn ?_
           obtain ⟨hC,h⟩:=h
           refine ⟨hC,?_⟩
           refine yq 9 3 ?_
           refine yu h fun w h=>zn ?_
           obtain ⟨C43,hC,h⟩:=h
           refine ⟨C43,hC,?_⟩
           refine yq 10 3 ?_
           refine yu h fun w h=>zn ?_
           obtain ⟨C44,hC,h⟩:=h
           refine ⟨C44,hC,?_⟩
           refine yq 11 1 ?_
           refine yu h fun w h=>zn ?_
           obtain ⟨C45,hC,h⟩:=h
           refine ⟨C45,hC,?_⟩
           refine yz ?_
           exact zt hT h
         have h:=h1
         refine yv h fun _ w h=>zn ?_
         obtain ⟨hC,h⟩:=h
         refine ⟨_,fun _ h=>h,hC,?_⟩
         refine yo 6 ?_
         refine yv h fun _ w h=>zn ?_
         obtain ⟨hC,h⟩:=h
         refine ⟨hC,?_⟩
         refine yq 9 3 ?_
         refine yu h fun w h=>zn ?_
         obtain ⟨C46,hC,h⟩:=h
         refine ⟨C46,hC,?_⟩
         refine yq 10 3 ?_
         refine yu h fun w h=>zn ?_
         obtain ⟨C47,hC,h⟩:=h
         refine ⟨C47,hC,?_⟩
         refine yq 11 1 ?_
         refine yu h fun w h=>zn ?_
         obtain ⟨C48,hC,h⟩:=h
         refine ⟨C48,hC,?_⟩
         refine yz ?_
         exact zt hT h
       · have h:=h1
         refine yv h fun _ w h=>zn ?_
         obtain ⟨hC,h⟩:=h
         refine ⟨_,fun _ h=>h,hC,?_⟩
         obtain ⟨h0,h1,h2⟩:=h
         refine sim_dloud3 5 7 8 rfl rfl rfl (by kernel_rfl) (fun _ _=>rfl) (fun _ _=>rfl) (fun _ _=>rfl) ?_ ?_ ?_
         · have h:=h0
           refine yc h c44 fun _ w h=>zn ?_
           obtain ⟨hC,h⟩:=h
           refine ⟨_,fun _ h=>h,hC,?_⟩
           obtain ⟨h0,h1⟩:=h
           refine sim_dloud2 7 8 rfl rfl (by kernel_rfl) (fun _ _=>rfl) (fun _ _=>rfl) ?_ ?_
           · have h:=h0
             refine yv h fun _ w h=>zn ?_
             obtain ⟨hC,h⟩:=h
             refine ⟨_,fun _ h=>h,hC,?_⟩
             refine yo 8 ?_
             refine yv h fun _ w h=>zn ?_
             obtain ⟨hC,h⟩:=h
             refine ⟨hC,?_⟩
             refine yq 9 3 ?_
             refine yu h fun w h=>zn ?_
             obtain ⟨C49,hC,h⟩:=h
             refine ⟨C49,hC,?_⟩
             refine yq 10 3 ?_
             refine yu h fun w h=>zn ?_
             obtain ⟨C50,hC,h⟩:=h
             refine ⟨C50,hC,?_⟩
             refine yq 11 1 ?_
             refine yu h fun w h=>zn ?_
             obtain ⟨C51,hC,h⟩:=h
             refine ⟨C51,hC,?_⟩
             refine yz ?_
             exact zt hT h
           have h:=h1
           refine yv h fun _ w h=>zn ?_
           obtain ⟨hC,h⟩:=h
           refine ⟨_,fun _ h=>h,hC,?_⟩
           refine yo 7 ?_
           refine yv h fun _ w h=>zn ?_
           obtain ⟨hC,h⟩:=h
           refine ⟨hC,?_⟩
           refine yq 9 3 ?_
           refine yu h fun w h=>zn ?_
           obtain ⟨C52,hC,h⟩:=h
           refine ⟨C52,hC,?_⟩
           refine yq 10 3 ?_
           refine yu h fun w h=>zn ?_
           obtain ⟨C53,hC,h⟩:=h
           refine ⟨C53,hC,?_⟩
           refine yq 11 1 ?_
           refine yu h fun w h=>zn ?_
           obtain ⟨C54,hC,h⟩:=h
           refine ⟨C54,hC,?_⟩
           refine yz ?_
           exact zt hT h
         · have h:=h1
           refine yv h fun _ w h=>zn ?_
           obtain ⟨hC,h⟩:=h
           refine ⟨_,fun _ h=>h,hC,?_⟩
           obtain ⟨h0,h1⟩:=h
           refine sim_dloud2 5 8 rfl rfl (by kernel_rfl) (fun _ _=>rfl) (fun _ _=>rfl) ?_ ?_
           · have h:=h0
             refine yc h c44 fun _ w h=>zn ?_
             obtain ⟨hC,h⟩:=h
             refine ⟨_,fun _ h=>h,hC,?_⟩
             refine yo 8 ?_
             refine yv h fun _ w h=>zn ?_
             obtain ⟨hC,h⟩:=h
             refine ⟨hC,?_⟩
             refine yq 9 3 ?_
             refine yu h fun w h=>zn ?_
             obtain ⟨C55,hC,h⟩:=h
             refine ⟨C55,hC,?_⟩
             refine yq 10 3 ?_
             refine yu h fun w h=>zn ?_
             obtain ⟨C56,hC,h⟩:=h
             refine ⟨C56,hC,?_⟩
             refine yq 11 1 ?_
             refine yu h fun w h=>zn ?_
             obtain ⟨C57,hC,h⟩:=h
             refine ⟨C57,hC,?_⟩
             refine yz ?_
             exact zt hT h
           have h:=h1
           refine yv h fun _ w h=>zn ?_
           obtain ⟨hC,h⟩:=h
           refine ⟨_,fun _ h=>h,hC,?_⟩
           refine yo 5 ?_
           refine yc h c44 fun _ w h=>zn ?_
           obtain ⟨hC,h⟩:=h
           refine ⟨hC,?_⟩
           refine yq 9 3 ?_
           refine yu h fun w h=>zn ?_
           obtain ⟨C58,hC,h⟩:=h
           refine ⟨C58,hC,?_⟩
           refine yq 10 3 ?_
           refine yu h fun w h=>zn ?_
           obtain ⟨C59,hC,h⟩:=h
           refine ⟨C59,hC,?_⟩
           refine yq 11 1 ?_
           refine yu h fun w h=>zn ?_
           obtain ⟨C60,hC,h⟩:=h
           refine ⟨C60,hC,?_⟩
           refine yz ?_
           exact zt hT h
         have h:=h2
         refine yv h fun _ w h=>zn ?_
         obtain ⟨hC,h⟩:=h
         refine ⟨_,fun _ h=>h,hC,?_⟩
         obtain ⟨h0,h1⟩:=h
         refine sim_dloud2 5 7 rfl rfl (by kernel_rfl) (fun _ _=>rfl) (fun _ _=>rfl) ?_ ?_
         · have h:=h0
           refine yc h c44 fun _ w h=>zn ?_
           obtain ⟨hC,h⟩:=h
           refine ⟨_,fun _ h=>h,hC,?_⟩
           refine yo 7 ?_
           refine yv h fun _ w h=>zn ?_
           obtain ⟨hC,h⟩:=h
           refine ⟨hC,?_⟩
           refine yq 9 3 ?_
           refine yu h fun w h=>zn ?_
           obtain ⟨C61,hC,h⟩:=h
           refine ⟨C61,hC,?_⟩
           refine yq 10 3 ?_
           refine yu h fun w h=>zn ?_
           obtain ⟨C62,hC,h⟩:=h
           refine ⟨C62,hC,?_⟩
           refine yq 11 1 ?_
           refine yu h fun w h=>zn ?_
           obtain ⟨C63,hC,h⟩:=h
           refine ⟨C63,hC,?_⟩
           refine yz ?_
           exact zt hT h
         have h:=h1
         refine yv h fun _ w h=>zn ?_
         obtain ⟨hC,h⟩:=h
         refine ⟨_,fun _ h=>h,hC,?_⟩
         refine yo 5 ?_
         refine yc h c44 fun _ w h=>zn ?_
         obtain ⟨hC,h⟩:=h
         refine ⟨hC,?_⟩
         refine yq 9 3 ?_
         refine yu h fun w h=>zn ?_
         obtain ⟨C64,hC,h⟩:=h
         refine ⟨C64,hC,?_⟩
         refine yq 10 3 ?_
         refine yu h fun w h=>zn ?_
         obtain ⟨C65,hC,h⟩:=h
         refine ⟨C65,hC,?_⟩
         refine yq 11 1 ?_
         refine yu h fun w h=>zn ?_
         obtain ⟨C66,hC,h⟩:=h
         refine ⟨C66,hC,?_⟩
         refine yz ?_
         exact zt hT h
       · have h:=h2
         refine yv h fun _ w h=>zn ?_
         obtain ⟨hC,h⟩:=h
         refine ⟨_,fun _ h=>h,hC,?_⟩
         obtain ⟨h0,h1,h2⟩:=h
         refine sim_dloud3 5 6 8 rfl rfl rfl (by kernel_rfl) (fun _ _=>rfl) (fun _ _=>rfl) (fun _ _=>rfl) ?_ ?_ ?_
         · have h:=h0
           refine yc h c44 fun _ w h=>zn ?_
           obtain ⟨hC,h⟩:=h
           refine ⟨_,fun _ h=>h,hC,?_⟩
           obtain ⟨h0,h1⟩:=h
           refine sim_dloud2 6 8 rfl rfl (by kernel_rfl) (fun _ _=>rfl) (fun _ _=>rfl) ?_ ?_
           · have h:=h0
             refine yv h fun _ w h=>zn ?_
             obtain ⟨hC,h⟩:=h
             refine ⟨_,fun _ h=>h,hC,?_⟩
             refine yo 8 ?_
             refine yv h fun _ w h=>zn ?_
             obtain ⟨hC,h⟩:=h
             refine ⟨hC,?_⟩
             refine yq 9 3 ?_
             refine yu h fun w h=>zn ?_
             obtain ⟨C67,hC,h⟩:=h
             refine ⟨C67,hC,?_⟩
             refine yq 10 3 ?_
             refine yu h fun w h=>zn ?_
             obtain ⟨C68,hC,h⟩:=h
             refine ⟨C68,hC,?_⟩
             refine yq 11 1 ?_
             refine yu h fun w h=>zn ?_
             obtain ⟨C69,hC,h⟩:=h
             refine ⟨C69,hC,?_⟩
             refine yz ?_
             exact zt hT h
           have h:=h1
           refine yv h fun _ w h=>zn ?_
           obtain ⟨hC,h⟩:=h
           refine ⟨_,fun _ h=>h,hC,?_⟩
           refine yo 6 ?_
           refine yv h fun _ w h=>zn ?_
           obtain ⟨hC,h⟩:=h
           refine ⟨hC,?_⟩
           refine yq 9 3 ?_
           refine yu h fun w h=>zn ?_
           obtain ⟨C70,hC,h⟩:=h
           refine ⟨C70,hC,?_⟩
           refine yq 10 3 ?_
           refine yu h fun w h=>zn ?_
           obtain ⟨C71,hC,h⟩:=h
           refine ⟨C71,hC,?_⟩
           refine yq 11 1 ?_
           refine yu h fun w h=>zn ?_
           obtain ⟨C72,hC,h⟩:=h
           refine ⟨C72,hC,?_⟩
           refine yz ?_
           exact zt hT h
         · have h:=h1
           refine yv h fun _ w h=>zn ?_
           obtain ⟨hC,h⟩:=h
           refine ⟨_,fun _ h=>h,hC,?_⟩
           obtain ⟨h0,h1⟩:=h
           refine sim_dloud2 5 8 rfl rfl (by kernel_rfl) (fun _ _=>rfl) (fun _ _=>rfl) ?_ ?_
           · have h:=h0
             refine yc h c44 fun _ w h=>zn ?_
             obtain ⟨hC,h⟩:=h
             refine ⟨_,fun _ h=>h,hC,?_⟩
             refine yo 8 ?_
             refine yv h fun _ w h=>zn ?_
             obtain ⟨hC,h⟩:=h
             refine ⟨hC,?_⟩
             refine yq 9 3 ?_
             refine yu h fun w h=>zn ?_
             obtain ⟨C73,hC,h⟩:=h
             refine ⟨C73,hC,?_⟩
             refine yq 10 3 ?_
             refine yu h fun w h=>zn ?_
             obtain ⟨C74,hC,h⟩:=h
             refine ⟨C74,hC,?_⟩
             refine yq 11 1 ?_
             refine yu h fun w h=>zn ?_
             obtain ⟨C75,hC,h⟩:=h
             refine ⟨C75,hC,?_⟩
             refine yz ?_
             exact zt hT h
           have h:=h1
           refine yv h fun _ w h=>zn ?_
           obtain ⟨hC,h⟩:=h
           refine ⟨_,fun _ h=>h,hC,?_⟩
           refine yo 5 ?_
           refine yc h c44 fun _ w h=>zn ?_
           obtain ⟨hC,h⟩:=h
           refine ⟨hC,?_⟩
           refine yq 9 3 ?_
           refine yu h fun w h=>zn ?_
           obtain ⟨C76,hC,h⟩:=h
           refine ⟨C76,hC,?_⟩
           refine yq 10 3 ?_
           refine yu h fun w h=>zn ?_
           obtain ⟨C77,hC,h⟩:=h
           refine ⟨C77,hC,?_⟩
           refine yq 11 1 ?_
           refine yu h fun w h=>zn ?_
           obtain ⟨C78,hC,h⟩:=h
           refine ⟨C78,hC,?_⟩
           refine yz ?_
           exact zt hT h
         have h:=h2
         refine yv h fun _ w h=>zn ?_
         obtain ⟨hC,h⟩:=h
         refine ⟨_,fun _ h=>h,hC,?_⟩
         obtain ⟨h0,h1⟩:=h
         refine sim_dloud2 5 6 rfl rfl (by kernel_rfl) (fun _ _=>rfl) (fun _ _=>rfl) ?_ ?_
         · have h:=h0
           refine yc h c44 fun _ w h=>zn ?_
           obtain ⟨hC,h⟩:=h
           refine ⟨_,fun _ h=>h,hC,?_⟩
           refine yo 6 ?_
           refine yv h fun _ w h=>zn ?_
           obtain ⟨hC,h⟩:=h
           refine ⟨hC,?_⟩
           refine yq 9 3 ?_
           refine yu h fun w h=>zn ?_
           obtain ⟨C79,hC,h⟩:=h
           refine ⟨C79,hC,?_⟩
           refine yq 10 3 ?_
           refine yu h fun w h=>zn ?_
           obtain ⟨C80,hC,h⟩:=h
           refine ⟨C80,hC,?_⟩
           refine yq 11 1 ?_
           refine yu h fun w h=>zn ?_
           obtain ⟨C81,hC,h⟩:=h
           refine ⟨C81,hC,?_⟩
           refine yz ?_
           exact zt hT h
         have h:=h1
         refine yv h fun _ w h=>zn ?_
         obtain ⟨hC,h⟩:=h
         refine ⟨_,fun _ h=>h,hC,?_⟩
         refine yo 5 ?_
         refine yc h c44 fun _ w h=>zn ?_
         obtain ⟨hC,h⟩:=h
         refine ⟨hC,?_⟩
         refine yq 9 3 ?_
         refine yu h fun w h=>zn ?_
         obtain ⟨C82,hC,h⟩:=h
         refine ⟨C82,hC,?_⟩
         refine yq 10 3 ?_
         refine yu h fun w h=>zn ?_
         obtain ⟨C83,hC,h⟩:=h
         refine ⟨C83,hC,?_⟩
         refine yq 11 1 ?_
         refine yu h fun w h=>zn ?_
         obtain ⟨C84,hC,h⟩:=h
         refine ⟨C84,hC,?_⟩
         refine yz ?_
         exact zt hT h
       have h:=h3
       refine yv h fun _ w h=>zn ?_
       obtain ⟨hC,h⟩:=h
       refine ⟨_,fun _ h=>h,hC,?_⟩
       obtain ⟨h0,h1,h2⟩:=h
       refine sim_dloud3 5 6 7 rfl rfl rfl (by kernel_rfl) (fun _ _=>rfl) (fun _ _=>rfl) (fun _ _=>rfl) ?_ ?_ ?_
       · have h:=h0
         refine yc h c44 fun _ w h=>zn ?_
         obtain ⟨hC,h⟩:=h
         refine ⟨_,fun _ h=>h,hC,?_⟩
         obtain ⟨h0,h1⟩:=h
         refine sim_dloud2 6 7 rfl rfl (by kernel_rfl) (fun _ _=>rfl) (fun _ _=>rfl) ?_ ?_
         · have h:=h0
           refine yv h fun _ w h=>zn ?_
           obtain ⟨hC,h⟩:=h
           refine ⟨_,fun _ h=>h,hC,?_⟩
           refine yo 7 ?_
           refine yv h fun _ w h=>zn ?_
           obtain ⟨hC,h⟩:=h
           refine ⟨hC,?_⟩
           refine yq 9 3 ?_
           refine yu h fun w h=>zn ?_
           obtain ⟨C85,hC,h⟩:=h
           refine ⟨C85,hC,?_⟩
           refine yq 10 3 ?_
           refine yu h fun w h=>zn ?_
           obtain ⟨C86,hC,h⟩:=h
           refine ⟨C86,hC,?_⟩
           refine yq 11 1 ?_
           refine yu h fun w h=>zn ?_
           obtain ⟨C87,hC,h⟩:=h
           refine ⟨C87,hC,?_⟩
           refine yz ?_
           exact zt hT h
         have h:=h1
         refine yv h fun _ w h=>zn ?_
         obtain ⟨hC,h⟩:=h
         refine ⟨_,fun _ h=>h,hC,?_⟩
         refine yo 6 ?_
         refine yv h fun _ w h=>zn ?_
         obtain ⟨hC,h⟩:=h
         refine ⟨hC,?_⟩
         refine yq 9 3 ?_
         refine yu h fun w h=>zn ?_
         obtain ⟨C88,hC,h⟩:=h
         refine ⟨C88,hC,?_⟩
         refine yq 10 3 ?_
         refine yu h fun w h=>zn ?_
         obtain ⟨C89,hC,h⟩:=h
         refine ⟨C89,hC,?_⟩
         refine yq 11 1 ?_
         refine yu h fun w h=>zn ?_
         obtain ⟨C90,hC,h⟩:=h
         refine ⟨C90,hC,?_⟩
         refine yz ?_
         exact zt hT h
       · have h:=h1
         refine yv h fun _ w h=>zn ?_
         obtain ⟨hC,h⟩:=h
         refine ⟨_,fun _ h=>h,hC,?_⟩
         obtain ⟨h0,h1⟩:=h
         refine sim_dloud2 5 7 rfl rfl (by kernel_rfl) (fun _ _=>rfl) (fun _ _=>rfl) ?_ ?_
         · have h:=h0
           refine yc h c44 fun _ w h=>zn ?_
           obtain ⟨hC,h⟩:=h
           refine ⟨_,fun _ h=>h,hC,?_⟩
           refine yo 7 ?_
           refine yv h fun _ w h=>zn ?_
           obtain ⟨hC,h⟩:=h
           refine ⟨hC,?_⟩
           refine yq 9 3 ?_
           refine yu h fun w h=>zn ?_
           obtain ⟨C91,hC,h⟩:=h
           refine ⟨C91,hC,?_⟩
           refine yq 10 3 ?_
           refine yu h fun w h=>zn ?_
           obtain ⟨C92,hC,h⟩:=h
           refine ⟨C92,hC,?_⟩
           refine yq 11 1 ?_
           refine yu h fun w h=>zn ?_
           obtain ⟨C93,hC,h⟩:=h
           refine ⟨C93,hC,?_⟩
           refine yz ?_
           exact zt hT h
         have h:=h1
         refine yv h fun _ w h=>zn ?_
         obtain ⟨hC,h⟩:=h
         refine ⟨_,fun _ h=>h,hC,?_⟩
         refine yo 5 ?_
         refine yc h c44 fun _ w h=>zn ?_
         obtain ⟨hC,h⟩:=h
         refine ⟨hC,?_⟩
         refine yq 9 3 ?_
         refine yu h fun w h=>zn ?_
         obtain ⟨C94,hC,h⟩:=h
         refine ⟨C94,hC,?_⟩
         refine yq 10 3 ?_
         refine yu h fun w h=>zn ?_
         obtain ⟨C95,hC,h⟩:=h
         refine ⟨C95,hC,?_⟩
         refine yq 11 1 ?_
         refine yu h fun w h=>zn ?_
         obtain ⟨C96,hC,h⟩:=h
         refine ⟨C96,hC,?_⟩
         refine yz ?_
         exact zt hT h
       have h:=h2
       refine yv h fun _ w h=>zn ?_
       obtain ⟨hC,h⟩:=h
       refine ⟨_,fun _ h=>h,hC,?_⟩
       obtain ⟨h0,h1⟩:=h
       refine sim_dloud2 5 6 rfl rfl (by kernel_rfl) (fun _ _=>rfl) (fun _ _=>rfl) ?_ ?_
       · have h:=h0
         refine yc h c44 fun _ w h=>zn ?_
         obtain ⟨hC,h⟩:=h
         refine ⟨_,fun _ h=>h,hC,?_⟩
         refine yo 6 ?_
         refine yv h fun _ w h=>zn ?_
         obtain ⟨hC,h⟩:=h
         refine ⟨hC,?_⟩
         refine yq 9 3 ?_
         refine yu h fun w h=>zn ?_
         obtain ⟨C97,hC,h⟩:=h
         refine ⟨C97,hC,?_⟩
         refine yq 10 3 ?_
         refine yu h fun w h=>zn ?_
         obtain ⟨C98,hC,h⟩:=h
         refine ⟨C98,hC,?_⟩
         refine yq 11 1 ?_
         refine yu h fun w h=>zn ?_
         obtain ⟨C99,hC,h⟩:=h
         refine ⟨C99,hC,?_⟩
         refine yz ?_
         exact zt hT h
       have h:=h1
       refine yv h fun _ w h=>zn ?_
       obtain ⟨hC,h⟩:=h
       refine ⟨_,fun _ h=>h,hC,?_⟩
       refine yo 5 ?_
       refine yc h c44 fun _ w h=>zn ?_
       obtain ⟨hC,h⟩:=h
       refine ⟨hC,?_⟩
       refine yq 9 3 ?_
       refine yu h fun w h=>zn ?_
       obtain ⟨C100,hC,h⟩:=h
       refine ⟨C100,hC,?_⟩
       refine yq 10 3 ?_
       refine yu h fun w h=>zn ?_
       obtain ⟨C101,hC,h⟩:=h
       refine ⟨C101,hC,?_⟩
       refine yq 11 1 ?_
       refine yu h fun w h=>zn ?_
       obtain ⟨C102,hC,h⟩:=h
       refine ⟨C102,hC,?_⟩
       refine yz ?_
       exact zt hT h
     · have h:=h1
       refine yv h fun _ w h=>zn ?_
       obtain ⟨hC,h⟩:=h
       refine ⟨_,fun _ h=>h,hC,?_⟩
       obtain ⟨h0,h1,h2⟩:=h
       refine sim_dloud3 3 7 8 rfl rfl rfl (by kernel_rfl) (fun _ _=>rfl) (fun _ _=>rfl) (fun _ _=>rfl) ?_ ?_ ?_
       · have h:=h0
         refine yc h c44 fun _ w h=>zn ?_
         obtain ⟨hC,h⟩:=h
         refine ⟨_,fun _ h=>h,hC,?_⟩
         obtain ⟨h0,h1,h2⟩:=h
         refine sim_dloud3 5 7 8 rfl rfl rfl (by kernel_rfl) (fun _ _=>rfl) (fun _ _=>rfl) (fun _ _=>rfl) ?_ ?_ ?_
         · have h:=h0
           refine yc h c44 fun _ w h=>zn ?_
           obtain ⟨hC,h⟩:=h
           refine ⟨_,fun _ h=>h,hC,?_⟩
           obtain ⟨h0,h1⟩:=h
           refine sim_dloud2 7 8 rfl rfl (by kernel_rfl) (fun _ _=>rfl) (fun _ _=>rfl) ?_ ?_
           · have h:=h0
             refine yv h fun _ w h=>zn ?_
             obtain ⟨hC,h⟩:=h
             refine ⟨_,fun _ h=>h,hC,?_⟩
             refine yo 8 ?_
             refine yv h fun _ w h=>zn ?_
             obtain ⟨hC,h⟩:=h
             refine ⟨hC,?_⟩
             refine yq 9 3 ?_
             refine yu h fun w h=>zn ?_
             obtain ⟨C103,hC,h⟩:=h
             refine ⟨C103,hC,?_⟩
             refine yq 10 3 ?_
             refine yu h fun w h=>zn ?_
             obtain ⟨C104,hC,h⟩:=h
             refine ⟨C104,hC,?_⟩
             refine yq 11 1 ?_
             refine yu h fun w h=>zn ?_
             obtain ⟨C105,hC,h⟩:=h
             refine ⟨C105,hC,?_⟩
             refine yz ?_
             exact zt hT h
           have h:=h1
           refine yv h fun _ w h=>zn ?_
           obtain ⟨hC,h⟩:=h
           refine ⟨_,fun _ h=>h,hC,?_⟩
           refine yo 7 ?_
           refine yv h fun _ w h=>zn ?_
           obtain ⟨hC,h⟩:=h
           refine ⟨hC,?_⟩
           refine yq 9 3 ?_
           refine yu h fun w h=>zn ?_
           obtain ⟨C106,hC,h⟩:=h
           refine ⟨C106,hC,?_⟩
           refine yq 10 3 ?_
           refine yu h fun w h=>zn ?_
           obtain ⟨C107,hC,h⟩:=h
           refine ⟨C107,hC,?_⟩
           refine yq 11 1 ?_
           refine yu h fun w h=>zn ?_
           obtain ⟨C108,hC,h⟩:=h
           refine ⟨C108,hC,?_⟩
           refine yz ?_
           exact zt hT h
         · have h:=h1
           refine yv h fun _ w h=>zn ?_
           obtain ⟨hC,h⟩:=h
           refine ⟨_,fun _ h=>h,hC,?_⟩
           obtain ⟨h0,h1⟩:=h
           refine sim_dloud2 5 8 rfl rfl (by kernel_rfl) (fun _ _=>rfl) (fun _ _=>rfl) ?_ ?_
           · have h:=h0
             refine yc h c44 fun _ w h=>zn ?_
             obtain ⟨hC,h⟩:=h
             refine ⟨_,fun _ h=>h,hC,?_⟩
             refine yo 8 ?_
             refine yv h fun _ w h=>zn ?_
             obtain ⟨hC,h⟩:=h
             refine ⟨hC,?_⟩
             refine yq 9 3 ?_
             refine yu h fun w h=>zn ?_
             obtain ⟨C109,hC,h⟩:=h
             refine ⟨C109,hC,?_⟩
             refine yq 10 3 ?_
             refine yu h fun w h=>zn ?_
             obtain ⟨C110,hC,h⟩:=h
             refine ⟨C110,hC,?_⟩
             refine yq 11 1 ?_
             refine yu h fun w h=>zn ?_
             obtain ⟨C111,hC,h⟩:=h
             refine ⟨C111,hC,?_⟩
             refine yz ?_
             exact zt hT h
           have h:=h1
           refine yv h fun _ w h=>zn ?_
           obtain ⟨hC,h⟩:=h
           refine ⟨_,fun _ h=>h,hC,?_⟩
           refine yo 5 ?_
           refine yc h c44 fun _ w h=>zn ?_
           obtain ⟨hC,h⟩:=h
           refine ⟨hC,?_⟩
           refine yq 9 3 ?_
           refine yu h fun w h=>zn ?_
           obtain ⟨C112,hC,h⟩:=h
           refine ⟨C112,hC,?_⟩
           refine yq 10 3 ?_
           refine yu h fun w h=>zn ?_
           obtain ⟨C113,hC,h⟩:=h
           refine ⟨C113,hC,?_⟩
           refine yq 11 1 ?_
           refine yu h fun w h=>zn ?_
           obtain ⟨C114,hC,h⟩:=h
           refine ⟨C114,hC,?_⟩
           refine yz ?_
           exact zt hT h
         have h:=h2
         refine yv h fun _ w h=>zn ?_
         obtain ⟨hC,h⟩:=h
         refine ⟨_,fun _ h=>h,hC,?_⟩
         obtain ⟨h0,h1⟩:=h
         refine sim_dloud2 5 7 rfl rfl (by kernel_rfl) (fun _ _=>rfl) (fun _ _=>rfl) ?_ ?_
         · have h:=h0
           refine yc h c44 fun _ w h=>zn ?_
           obtain ⟨hC,h⟩:=h
           refine ⟨_,fun _ h=>h,hC,?_⟩
           refine yo 7 ?_
           refine yv h fun _ w h=>zn ?_
           obtain ⟨hC,h⟩:=h
           refine ⟨hC,?_⟩
           refine yq 9 3 ?_
           refine yu h fun w h=>zn ?_
           obtain ⟨C115,hC,h⟩:=h
           refine ⟨C115,hC,?_⟩
           refine yq 10 3 ?_
           refine yu h fun w h=>zn ?_
           obtain ⟨C116,hC,h⟩:=h
           refine ⟨C116,hC,?_⟩
           refine yq 11 1 ?_
           refine yu h fun w h=>zn ?_
           obtain ⟨C117,hC,h⟩:=h
           refine ⟨C117,hC,?_⟩
           refine yz ?_
           exact zt hT h
         have h:=h1
         refine yv h fun _ w h=>zn ?_
         obtain ⟨hC,h⟩:=h
         refine ⟨_,fun _ h=>h,hC,?_⟩
         refine yo 5 ?_
         refine yc h c44 fun _ w h=>zn ?_
         obtain ⟨hC,h⟩:=h
         refine ⟨hC,?_⟩
         refine yq 9 3 ?_
         refine yu h fun w h=>zn ?_
         obtain ⟨C118,hC,h⟩:=h
         refine ⟨C118,hC,?_⟩
         refine yq 10 3 ?_
         refine yu h fun w h=>zn ?_
         obtain ⟨C119,hC,h⟩:=h
         refine ⟨C119,hC,?_⟩
         refine yq 11 1 ?_
         refine yu h fun w h=>zn ?_
         obtain ⟨C120,hC,h⟩:=h
         refine ⟨C120,hC,?_⟩
         refine yz ?_
         exact zt hT h
       · have h:=h1
         refine yv h fun _ w h=>zn ?_
         obtain ⟨hC,h⟩:=h
         refine ⟨_,fun _ h=>h,hC,?_⟩
         obtain ⟨h0,h1⟩:=h
         refine sim_dloud2 3 8 rfl rfl (by kernel_rfl) (fun _ _=>rfl) (fun _ _=>rfl) ?_ ?_
         · have h:=h0
           refine yc h c44 fun _ w h=>zn ?_
           obtain ⟨hC,h⟩:=h
           refine ⟨_,fun _ h=>h,hC,?_⟩
           obtain ⟨h0,h1⟩:=h
           refine sim_dloud2 5 8 rfl rfl (by kernel_rfl) (fun _ _=>rfl) (fun _ _=>rfl) ?_ ?_
           · have h:=h0
             refine yc h c44 fun _ w h=>zn ?_
             obtain ⟨hC,h⟩:=h
             refine ⟨_,fun _ h=>h,hC,?_⟩
             refine yo 8 ?_
             refine yv h fun _ w h=>zn ?_
             obtain ⟨hC,h⟩:=h
             refine ⟨hC,?_⟩
             refine yq 9 3 ?_
             refine yu h fun w h=>zn ?_
             obtain ⟨C121,hC,h⟩:=h
             refine ⟨C121,hC,?_⟩
             refine yq 10 3 ?_
             refine yu h fun w h=>zn ?_
             obtain ⟨C122,hC,h⟩:=h
             refine ⟨C122,hC,?_⟩
             refine yq 11 1 ?_
             refine yu h fun w h=>zn ?_
             obtain ⟨C123,hC,h⟩:=h
             refine ⟨C123,hC,?_⟩
             refine yz ?_
             exact zt hT h
           have h:=h1
           refine yv h fun _ w h=>zn ?_
           obtain ⟨hC,h⟩:=h
           refine ⟨_,fun _ h=>h,hC,?_⟩
           refine yo 5 ?_
           refine yc h c44 fun _ w h=>zn ?_
           obtain ⟨hC,h⟩:=h
           refine ⟨hC,?_⟩
           refine yq 9 3 ?_
           refine yu h fun w h=>zn ?_
           obtain ⟨C124,hC,h⟩:=h
           refine ⟨C124,hC,?_⟩
           refine yq 10 3 ?_
           refine yu h fun w h=>zn ?_
           obtain ⟨C125,hC,h⟩:=h
           refine ⟨C125,hC,?_⟩
           refine yq 11 1 ?_
           refine yu h fun w h=>zn ?_
           obtain ⟨C126,hC,h⟩:=h
           refine ⟨C126,hC,?_⟩
           refine yz ?_
           exact zt hT h
         have h:=h1
         refine yv h fun _ w h=>zn ?_
         obtain ⟨hC,h⟩:=h
         refine ⟨_,fun _ h=>h,hC,?_⟩
         refine yo 3 ?_
         refine yc h c44 fun _ w h=>zn ?_
         obtain ⟨hC,h⟩:=h
         refine ⟨hC,?_⟩
         refine yo 5 ?_
         refine yc h c44 fun _ w h=>zn ?_
         obtain ⟨hC,h⟩:=h
         refine ⟨hC,?_⟩
         refine yq 9 3 ?_
         refine yu h fun w h=>zn ?_
         obtain ⟨C127,hC,h⟩:=h
         refine ⟨C127,hC,?_⟩
         refine yq 10 3 ?_
         refine yu h fun w h=>zn ?_
         obtain ⟨C128,hC,h⟩:=h
         refine ⟨C128,hC,?_⟩
         refine yq 11 1 ?_
         refine yu h fun w h=>zn ?_
         obtain ⟨C129,hC,h⟩:=h
         refine ⟨C129,hC,?_⟩
         refine yz ?_
         exact zt hT h
       have h:=h2
       refine yv h fun _ w h=>zn ?_
       obtain ⟨hC,h⟩:=h
       refine ⟨_,fun _ h=>h,hC,?_⟩
       obtain ⟨h0,h1⟩:=h
       refine sim_dloud2 3 7 rfl rfl (by kernel_rfl) (fun _ _=>rfl) (fun _ _=>rfl) ?_ ?_
       · have h:=h0
         refine yc h c44 fun _ w h=>zn ?_
         obtain ⟨hC,h⟩:=h
         refine ⟨_,fun _ h=>h,hC,?_⟩
         obtain ⟨h0,h1⟩:=h
         refine sim_dloud2 5 7 rfl rfl (by kernel_rfl) (fun _ _=>rfl) (fun _ _=>rfl) ?_ ?_
         · have h:=h0
           refine yc h c44 fun _ w h=>zn ?_
           obtain ⟨hC,h⟩:=h
           refine ⟨_,fun _ h=>h,hC,?_⟩
           refine yo 7 ?_
           refine yv h fun _ w h=>zn ?_
           obtain ⟨hC,h⟩:=h
           refine ⟨hC,?_⟩
           refine yq 9 3 ?_
           refine yu h fun w h=>zn ?_
           obtain ⟨C130,hC,h⟩:=h
           refine ⟨C130,hC,?_⟩
           refine yq 10 3 ?_
           refine yu h fun w h=>zn ?_
           obtain ⟨C131,hC,h⟩:=h
           refine ⟨C131,hC,?_⟩
           refine yq 11 1 ?_
           refine yu h fun w h=>zn ?_
           obtain ⟨C132,hC,h⟩:=h
           refine ⟨C132,hC,?_⟩
           refine yz ?_
           exact zt hT h
         have h:=h1
         refine yv h fun _ w h=>zn ?_
         obtain ⟨hC,h⟩:=h
         refine ⟨_,fun _ h=>h,hC,?_⟩
         refine yo 5 ?_
         refine yc h c44 fun _ w h=>zn ?_
         obtain ⟨hC,h⟩:=h
         refine ⟨hC,?_⟩
         refine yq 9 3 ?_
         refine yu h fun w h=>zn ?_
         obtain ⟨C133,hC,h⟩:=h
         refine ⟨C133,hC,?_⟩
         refine yq 10 3 ?_
         refine yu h fun w h=>zn ?_
         obtain ⟨C134,hC,h⟩:=h
         refine ⟨C134,hC,?_⟩
         refine yq 11 1 ?_
         refine yu h fun w h=>zn ?_
         obtain ⟨C135,hC,h⟩:=h
         refine ⟨C135,hC,?_⟩
         refine yz ?_
         exact zt hT h
       have h:=h1
       refine yv h fun _ w h=>zn ?_
       obtain ⟨hC,h⟩:=h
       refine ⟨_,fun _ h=>h,hC,?_⟩
       refine yo 3 ?_
       refine yc h c44 fun _ w h=>zn ?_
       obtain ⟨hC,h⟩:=h
       refine ⟨hC,?_⟩
       refine yo 5 ?_
       refine yc h c44 fun _ w h=>zn ?_
       obtain ⟨hC,h⟩:=h
       refine ⟨hC,?_⟩
       refine yq 9 3 ?_
       refine yu h fun w h=>zn ?_
       obtain ⟨C136,hC,h⟩:=h
       refine ⟨C136,hC,?_⟩
       refine yq 10 3 ?_
       refine yu h fun w h=>zn ?_
       obtain ⟨C137,hC,h⟩:=h
       refine ⟨C137,hC,?_⟩
       refine yq 11 1 ?_
       refine yu h fun w h=>zn ?_
       obtain ⟨C138,hC,h⟩:=h
       refine ⟨C138,hC,?_⟩
       refine yz ?_
       exact zt hT h
     · have h:=h2
       refine yv h fun _ w h=>zn ?_
       obtain ⟨hC,h⟩:=h
       refine ⟨_,fun _ h=>h,hC,?_⟩
       obtain ⟨h0,h1,h2⟩:=h
       refine sim_dloud3 3 6 8 rfl rfl rfl (by kernel_rfl) (fun _ _=>rfl) (fun _ _=>rfl) (fun _ _=>rfl) ?_ ?_ ?_
       · have h:=h0
         refine yc h c44 fun _ w h=>zn ?_
         obtain ⟨hC,h⟩:=h
         refine ⟨_,fun _ h=>h,hC,?_⟩
         obtain ⟨h0,h1,h2⟩:=h
         refine sim_dloud3 5 6 8 rfl rfl rfl (by kernel_rfl) (fun _ _=>rfl) (fun _ _=>rfl) (fun _ _=>rfl) ?_ ?_ ?_
         · have h:=h0
           refine yc h c44 fun _ w h=>zn ?_
           obtain ⟨hC,h⟩:=h
           refine ⟨_,fun _ h=>h,hC,?_⟩
           obtain ⟨h0,h1⟩:=h
           refine sim_dloud2 6 8 rfl rfl (by kernel_rfl) (fun _ _=>rfl) (fun _ _=>rfl) ?_ ?_
           · have h:=h0
             refine yv h fun _ w h=>zn ?_
             obtain ⟨hC,h⟩:=h
             refine ⟨_,fun _ h=>h,hC,?_⟩
             refine yo 8 ?_
             refine yv h fun _ w h=>zn ?_
             obtain ⟨hC,h⟩:=h
             refine ⟨hC,?_⟩
             refine yq 9 3 ?_
             refine yu h fun w h=>zn ?_
             obtain ⟨C139,hC,h⟩:=h
             refine ⟨C139,hC,?_⟩
             refine yq 10 3 ?_
             refine yu h fun w h=>zn ?_
             obtain ⟨C140,hC,h⟩:=h
             refine ⟨C140,hC,?_⟩
             refine yq 11 1 ?_
             refine yu h fun w h=>zn ?_
             obtain ⟨C141,hC,h⟩:=h
             refine ⟨C141,hC,?_⟩
             refine yz ?_
             exact zt hT h
           have h:=h1
           refine yv h fun _ w h=>zn ?_
           obtain ⟨hC,h⟩:=h
           refine ⟨_,fun _ h=>h,hC,?_⟩
           refine yo 6 ?_
           refine yv h fun _ w h=>zn ?_
           obtain ⟨hC,h⟩:=h
           refine ⟨hC,?_⟩
           refine yq 9 3 ?_
           refine yu h fun w h=>zn ?_
           obtain ⟨C142,hC,h⟩:=h
           refine ⟨C142,hC,?_⟩
           refine yq 10 3 ?_
           refine yu h fun w h=>zn ?_
           obtain ⟨C143,hC,h⟩:=h
           refine ⟨C143,hC,?_⟩
           refine yq 11 1 ?_
           refine yu h fun w h=>zn ?_
           obtain ⟨C144,hC,h⟩:=h
           refine ⟨C144,hC,?_⟩
           refine yz ?_
           exact zt hT h
         · have h:=h1
           refine yv h fun _ w h=>zn ?_
           obtain ⟨hC,h⟩:=h
           refine ⟨_,fun _ h=>h,hC,?_⟩
           obtain ⟨h0,h1⟩:=h
           refine sim_dloud2 5 8 rfl rfl (by kernel_rfl) (fun _ _=>rfl) (fun _ _=>rfl) ?_ ?_
           · have h:=h0
             refine yc h c44 fun _ w h=>zn ?_
             obtain ⟨hC,h⟩:=h
             refine ⟨_,fun _ h=>h,hC,?_⟩
             refine yo 8 ?_
             refine yv h fun _ w h=>zn ?_
             obtain ⟨hC,h⟩:=h
             refine ⟨hC,?_⟩
             refine yq 9 3 ?_
             refine yu h fun w h=>zn ?_
             obtain ⟨C145,hC,h⟩:=h
             refine ⟨C145,hC,?_⟩
             refine yq 10 3 ?_
             refine yu h fun w h=>zn ?_
             obtain ⟨C146,hC,h⟩:=h
             refine ⟨C146,hC,?_⟩
             refine yq 11 1 ?_
             refine yu h fun w h=>zn ?_
             obtain ⟨C147,hC,h⟩:=h
             refine ⟨C147,hC,?_⟩
             refine yz ?_
             exact zt hT h
           have h:=h1
           refine yv h fun _ w h=>zn ?_
           obtain ⟨hC,h⟩:=h
           refine ⟨_,fun _ h=>h,hC,?_⟩
           refine yo 5 ?_
           refine yc h c44 fun _ w h=>zn ?_
           obtain ⟨hC,h⟩:=h
           refine ⟨hC,?_⟩
           refine yq 9 3 ?_
           refine yu h fun w h=>zn ?_
           obtain ⟨C148,hC,h⟩:=h
           refine ⟨C148,hC,?_⟩
           refine yq 10 3 ?_
           refine yu h fun w h=>zn ?_
           obtain ⟨C149,hC,h⟩:=h
           refine ⟨C149,hC,?_⟩
           refine yq 11 1 ?_
           refine yu h fun w h=>zn ?_
           obtain ⟨C150,hC,h⟩:=h
           refine ⟨C150,hC,?_⟩
           refine yz ?_
           exact zt hT h
         have h:=h2
         refine yv h fun _ w h=>zn ?_
         obtain ⟨hC,h⟩:=h
         refine ⟨_,fun _ h=>h,hC,?_⟩
         obtain ⟨h0,h1⟩:=h
         refine sim_dloud2 5 6 rfl rfl (by kernel_rfl) (fun _ _=>rfl) (fun _ _=>rfl) ?_ ?_
         · have h:=h0
           refine yc h c44 fun _ w h=>zn ?_
           obtain ⟨hC,h⟩:=h
           refine ⟨_,fun _ h=>h,hC,?_⟩
           refine yo 6 ?_
           refine yv h fun _ w h=>zn ?_
           obtain ⟨hC,h⟩:=h
           refine ⟨hC,?_⟩
           refine yq 9 3 ?_
           refine yu h fun w h=>zn ?_
           obtain ⟨C151,hC,h⟩:=h
           refine ⟨C151,hC,?_⟩
           refine yq 10 3 ?_
           refine yu h fun w h=>zn ?_
           obtain ⟨C152,hC,h⟩:=h
           refine ⟨C152,hC,?_⟩
           refine yq 11 1 ?_
           refine yu h fun w h=>zn ?_
           obtain ⟨C153,hC,h⟩:=h
           refine ⟨C153,hC,?_⟩
           refine yz ?_
           exact zt hT h
         have h:=h1
         refine yv h fun _ w h=>zn ?_
         obtain ⟨hC,h⟩:=h
         refine ⟨_,fun _ h=>h,hC,?_⟩
         refine yo 5 ?_
         refine yc h c44 fun _ w h=>zn ?_
         obtain ⟨hC,h⟩:=h
         refine ⟨hC,?_⟩
         refine yq 9 3 ?_
         refine yu h fun w h=>zn ?_
         obtain ⟨C154,hC,h⟩:=h
         refine ⟨C154,hC,?_⟩
         refine yq 10 3 ?_
         refine yu h fun w h=>zn ?_
         obtain ⟨C155,hC,h⟩:=h
         refine ⟨C155,hC,?_⟩
         refine yq 11 1 ?_
         refine yu h fun w h=>zn ?_
         obtain ⟨C156,hC,h⟩:=h
         refine ⟨C156,hC,?_⟩
         refine yz ?_
         exact zt hT h
       · have h:=h1
         refine yv h fun _ w h=>zn ?_
         obtain ⟨hC,h⟩:=h
         refine ⟨_,fun _ h=>h,hC,?_⟩
         obtain ⟨h0,h1⟩:=h
         refine sim_dloud2 3 8 rfl rfl (by kernel_rfl) (fun _ _=>rfl) (fun _ _=>rfl) ?_ ?_
         · have h:=h0
           refine yc h c44 fun _ w h=>zn ?_
           obtain ⟨hC,h⟩:=h
           refine ⟨_,fun _ h=>h,hC,?_⟩
           obtain ⟨h0,h1⟩:=h
           refine sim_dloud2 5 8 rfl rfl (by kernel_rfl) (fun _ _=>rfl) (fun _ _=>rfl) ?_ ?_
           · have h:=h0
             refine yc h c44 fun _ w h=>zn ?_
             obtain ⟨hC,h⟩:=h
             refine ⟨_,fun _ h=>h,hC,?_⟩
             refine yo 8 ?_
             refine yv h fun _ w h=>zn ?_
             obtain ⟨hC,h⟩:=h
             refine ⟨hC,?_⟩
             refine yq 9 3 ?_
             refine yu h fun w h=>zn ?_
             obtain ⟨C157,hC,h⟩:=h
             refine ⟨C157,hC,?_⟩
             refine yq 10 3 ?_
             refine yu h fun w h=>zn ?_
             obtain ⟨C158,hC,h⟩:=h
             refine ⟨C158,hC,?_⟩
             refine yq 11 1 ?_
             refine yu h fun w h=>zn ?_
             obtain ⟨C159,hC,h⟩:=h
             refine ⟨C159,hC,?_⟩
             refine yz ?_
             exact zt hT h
           have h:=h1
           refine yv h fun _ w h=>zn ?_
           obtain ⟨hC,h⟩:=h
           refine ⟨_,fun _ h=>h,hC,?_⟩
           refine yo 5 ?_
           refine yc h c44 fun _ w h=>zn ?_
           obtain ⟨hC,h⟩:=h
           refine ⟨hC,?_⟩
           refine yq 9 3 ?_
           refine yu h fun w h=>zn ?_
           obtain ⟨C160,hC,h⟩:=h
           refine ⟨C160,hC,?_⟩
           refine yq 10 3 ?_
           refine yu h fun w h=>zn ?_
           obtain ⟨C161,hC,h⟩:=h
           refine ⟨C161,hC,?_⟩
           refine yq 11 1 ?_
           refine yu h fun w h=>zn ?_
           obtain ⟨C162,hC,h⟩:=h
           refine ⟨C162,hC,?_⟩
           refine yz ?_
           exact zt hT h
         have h:=h1
         refine yv h fun _ w h=>zn ?_
         obtain ⟨hC,h⟩:=h
         refine ⟨_,fun _ h=>h,hC,?_⟩
         refine yo 3 ?_
         refine yc h c44 fun _ w h=>zn ?_
         obtain ⟨hC,h⟩:=h
         refine ⟨hC,?_⟩
         refine yo 5 ?_
         refine yc h c44 fun _ w h=>zn ?_
         obtain ⟨hC,h⟩:=h
         refine ⟨hC,?_⟩
         refine yq 9 3 ?_
         refine yu h fun w h=>zn ?_
         obtain ⟨C163,hC,h⟩:=h
         refine ⟨C163,hC,?_⟩
         refine yq 10 3 ?_
         refine yu h fun w h=>zn ?_
         obtain ⟨C164,hC,h⟩:=h
         refine ⟨C164,hC,?_⟩
         refine yq 11 1 ?_
         refine yu h fun w h=>zn ?_
         obtain ⟨C165,hC,h⟩:=h
         refine ⟨C165,hC,?_⟩
         refine yz ?_
         exact zt hT h
       have h:=h2
       refine yv h fun _ w h=>zn ?_
       obtain ⟨hC,h⟩:=h
       refine ⟨_,fun _ h=>h,hC,?_⟩
       obtain ⟨h0,h1⟩:=h
       refine sim_dloud2 3 6 rfl rfl (by kernel_rfl) (fun _ _=>rfl) (fun _ _=>rfl) ?_ ?_
       · have h:=h0
         refine yc h c44 fun _ w h=>zn ?_
         obtain ⟨hC,h⟩:=h
         refine ⟨_,fun _ h=>h,hC,?_⟩
         obtain ⟨h0,h1⟩:=h
         refine sim_dloud2 5 6 rfl rfl (by kernel_rfl) (fun _ _=>rfl) (fun _ _=>rfl) ?_ ?_
         · have h:=h0
           refine yc h c44 fun _ w h=>zn ?_
           obtain ⟨hC,h⟩:=h
           refine ⟨_,fun _ h=>h,hC,?_⟩
           refine yo 6 ?_
           refine yv h fun _ w h=>zn ?_
           obtain ⟨hC,h⟩:=h
           refine ⟨hC,?_⟩
           refine yq 9 3 ?_
           refine yu h fun w h=>zn ?_
           obtain ⟨C166,hC,h⟩:=h
           refine ⟨C166,hC,?_⟩
           refine yq 10 3 ?_
           refine yu h fun w h=>zn ?_
           obtain ⟨C167,hC,h⟩:=h
           refine ⟨C167,hC,?_⟩
           refine yq 11 1 ?_
           refine yu h fun w h=>zn ?_
           obtain ⟨C168,hC,h⟩:=h
           refine ⟨C168,hC,?_⟩
           refine yz ?_
           exact zt hT h
         have h:=h1
         refine yv h fun _ w h=>zn ?_
         obtain ⟨hC,h⟩:=h
         refine ⟨_,fun _ h=>h,hC,?_⟩
         refine yo 5 ?_
         refine yc h c44 fun _ w h=>zn ?_
         obtain ⟨hC,h⟩:=h
         refine ⟨hC,?_⟩
         refine yq 9 3 ?_
         refine yu h fun w h=>zn ?_
         obtain ⟨C169,hC,h⟩:=h
         refine ⟨C169,hC,?_⟩
         refine yq 10 3 ?_
         refine yu h fun w h=>zn ?_
         obtain ⟨C170,hC,h⟩:=h
         refine ⟨C170,hC,?_⟩
         refine yq 11 1 ?_
         refine yu h fun w h=>zn ?_
         obtain ⟨C171,hC,h⟩:=h
         refine ⟨C171,hC,?_⟩
         refine yz ?_
         exact zt hT h
       have h:=h1
       refine yv h fun _ w h=>zn ?_
       obtain ⟨hC,h⟩:=h
       refine ⟨_,fun _ h=>h,hC,?_⟩
       refine yo 3 ?_
       refine yc h c44 fun _ w h=>zn ?_
       obtain ⟨hC,h⟩:=h
       refine ⟨hC,?_⟩
       refine yo 5 ?_
       refine yc h c44 fun _ w h=>zn ?_
       obtain ⟨hC,h⟩:=h
       refine ⟨hC,?_⟩
       refine yq 9 3 ?_
       refine yu h fun w h=>zn ?_
       obtain ⟨C172,hC,h⟩:=h
       refine ⟨C172,hC,?_⟩
       refine yq 10 3 ?_
       refine yu h fun w h=>zn ?_
       obtain ⟨C173,hC,h⟩:=h
       refine ⟨C173,hC,?_⟩
       refine yq 11 1 ?_
       refine yu h fun w h=>zn ?_
       obtain ⟨C174,hC,h⟩:=h
       refine ⟨C174,hC,?_⟩
       refine yz ?_
       exact zt hT h
     have h:=h3
     refine yv h fun _ w h=>zn ?_
     obtain ⟨hC,h⟩:=h
     refine ⟨_,fun _ h=>h,hC,?_⟩
     obtain ⟨h0,h1,h2⟩:=h
     refine sim_dloud3 3 6 7 rfl rfl rfl (by kernel_rfl) (fun _ _=>rfl) (fun _ _=>rfl) (fun _ _=>rfl) ?_ ?_ ?_
     · have h:=h0
       refine yc h c44 fun _ w h=>zn ?_
       obtain ⟨hC,h⟩:=h
       refine ⟨_,fun _ h=>h,hC,?_⟩
       obtain ⟨h0,h1,h2⟩:=h
       refine sim_dloud3 5 6 7 rfl rfl rfl (by kernel_rfl) (fun _ _=>rfl) (fun _ _=>rfl) (fun _ _=>rfl) ?_ ?_ ?_
       · have h:=h0
         refine yc h c44 fun _ w h=>zn ?_
         obtain ⟨hC,h⟩:=h
         refine ⟨_,fun _ h=>h,hC,?_⟩
         obtain ⟨h0,h1⟩:=h
         refine sim_dloud2 6 7 rfl rfl (by kernel_rfl) (fun _ _=>rfl) (fun _ _=>rfl) ?_ ?_
         · have h:=h0
           refine yv h fun _ w h=>zn ?_
           obtain ⟨hC,h⟩:=h
           refine ⟨_,fun _ h=>h,hC,?_⟩
           refine yo 7 ?_
           refine yv h fun _ w h=>zn ?_
           obtain ⟨hC,h⟩:=h
           refine ⟨hC,?_⟩
           refine yq 9 3 ?_
           refine yu h fun w h=>zn ?_
           obtain ⟨C175,hC,h⟩:=h
           refine ⟨C175,hC,?_⟩
           refine yq 10 3 ?_
           refine yu h fun w h=>zn ?_
           obtain ⟨C176,hC,h⟩:=h
           refine ⟨C176,hC,?_⟩
           refine yq 11 1 ?_
           refine yu h fun w h=>zn ?_
           obtain ⟨C177,hC,h⟩:=h
           refine ⟨C177,hC,?_⟩
           refine yz ?_
           exact zt hT h
         have h:=h1
         refine yv h fun _ w h=>zn ?_
         obtain ⟨hC,h⟩:=h
         refine ⟨_,fun _ h=>h,hC,?_⟩
         refine yo 6 ?_
         refine yv h fun _ w h=>zn ?_
         obtain ⟨hC,h⟩:=h
         refine ⟨hC,?_⟩
         refine yq 9 3 ?_
         refine yu h fun w h=>zn ?_
         obtain ⟨C178,hC,h⟩:=h
         refine ⟨C178,hC,?_⟩
         refine yq 10 3 ?_
         refine yu h fun w h=>zn ?_
         obtain ⟨C179,hC,h⟩:=h
         refine ⟨C179,hC,?_⟩
         refine yq 11 1 ?_
         refine yu h fun w h=>zn ?_
         obtain ⟨C180,hC,h⟩:=h
         refine ⟨C180,hC,?_⟩
         refine yz ?_
         exact zt hT h
       · have h:=h1
         refine yv h fun _ w h=>zn ?_
         obtain ⟨hC,h⟩:=h
         refine ⟨_,fun _ h=>h,hC,?_⟩
         obtain ⟨h0,h1⟩:=h
         refine sim_dloud2 5 7 rfl rfl (by kernel_rfl) (fun _ _=>rfl) (fun _ _=>rfl) ?_ ?_
         · have h:=h0
           refine yc h c44 fun _ w h=>zn ?_
           obtain ⟨hC,h⟩:=h
           refine ⟨_,fun _ h=>h,hC,?_⟩
           refine yo 7 ?_
           refine yv h fun _ w h=>zn ?_
           obtain ⟨hC,h⟩:=h
           refine ⟨hC,?_⟩
           refine yq 9 3 ?_
           refine yu h fun w h=>zn ?_
           obtain ⟨C181,hC,h⟩:=h
           refine ⟨C181,hC,?_⟩
           refine yq 10 3 ?_
           refine yu h fun w h=>zn ?_
           obtain ⟨C182,hC,h⟩:=h
           refine ⟨C182,hC,?_⟩
           refine yq 11 1 ?_
           refine yu h fun w h=>zn ?_
           obtain ⟨C183,hC,h⟩:=h
           refine ⟨C183,hC,?_⟩
           refine yz ?_
           exact zt hT h
         have h:=h1
         refine yv h fun _ w h=>zn ?_
         obtain ⟨hC,h⟩:=h
         refine ⟨_,fun _ h=>h,hC,?_⟩
         refine yo 5 ?_
         refine yc h c44 fun _ w h=>zn ?_
         obtain ⟨hC,h⟩:=h
         refine ⟨hC,?_⟩
         refine yq 9 3 ?_
         refine yu h fun w h=>zn ?_
         obtain ⟨C184,hC,h⟩:=h
         refine ⟨C184,hC,?_⟩
         refine yq 10 3 ?_
         refine yu h fun w h=>zn ?_
         obtain ⟨C185,hC,h⟩:=h
         refine ⟨C185,hC,?_⟩
         refine yq 11 1 ?_
         refine yu h fun w h=>zn ?_
         obtain ⟨C186,hC,h⟩:=h
         refine ⟨C186,hC,?_⟩
         refine yz ?_
         exact zt hT h
       have h:=h2
       refine yv h fun _ w h=>zn ?_
       obtain ⟨hC,h⟩:=h
       refine ⟨_,fun _ h=>h,hC,?_⟩
       obtain ⟨h0,h1⟩:=h
       refine sim_dloud2 5 6 rfl rfl (by kernel_rfl) (fun _ _=>rfl) (fun _ _=>rfl) ?_ ?_
       · have h:=h0
         refine yc h c44 fun _ w h=>zn ?_
         obtain ⟨hC,h⟩:=h
         refine ⟨_,fun _ h=>h,hC,?_⟩
         refine yo 6 ?_
         refine yv h fun _ w h=>zn ?_
         obtain ⟨hC,h⟩:=h
         refine ⟨hC,?_⟩
         refine yq 9 3 ?_
         refine yu h fun w h=>zn ?_
         obtain ⟨C187,hC,h⟩:=h
         refine ⟨C187,hC,?_⟩
         refine yq 10 3 ?_
         refine yu h fun w h=>zn ?_
         obtain ⟨C188,hC,h⟩:=h
         refine ⟨C188,hC,?_⟩
         refine yq 11 1 ?_
         refine yu h fun w h=>zn ?_
         obtain ⟨C189,hC,h⟩:=h
         refine ⟨C189,hC,?_⟩
         refine yz ?_
         exact zt hT h
       have h:=h1
       refine yv h fun _ w h=>zn ?_
       obtain ⟨hC,h⟩:=h
       refine ⟨_,fun _ h=>h,hC,?_⟩
       refine yo 5 ?_
       refine yc h c44 fun _ w h=>zn ?_
       obtain ⟨hC,h⟩:=h
       refine ⟨hC,?_⟩
       refine yq 9 3 ?_
       refine yu h fun w h=>zn ?_
       obtain ⟨C190,hC,h⟩:=h
       refine ⟨C190,hC,?_⟩
       refine yq 10 3 ?_
       refine yu h fun w h=>zn ?_
       obtain ⟨C191,hC,h⟩:=h
       refine ⟨C191,hC,?_⟩
       refine yq 11 1 ?_
       refine yu h fun w h=>zn ?_
       obtain ⟨C192,hC,h⟩:=h
       refine ⟨C192,hC,?_⟩
       refine yz ?_
       exact zt hT h
     · have h:=h1
       refine yv h fun _ w h=>zn ?_
       obtain ⟨hC,h⟩:=h
       refine ⟨_,fun _ h=>h,hC,?_⟩
       obtain ⟨h0,h1⟩:=h
       refine sim_dloud2 3 7 rfl rfl (by kernel_rfl) (fun _ _=>rfl) (fun _ _=>rfl) ?_ ?_
       · have h:=h0
         refine yc h c44 fun _ w h=>zn ?_
         obtain ⟨hC,h⟩:=h
         refine ⟨_,fun _ h=>h,hC,?_⟩
         obtain ⟨h0,h1⟩:=h
         refine sim_dloud2 5 7 rfl rfl (by kernel_rfl) (fun _ _=>rfl) (fun _ _=>rfl) ?_ ?_
         · have h:=h0
           refine yc h c44 fun _ w h=>zn ?_
           obtain ⟨hC,h⟩:=h
           refine ⟨_,fun _ h=>h,hC,?_⟩
           refine yo 7 ?_
           refine yv h fun _ w h=>zn ?_
           obtain ⟨hC,h⟩:=h
           refine ⟨hC,?_⟩
           refine yq 9 3 ?_
           refine yu h fun w h=>zn ?_
           obtain ⟨C193,hC,h⟩:=h
           refine ⟨C193,hC,?_⟩
           refine yq 10 3 ?_
           refine yu h fun w h=>zn ?_
           obtain ⟨C194,hC,h⟩:=h
           refine ⟨C194,hC,?_⟩
           refine yq 11 1 ?_
           refine yu h fun w h=>zn ?_
           obtain ⟨C195,hC,h⟩:=h
           refine ⟨C195,hC,?_⟩
           refine yz ?_
           exact zt hT h
         have h:=h1
         refine yv h fun _ w h=>zn ?_
         obtain ⟨hC,h⟩:=h
         refine ⟨_,fun _ h=>h,hC,?_⟩
         refine yo 5 ?_
         refine yc h c44 fun _ w h=>zn ?_
         obtain ⟨hC,h⟩:=h
         refine ⟨hC,?_⟩
         refine yq 9 3 ?_
         refine yu h fun w h=>zn ?_
         obtain ⟨C196,hC,h⟩:=h
         refine ⟨C196,hC,?_⟩
         refine yq 10 3 ?_
         refine yu h fun w h=>zn ?_
         obtain ⟨C197,hC,h⟩:=h
         refine ⟨C197,hC,?_⟩
         refine yq 11 1 ?_
         refine yu h fun w h=>zn ?_
         obtain ⟨C198,hC,h⟩:=h
         refine ⟨C198,hC,?_⟩
         refine yz ?_
         exact zt hT h
       have h:=h1
       refine yv h fun _ w h=>zn ?_
       obtain ⟨hC,h⟩:=h
       refine ⟨_,fun _ h=>h,hC,?_⟩
       refine yo 3 ?_
       refine yc h c44 fun _ w h=>zn ?_
       obtain ⟨hC,h⟩:=h
       refine ⟨hC,?_⟩
       refine yo 5 ?_
       refine yc h c44 fun _ w h=>zn ?_
       obtain ⟨hC,h⟩:=h
       refine ⟨hC,?_⟩
       refine yq 9 3 ?_
       refine yu h fun w h=>zn ?_
       obtain ⟨C199,hC,h⟩:=h
       refine ⟨C199,hC,?_⟩
       refine yq 10 3 ?_
       refine yu h fun w h=>zn ?_
       obtain ⟨C200,hC,h⟩:=h
       refine ⟨C200,hC,?_⟩
       refine yq 11 1 ?_
       refine yu h fun w h=>zn ?_
       obtain ⟨C201,hC,h⟩:=h
       refine ⟨C201,hC,?_⟩
       refine yz ?_
       exact zt hT h
     have h:=h2
     refine yv h fun _ w h=>zn ?_
     obtain ⟨hC,h⟩:=h
     refine ⟨_,fun _ h=>h,hC,?_⟩
     obtain ⟨h0,h1⟩:=h
     refine sim_dloud2 3 6 rfl rfl (by kernel_rfl) (fun _ _=>rfl) (fun _ _=>rfl) ?_ ?_
     · have h:=h0
       refine yc h c44 fun _ w h=>zn ?_
       obtain ⟨hC,h⟩:=h
       refine ⟨_,fun _ h=>h,hC,?_⟩
       obtain ⟨h0,h1⟩:=h
       refine sim_dloud2 5 6 rfl rfl (by kernel_rfl) (fun _ _=>rfl) (fun _ _=>rfl) ?_ ?_
       · have h:=h0
         refine yc h c44 fun _ w h=>zn ?_
         obtain ⟨hC,h⟩:=h
         refine ⟨_,fun _ h=>h,hC,?_⟩
         refine yo 6 ?_
         refine yv h fun _ w h=>zn ?_
         obtain ⟨hC,h⟩:=h
         refine ⟨hC,?_⟩
         refine yq 9 3 ?_
         refine yu h fun w h=>zn ?_
         obtain ⟨C202,hC,h⟩:=h
         refine ⟨C202,hC,?_⟩
         refine yq 10 3 ?_
         refine yu h fun w h=>zn ?_
         obtain ⟨C203,hC,h⟩:=h
         refine ⟨C203,hC,?_⟩
         refine yq 11 1 ?_
         refine yu h fun w h=>zn ?_
         obtain ⟨C204,hC,h⟩:=h
         refine ⟨C204,hC,?_⟩
         refine yz ?_
         exact zt hT h
       have h:=h1
       refine yv h fun _ w h=>zn ?_
       obtain ⟨hC,h⟩:=h
       refine ⟨_,fun _ h=>h,hC,?_⟩
       refine yo 5 ?_
       refine yc h c44 fun _ w h=>zn ?_
       obtain ⟨hC,h⟩:=h
       refine ⟨hC,?_⟩
       refine yq 9 3 ?_
       refine yu h fun w h=>zn ?_
       obtain ⟨C205,hC,h⟩:=h
       refine ⟨C205,hC,?_⟩
       refine yq 10 3 ?_
       refine yu h fun w h=>zn ?_
       obtain ⟨C206,hC,h⟩:=h
       refine ⟨C206,hC,?_⟩
       refine yq 11 1 ?_
       refine yu h fun w h=>zn ?_
       obtain ⟨C207,hC,h⟩:=h
       refine ⟨C207,hC,?_⟩
       refine yz ?_
       exact zt hT h
     have h:=h1
     refine yv h fun _ w h=>zn ?_
     obtain ⟨hC,h⟩:=h
     refine ⟨_,fun _ h=>h,hC,?_⟩
     refine yo 3 ?_
     refine yc h c44 fun _ w h=>zn ?_
     obtain ⟨hC,h⟩:=h
     refine ⟨hC,?_⟩
     refine yo 5 ?_
     refine yc h c44 fun _ w h=>zn ?_
     obtain ⟨hC,h⟩:=h
     refine ⟨hC,?_⟩
     refine yq 9 3 ?_
     refine yu h fun w h=>zn ?_
     obtain ⟨C208,hC,h⟩:=h
     refine ⟨C208,hC,?_⟩
     refine yq 10 3 ?_
     refine yu h fun w h=>zn ?_
     obtain ⟨C209,hC,h⟩:=h
     refine ⟨C209,hC,?_⟩
     refine yq 11 1 ?_
     refine yu h fun w h=>zn ?_
     obtain ⟨C210,hC,h⟩:=h
     refine ⟨C210,hC,?_⟩
     refine yz ?_
     exact zt hT h
   · have h:=h1
     refine yv h fun _ w h=>zn ?_
     obtain ⟨hC,h⟩:=h
     refine ⟨_,fun _ h=>h,hC,?_⟩
     obtain ⟨h0,h1,h2⟩:=h
     refine sim_dloud3 1 7 8 rfl rfl rfl (by kernel_rfl) (fun _ _=>rfl) (fun _ _=>rfl) (fun _ _=>rfl) ?_ ?_ ?_
     · have h:=h0
       refine yc h c44 fun _ w h=>zn ?_
       obtain ⟨hC,h⟩:=h
       refine ⟨_,fun _ h=>h,hC,?_⟩
       obtain ⟨h0,h1,h2⟩:=h
       refine sim_dloud3 3 7 8 rfl rfl rfl (by kernel_rfl) (fun _ _=>rfl) (fun _ _=>rfl) (fun _ _=>rfl) ?_ ?_ ?_
       · have h:=h0
         refine yc h c44 fun _ w h=>zn ?_
         obtain ⟨hC,h⟩:=h
         refine ⟨_,fun _ h=>h,hC,?_⟩
         obtain ⟨h0,h1,h2⟩:=h
         refine sim_dloud3 5 7 8 rfl rfl rfl (by kernel_rfl) (fun _ _=>rfl) (fun _ _=>rfl) (fun _ _=>rfl) ?_ ?_ ?_
         · have h:=h0
           refine yc h c44 fun _ w h=>zn ?_
           obtain ⟨hC,h⟩:=h
           refine ⟨_,fun _ h=>h,hC,?_⟩
           obtain ⟨h0,h1⟩:=h
           refine sim_dloud2 7 8 rfl rfl (by kernel_rfl) (fun _ _=>rfl) (fun _ _=>rfl) ?_ ?_
           · have h:=h0
             refine yv h fun _ w h=>zn ?_
             obtain ⟨hC,h⟩:=h
             refine ⟨_,fun _ h=>h,hC,?_⟩
             refine yo 8 ?_
             refine yv h fun _ w h=>zn ?_
             obtain ⟨hC,h⟩:=h
             refine ⟨hC,?_⟩
             refine yq 9 3 ?_
             refine yu h fun w h=>zn ?_
             obtain ⟨C211,hC,h⟩:=h
             refine ⟨C211,hC,?_⟩
             refine yq 10 3 ?_
             refine yu h fun w h=>zn ?_
             obtain ⟨C212,hC,h⟩:=h
             refine ⟨C212,hC,?_⟩
             refine yq 11 1 ?_
             refine yu h fun w h=>zn ?_
             obtain ⟨C213,hC,h⟩:=h
             refine ⟨C213,hC,?_⟩
             refine yz ?_
             exact zt hT h
           have h:=h1
           refine yv h fun _ w h=>zn ?_
           obtain ⟨hC,h⟩:=h
           refine ⟨_,fun _ h=>h,hC,?_⟩
           refine yo 7 ?_
           refine yv h fun _ w h=>zn ?_
           obtain ⟨hC,h⟩:=h
           refine ⟨hC,?_⟩
           refine yq 9 3 ?_
           refine yu h fun w h=>zn ?_
           obtain ⟨C214,hC,h⟩:=h
           refine ⟨C214,hC,?_⟩
           refine yq 10 3 ?_
           refine yu h fun w h=>zn ?_
           obtain ⟨C215,hC,h⟩:=h
           refine ⟨C215,hC,?_⟩
           refine yq 11 1 ?_
           refine yu h fun w h=>zn ?_
           obtain ⟨C216,hC,h⟩:=h
           refine ⟨C216,hC,?_⟩
           refine yz ?_
           exact zt hT h
         · have h:=h1
           refine yv h fun _ w h=>zn ?_
           obtain ⟨hC,h⟩:=h
           refine ⟨_,fun _ h=>h,hC,?_⟩
           obtain ⟨h0,h1⟩:=h
           refine sim_dloud2 5 8 rfl rfl (by kernel_rfl) (fun _ _=>rfl) (fun _ _=>rfl) ?_ ?_
           · have h:=h0
             refine yc h c44 fun _ w h=>zn ?_
             obtain ⟨hC,h⟩:=h
             refine ⟨_,fun _ h=>h,hC,?_⟩
             refine yo 8 ?_
             refine yv h fun _ w h=>zn ?_
             obtain ⟨hC,h⟩:=h
             refine ⟨hC,?_⟩
             refine yq 9 3 ?_
             refine yu h fun w h=>zn ?_
             obtain ⟨C217,hC,h⟩:=h
             refine ⟨C217,hC,?_⟩
             refine yq 10 3 ?_
             refine yu h fun w h=>zn ?_
             obtain ⟨C218,hC,h⟩:=h
             refine ⟨C218,hC,?_⟩
             refine yq 11 1 ?_
             refine yu h fun w h=>zn ?_
             obtain ⟨C219,hC,h⟩:=h
             refine ⟨C219,hC,?_⟩
             refine yz ?_
             exact zt hT h
           have h:=h1
           refine yv h fun _ w h=>zn ?_
           obtain ⟨hC,h⟩:=h
           refine ⟨_,fun _ h=>h,hC,?_⟩
           refine yo 5 ?_
           refine yc h c44 fun _ w h=>zn ?_
           obtain ⟨hC,h⟩:=h
           refine ⟨hC,?_⟩
           refine yq 9 3 ?_
           refine yu h fun w h=>zn ?_
           obtain ⟨C220,hC,h⟩:=h
           refine ⟨C220,hC,?_⟩
           refine yq 10 3 ?_
           refine yu h fun w h=>zn ?_
           obtain ⟨C221,hC,h⟩:=h
           refine ⟨C221,hC,?_⟩
           refine yq 11 1 ?_
           refine yu h fun w h=>zn ?_
           obtain ⟨C222,hC,h⟩:=h
           refine ⟨C222,hC,?_⟩
           refine yz ?_
           exact zt hT h
         have h:=h2
         refine yv h fun _ w h=>zn ?_
         obtain ⟨hC,h⟩:=h
         refine ⟨_,fun _ h=>h,hC,?_⟩
         obtain ⟨h0,h1⟩:=h
         refine sim_dloud2 5 7 rfl rfl (by kernel_rfl) (fun _ _=>rfl) (fun _ _=>rfl) ?_ ?_
         · have h:=h0
           refine yc h c44 fun _ w h=>zn ?_
           obtain ⟨hC,h⟩:=h
           refine ⟨_,fun _ h=>h,hC,?_⟩
           refine yo 7 ?_
           refine yv h fun _ w h=>zn ?_
           obtain ⟨hC,h⟩:=h
           refine ⟨hC,?_⟩
           refine yq 9 3 ?_
           refine yu h fun w h=>zn ?_
           obtain ⟨C223,hC,h⟩:=h
           refine ⟨C223,hC,?_⟩
           refine yq 10 3 ?_
           refine yu h fun w h=>zn ?_
           obtain ⟨C224,hC,h⟩:=h
           refine ⟨C224,hC,?_⟩
           refine yq 11 1 ?_
           refine yu h fun w h=>zn ?_
           obtain ⟨C225,hC,h⟩:=h
           refine ⟨C225,hC,?_⟩
           refine yz ?_
           exact zt hT h
         have h:=h1
         refine yv h fun _ w h=>zn ?_
         obtain ⟨hC,h⟩:=h
         refine ⟨_,fun _ h=>h,hC,?_⟩
         refine yo 5 ?_
         refine yc h c44 fun _ w h=>zn ?_
         obtain ⟨hC,h⟩:=h
         refine ⟨hC,?_⟩
         refine yq 9 3 ?_
         refine yu h fun w h=>zn ?_
         obtain ⟨C226,hC,h⟩:=h
         refine ⟨C226,hC,?_⟩
         refine yq 10 3 ?_
         refine yu h fun w h=>zn ?_
         obtain ⟨C227,hC,h⟩:=h
         refine ⟨C227,hC,?_⟩
         refine yq 11 1 ?_
         refine yu h fun w h=>zn ?_
         obtain ⟨C228,hC,h⟩:=h
         refine ⟨C228,hC,?_⟩
         refine yz ?_
         exact zt hT h
       · have h:=h1
         refine yv h fun _ w h=>zn ?_
         obtain ⟨hC,h⟩:=h
         refine ⟨_,fun _ h=>h,hC,?_⟩
         obtain ⟨h0,h1⟩:=h
         refine sim_dloud2 3 8 rfl rfl (by kernel_rfl) (fun _ _=>rfl) (fun _ _=>rfl) ?_ ?_
         · have h:=h0
           refine yc h c44 fun _ w h=>zn ?_
           obtain ⟨hC,h⟩:=h
           refine ⟨_,fun _ h=>h,hC,?_⟩
           obtain ⟨h0,h1⟩:=h
           refine sim_dloud2 5 8 rfl rfl (by kernel_rfl) (fun _ _=>rfl) (fun _ _=>rfl) ?_ ?_
           · have h:=h0
             refine yc h c44 fun _ w h=>zn ?_
             obtain ⟨hC,h⟩:=h
             refine ⟨_,fun _ h=>h,hC,?_⟩
             refine yo 8 ?_
             refine yv h fun _ w h=>zn ?_
             obtain ⟨hC,h⟩:=h
             refine ⟨hC,?_⟩
             refine yq 9 3 ?_
             refine yu h fun w h=>zn ?_
             obtain ⟨C229,hC,h⟩:=h
             refine ⟨C229,hC,?_⟩
             refine yq 10 3 ?_
             refine yu h fun w h=>zn ?_
             obtain ⟨C230,hC,h⟩:=h
             refine ⟨C230,hC,?_⟩
             refine yq 11 1 ?_
             refine yu h fun w h=>zn ?_
             obtain ⟨C231,hC,h⟩:=h
             refine ⟨C231,hC,?_⟩
             refine yz ?_
             exact zt hT h
           have h:=h1
           refine yv h fun _ w h=>zn ?_
           obtain ⟨hC,h⟩:=h
           refine ⟨_,fun _ h=>h,hC,?_⟩
           refine yo 5 ?_
           refine yc h c44 fun _ w h=>zn ?_
           obtain ⟨hC,h⟩:=h
           refine ⟨hC,?_⟩
           refine yq 9 3 ?_
           refine yu h fun w h=>zn ?_
           obtain ⟨C232,hC,h⟩:=h
           refine ⟨C232,hC,?_⟩
           refine yq 10 3 ?_
           refine yu h fun w h=>zn ?_
           obtain ⟨C233,hC,h⟩:=h
           refine ⟨C233,hC,?_⟩
           refine yq 11 1 ?_
           refine yu h fun w h=>zn ?_
           obtain ⟨C234,hC,h⟩:=h
           refine ⟨C234,hC,?_⟩
           refine yz ?_
           exact zt hT h
         have h:=h1
         refine yv h fun _ w h=>zn ?_
         obtain ⟨hC,h⟩:=h
         refine ⟨_,fun _ h=>h,hC,?_⟩
         refine yo 3 ?_
         refine yc h c44 fun _ w h=>zn ?_
         obtain ⟨hC,h⟩:=h
         refine ⟨hC,?_⟩
         refine yo 5 ?_
         refine yc h c44 fun _ w h=>zn ?_
         obtain ⟨hC,h⟩:=h
         refine ⟨hC,?_⟩
         refine yq 9 3 ?_
         refine yu h fun w h=>zn ?_
         obtain ⟨C235,hC,h⟩:=h
         refine ⟨C235,hC,?_⟩
         refine yq 10 3 ?_
         refine yu h fun w h=>zn ?_
         obtain ⟨C236,hC,h⟩:=h
         refine ⟨C236,hC,?_⟩
         refine yq 11 1 ?_
         refine yu h fun w h=>zn ?_
         obtain ⟨C237,hC,h⟩:=h
         refine ⟨C237,hC,?_⟩
         refine yz ?_
         exact zt hT h
       have h:=h2
       refine yv h fun _ w h=>zn ?_
       obtain ⟨hC,h⟩:=h
       refine ⟨_,fun _ h=>h,hC,?_⟩
       obtain ⟨h0,h1⟩:=h
       refine sim_dloud2 3 7 rfl rfl (by kernel_rfl) (fun _ _=>rfl) (fun _ _=>rfl) ?_ ?_
       · have h:=h0
         refine yc h c44 fun _ w h=>zn ?_
         obtain ⟨hC,h⟩:=h
         refine ⟨_,fun _ h=>h,hC,?_⟩
         obtain ⟨h0,h1⟩:=h
         refine sim_dloud2 5 7 rfl rfl (by kernel_rfl) (fun _ _=>rfl) (fun _ _=>rfl) ?_ ?_
         · have h:=h0
           refine yc h c44 fun _ w h=>zn ?_
           obtain ⟨hC,h⟩:=h
           refine ⟨_,fun _ h=>h,hC,?_⟩
           refine yo 7 ?_
           refine yv h fun _ w h=>zn ?_
           obtain ⟨hC,h⟩:=h
           refine ⟨hC,?_⟩
           refine yq 9 3 ?_
           refine yu h fun w h=>zn ?_
           obtain ⟨C238,hC,h⟩:=h
           refine ⟨C238,hC,?_⟩
           refine yq 10 3 ?_
           refine yu h fun w h=>zn ?_
           obtain ⟨C239,hC,h⟩:=h
           refine ⟨C239,hC,?_⟩
           refine yq 11 1 ?_
           refine yu h fun w h=>zn ?_
           obtain ⟨C240,hC,h⟩:=h
           refine ⟨C240,hC,?_⟩
           refine yz ?_
           exact zt hT h
         have h:=h1
         refine yv h fun _ w h=>zn ?_
         obtain ⟨hC,h⟩:=h
         refine ⟨_,fun _ h=>h,hC,?_⟩
         refine yo 5 ?_
         refine yc h c44 fun _ w h=>zn ?_
         obtain ⟨hC,h⟩:=h
         refine ⟨hC,?_⟩
         refine yq 9 3 ?_
         refine yu h fun w h=>zn ?_
         obtain ⟨C241,hC,h⟩:=h
         refine ⟨C241,hC,?_⟩
         refine yq 10 3 ?_
         refine yu h fun w h=>zn ?_
         obtain ⟨C242,hC,h⟩:=h
         refine ⟨C242,hC,?_⟩
         refine yq 11 1 ?_
         refine yu h fun w h=>zn ?_
         obtain ⟨C243,hC,h⟩:=h
         refine ⟨C243,hC,?_⟩
         refine yz ?_
         exact zt hT h
       have h:=h1
       refine yv h fun _ w h=>zn ?_
       obtain ⟨hC,h⟩:=h
       refine ⟨_,fun _ h=>h,hC,?_⟩
       refine yo 3 ?_
       refine yc h c44 fun _ w h=>zn ?_
       obtain ⟨hC,h⟩:=h
       refine ⟨hC,?_⟩
       refine yo 5 ?_
       refine yc h c44 fun _ w h=>zn ?_
       obtain ⟨hC,h⟩:=h
       refine ⟨hC,?_⟩
       refine yq 9 3 ?_
       refine yu h fun w h=>zn ?_
       obtain ⟨C244,hC,h⟩:=h
       refine ⟨C244,hC,?_⟩
       refine yq 10 3 ?_
       refine yu h fun w h=>zn ?_
       obtain ⟨C245,hC,h⟩:=h
       refine ⟨C245,hC,?_⟩
       refine yq 11 1 ?_
       refine yu h fun w h=>zn ?_
       obtain ⟨C246,hC,h⟩:=h
       refine ⟨C246,hC,?_⟩
       refine yz ?_
       exact zt hT h
     · have h:=h1
       refine yv h fun _ w h=>zn ?_
       obtain ⟨hC,h⟩:=h
       refine ⟨_,fun _ h=>h,hC,?_⟩
       obtain ⟨h0,h1⟩:=h
       refine sim_dloud2 1 8 rfl rfl (by kernel_rfl) (fun _ _=>rfl) (fun _ _=>rfl) ?_ ?_
       · have h:=h0
         refine yc h c44 fun _ w h=>zn ?_
         obtain ⟨hC,h⟩:=h
         refine ⟨_,fun _ h=>h,hC,?_⟩
         obtain ⟨h0,h1⟩:=h
         refine sim_dloud2 3 8 rfl rfl (by kernel_rfl) (fun _ _=>rfl) (fun _ _=>rfl) ?_ ?_
         · have h:=h0
           refine yc h c44 fun _ w h=>zn ?_
           obtain ⟨hC,h⟩:=h
           refine ⟨_,fun _ h=>h,hC,?_⟩
           obtain ⟨h0,h1⟩:=h
           refine sim_dloud2 5 8 rfl rfl (by kernel_rfl) (fun _ _=>rfl) (fun _ _=>rfl) ?_ ?_
           · have h:=h0
             refine yc h c44 fun _ w h=>zn ?_
             obtain ⟨hC,h⟩:=h
             refine ⟨_,fun _ h=>h,hC,?_⟩
             refine yo 8 ?_
             refine yv h fun _ w h=>zn ?_
             obtain ⟨hC,h⟩:=h
             refine ⟨hC,?_⟩
             refine yq 9 3 ?_
             refine yu h fun w h=>zn ?_
             obtain ⟨C247,hC,h⟩:=h
             refine ⟨C247,hC,?_⟩
             refine yq 10 3 ?_
             refine yu h fun w h=>zn ?_
             obtain ⟨C248,hC,h⟩:=h
             refine ⟨C248,hC,?_⟩
             refine yq 11 1 ?_
             refine yu h fun w h=>zn ?_
             obtain ⟨C249,hC,h⟩:=h
             refine ⟨C249,hC,?_⟩
             refine yz ?_
             exact zt hT h
           have h:=h1
           refine yv h fun _ w h=>zn ?_
           obtain ⟨hC,h⟩:=h
           refine ⟨_,fun _ h=>h,hC,?_⟩
           refine yo 5 ?_
           refine yc h c44 fun _ w h=>zn ?_
           obtain ⟨hC,h⟩:=h
           refine ⟨hC,?_⟩
           refine yq 9 3 ?_
           refine yu h fun w h=>zn ?_
           obtain ⟨C250,hC,h⟩:=h
           refine ⟨C250,hC,?_⟩
           refine yq 10 3 ?_
           refine yu h fun w h=>zn ?_
           obtain ⟨C251,hC,h⟩:=h
           refine ⟨C251,hC,?_⟩
           refine yq 11 1 ?_
           refine yu h fun w h=>zn ?_
           obtain ⟨C252,hC,h⟩:=h
           refine ⟨C252,hC,?_⟩
           refine yz ?_
           exact zt hT h
         have h:=h1
         refine yv h fun _ w h=>zn ?_
         obtain ⟨hC,h⟩:=h
         refine ⟨_,fun _ h=>h,hC,?_⟩
         refine yo 3 ?_
         refine yc h c44 fun _ w h=>zn ?_
         obtain ⟨hC,h⟩:=h
         refine ⟨hC,?_⟩
         refine yo 5 ?_
         refine yc h c44 fun _ w h=>zn ?_
         obtain ⟨hC,h⟩:=h
         refine ⟨hC,?_⟩
         refine yq 9 3 ?_
         refine yu h fun w h=>zn ?_
         obtain ⟨C253,hC,h⟩:=h
         refine ⟨C253,hC,?_⟩
         refine yq 10 3 ?_
         refine yu h fun w h=>zn ?_
         obtain ⟨C254,hC,h⟩:=h
         refine ⟨C254,hC,?_⟩
         refine yq 11 1 ?_
         refine yu h fun w h=>zn ?_
         obtain ⟨C255,hC,h⟩:=h
         refine ⟨C255,hC,?_⟩
         refine yz ?_
         exact zt hT h
       have h:=h1
       refine yv h fun _ w h=>zn ?_
       obtain ⟨hC,h⟩:=h
       refine ⟨_,fun _ h=>h,hC,?_⟩
       refine yo 1 ?_
       refine yc h c44 fun _ w h=>zn ?_
       obtain ⟨hC,h⟩:=h
       refine ⟨hC,?_⟩
       refine yo 3 ?_
       refine yc h c44 fun _ w h=>zn ?_
       obtain ⟨hC,h⟩:=h
       refine ⟨hC,?_⟩
       refine yo 5 ?_
       refine yc h c44 fun _ w h=>zn ?_
       obtain ⟨hC,h⟩:=h
       refine ⟨hC,?_⟩
       refine yq 9 3 ?_
       refine yu h fun w h=>zn ?_
       obtain ⟨C256,hC,h⟩:=h
       refine ⟨C256,hC,?_⟩
       refine yq 10 3 ?_
       refine yu h fun w h=>zn ?_
       obtain ⟨C257,hC,h⟩:=h
       refine ⟨C257,hC,?_⟩
       refine yq 11 1 ?_
       refine yu h fun w h=>zn ?_
       obtain ⟨C258,hC,h⟩:=h
       refine ⟨C258,hC,?_⟩
       refine yz ?_
       exact zt hT h
     have h:=h2
     refine yv h fun _ w h=>zn ?_
     obtain ⟨hC,h⟩:=h
     refine ⟨_,fun _ h=>h,hC,?_⟩
     obtain ⟨h0,h1⟩:=h
     refine sim_dloud2 1 7 rfl rfl (by kernel_rfl) (fun _ _=>rfl) (fun _ _=>rfl) ?_ ?_
     · have h:=h0
       refine yc h c44 fun _ w h=>zn ?_
       obtain ⟨hC,h⟩:=h
       refine ⟨_,fun _ h=>h,hC,?_⟩
       obtain ⟨h0,h1⟩:=h
       refine sim_dloud2 3 7 rfl rfl (by kernel_rfl) (fun _ _=>rfl) (fun _ _=>rfl) ?_ ?_
       · have h:=h0
         refine yc h c44 fun _ w h=>zn ?_
         obtain ⟨hC,h⟩:=h
         refine ⟨_,fun _ h=>h,hC,?_⟩
         obtain ⟨h0,h1⟩:=h
         refine sim_dloud2 5 7 rfl rfl (by kernel_rfl) (fun _ _=>rfl) (fun _ _=>rfl) ?_ ?_
         · have h:=h0
           refine yc h c44 fun _ w h=>zn ?_
           obtain ⟨hC,h⟩:=h
           refine ⟨_,fun _ h=>h,hC,?_⟩
           refine yo 7 ?_
           refine yv h fun _ w h=>zn ?_
           obtain ⟨hC,h⟩:=h
           refine ⟨hC,?_⟩
           refine yq 9 3 ?_
           refine yu h fun w h=>zn ?_
           obtain ⟨C259,hC,h⟩:=h
           refine ⟨C259,hC,?_⟩
           refine yq 10 3 ?_
           refine yu h fun w h=>zn ?_
           obtain ⟨C260,hC,h⟩:=h
           refine ⟨C260,hC,?_⟩
           refine yq 11 1 ?_
           refine yu h fun w h=>zn ?_
           obtain ⟨C261,hC,h⟩:=h
           refine ⟨C261,hC,?_⟩
           refine yz ?_
           exact zt hT h
         have h:=h1
         refine yv h fun _ w h=>zn ?_
         obtain ⟨hC,h⟩:=h
         refine ⟨_,fun _ h=>h,hC,?_⟩
         refine yo 5 ?_
         refine yc h c44 fun _ w h=>zn ?_
         obtain ⟨hC,h⟩:=h
         refine ⟨hC,?_⟩
         refine yq 9 3 ?_
         refine yu h fun w h=>zn ?_
         obtain ⟨C262,hC,h⟩:=h
         refine ⟨C262,hC,?_⟩
         refine yq 10 3 ?_
         refine yu h fun w h=>zn ?_
         obtain ⟨C263,hC,h⟩:=h
         refine ⟨C263,hC,?_⟩
         refine yq 11 1 ?_
         refine yu h fun w h=>zn ?_
         obtain ⟨C264,hC,h⟩:=h
         refine ⟨C264,hC,?_⟩
         refine yz ?_
         exact zt hT h
       have h:=h1
       refine yv h fun _ w h=>zn ?_
       obtain ⟨hC,h⟩:=h
       refine ⟨_,fun _ h=>h,hC,?_⟩
       refine yo 3 ?_
       refine yc h c44 fun _ w h=>zn ?_
       obtain ⟨hC,h⟩:=h
       refine ⟨hC,?_⟩
       refine yo 5 ?_
       refine yc h c44 fun _ w h=>zn ?_
       obtain ⟨hC,h⟩:=h
       refine ⟨hC,?_⟩
       refine yq 9 3 ?_
       refine yu h fun w h=>zn ?_
       obtain ⟨C265,hC,h⟩:=h
       refine ⟨C265,hC,?_⟩
       refine yq 10 3 ?_
       refine yu h fun w h=>zn ?_
       obtain ⟨C266,hC,h⟩:=h
       refine ⟨C266,hC,?_⟩
       refine yq 11 1 ?_
       refine yu h fun w h=>zn ?_
       obtain ⟨C267,hC,h⟩:=h
       refine ⟨C267,hC,?_⟩
       refine yz ?_
       exact zt hT h
     have h:=h1
     refine yv h fun _ w h=>zn ?_
     obtain ⟨hC,h⟩:=h
     refine ⟨_,fun _ h=>h,hC,?_⟩
     refine yo 1 ?_
     refine yc h c44 fun _ w h=>zn ?_
     obtain ⟨hC,h⟩:=h
     refine ⟨hC,?_⟩
     refine yo 3 ?_
     refine yc h c44 fun _ w h=>zn ?_
     obtain ⟨hC,h⟩:=h
     refine ⟨hC,?_⟩
     refine yo 5 ?_
     refine yc h c44 fun _ w h=>zn ?_
     obtain ⟨hC,h⟩:=h
     refine ⟨hC,?_⟩
     refine yq 9 3 ?_
     refine yu h fun w h=>zn ?_
     obtain ⟨C268,hC,h⟩:=h
     refine ⟨C268,hC,?_⟩
     refine yq 10 3 ?_
     refine yu h fun w h=>zn ?_
     obtain ⟨C269,hC,h⟩:=h
     refine ⟨C269,hC,?_⟩
     refine yq 11 1 ?_
     refine yu h fun w h=>zn ?_
     obtain ⟨C270,hC,h⟩:=h
     refine ⟨C270,hC,?_⟩
     refine yz ?_
     exact zt hT h
   · have h:=h2
     refine yv h fun _ w h=>zn ?_
     obtain ⟨hC,h⟩:=h
     refine ⟨_,fun _ h=>h,hC,?_⟩
     obtain ⟨h0,h1,h2⟩:=h
     refine sim_dloud3 1 6 8 rfl rfl rfl (by kernel_rfl) (fun _ _=>rfl) (fun _ _=>rfl) (fun _ _=>rfl) ?_ ?_ ?_
     · have h:=h0
       refine yc h c44 fun _ w h=>zn ?_
       obtain ⟨hC,h⟩:=h
       refine ⟨_,fun _ h=>h,hC,?_⟩
       obtain ⟨h0,h1,h2⟩:=h
       refine sim_dloud3 3 6 8 rfl rfl rfl (by kernel_rfl) (fun _ _=>rfl) (fun _ _=>rfl) (fun _ _=>rfl) ?_ ?_ ?_
       · have h:=h0
         refine yc h c44 fun _ w h=>zn ?_
         obtain ⟨hC,h⟩:=h
         refine ⟨_,fun _ h=>h,hC,?_⟩
         obtain ⟨h0,h1,h2⟩:=h
         refine sim_dloud3 5 6 8 rfl rfl rfl (by kernel_rfl) (fun _ _=>rfl) (fun _ _=>rfl) (fun _ _=>rfl) ?_ ?_ ?_
         · have h:=h0
           refine yc h c44 fun _ w h=>zn ?_
           obtain ⟨hC,h⟩:=h
           refine ⟨_,fun _ h=>h,hC,?_⟩
           obtain ⟨h0,h1⟩:=h
           refine sim_dloud2 6 8 rfl rfl (by kernel_rfl) (fun _ _=>rfl) (fun _ _=>rfl) ?_ ?_
           · have h:=h0
             refine yv h fun _ w h=>zn ?_
             obtain ⟨hC,h⟩:=h
             refine ⟨_,fun _ h=>h,hC,?_⟩
             refine yo 8 ?_
             refine yv h fun _ w h=>zn ?_
             obtain ⟨hC,h⟩:=h
             refine ⟨hC,?_⟩
             refine yq 9 3 ?_
             refine yu h fun w h=>zn ?_
             obtain ⟨C271,hC,h⟩:=h
             refine ⟨C271,hC,?_⟩
             refine yq 10 3 ?_
             refine yu h fun w h=>zn ?_
             obtain ⟨C272,hC,h⟩:=h
             refine ⟨C272,hC,?_⟩
             refine yq 11 1 ?_
             refine yu h fun w h=>zn ?_
             obtain ⟨C273,hC,h⟩:=h
             refine ⟨C273,hC,?_⟩
             refine yz ?_
             exact zt hT h
           have h:=h1
           refine yv h fun _ w h=>zn ?_
           obtain ⟨hC,h⟩:=h
           refine ⟨_,fun _ h=>h,hC,?_⟩
           refine yo 6 ?_
           refine yv h fun _ w h=>zn ?_
           obtain ⟨hC,h⟩:=h
           refine ⟨hC,?_⟩
           refine yq 9 3 ?_
           refine yu h fun w h=>zn ?_
           obtain ⟨C274,hC,h⟩:=h
           refine ⟨C274,hC,?_⟩
           refine yq 10 3 ?_
           refine yu h fun w h=>zn ?_
           obtain ⟨C275,hC,h⟩:=h
           refine ⟨C275,hC,?_⟩
           refine yq 11 1 ?_
           refine yu h fun w h=>zn ?_
           obtain ⟨C276,hC,h⟩:=h
           refine ⟨C276,hC,?_⟩
           refine yz ?_
           exact zt hT h
         · have h:=h1
           refine yv h fun _ w h=>zn ?_
           obtain ⟨hC,h⟩:=h
           refine ⟨_,fun _ h=>h,hC,?_⟩
           obtain ⟨h0,h1⟩:=h
           refine sim_dloud2 5 8 rfl rfl (by kernel_rfl) (fun _ _=>rfl) (fun _ _=>rfl) ?_ ?_
           · have h:=h0
             refine yc h c44 fun _ w h=>zn ?_
             obtain ⟨hC,h⟩:=h
             refine ⟨_,fun _ h=>h,hC,?_⟩
             refine yo 8 ?_
             refine yv h fun _ w h=>zn ?_
             obtain ⟨hC,h⟩:=h
             refine ⟨hC,?_⟩
             refine yq 9 3 ?_
             refine yu h fun w h=>zn ?_
             obtain ⟨C277,hC,h⟩:=h
             refine ⟨C277,hC,?_⟩
             refine yq 10 3 ?_
             refine yu h fun w h=>zn ?_
             obtain ⟨C278,hC,h⟩:=h
             refine ⟨C278,hC,?_⟩
             refine yq 11 1 ?_
             refine yu h fun w h=>zn ?_
             obtain ⟨C279,hC,h⟩:=h
             refine ⟨C279,hC,?_⟩
             refine yz ?_
             exact zt hT h
           have h:=h1
           refine yv h fun _ w h=>zn ?_
           obtain ⟨hC,h⟩:=h
           refine ⟨_,fun _ h=>h,hC,?_⟩
           refine yo 5 ?_
           refine yc h c44 fun _ w h=>zn ?_
           obtain ⟨hC,h⟩:=h
           refine ⟨hC,?_⟩
           refine yq 9 3 ?_
           refine yu h fun w h=>zn ?_
           obtain ⟨C280,hC,h⟩:=h
           refine ⟨C280,hC,?_⟩
           refine yq 10 3 ?_
           refine yu h fun w h=>zn ?_
           obtain ⟨C281,hC,h⟩:=h
           refine ⟨C281,hC,?_⟩
           refine yq 11 1 ?_
           refine yu h fun w h=>zn ?_
           obtain ⟨C282,hC,h⟩:=h
           refine ⟨C282,hC,?_⟩
           refine yz ?_
           exact zt hT h
         have h:=h2
         refine yv h fun _ w h=>zn ?_
         obtain ⟨hC,h⟩:=h
         refine ⟨_,fun _ h=>h,hC,?_⟩
         obtain ⟨h0,h1⟩:=h
         refine sim_dloud2 5 6 rfl rfl (by kernel_rfl) (fun _ _=>rfl) (fun _ _=>rfl) ?_ ?_
         · have h:=h0
           refine yc h c44 fun _ w h=>zn ?_
           obtain ⟨hC,h⟩:=h
           refine ⟨_,fun _ h=>h,hC,?_⟩
           refine yo 6 ?_
           refine yv h fun _ w h=>zn ?_
           obtain ⟨hC,h⟩:=h
           refine ⟨hC,?_⟩
           refine yq 9 3 ?_
           refine yu h fun w h=>zn ?_
           obtain ⟨C283,hC,h⟩:=h
           refine ⟨C283,hC,?_⟩
           refine yq 10 3 ?_
           refine yu h fun w h=>zn ?_
           obtain ⟨C284,hC,h⟩:=h
           refine ⟨C284,hC,?_⟩
           refine yq 11 1 ?_
           refine yu h fun w h=>zn ?_
           obtain ⟨C285,hC,h⟩:=h
           refine ⟨C285,hC,?_⟩
           refine yz ?_
           exact zt hT h
         have h:=h1
         refine yv h fun _ w h=>zn ?_
         obtain ⟨hC,h⟩:=h
         refine ⟨_,fun _ h=>h,hC,?_⟩
         refine yo 5 ?_
         refine yc h c44 fun _ w h=>zn ?_
         obtain ⟨hC,h⟩:=h
         refine ⟨hC,?_⟩
         refine yq 9 3 ?_
         refine yu h fun w h=>zn ?_
         obtain ⟨C286,hC,h⟩:=h
         refine ⟨C286,hC,?_⟩
         refine yq 10 3 ?_
         refine yu h fun w h=>zn ?_
         obtain ⟨C287,hC,h⟩:=h
         refine ⟨C287,hC,?_⟩
         refine yq 11 1 ?_
         refine yu h fun w h=>zn ?_
         obtain ⟨C288,hC,h⟩:=h
         refine ⟨C288,hC,?_⟩
         refine yz ?_
         exact zt hT h
       · have h:=h1
         refine yv h fun _ w h=>zn ?_
         obtain ⟨hC,h⟩:=h
         refine ⟨_,fun _ h=>h,hC,?_⟩
         obtain ⟨h0,h1⟩:=h
         refine sim_dloud2 3 8 rfl rfl (by kernel_rfl) (fun _ _=>rfl) (fun _ _=>rfl) ?_ ?_
         · have h:=h0
           refine yc h c44 fun _ w h=>zn ?_
           obtain ⟨hC,h⟩:=h
           refine ⟨_,fun _ h=>h,hC,?_⟩
           obtain ⟨h0,h1⟩:=h
           refine sim_dloud2 5 8 rfl rfl (by kernel_rfl) (fun _ _=>rfl) (fun _ _=>rfl) ?_ ?_
           · have h:=h0
             refine yc h c44 fun _ w h=>zn ?_
             obtain ⟨hC,h⟩:=h
             refine ⟨_,fun _ h=>h,hC,?_⟩
             refine yo 8 ?_
             refine yv h fun _ w h=>zn ?_
             obtain ⟨hC,h⟩:=h
             refine ⟨hC,?_⟩
             refine yq 9 3 ?_
             refine yu h fun w h=>zn ?_
             obtain ⟨C289,hC,h⟩:=h
             refine ⟨C289,hC,?_⟩
             refine yq 10 3 ?_
             refine yu h fun w h=>zn ?_
             obtain ⟨C290,hC,h⟩:=h
             refine ⟨C290,hC,?_⟩
             refine yq 11 1 ?_
             refine yu h fun w h=>zn ?_
             obtain ⟨C291,hC,h⟩:=h
             refine ⟨C291,hC,?_⟩
             refine yz ?_
             exact zt hT h
           have h:=h1
           refine yv h fun _ w h=>zn ?_
           obtain ⟨hC,h⟩:=h
           refine ⟨_,fun _ h=>h,hC,?_⟩
           refine yo 5 ?_
           refine yc h c44 fun _ w h=>zn ?_
           obtain ⟨hC,h⟩:=h
           refine ⟨hC,?_⟩
           refine yq 9 3 ?_
           refine yu h fun w h=>zn ?_
           obtain ⟨C292,hC,h⟩:=h
           refine ⟨C292,hC,?_⟩
           refine yq 10 3 ?_
           refine yu h fun w h=>zn ?_
           obtain ⟨C293,hC,h⟩:=h
           refine ⟨C293,hC,?_⟩
           refine yq 11 1 ?_
           refine yu h fun w h=>zn ?_
           obtain ⟨C294,hC,h⟩:=h
           refine ⟨C294,hC,?_⟩
           refine yz ?_
           exact zt hT h
         have h:=h1
         refine yv h fun _ w h=>zn ?_
         obtain ⟨hC,h⟩:=h
         refine ⟨_,fun _ h=>h,hC,?_⟩
         refine yo 3 ?_
         refine yc h c44 fun _ w h=>zn ?_
         obtain ⟨hC,h⟩:=h
         refine ⟨hC,?_⟩
         refine yo 5 ?_
         refine yc h c44 fun _ w h=>zn ?_
         obtain ⟨hC,h⟩:=h
         refine ⟨hC,?_⟩
         refine yq 9 3 ?_
         refine yu h fun w h=>zn ?_
         obtain ⟨C295,hC,h⟩:=h
         refine ⟨C295,hC,?_⟩
         refine yq 10 3 ?_
         refine yu h fun w h=>zn ?_
         obtain ⟨C296,hC,h⟩:=h
         refine ⟨C296,hC,?_⟩
         refine yq 11 1 ?_
         refine yu h fun w h=>zn ?_
         obtain ⟨C297,hC,h⟩:=h
         refine ⟨C297,hC,?_⟩
         refine yz ?_
         exact zt hT h
       have h:=h2
       refine yv h fun _ w h=>zn ?_
       obtain ⟨hC,h⟩:=h
       refine ⟨_,fun _ h=>h,hC,?_⟩
       obtain ⟨h0,h1⟩:=h
       refine sim_dloud2 3 6 rfl rfl (by kernel_rfl) (fun _ _=>rfl) (fun _ _=>rfl) ?_ ?_
       · have h:=h0
         refine yc h c44 fun _ w h=>zn ?_
         obtain ⟨hC,h⟩:=h
         refine ⟨_,fun _ h=>h,hC,?_⟩
         obtain ⟨h0,h1⟩:=h
         refine sim_dloud2 5 6 rfl rfl (by kernel_rfl) (fun _ _=>rfl) (fun _ _=>rfl) ?_ ?_
         · have h:=h0
           refine yc h c44 fun _ w h=>zn ?_
           obtain ⟨hC,h⟩:=h
           refine ⟨_,fun _ h=>h,hC,?_⟩
           refine yo 6 ?_
           refine yv h fun _ w h=>zn ?_
           obtain ⟨hC,h⟩:=h
           refine ⟨hC,?_⟩
           refine yq 9 3 ?_
           refine yu h fun w h=>zn ?_
           obtain ⟨C298,hC,h⟩:=h
           refine ⟨C298,hC,?_⟩
           refine yq 10 3 ?_
           refine yu h fun w h=>zn ?_
           obtain ⟨C299,hC,h⟩:=h
           refine ⟨C299,hC,?_⟩
           refine yq 11 1 ?_
           refine yu h fun w h=>zn ?_
           obtain ⟨C300,hC,h⟩:=h
           refine ⟨C300,hC,?_⟩
           refine yz ?_
           exact zt hT h
         have h:=h1
         refine yv h fun _ w h=>zn ?_
         obtain ⟨hC,h⟩:=h
         refine ⟨_,fun _ h=>h,hC,?_⟩
         refine yo 5 ?_
         refine yc h c44 fun _ w h=>zn ?_
         obtain ⟨hC,h⟩:=h
         refine ⟨hC,?_⟩
         refine yq 9 3 ?_
         refine yu h fun w h=>zn ?_
         obtain ⟨C301,hC,h⟩:=h
         refine ⟨C301,hC,?_⟩
         refine yq 10 3 ?_
         refine yu h fun w h=>zn ?_
         obtain ⟨C302,hC,h⟩:=h
         refine ⟨C302,hC,?_⟩
         refine yq 11 1 ?_
         refine yu h fun w h=>zn ?_
         obtain ⟨C303,hC,h⟩:=h
         refine ⟨C303,hC,?_⟩
         refine yz ?_
         exact zt hT h
       have h:=h1
       refine yv h fun _ w h=>zn ?_
       obtain ⟨hC,h⟩:=h
       refine ⟨_,fun _ h=>h,hC,?_⟩
       refine yo 3 ?_
       refine yc h c44 fun _ w h=>zn ?_
       obtain ⟨hC,h⟩:=h
       refine ⟨hC,?_⟩
       refine yo 5 ?_
       refine yc h c44 fun _ w h=>zn ?_
       obtain ⟨hC,h⟩:=h
       refine ⟨hC,?_⟩
       refine yq 9 3 ?_
       refine yu h fun w h=>zn ?_
       obtain ⟨C304,hC,h⟩:=h
       refine ⟨C304,hC,?_⟩
       refine yq 10 3 ?_
       refine yu h fun w h=>zn ?_
       obtain ⟨C305,hC,h⟩:=h
       refine ⟨C305,hC,?_⟩
       refine yq 11 1 ?_
       refine yu h fun w h=>zn ?_
       obtain ⟨C306,hC,h⟩:=h
       refine ⟨C306,hC,?_⟩
       refine yz ?_
       exact zt hT h
     · have h:=h1
       refine yv h fun _ w h=>zn ?_
       obtain ⟨hC,h⟩:=h
       refine ⟨_,fun _ h=>h,hC,?_⟩
       obtain ⟨h0,h1⟩:=h
       refine sim_dloud2 1 8 rfl rfl (by kernel_rfl) (fun _ _=>rfl) (fun _ _=>rfl) ?_ ?_
       · have h:=h0
         refine yc h c44 fun _ w h=>zn ?_
         obtain ⟨hC,h⟩:=h
         refine ⟨_,fun _ h=>h,hC,?_⟩
         obtain ⟨h0,h1⟩:=h
         refine sim_dloud2 3 8 rfl rfl (by kernel_rfl) (fun _ _=>rfl) (fun _ _=>rfl) ?_ ?_
         · have h:=h0
           refine yc h c44 fun _ w h=>zn ?_
           obtain ⟨hC,h⟩:=h
           refine ⟨_,fun _ h=>h,hC,?_⟩
           obtain ⟨h0,h1⟩:=h
           refine sim_dloud2 5 8 rfl rfl (by kernel_rfl) (fun _ _=>rfl) (fun _ _=>rfl) ?_ ?_
           · have h:=h0
             refine yc h c44 fun _ w h=>zn ?_
             obtain ⟨hC,h⟩:=h
             refine ⟨_,fun _ h=>h,hC,?_⟩
             refine yo 8 ?_
             refine yv h fun _ w h=>zn ?_
             obtain ⟨hC,h⟩:=h
             refine ⟨hC,?_⟩
             refine yq 9 3 ?_
             refine yu h fun w h=>zn ?_
             obtain ⟨C307,hC,h⟩:=h
             refine ⟨C307,hC,?_⟩
             refine yq 10 3 ?_
             refine yu h fun w h=>zn ?_
             obtain ⟨C308,hC,h⟩:=h
             refine ⟨C308,hC,?_⟩
             refine yq 11 1 ?_
             refine yu h fun w h=>zn ?_
             obtain ⟨C309,hC,h⟩:=h
             refine ⟨C309,hC,?_⟩
             refine yz ?_
             exact zt hT h
           have h:=h1
           refine yv h fun _ w h=>zn ?_
           obtain ⟨hC,h⟩:=h
           refine ⟨_,fun _ h=>h,hC,?_⟩
           refine yo 5 ?_
           refine yc h c44 fun _ w h=>zn ?_
           obtain ⟨hC,h⟩:=h
           refine ⟨hC,?_⟩
           refine yq 9 3 ?_
           refine yu h fun w h=>zn ?_
           obtain ⟨C310,hC,h⟩:=h
           refine ⟨C310,hC,?_⟩
           refine yq 10 3 ?_
           refine yu h fun w h=>zn ?_
           obtain ⟨C311,hC,h⟩:=h
           refine ⟨C311,hC,?_⟩
           refine yq 11 1 ?_
           refine yu h fun w h=>zn ?_
           obtain ⟨C312,hC,h⟩:=h
           refine ⟨C312,hC,?_⟩
           refine yz ?_
           exact zt hT h
         have h:=h1
         refine yv h fun _ w h=>zn ?_
         obtain ⟨hC,h⟩:=h
         refine ⟨_,fun _ h=>h,hC,?_⟩
         refine yo 3 ?_
         refine yc h c44 fun _ w h=>zn ?_
         obtain ⟨hC,h⟩:=h
         refine ⟨hC,?_⟩
         refine yo 5 ?_
         refine yc h c44 fun _ w h=>zn ?_
         obtain ⟨hC,h⟩:=h
         refine ⟨hC,?_⟩
         refine yq 9 3 ?_
         refine yu h fun w h=>zn ?_
         obtain ⟨C313,hC,h⟩:=h
         refine ⟨C313,hC,?_⟩
         refine yq 10 3 ?_
         refine yu h fun w h=>zn ?_
         obtain ⟨C314,hC,h⟩:=h
         refine ⟨C314,hC,?_⟩
         refine yq 11 1 ?_
         refine yu h fun w h=>zn ?_
         obtain ⟨C315,hC,h⟩:=h
         refine ⟨C315,hC,?_⟩
         refine yz ?_
         exact zt hT h
       have h:=h1
       refine yv h fun _ w h=>zn ?_
       obtain ⟨hC,h⟩:=h
       refine ⟨_,fun _ h=>h,hC,?_⟩
       refine yo 1 ?_
       refine yc h c44 fun _ w h=>zn ?_
       obtain ⟨hC,h⟩:=h
       refine ⟨hC,?_⟩
       refine yo 3 ?_
       refine yc h c44 fun _ w h=>zn ?_
       obtain ⟨hC,h⟩:=h
       refine ⟨hC,?_⟩
       refine yo 5 ?_
       refine yc h c44 fun _ w h=>zn ?_
       obtain ⟨hC,h⟩:=h
       refine ⟨hC,?_⟩
       refine yq 9 3 ?_
       refine yu h fun w h=>zn ?_
       obtain ⟨C316,hC,h⟩:=h
       refine ⟨C316,hC,?_⟩
       refine yq 10 3 ?_
       refine yu h fun w h=>zn ?_
       obtain ⟨C317,hC,h⟩:=h
       refine ⟨C317,hC,?_⟩
       refine yq 11 1 ?_
       refine yu h fun w h=>zn ?_
       obtain ⟨C318,hC,h⟩:=h
       refine ⟨C318,hC,?_⟩
       refine yz ?_
       exact zt hT h
     have h:=h2
     refine yv h fun _ w h=>zn ?_
     obtain ⟨hC,h⟩:=h
     refine ⟨_,fun _ h=>h,hC,?_⟩
     obtain ⟨h0,h1⟩:=h
     refine sim_dloud2 1 6 rfl rfl (by kernel_rfl) (fun _ _=>rfl) (fun _ _=>rfl) ?_ ?_
     · have h:=h0
       refine yc h c44 fun _ w h=>zn ?_
       obtain ⟨hC,h⟩:=h
       refine ⟨_,fun _ h=>h,hC,?_⟩
       obtain ⟨h0,h1⟩:=h
       refine sim_dloud2 3 6 rfl rfl (by kernel_rfl) (fun _ _=>rfl) (fun _ _=>rfl) ?_ ?_
       · have h:=h0
         refine yc h c44 fun _ w h=>zn ?_
         obtain ⟨hC,h⟩:=h
         refine ⟨_,fun _ h=>h,hC,?_⟩
         obtain ⟨h0,h1⟩:=h
         refine sim_dloud2 5 6 rfl rfl (by kernel_rfl) (fun _ _=>rfl) (fun _ _=>rfl) ?_ ?_
         · have h:=h0
           refine yc h c44 fun _ w h=>zn ?_
           obtain ⟨hC,h⟩:=h
           refine ⟨_,fun _ h=>h,hC,?_⟩
           refine yo 6 ?_
           refine yv h fun _ w h=>zn ?_
           obtain ⟨hC,h⟩:=h
           refine ⟨hC,?_⟩
           refine yq 9 3 ?_
           refine yu h fun w h=>zn ?_
           obtain ⟨C319,hC,h⟩:=h
           refine ⟨C319,hC,?_⟩
           refine yq 10 3 ?_
           refine yu h fun w h=>zn ?_
           obtain ⟨C320,hC,h⟩:=h
           refine ⟨C320,hC,?_⟩
           refine yq 11 1 ?_
           refine yu h fun w h=>zn ?_
           obtain ⟨C321,hC,h⟩:=h
           refine ⟨C321,hC,?_⟩
           refine yz ?_
           exact zt hT h
         have h:=h1
         refine yv h fun _ w h=>zn ?_
         obtain ⟨hC,h⟩:=h
         refine ⟨_,fun _ h=>h,hC,?_⟩
         refine yo 5 ?_
         refine yc h c44 fun _ w h=>zn ?_
         obtain ⟨hC,h⟩:=h
         refine ⟨hC,?_⟩
         refine yq 9 3 ?_
         refine yu h fun w h=>zn ?_
         obtain ⟨C322,hC,h⟩:=h
         refine ⟨C322,hC,?_⟩
         refine yq 10 3 ?_
         refine yu h fun w h=>zn ?_
         obtain ⟨C323,hC,h⟩:=h
         refine ⟨C323,hC,?_⟩
         refine yq 11 1 ?_
         refine yu h fun w h=>zn ?_
         obtain ⟨C324,hC,h⟩:=h
         refine ⟨C324,hC,?_⟩
         refine yz ?_
         exact zt hT h
       have h:=h1
       refine yv h fun _ w h=>zn ?_
       obtain ⟨hC,h⟩:=h
       refine ⟨_,fun _ h=>h,hC,?_⟩
       refine yo 3 ?_
       refine yc h c44 fun _ w h=>zn ?_
       obtain ⟨hC,h⟩:=h
       refine ⟨hC,?_⟩
       refine yo 5 ?_
       refine yc h c44 fun _ w h=>zn ?_
       obtain ⟨hC,h⟩:=h
       refine ⟨hC,?_⟩
       refine yq 9 3 ?_
       refine yu h fun w h=>zn ?_
       obtain ⟨C325,hC,h⟩:=h
       refine ⟨C325,hC,?_⟩
       refine yq 10 3 ?_
       refine yu h fun w h=>zn ?_
       obtain ⟨C326,hC,h⟩:=h
       refine ⟨C326,hC,?_⟩
       refine yq 11 1 ?_
       refine yu h fun w h=>zn ?_
       obtain ⟨C327,hC,h⟩:=h
       refine ⟨C327,hC,?_⟩
       refine yz ?_
       exact zt hT h
     have h:=h1
     refine yv h fun _ w h=>zn ?_
     obtain ⟨hC,h⟩:=h
     refine ⟨_,fun _ h=>h,hC,?_⟩
     refine yo 1 ?_
     refine yc h c44 fun _ w h=>zn ?_
     obtain ⟨hC,h⟩:=h
     refine ⟨hC,?_⟩
     refine yo 3 ?_
     refine yc h c44 fun _ w h=>zn ?_
     obtain ⟨hC,h⟩:=h
     refine ⟨hC,?_⟩
     refine yo 5 ?_
     refine yc h c44 fun _ w h=>zn ?_
     obtain ⟨hC,h⟩:=h
     refine ⟨hC,?_⟩
     refine yq 9 3 ?_
     refine yu h fun w h=>zn ?_
     obtain ⟨C328,hC,h⟩:=h
     refine ⟨C328,hC,?_⟩
     refine yq 10 3 ?_
     refine yu h fun w h=>zn ?_
     obtain ⟨C329,hC,h⟩:=h
     refine ⟨C329,hC,?_⟩
     refine yq 11 1 ?_
     refine yu h fun w h=>zn ?_
     obtain ⟨C330,hC,h⟩:=h
     refine ⟨C330,hC,?_⟩
     refine yz ?_
     exact zt hT h
   have h:=h3
   refine yv h fun _ w h=>zn ?_
   obtain ⟨hC,h⟩:=h
   refine ⟨_,fun _ h=>h,hC,?_⟩
   obtain ⟨h0,h1,h2⟩:=h
   refine sim_dloud3 1 6 7 rfl rfl rfl (by kernel_rfl) (fun _ _=>rfl) (fun _ _=>rfl) (fun _ _=>rfl) ?_ ?_ ?_
   · have h:=h0
     refine yc h c44 fun _ w h=>zn ?_
     obtain ⟨hC,h⟩:=h
     refine ⟨_,fun _ h=>h,hC,?_⟩
     obtain ⟨h0,h1,h2⟩:=h
     refine sim_dloud3 3 6 7 rfl rfl rfl (by kernel_rfl) (fun _ _=>rfl) (fun _ _=>rfl) (fun _ _=>rfl) ?_ ?_ ?_
     · have h:=h0
       refine yc h c44 fun _ w h=>zn ?_
       obtain ⟨hC,h⟩:=h
       refine ⟨_,fun _ h=>h,hC,?_⟩
       obtain ⟨h0,h1,h2⟩:=h
       refine sim_dloud3 5 6 7 rfl rfl rfl (by kernel_rfl) (fun _ _=>rfl) (fun _ _=>rfl) (fun _ _=>rfl) ?_ ?_ ?_
       · have h:=h0
         refine yc h c44 fun _ w h=>zn ?_
         obtain ⟨hC,h⟩:=h
         refine ⟨_,fun _ h=>h,hC,?_⟩
         obtain ⟨h0,h1⟩:=h
         refine sim_dloud2 6 7 rfl rfl (by kernel_rfl) (fun _ _=>rfl) (fun _ _=>rfl) ?_ ?_
         · have h:=h0
           refine yv h fun _ w h=>zn ?_
           obtain ⟨hC,h⟩:=h
           refine ⟨_,fun _ h=>h,hC,?_⟩
           refine yo 7 ?_
           refine yv h fun _ w h=>zn ?_
           obtain ⟨hC,h⟩:=h
           refine ⟨hC,?_⟩
           refine yq 9 3 ?_
           refine yu h fun w h=>zn ?_
           obtain ⟨C331,hC,h⟩:=h
           refine ⟨C331,hC,?_⟩
           refine yq 10 3 ?_
           refine yu h fun w h=>zn ?_
           obtain ⟨C332,hC,h⟩:=h
           refine ⟨C332,hC,?_⟩
           refine yq 11 1 ?_
           refine yu h fun w h=>zn ?_
           obtain ⟨C333,hC,h⟩:=h
           refine ⟨C333,hC,?_⟩
           refine yz ?_
           exact zt hT h
         have h:=h1
         refine yv h fun _ w h=>zn ?_
         obtain ⟨hC,h⟩:=h
         refine ⟨_,fun _ h=>h,hC,?_⟩
         refine yo 6 ?_
         refine yv h fun _ w h=>zn ?_
         obtain ⟨hC,h⟩:=h
         refine ⟨hC,?_⟩
         refine yq 9 3 ?_
         refine yu h fun w h=>zn ?_
         obtain ⟨C334,hC,h⟩:=h
         refine ⟨C334,hC,?_⟩
         refine yq 10 3 ?_
         refine yu h fun w h=>zn ?_
         obtain ⟨C335,hC,h⟩:=h
         refine ⟨C335,hC,?_⟩
         refine yq 11 1 ?_
         refine yu h fun w h=>zn ?_
         obtain ⟨C336,hC,h⟩:=h
         refine ⟨C336,hC,?_⟩
         refine yz ?_
         exact zt hT h
       · have h:=h1
         refine yv h fun _ w h=>zn ?_
         obtain ⟨hC,h⟩:=h
         refine ⟨_,fun _ h=>h,hC,?_⟩
         obtain ⟨h0,h1⟩:=h
         refine sim_dloud2 5 7 rfl rfl (by kernel_rfl) (fun _ _=>rfl) (fun _ _=>rfl) ?_ ?_
         · have h:=h0
           refine yc h c44 fun _ w h=>zn ?_
           obtain ⟨hC,h⟩:=h
           refine ⟨_,fun _ h=>h,hC,?_⟩
           refine yo 7 ?_
           refine yv h fun _ w h=>zn ?_
           obtain ⟨hC,h⟩:=h
           refine ⟨hC,?_⟩
           refine yq 9 3 ?_
           refine yu h fun w h=>zn ?_
           obtain ⟨C337,hC,h⟩:=h
           refine ⟨C337,hC,?_⟩
           refine yq 10 3 ?_
           refine yu h fun w h=>zn ?_
           obtain ⟨C338,hC,h⟩:=h
           refine ⟨C338,hC,?_⟩
           refine yq 11 1 ?_
           refine yu h fun w h=>zn ?_
           obtain ⟨C339,hC,h⟩:=h
           refine ⟨C339,hC,?_⟩
           refine yz ?_
           exact zt hT h
         have h:=h1
         refine yv h fun _ w h=>zn ?_
         obtain ⟨hC,h⟩:=h
         refine ⟨_,fun _ h=>h,hC,?_⟩
         refine yo 5 ?_
         refine yc h c44 fun _ w h=>zn ?_
         obtain ⟨hC,h⟩:=h
         refine ⟨hC,?_⟩
         refine yq 9 3 ?_
         refine yu h fun w h=>zn ?_
         obtain ⟨C340,hC,h⟩:=h
         refine ⟨C340,hC,?_⟩
         refine yq 10 3 ?_
         refine yu h fun w h=>zn ?_
         obtain ⟨C341,hC,h⟩:=h
         refine ⟨C341,hC,?_⟩
         refine yq 11 1 ?_
         refine yu h fun w h=>zn ?_
         obtain ⟨C342,hC,h⟩:=h
         refine ⟨C342,hC,?_⟩
         refine yz ?_
         exact zt hT h
       have h:=h2
       refine yv h fun _ w h=>zn ?_
       obtain ⟨hC,h⟩:=h
       refine ⟨_,fun _ h=>h,hC,?_⟩
       obtain ⟨h0,h1⟩:=h
       refine sim_dloud2 5 6 rfl rfl (by kernel_rfl) (fun _ _=>rfl) (fun _ _=>rfl) ?_ ?_
       · have h:=h0
         refine yc h c44 fun _ w h=>zn ?_
         obtain ⟨hC,h⟩:=h
         refine ⟨_,fun _ h=>h,hC,?_⟩
         refine yo 6 ?_
         refine yv h fun _ w h=>zn ?_
         obtain ⟨hC,h⟩:=h
         refine ⟨hC,?_⟩
         refine yq 9 3 ?_
         refine yu h fun w h=>zn ?_
         obtain ⟨C343,hC,h⟩:=h
         refine ⟨C343,hC,?_⟩
         refine yq 10 3 ?_
         refine yu h fun w h=>zn ?_
         obtain ⟨C344,hC,h⟩:=h
         refine ⟨C344,hC,?_⟩
         refine yq 11 1 ?_
         refine yu h fun w h=>zn ?_
         obtain ⟨C345,hC,h⟩:=h
         refine ⟨C345,hC,?_⟩
         refine yz ?_
         exact zt hT h
       have h:=h1
       refine yv h fun _ w h=>zn ?_
       obtain ⟨hC,h⟩:=h
       refine ⟨_,fun _ h=>h,hC,?_⟩
       refine yo 5 ?_
       refine yc h c44 fun _ w h=>zn ?_
       obtain ⟨hC,h⟩:=h
       refine ⟨hC,?_⟩
       refine yq 9 3 ?_
       refine yu h fun w h=>zn ?_
       obtain ⟨C346,hC,h⟩:=h
       refine ⟨C346,hC,?_⟩
       refine yq 10 3 ?_
       refine yu h fun w h=>zn ?_
       obtain ⟨C347,hC,h⟩:=h
       refine ⟨C347,hC,?_⟩
       refine yq 11 1 ?_
       refine yu h fun w h=>zn ?_
       obtain ⟨C348,hC,h⟩:=h
       refine ⟨C348,hC,?_⟩
       refine yz ?_
       exact zt hT h
     · have h:=h1
       refine yv h fun _ w h=>zn ?_
       obtain ⟨hC,h⟩:=h
       refine ⟨_,fun _ h=>h,hC,?_⟩
       obtain ⟨h0,h1⟩:=h
       refine sim_dloud2 3 7 rfl rfl (by kernel_rfl) (fun _ _=>rfl) (fun _ _=>rfl) ?_ ?_
       · have h:=h0
         refine yc h c44 fun _ w h=>zn ?_
         obtain ⟨hC,h⟩:=h
         refine ⟨_,fun _ h=>h,hC,?_⟩
         obtain ⟨h0,h1⟩:=h
         refine sim_dloud2 5 7 rfl rfl (by kernel_rfl) (fun _ _=>rfl) (fun _ _=>rfl) ?_ ?_
         · have h:=h0
           refine yc h c44 fun _ w h=>zn ?_
           obtain ⟨hC,h⟩:=h
           refine ⟨_,fun _ h=>h,hC,?_⟩
           refine yo 7 ?_
           refine yv h fun _ w h=>zn ?_
           obtain ⟨hC,h⟩:=h
           refine ⟨hC,?_⟩
           refine yq 9 3 ?_
           refine yu h fun w h=>zn ?_
           obtain ⟨C349,hC,h⟩:=h
           refine ⟨C349,hC,?_⟩
           refine yq 10 3 ?_
           refine yu h fun w h=>zn ?_
           obtain ⟨C350,hC,h⟩:=h
           refine ⟨C350,hC,?_⟩
           refine yq 11 1 ?_
           refine yu h fun w h=>zn ?_
           obtain ⟨C351,hC,h⟩:=h
           refine ⟨C351,hC,?_⟩
           refine yz ?_
           exact zt hT h
         have h:=h1
         refine yv h fun _ w h=>zn ?_
         obtain ⟨hC,h⟩:=h
         refine ⟨_,fun _ h=>h,hC,?_⟩
         refine yo 5 ?_
         refine yc h c44 fun _ w h=>zn ?_
         obtain ⟨hC,h⟩:=h
         refine ⟨hC,?_⟩
         refine yq 9 3 ?_
         refine yu h fun w h=>zn ?_
         obtain ⟨C352,hC,h⟩:=h
         refine ⟨C352,hC,?_⟩
         refine yq 10 3 ?_
         refine yu h fun w h=>zn ?_
         obtain ⟨C353,hC,h⟩:=h
         refine ⟨C353,hC,?_⟩
         refine yq 11 1 ?_
         refine yu h fun w h=>zn ?_
         obtain ⟨C354,hC,h⟩:=h
         refine ⟨C354,hC,?_⟩
         refine yz ?_
         exact zt hT h
       have h:=h1
       refine yv h fun _ w h=>zn ?_
       obtain ⟨hC,h⟩:=h
       refine ⟨_,fun _ h=>h,hC,?_⟩
       refine yo 3 ?_
       refine yc h c44 fun _ w h=>zn ?_
       obtain ⟨hC,h⟩:=h
       refine ⟨hC,?_⟩
       refine yo 5 ?_
       refine yc h c44 fun _ w h=>zn ?_
       obtain ⟨hC,h⟩:=h
       refine ⟨hC,?_⟩
       refine yq 9 3 ?_
       refine yu h fun w h=>zn ?_
       obtain ⟨C355,hC,h⟩:=h
       refine ⟨C355,hC,?_⟩
       refine yq 10 3 ?_
       refine yu h fun w h=>zn ?_
       obtain ⟨C356,hC,h⟩:=h
       refine ⟨C356,hC,?_⟩
       refine yq 11 1 ?_
       refine yu h fun w h=>zn ?_
       obtain ⟨C357,hC,h⟩:=h
       refine ⟨C357,hC,?_⟩
       refine yz ?_
       exact zt hT h
     have h:=h2
     refine yv h fun _ w h=>zn ?_
     obtain ⟨hC,h⟩:=h
     refine ⟨_,fun _ h=>h,hC,?_⟩
     obtain ⟨h0,h1⟩:=h
     refine sim_dloud2 3 6 rfl rfl (by kernel_rfl) (fun _ _=>rfl) (fun _ _=>rfl) ?_ ?_
     · have h:=h0
       refine yc h c44 fun _ w h=>zn ?_
       obtain ⟨hC,h⟩:=h
       refine ⟨_,fun _ h=>h,hC,?_⟩
       obtain ⟨h0,h1⟩:=h
       refine sim_dloud2 5 6 rfl rfl (by kernel_rfl) (fun _ _=>rfl) (fun _ _=>rfl) ?_ ?_
       · have h:=h0
         refine yc h c44 fun _ w h=>zn ?_
         obtain ⟨hC,h⟩:=h
         refine ⟨_,fun _ h=>h,hC,?_⟩
         refine yo 6 ?_
         refine yv h fun _ w h=>zn ?_
         obtain ⟨hC,h⟩:=h
         refine ⟨hC,?_⟩
         refine yq 9 3 ?_
         refine yu h fun w h=>zn ?_
         obtain ⟨C358,hC,h⟩:=h
         refine ⟨C358,hC,?_⟩
         refine yq 10 3 ?_
         refine yu h fun w h=>zn ?_
         obtain ⟨C359,hC,h⟩:=h
         refine ⟨C359,hC,?_⟩
         refine yq 11 1 ?_
         refine yu h fun w h=>zn ?_
         obtain ⟨C360,hC,h⟩:=h
         refine ⟨C360,hC,?_⟩
         refine yz ?_
         exact zt hT h
       have h:=h1
       refine yv h fun _ w h=>zn ?_
       obtain ⟨hC,h⟩:=h
       refine ⟨_,fun _ h=>h,hC,?_⟩
       refine yo 5 ?_
       refine yc h c44 fun _ w h=>zn ?_
       obtain ⟨hC,h⟩:=h
       refine ⟨hC,?_⟩
       refine yq 9 3 ?_
       refine yu h fun w h=>zn ?_
       obtain ⟨C361,hC,h⟩:=h
       refine ⟨C361,hC,?_⟩
       refine yq 10 3 ?_
       refine yu h fun w h=>zn ?_
       obtain ⟨C362,hC,h⟩:=h
       refine ⟨C362,hC,?_⟩
       refine yq 11 1 ?_
       refine yu h fun w h=>zn ?_
       obtain ⟨C363,hC,h⟩:=h
       refine ⟨C363,hC,?_⟩
       refine yz ?_
       exact zt hT h
     have h:=h1
     refine yv h fun _ w h=>zn ?_
     obtain ⟨hC,h⟩:=h
     refine ⟨_,fun _ h=>h,hC,?_⟩
     refine yo 3 ?_
     refine yc h c44 fun _ w h=>zn ?_
     obtain ⟨hC,h⟩:=h
     refine ⟨hC,?_⟩
     refine yo 5 ?_
     refine yc h c44 fun _ w h=>zn ?_
     obtain ⟨hC,h⟩:=h
     refine ⟨hC,?_⟩
     refine yq 9 3 ?_
     refine yu h fun w h=>zn ?_
     obtain ⟨C364,hC,h⟩:=h
     refine ⟨C364,hC,?_⟩
     refine yq 10 3 ?_
     refine yu h fun w h=>zn ?_
     obtain ⟨C365,hC,h⟩:=h
     refine ⟨C365,hC,?_⟩
     refine yq 11 1 ?_
     refine yu h fun w h=>zn ?_
     obtain ⟨C366,hC,h⟩:=h
     refine ⟨C366,hC,?_⟩
     refine yz ?_
     exact zt hT h
   · have h:=h1
     refine yv h fun _ w h=>zn ?_
     obtain ⟨hC,h⟩:=h
     refine ⟨_,fun _ h=>h,hC,?_⟩
     obtain ⟨h0,h1⟩:=h
     refine sim_dloud2 1 7 rfl rfl (by kernel_rfl) (fun _ _=>rfl) (fun _ _=>rfl) ?_ ?_
     · have h:=h0
       refine yc h c44 fun _ w h=>zn ?_
       obtain ⟨hC,h⟩:=h
       refine ⟨_,fun _ h=>h,hC,?_⟩
       obtain ⟨h0,h1⟩:=h
       refine sim_dloud2 3 7 rfl rfl (by kernel_rfl) (fun _ _=>rfl) (fun _ _=>rfl) ?_ ?_
       · have h:=h0
         refine yc h c44 fun _ w h=>zn ?_
         obtain ⟨hC,h⟩:=h
         refine ⟨_,fun _ h=>h,hC,?_⟩
         obtain ⟨h0,h1⟩:=h
         refine sim_dloud2 5 7 rfl rfl (by kernel_rfl) (fun _ _=>rfl) (fun _ _=>rfl) ?_ ?_
         · have h:=h0
           refine yc h c44 fun _ w h=>zn ?_
           obtain ⟨hC,h⟩:=h
           refine ⟨_,fun _ h=>h,hC,?_⟩
           refine yo 7 ?_
           refine yv h fun _ w h=>zn ?_
           obtain ⟨hC,h⟩:=h
           refine ⟨hC,?_⟩
           refine yq 9 3 ?_
           refine yu h fun w h=>zn ?_
           obtain ⟨C367,hC,h⟩:=h
           refine ⟨C367,hC,?_⟩
           refine yq 10 3 ?_
           refine yu h fun w h=>zn ?_
           obtain ⟨C368,hC,h⟩:=h
           refine ⟨C368,hC,?_⟩
           refine yq 11 1 ?_
           refine yu h fun w h=>zn ?_
           obtain ⟨C369,hC,h⟩:=h
           refine ⟨C369,hC,?_⟩
           refine yz ?_
           exact zt hT h
         have h:=h1
         refine yv h fun _ w h=>zn ?_
         obtain ⟨hC,h⟩:=h
         refine ⟨_,fun _ h=>h,hC,?_⟩
         refine yo 5 ?_
         refine yc h c44 fun _ w h=>zn ?_
         obtain ⟨hC,h⟩:=h
         refine ⟨hC,?_⟩
         refine yq 9 3 ?_
         refine yu h fun w h=>zn ?_
         obtain ⟨C370,hC,h⟩:=h
         refine ⟨C370,hC,?_⟩
         refine yq 10 3 ?_
         refine yu h fun w h=>zn ?_
         obtain ⟨C371,hC,h⟩:=h
         refine ⟨C371,hC,?_⟩
         refine yq 11 1 ?_
         refine yu h fun w h=>zn ?_
         obtain ⟨C372,hC,h⟩:=h
         refine ⟨C372,hC,?_⟩
         refine yz ?_
         exact zt hT h
       have h:=h1
       refine yv h fun _ w h=>zn ?_
       obtain ⟨hC,h⟩:=h
       refine ⟨_,fun _ h=>h,hC,?_⟩
       refine yo 3 ?_
       refine yc h c44 fun _ w h=>zn ?_
       obtain ⟨hC,h⟩:=h
       refine ⟨hC,?_⟩
       refine yo 5 ?_
       refine yc h c44 fun _ w h=>zn ?_
       obtain ⟨hC,h⟩:=h
       refine ⟨hC,?_⟩
       refine yq 9 3 ?_
       refine yu h fun w h=>zn ?_
       obtain ⟨C373,hC,h⟩:=h
       refine ⟨C373,hC,?_⟩
       refine yq 10 3 ?_
       refine yu h fun w h=>zn ?_
       obtain ⟨C374,hC,h⟩:=h
       refine ⟨C374,hC,?_⟩
       refine yq 11 1 ?_
       refine yu h fun w h=>zn ?_
       obtain ⟨C375,hC,h⟩:=h
       refine ⟨C375,hC,?_⟩
       refine yz ?_
       exact zt hT h
     have h:=h1
     refine yv h fun _ w h=>zn ?_
     obtain ⟨hC,h⟩:=h
     refine ⟨_,fun _ h=>h,hC,?_⟩
     refine yo 1 ?_
     refine yc h c44 fun _ w h=>zn ?_
     obtain ⟨hC,h⟩:=h
     refine ⟨hC,?_⟩
     refine yo 3 ?_
     refine yc h c44 fun _ w h=>zn ?_
     obtain ⟨hC,h⟩:=h
     refine ⟨hC,?_⟩
     refine yo 5 ?_
     refine yc h c44 fun _ w h=>zn ?_
     obtain ⟨hC,h⟩:=h
     refine ⟨hC,?_⟩
     refine yq 9 3 ?_
     refine yu h fun w h=>zn ?_
     obtain ⟨C376,hC,h⟩:=h
     refine ⟨C376,hC,?_⟩
     refine yq 10 3 ?_
     refine yu h fun w h=>zn ?_
     obtain ⟨C377,hC,h⟩:=h
     refine ⟨C377,hC,?_⟩
     refine yq 11 1 ?_
     refine yu h fun w h=>zn ?_
     obtain ⟨C378,hC,h⟩:=h
     refine ⟨C378,hC,?_⟩
     refine yz ?_
     exact zt hT h
   have h:=h2
   refine yv h fun _ w h=>zn ?_
   obtain ⟨hC,h⟩:=h
   refine ⟨_,fun _ h=>h,hC,?_⟩
   obtain ⟨h0,h1⟩:=h
   refine sim_dloud2 1 6 rfl rfl (by kernel_rfl) (fun _ _=>rfl) (fun _ _=>rfl) ?_ ?_
   · have h:=h0
     refine yc h c44 fun _ w h=>zn ?_
     obtain ⟨hC,h⟩:=h
     refine ⟨_,fun _ h=>h,hC,?_⟩
     obtain ⟨h0,h1⟩:=h
     refine sim_dloud2 3 6 rfl rfl (by kernel_rfl) (fun _ _=>rfl) (fun _ _=>rfl) ?_ ?_
     · have h:=h0
       refine yc h c44 fun _ w h=>zn ?_
       obtain ⟨hC,h⟩:=h
       refine ⟨_,fun _ h=>h,hC,?_⟩
       obtain ⟨h0,h1⟩:=h
       refine sim_dloud2 5 6 rfl rfl (by kernel_rfl) (fun _ _=>rfl) (fun _ _=>rfl) ?_ ?_
       · have h:=h0
         refine yc h c44 fun _ w h=>zn ?_
         obtain ⟨hC,h⟩:=h
         refine ⟨_,fun _ h=>h,hC,?_⟩
         refine yo 6 ?_
         refine yv h fun _ w h=>zn ?_
         obtain ⟨hC,h⟩:=h
         refine ⟨hC,?_⟩
         refine yq 9 3 ?_
         refine yu h fun w h=>zn ?_
         obtain ⟨C379,hC,h⟩:=h
         refine ⟨C379,hC,?_⟩
         refine yq 10 3 ?_
         refine yu h fun w h=>zn ?_
         obtain ⟨C380,hC,h⟩:=h
         refine ⟨C380,hC,?_⟩
         refine yq 11 1 ?_
         refine yu h fun w h=>zn ?_
         obtain ⟨C381,hC,h⟩:=h
         refine ⟨C381,hC,?_⟩
         refine yz ?_
         exact zt hT h
       have h:=h1
       refine yv h fun _ w h=>zn ?_
       obtain ⟨hC,h⟩:=h
       refine ⟨_,fun _ h=>h,hC,?_⟩
       refine yo 5 ?_
       refine yc h c44 fun _ w h=>zn ?_
       obtain ⟨hC,h⟩:=h
       refine ⟨hC,?_⟩
       refine yq 9 3 ?_
       refine yu h fun w h=>zn ?_
       obtain ⟨C382,hC,h⟩:=h
       refine ⟨C382,hC,?_⟩
       refine yq 10 3 ?_
       refine yu h fun w h=>zn ?_
       obtain ⟨C383,hC,h⟩:=h
       refine ⟨C383,hC,?_⟩
       refine yq 11 1 ?_
       refine yu h fun w h=>zn ?_
       obtain ⟨C384,hC,h⟩:=h
       refine ⟨C384,hC,?_⟩
       refine yz ?_
       exact zt hT h
     have h:=h1
     refine yv h fun _ w h=>zn ?_
     obtain ⟨hC,h⟩:=h
     refine ⟨_,fun _ h=>h,hC,?_⟩
     refine yo 3 ?_
     refine yc h c44 fun _ w h=>zn ?_
     obtain ⟨hC,h⟩:=h
     refine ⟨hC,?_⟩
     refine yo 5 ?_
     refine yc h c44 fun _ w h=>zn ?_
     obtain ⟨hC,h⟩:=h
     refine ⟨hC,?_⟩
     refine yq 9 3 ?_
     refine yu h fun w h=>zn ?_
     obtain ⟨C385,hC,h⟩:=h
     refine ⟨C385,hC,?_⟩
     refine yq 10 3 ?_
     refine yu h fun w h=>zn ?_
     obtain ⟨C386,hC,h⟩:=h
     refine ⟨C386,hC,?_⟩
     refine yq 11 1 ?_
     refine yu h fun w h=>zn ?_
     obtain ⟨C387,hC,h⟩:=h
     refine ⟨C387,hC,?_⟩
     refine yz ?_
     exact zt hT h
   have h:=h1
   refine yv h fun _ w h=>zn ?_
   obtain ⟨hC,h⟩:=h
   refine ⟨_,fun _ h=>h,hC,?_⟩
   refine yo 1 ?_
   refine yc h c44 fun _ w h=>zn ?_
   obtain ⟨hC,h⟩:=h
   refine ⟨hC,?_⟩
   refine yo 3 ?_
   refine yc h c44 fun _ w h=>zn ?_
   obtain ⟨hC,h⟩:=h
   refine ⟨hC,?_⟩
   refine yo 5 ?_
   refine yc h c44 fun _ w h=>zn ?_
   obtain ⟨hC,h⟩:=h
   refine ⟨hC,?_⟩
   refine yq 9 3 ?_
   refine yu h fun w h=>zn ?_
   obtain ⟨C388,hC,h⟩:=h
   refine ⟨C388,hC,?_⟩
   refine yq 10 3 ?_
   refine yu h fun w h=>zn ?_
   obtain ⟨C389,hC,h⟩:=h
   refine ⟨C389,hC,?_⟩
   refine yq 11 1 ?_
   refine yu h fun w h=>zn ?_
   obtain ⟨C390,hC,h⟩:=h
   refine ⟨C390,hC,?_⟩
   refine yz ?_
   exact zt hT h
 subst hK
 refine zk<|zs<|zs<|yh [67,68,69,70,71,72,73,74,75,76,77,78,79,80,81,82,83,84,85,86,87,88,89,90,91,92,93,94,95,96,97,98,99,100,101,102,103] h fun C hC h=>ye 0 hC h fun _ h=>?_
 refine ye 1 hC h fun _ h=>?_
 refine yo 2 ?_
 refine yc h c45 fun _ w h=>zn ?_
 obtain ⟨hC,h⟩:=h
 refine ⟨hC,?_⟩
 refine ye 3 hC h fun _ h=>?_
 refine yw 4 hC ?_
 refine yj1 28 [8,7,6,5,4,3,2,1,0] [72,73,74,75] 75 h (fun _ hT hb h=>?_) (fun _ hT hb h=>?_) fun σ w hC h=>?_
 · refine ye 5 hC h fun _ h=>?_
   refine ye 6 hC h fun _ h=>?_
   refine yo 7 ?_
   refine yc h c45 fun _ w h=>zn ?_
   obtain ⟨hC,h⟩:=h
   refine ⟨hC,?_⟩
   refine ye 8 hC h fun _ h=>?_
   exact yt hT hC h
 · refine yi 5 hC ?_
   refine yi 6 hC ?_
   refine yi 7 hC ?_
   refine yi 8 hC ?_
   exact yt hT hC h
 refine yP 9 hC h fun _ h=>?_
 refine yw 10 hC ?_
 refine yj1 21 [15,14,13,12,11,10,9,8,7,6,5,4,3,2,1,0] [78,79,80,81,82] 82 h (fun _ hT hb h=>?_) (fun _ hT hb h=>?_) fun σ w hC h=>?_
 · refine ye 11 hC h fun _ h=>?_
   refine ye 12 hC h fun _ h=>?_
   refine ye 13 hC h fun _ h=>?_
   refine yw 14 hC ?_
   refine ye 15 hC h fun _ h=>?_
   exact yt hT hC h
 · refine yi 11 hC ?_
   refine yi 12 hC ?_
   refine yi 13 hC ?_
   refine yi 14 hC ?_
   refine yi 15 hC ?_
   exact yt hT hC h
 refine yP 16 hC h fun _ h=>?_
 refine yw 17 hC ?_
 refine yj1 14 [22,21,20,19,18,17,16,15,14,13,12,11,10,9,8,7,6,5,4,3,2,1,0] [85,86,87,88,89] 89 h (fun _ hT hb h=>?_) (fun _ hT hb h=>?_) fun σ w hC h=>?_
 · refine ye 18 hC h fun _ h=>?_
   refine ye 19 hC h fun _ h=>?_
   refine ye 20 hC h fun _ h=>?_
   refine yw 21 hC ?_
   refine ye 22 hC h fun _ h=>?_
   exact yt hT hC h
 · refine yi 18 hC ?_
   refine yi 19 hC ?_
   refine yi 20 hC ?_
   refine yi 21 hC ?_
   refine yi 22 hC ?_
   exact yt hT hC h
 refine yP 23 hC h fun _ h=>?_
 refine yw 24 hC ?_
 refine yj1 1 [35,34,33,32,31,30,29,28,27,26,25,24,23,22,21,20,19,18,17,16,15,14,13,12,11,10,9,8,7,6,5,4,3,2,1,0] [92,93,94,95,96,97,98,99,100,101,102] 102 h (fun _ hT hb h=>?_) (fun _ hT hb h=>?_) fun σ w hC h=>?_
 · refine ye 25 hC h fun _ h=>?_
   refine ye 26 hC h fun _ h=>?_
   refine yw 27 hC ?_
   refine ye 28 hC h fun _ h=>?_
   refine ye 29 hC h fun _ h=>?_
   refine ye 30 hC h fun _ h=>?_
   refine ye 31 hC h fun _ h=>?_
   refine ye 32 hC h fun _ h=>?_
   refine ye 33 hC h fun _ h=>?_
   refine ye 34 hC h fun _ h=>?_
   refine ye 35 hC h fun _ h=>?_
   exact yt hT hC h
 · refine yi 25 hC ?_
   refine yi 26 hC ?_
   refine yi 27 hC ?_
   refine yi 28 hC ?_
   refine yi 29 hC ?_
   refine yi 30 hC ?_
   refine yi 31 hC ?_
   refine yi 32 hC ?_
   refine yi 33 hC ?_
   refine yi 34 hC ?_
   refine yi 35 hC ?_
   exact yt hT hC h
 refine yP 36 hC h fun _ h=>?_
 refine yz<|zk<|yC h (fun h=>zs<|zr<|zm<|zn<|zk<|sim_ret<|sim_then_ret<|body_ret1 rfl rfl h) fun h=>sim_skip<|zk<|zs<|yh [104,105,106,107,108,109,110,111,112,113,114,115,116,117,118,119,120,121] h fun C hC h=>ye 0 hC h fun _ h=>?_
 refine ye 1 hC h fun _ h=>?_
 refine yw 2 hC ?_
 refine ye 3 hC h fun _ h=>?_
 refine ye 4 hC h fun _ h=>?_
 refine yw 5 hC ?_
 refine ye 6 hC h fun _ h=>?_
 refine ye 7 hC h fun _ h=>?_
 refine ye 8 hC h fun _ h=>?_
 refine yw 9 hC ?_
 refine ye 10 hC h fun _ h=>?_
 refine ye 11 hC h fun _ h=>?_
 refine ye 12 hC h fun _ h=>?_
 refine ye 13 hC h fun _ h=>?_
 refine yo 14 ?_
 refine yS h fun _ w h=>zn ?_
 obtain ⟨hC,h⟩:=h
 refine ⟨hC,?_⟩
 refine yo 15 ?_
 refine yx h fun _ w h=>zn ?_
 obtain ⟨hC,h⟩:=h
 refine ⟨hC,?_⟩
 refine ye 16 hC h fun _ h=>?_
 refine ye 17 hC h fun _ h=>?_
 refine yq 18 2 ?_
 refine yu h fun w h=>zn ?_
 obtain ⟨C12,hC,h⟩:=h
 refine ⟨C12,hC,?_⟩
 refine yz<|zk<|zs<|yh [15,122,123,124,125,126,127,128,129,130,131,132,133,134] h fun C hC h=>ye 0 hC h fun _ h=>?_
 refine ye 1 hC h fun _ h=>?_
 refine yw 2 hC ?_
 refine ye 3 hC h fun _ h=>?_
 refine ye 4 hC h fun _ h=>?_
 refine ye 5 hC h fun _ h=>?_
 refine yw 6 hC ?_
 refine ye 7 hC h fun _ h=>?_
 refine ye 8 hC h fun _ h=>?_
 refine ye 9 hC h fun _ h=>?_
 refine ye 10 hC h fun _ h=>?_
 refine ye 11 hC h fun _ h=>?_
 refine ye 12 hC h fun _ h=>?_
 refine yw 13 hC ?_
 refine yz<|zk<|zs<|zs<|sim_regionG<|yG 6<|zm<|yN h fun _ w h=>yv h fun _ w h=>yv h fun _ w h=>yb h fun _ w h=>zm<|zn<|yg1 5 5 false [141,142,143,144,145] 145 h (fun _ T hT h=>?_) fun σ w h=>?_
 · refine zm<|yN h fun _ w h=>yv h fun _ w h=>yv h fun _ w h=>yb h fun _ w h=>zn ?_
   exact zt hT h
 refine yG 2<|yp h fun _ h=>zm<|zn<|yg1 5 12 false [148,149,150,151,152] 152 h (fun _ T hT h=>?_) fun σ w h=>?_
 · refine zm<|yN h fun _ w h=>yv h fun _ w h=>yv h fun _ w h=>yb h fun _ w h=>zn ?_
   exact zt hT h
 refine yG 2<|yp h fun _ h=>zm<|zn<|yg1 5 19 false [155,156,157,158,159] 159 h (fun _ T hT h=>?_) fun σ w h=>?_
 · refine zm<|yN h fun _ w h=>yv h fun _ w h=>yv h fun _ w h=>yb h fun _ w h=>zn ?_
   exact zt hT h
 refine yG 1<|yp h fun _ h=>zn<|sim_end<|zk<|yJ0 [161,162,163,164,165,166,167] h (fun _ _ hkK17 h=>?_) fun σ w h=>?_
 · refine yC h (fun h=>?_) fun h=>?_
   · refine zr<|zm<|yN h fun _ w h=>yv h fun _ w h=>yv h fun _ w h=>yb h fun _ w h=>yN h fun _ w h=>yv h fun _ w h=>yu h fun w h=>zn<|zk ?_
     exact zt hkK17 h
   refine sim_skip<|zk ?_
   exact zt hkK17 h
 refine zk<|zs<|zs<|zr<|zm<|zn<|zk<|sim_block<|yl1 [8,16,17,18,19,20,21,22,168,169,170,171,172,173,174,175,176,177,178,179,180,181,182,183,184,185,186,187,188,189,190,191,192,193,194,195,196,197,198,199,200,201,202,203,204,205,206,207,208,209,210,211,212,213,214,215,216,217,218,219,220,221,222,223,224,225,226,227,228,229,230,231,232,233,234,235,236,237,238,239,240,241,242,243,244,245] 16 h fun σ w next h=>zs<|zs<|zr<|zm<|zm<|yb h fun _ w h=>?_
 refine zn<|zk<|yC h (fun h=>?_) fun h=>?_
 · refine sim_skip<|zk<|zs<|sim_block<|zs<|zr<|yv h fun _ w h=>zm<|yc h c39 fun _ w h=>zm<|yv h fun _ w h=>yv h fun _ w h=>yv h fun _ w h=>yu h fun w h=>zm ?_
   refine zn<|zk<|zs<|zs<|sim_regionG<|yG 3<|zm<|yb h fun _ w h=>zm<|zn<|yg1 3 2 false [182,183,184] 184 h (fun _ T hT h=>?_) fun σ w h=>?_
   · refine yv h fun _ w h=>yv h fun _ w h=>yb h fun _ w h=>zn ?_
     exact zt hT h
   refine yG 2<|yp h fun _ h=>zm<|zn<|yg1 5 7 false [187,188,189,190,191] 191 h (fun _ T hT h=>?_) fun σ w h=>?_
   · refine yv h fun _ w h=>yv h fun _ w h=>yv h fun _ w h=>yv h fun _ w h=>yb h fun _ w h=>zn ?_
     exact zt hT h
   refine yG 2<|yp h fun _ h=>zm<|zn<|yg1 3 14 false [194,195,196] 196 h (fun _ T hT h=>?_) fun σ w h=>?_
   · refine yv h fun _ w h=>yv h fun _ w h=>yb h fun _ w h=>zn ?_
     exact zt hT h
   refine yG 1<|yp h fun _ h=>zn<|sim_end<|zk<|yC h (fun h=>zs<|zr<|zm<|zn<|zk<|sim_ret<|sim_then_ret<|sim_block_ret<|sim_then_ret<|sim_then_ret<|sim_block_ret<|sim_then_ret<|body_ret1 rfl rfl h) fun h=>sim_skip<|zk<|zs<|zs<|zr<|yv h fun _ w h=>yc h c43 fun _ w h=>zn ?_
   refine zk<|yJ0 [8,19,20,200,201,202,203,204,205,206,207,208,209,210,211,212,213,214,215,216,217,218,219,220,221] h (fun _ _ hkK22 h=>?_) fun σ w h=>?_
   · refine yC h (fun h=>?_) fun h=>?_
     · refine zs<|zr<|yv h fun _ w h=>zm<|yc h c39 fun _ w h=>zm<|yv h fun _ w h=>yv h fun _ w h=>yv h fun _ w h=>yu h fun w h=>zm<|zn<|zk<|zs<|sim_regionG ?_
       refine yG 3<|zm<|yb h fun _ w h=>zm<|zn<|yg1 5 2 false [209,210,211,212,213] 213 h (fun _ T hT h=>?_) fun σ w h=>?_
       · refine yv h fun _ w h=>yv h fun _ w h=>yv h fun _ w h=>yv h fun _ w h=>yb h fun _ w h=>zn ?_
         exact zt hT h
       refine yG 2<|yp h fun _ h=>zm<|zn<|yg1 5 9 false [216,217,218,219,220] 220 h (fun _ T hT h=>?_) fun σ w h=>?_
       · refine yv h fun _ w h=>yv h fun _ w h=>yv h fun _ w h=>yv h fun _ w h=>yb h fun _ w h=>zn ?_
         exact zt hT h
       refine yG 1<|yp h fun _ h=>zn<|sim_end<|zk<|yC h (fun h=>zs<|zr<|zm<|zn<|zk<|sim_ret<|sim_then_ret<|sim_then_ret<|sim_block_ret<|sim_then_ret<|sim_then_ret<|sim_block_ret<|sim_then_ret<|body_ret1 rfl rfl h) fun h=>sim_skip<|zk ?_
       exact zt hkK22 h
     refine sim_skip<|zk ?_
     exact zt hkK22 h
   refine zk<|zs<|zr<|yv h fun _ w h=>yc h c43 fun _ w h=>zn<|zk<|yJ0 [8,21,22,224,225,226,227,228,229,230,231,232,233,234,235,236,237,238,239,240,241,242,243,244,245] h (fun _ _ hkK23 h=>?_) fun σ w h=>?_
   · refine yC h (fun h=>?_) fun h=>?_
     · refine zs<|zr<|yv h fun _ w h=>zm<|yc h c39 fun _ w h=>zm<|yv h fun _ w h=>yv h fun _ w h=>yv h fun _ w h=>yu h fun w h=>zm<|zn<|zk<|zs<|sim_regionG ?_
       refine yG 3<|zm<|yb h fun _ w h=>zm<|zn<|yg1 5 2 false [233,234,235,236,237] 237 h (fun _ T hT h=>?_) fun σ w h=>?_
       · refine yv h fun _ w h=>yv h fun _ w h=>yv h fun _ w h=>yv h fun _ w h=>yb h fun _ w h=>zn ?_
         exact zt hT h
       refine yG 2<|yp h fun _ h=>zm<|zn<|yg1 5 9 false [240,241,242,243,244] 244 h (fun _ T hT h=>?_) fun σ w h=>?_
       · refine yv h fun _ w h=>yv h fun _ w h=>yv h fun _ w h=>yv h fun _ w h=>yb h fun _ w h=>zn ?_
         exact zt hT h
       refine yG 1<|yp h fun _ h=>zn<|sim_end<|zk<|yC h (fun h=>zs<|zr<|zm<|zn<|zk<|sim_ret<|sim_then_ret<|sim_block_ret<|sim_then_ret<|sim_then_ret<|sim_block_ret<|sim_then_ret<|body_ret1 rfl rfl h) fun h=>sim_skip<|zk ?_
       exact zt hkK23 h
     refine sim_skip<|zk ?_
     exact zt hkK23 h
   exact sim_block_normal<|zk<|zr<|zm<|yb h fun _ w h=>zm<|zn<|zk<|⟨rfl,h⟩
 refine sim_exit<|sim_then_exit<|sim_then_exit<|sim_block_hit<|zk<|zs<|zr<|yv h fun _ w h=>yv h fun _ w h=>yv h fun _ w h=>yv h fun _ w h=>yB h fun _ w h=>yS h fun _ w h=>yB h fun _ w h=>yS h fun _ w h=>?_
 refine yx h fun _ w h=>yv h fun _ w h=>yu h fun w h=>zn<|zk<|zs<|zs<|zr<|yv h fun _ w h=>yc h c43 fun _ w h=>zn<|zk<|yJ0 [8,23,24,25,26,258,259,260,261,262,263,264,265,266,267,268,269,270,271,272,273,274,275,276,277,278,279,280] h (fun _ _ hkK28 h=>?_) fun σ w h=>?_
 · refine yC h (fun h=>?_) fun h=>?_
   · refine zs<|zr<|yv h fun _ w h=>zm<|yc h c39 fun _ w h=>zm<|yv h fun _ w h=>yv h fun _ w h=>yv h fun _ w h=>yu h fun w h=>zm<|zn<|zk<|zs<|zr ?_
     refine yv h fun _ w h=>zm<|yc h c39 fun _ w h=>zm<|yv h fun _ w h=>yv h fun _ w h=>yv h fun _ w h=>yu h fun w h=>zm<|zn<|zk<|zs<|sim_regionG<|yG 3<|zm ?_
     refine yb h fun _ w h=>zm<|zn<|yg1 2 2 false [273,274] 274 h (fun _ T hT h=>?_) fun σ w h=>?_
     · refine zm<|yb h fun _ w h=>zn ?_
       exact zt hT h
     refine yG 2<|yp h fun _ h=>zm<|zn<|yg1 3 6 false [277,278,279] 279 h (fun _ T hT h=>?_) fun σ w h=>?_
     · refine yv h fun _ w h=>yv h fun _ w h=>yb h fun _ w h=>zn ?_
       exact zt hT h
     refine yG 1<|yp h fun _ h=>zn<|sim_end<|zk<|yC h (fun h=>zs<|zr<|zm<|zn<|zk<|sim_ret<|sim_then_ret<|sim_then_ret<|body_ret1 rfl rfl h) fun h=>sim_skip<|zk ?_
     exact zt hkK28 h
   refine sim_skip<|zk ?_
   exact zt hkK28 h
 exact zk<|zs<|zr<|yc h c32 fun _ w h=>zm<|zn<|zk<|sim_ret<|body_ret1 rfl rfl h
open Go.RowKit (intOf Below)
structure DefAt (w:World) (p:Nat) (d:DefD) (mv:Value):Prop where
 cell:w.heap[p]?=some (.cells (defCells d mv).toArray 24 (0,0))
 msgs:MsgsOf w mv d.msgs
theorem DefAt.ext {w w':World} {p:Nat} {d:DefD} {mv:Value} (h:DefAt w p d mv) (e:Ext w w'):DefAt w' p d mv:=⟨e.obj h.cell,h.msgs.ext e⟩
section
variable {w0:World} {d dm dw:DefD} {mv mvm mvw:Value} {p4 p12 p13:Nat}
theorem grow_round {w:World} {i:Nat} {a:MsgD} {next:Value→World→Prop} {R:RT} (ha:d.msgs[i]?=some a) (hl:d.msgs.length≤10) (hc:(checkP d).2.2=0) (ht:calm d) (htm:calm dm) (htw:calm dw) (hlm:dm.msgs.length=d.msgs.length) (hlw:dw.msgs.length=d.msgs.length)
 (hm:(checkP dm).2.2=0→R2 true (msgV d i) (msgV dm i)) (hw:(checkP dw).2.2=0→R2 false (msgV d i) (msgV dw i)) (o4:DefAt w p4 d mv) (o12:DefAt w p12 dm mvm) (o13:DefAt w p13 dw mvw) (hn:∀ w',Ext w w'→next (.int .i64 ((i:Int)+1)) w') :
 callK Pg 39 #[.agg (defCells d mv).toArray,.int .i64 (i:Int)] (panK R) w fun t176 w=>n5c10 (.pointer (some ⟨p12,0,none⟩)) (.pointer (some ⟨p13,0,none⟩)) (.int .i64 (i:Int)) t176 next R w:=by
 have hi:=(List.getElem?_eq_some_iff.1 ha).1
 have hE:∀ x:DefD,x.msgs.length=d.msgs.length→(checkP x).2.2=0→errG x i 0=0:=fun x hx h=>by rw [errG_0];unfold msgE;rw [if_neg (by simp [h]),if_neg (by omega)]
 obtain ⟨z1,z2,z3⟩:=span_ends hc ht ha
 have hwrap:IntKind.i64.wrap ((i:Int)+1)=(i:Int)+1:=wrap_ok (by omega) (by omega)
 refine zcr (MessageX_ret _ i ⟨_,rfl,o4.msgs⟩ ht (sound_of d ht) (by omega)) fun w1 e1=>?_
 rw [getR_pk,hE d rfl hc,show pkR 0 (msgV d i)=msgV d i from rfl]
 unfold n5c10
 generalize hq:msgV d i=q at z1 z2 z3 hm hw
 have x17:=heap_new w1 #[.int .i64 q.1,.int .i64 q.2] 67
 have eA:Ext w1 (w1.alloc (.cells #[.int .i64 q.1,.int .i64 q.2] 67)):=ee
 have d1:decide (q.1 < 0)=false:=decide_eq_false (by omega)
 have d2:decide (q.1 > q.2)=false:=decide_eq_false (by omega)
 have d3:decide (q.2 > 1099511627776)=false:=decide_eq_false (by omega)
 have e2:=e1.trans eA
 simp (disch:=try exact DI) only [↓PR,QR,simprocAttr,d1,d2,d3,↓n5c9,↓n5c8,↓n5c7,(cells_of_heap (o12.ext e2).cell).1]
 generalize (w1.alloc (.cells #[.int .i64 q.1,.int .i64 q.2] 67))=A at x17 eA e2 ⊢
 generalize w1.heap.size=p17 at x17 ⊢
 have end_:∀ w2,Ext A w2→next (.int .i64 ((i:Int)+1)) w2:=fun w2 f=>hn _ (e2.trans f)
 have wide:∀ w2,Ext A w2→callK Pg 43 #[.agg (defCells dw mvw).toArray] (panK R) w2 fun t223 w=>n5c3 (.pointer (some ⟨p13,0,none⟩)) (.int .i64 (i:Int)) (.pointer (some ⟨p17,0,none⟩)) t223 next R w:=by
  intro w2 f
  have o:=(o13.ext e2).ext f
  refine zcr (Valid_ret' _ dw ⟨_,rfl,o.msgs⟩ htw) fun w3 e3=>?_
  by_cases hv:(checkP dw).2.2=0
  · have hfb:flawedB dw=false:=by unfold flawedB;simp [hv]
    rw [hfb]
    have r:=hw hv
    simp (disch:=try exact DI) only [↓PR,QR,simprocAttr,↓n5c3,(cells_of_heap (o.ext e3).cell).1]
    refine zcr (MessageX_ret _ i ⟨_,rfl,(o.ext e3).msgs⟩ htw (sound_of dw htw) (by omega)) fun w4 e4=>?_
    rw [getR_pk,hE dw hlw hv,show pkR 0 (msgV dw i)=msgV dw i from rfl]
    generalize msgV dw i=y at r
    have d4:decide (y.1 > q.1)=false:=decide_eq_false (by have:y.1≤q.1:=r.1;omega)
    have d5:decide (y.2 < q.2)=false:=decide_eq_false (by have:=r.2;omega)
    have eB:Ext w4 (w4.alloc (.cells #[.int .i64 y.1,.int .i64 y.2] 67)):=ee
    have y17:=(f.trans (e3.trans (e4.trans eB))).obj x17
    unfold n5c2
    simp (disch:=try exact DI) only [↓PR,QR,simprocAttr,d4,d5,(cells_of_heap y17).1,↓n5c1]
    exact end_ _ (f.trans (e3.trans (e4.trans eB)))
  · have hfb:flawedB dw=true:=by unfold flawedB;simp [hv]
    rw [hfb]
    simp (disch:=try exact DI) only [↓PR,QR,simprocAttr,↓n5c3]
    exact end_ _ (f.trans e3)
 refine zcr (Valid_ret' _ dm ⟨_,rfl,(o12.ext e2).msgs⟩ htm) fun w3 e3=>?_
 have o:=(o12.ext e2).ext e3
 by_cases hv:(checkP dm).2.2=0
 · have hfb:flawedB dm=false:=by unfold flawedB;simp [hv]
   rw [hfb]
   have r:=hm hv
   simp (disch:=try exact DI) only [↓PR,QR,simprocAttr,↓n5c6,(cells_of_heap o.cell).1]
   refine zcr (MessageX_ret _ i ⟨_,rfl,o.msgs⟩ htm (sound_of dm htm) (by omega)) fun w4 e4=>?_
   rw [getR_pk,hE dm hlm hv,show pkR 0 (msgV dm i)=msgV dm i from rfl]
   generalize msgV dm i=y at r
   have d4:decide (y.1 < q.1)=false:=decide_eq_false (by have:q.1≤y.1:=r.1;omega)
   have d5:decide (y.2 < q.2)=false:=decide_eq_false (by have:=r.2;omega)
   have eB:Ext w4 (w4.alloc (.cells #[.int .i64 y.1,.int .i64 y.2] 67)):=ee
   have y17:=(e3.trans (e4.trans eB)).obj x17
   unfold n5c5
   simp (disch:=try exact DI) only [↓PR,QR,simprocAttr,d4,d5,(cells_of_heap y17).1,↓n5c4,(cells_of_heap ((o13.ext e2).ext (e3.trans (e4.trans eB))).cell).1]
   exact wide _ (e3.trans (e4.trans eB))
 · have hfb:flawedB dm=true:=by unfold flawedB;simp [hv]
   rw [hfb]
   simp (disch:=try exact DI) only [↓PR,QR,simprocAttr,↓n5c6,(cells_of_heap ((o13.ext e2).ext e3).cell).1]
   exact wide _ e3
end
end Go.Proofs.YtdfhjlggcdemhaaGreat
namespace Go.Sw
open Go.ChangeShapes Go.WideShapes Go.RowKit Go.ChangeAt Go.Deep
theorem list_of {α:Type} {p:Nat→α→Prop}:∀ (n:Nat),(∀ i,i < n→∃ x,p i x)→∃ l:List α,l.length=n∧∀ k x,l[k]?=some x→p k x
 | 0,_=>⟨[],rfl,fun k x h=>by simp at h⟩
 | n+1,h=>by
  obtain ⟨l,hl,hp⟩:=list_of n (fun i hi=>h i (by omega))
  obtain ⟨x,hx⟩:=h n (by omega)
  refine ⟨l++[x],by simp [hl],fun k y hy=>?_⟩
  rw [List.getElem?_append] at hy
  split at hy
  · exact hp k y hy
  · have hk:k=n:=by
     have:=(List.getElem?_eq_some_iff.1 hy).1
     simp at this
     omega
    subst hk
    simp [hl] at hy
    subst hy
    exact hx
section
variable {H:Type} {enc:TypeId×Value→H} {P:Program} {w:World} {base:Nat} {spare:Nat→Bool} {held:Bool}
theorem weightsAll_mem {e:TypeId} {m:Nat} {d:DataW H}:∀ {l:List (DataW H)},d∈l→m∈d.weights P e→m∈DataW.weightsAll P e l
 | [],h,_=>by cases h
 | a::l,h,hm=>by
  rw [DataW.weightsAll,List.mem_append]
  rcases List.mem_cons.1 h with rfl | h
  · exact .inl hm
  · exact .inr (weightsAll_mem h hm)
def Reached (P:Program) (t:TypeId) (d:DataW H):Prop:=∀ m∈d.weights P t,m≤reachBytes
theorem reached_of {ts:List TypeId} {ds:List (DataW H)} (h:(DataW.weightsEach P ts ds).all (· ≤ reachBytes)=true) {j:Nat} {t:TypeId} {d:DataW H} (ht:ts[j]?=some t) (hd:ds[j]?=some d):Reached P t d:=fun m hm=>by
 have:=List.all_eq_true.1 h _ (DataW.weights_mem_each ht hd m hm)
 simpa using this
theorem slice_of_trod {α:Type} {E:World→List Value→α→Prop} {Q:α→Prop} {t e:TypeId} {n fuel:Nat} {cs:List Value} {x:DataW H×List MemPlace} (ht:P.underlying t=some (.slice e)) (hn:P.cellsOf e=n) (hb1:1≤P.bytesOf e) (h0:0 < n)
 (hE:∀ m cs' y,DataW.trod enc P w base spare held m e cs'=some y→Reached P e y.1→∃ x,E w cs' x∧Q x) (h:DataW.trod enc P w base spare held fuel t cs=some x) (hr:Reached P t x.1):∃ v l,cs=[v]∧SliceOf w n E v l∧(∀ x∈l,Q x)∧l.length≤140737488355328:=by
 rcases open_slice ht h with ⟨rfl,_⟩ | ⟨a,len,cap,m,k,D,Pl,rfl,hb,hl,hm,hmm,hx,hel⟩
 · exact ⟨_,[],rfl,SliceOf.nil _ _ _,fun x hx=>by (cases hx),Nat.zero_le _⟩
 · have hlm:len≤m:=by rw [hmm];split<;>omega
   subst hx
   have hw0:=hr ((len+(m - len))*P.bytesOf e) (by simp only [DataW.weights,ht];simp)
   have hlen:len≤140737488355328:=by
    have:len*1≤(len+(m - len))*P.bytesOf e:=Nat.mul_le_mul (by omega) hb1
    simp only [reachBytes] at hw0
    omega
   have hD:∀ i,i < len→Reached P e (D i):=fun i hi q hq=>hr q (by
    simp only [DataW.weights,ht,List.mem_cons,List.mem_append]
    exact .inr (.inl (weightsAll_mem (List.mem_map.2 ⟨i,List.mem_range.2 hi,rfl⟩) hq)))
   obtain ⟨l,hll,hp⟩:=list_of (p:=fun i (x:α)=>∃ cs',w.cells? base (a.add (i*n)) n=some cs'∧E w cs' x∧Q x) len (fun i hi=>by
    obtain ⟨cs',h1,h2⟩:=hel i (by omega)
    rw [hn] at h1
    obtain ⟨x,hx⟩:=hE _ _ _ h2 (hD i hi)
    exact ⟨x,cs',h1,hx⟩)
   refine ⟨_,l,rfl,⟨some a,cap,by rw [hll],by rw [hll];exact hl,by simp only [maxLen] at hm;omega,fun hne=>?_⟩,fun x hx=>?_,by omega⟩
   · obtain ⟨b,o,spot⟩:=a
     have hspot:spot=none:=by
      have:0 < l.length:=List.length_pos_iff.2 hne
      obtain ⟨y,hy⟩:=getElem?_lt this
      obtain ⟨cs',h1,_⟩:=hp 0 y hy
      obtain ⟨_,h2,h3⟩:=World.cells?_some h1
      have h4:=h3 0 h0
      rw [List.getElem?_eq_getElem (by omega)] at h4
      simpa [Addr.add] using World.cell?_spot h4
     subst hspot
     refine ⟨b,o,rfl,fun k x hx=>?_⟩
     obtain ⟨cs',h1,h2,_⟩:=hp k x hx
     obtain ⟨_,h3,h4⟩:=World.cells?_some h1
     refine ⟨cs',h3,fun j v hv=>?_,h2⟩
     have h5:=h4 j (by have:=(List.getElem?_eq_some_iff.1 hv).1;omega)
     rw [hv] at h5
     simpa [Addr.add_lit] using h5
   · obtain ⟨k,hk⟩:=List.getElem?_of_mem hx
     obtain ⟨_,_,_,hq⟩:=hp k x hk
     exact hq
theorem struct_of_trod {fs:Array Field} {t:TypeId} {n fuel:Nat} {cs:List Value} {x:DataW H×List MemPlace} (ht:P.underlying t=some (.struct fs)) (hn:P.cellsOf t=n) (h:DataW.trod enc P w base spare held fuel t cs=some x) (hr:Reached P t x.1) :
 cs.length=n∧∃ m,∀ (i:Nat) (ty off k:Nat),(fs[i]?).map (fun f=>(f.type,f.offset))=some (ty,off)→P.cellsOf ty=k→∃ y,DataW.trod enc P w base spare held m ty ((cs.drop off).take k)=some y∧Reached P ty y.1:=by
 obtain ⟨xs,m,_,rfl,hl,hlen,hf⟩:=DataW.trod_struct ht h
 refine ⟨hl.trans hn,m,fun i ty off k hi hk=>?_⟩
 obtain ⟨f,hfi,he⟩:=Option.map_eq_some_iff.1 hi
 injection he with h1 h2
 subst h1 h2 hk
 have hil:i < xs.length:=by rw [hlen];exact (Array.getElem?_eq_some_iff.1 hfi).1
 refine ⟨xs[i],(hf i f hfi).trans (List.getElem?_eq_getElem hil),fun q hq=>hr q ?_⟩
 simp only [DataW.weights,ht]
 refine DataW.weights_mem_each (j:=i) (t:=f.type) (d:=xs[i].1) ?_ ?_ q hq
 · rw [List.getElem?_map,Array.getElem?_toList,hfi];rfl
 · rw [List.getElem?_map,List.getElem?_eq_getElem hil];rfl
theorem trodAll_stays (hl:laidOutB P=true) {W W':World} (he:Ext W W'):∀ {ts:List TypeId} {vs:List Value} {ds:List (DataW H)} {ps:List MemPlace},(∀ t∈ts,P.readableRec t=true∧t < P.types.size)→(∀ x∈ps,x.block < W.heap.size) →
 DataW.TrodAll enc P W 0 (fun _=>true) true ts vs ds ps→DataW.TrodAll enc P W' 0 (fun b=>decide (b < W.heap.size)) true ts vs ds ps
 | [],_,_,_,_,_,h=>by obtain ⟨rfl,rfl,rfl⟩:=trodAll_nil h;exact trodAll_mk0
 | t::ts,_,_,_,hr,hlt,h=>by
  obtain ⟨v,vs1,d,ds1,a,b,rfl,rfl,rfl,h1,h2⟩:=trodAll_cons h
  refine ⟨a,b,?_,trodAll_stays hl he (fun t ht=>hr t (List.mem_cons_of_mem _ ht)) (fun x hx=>hlt x (List.mem_append_right _ hx)) h2,rfl⟩
  exact Below.trod hl (hr t (List.mem_cons_self ..)).1 (hr t (List.mem_cons_self ..)).2 h1 ⟨he.os,he.tape,he.output,he.size,he.block⟩ (fun x hx=>hlt x (List.mem_append_left _ hx))
theorem law_post {f:Func} {s:ChangeSpec} {W W':World} {args:Array Value} {ds gs:List (DataW H)} {before:List MemPlace} {tb:TypeId} (hl:laidOutB P=true) (hr:∀ t∈f.params.toList,P.readableRec t=true∧t < P.types.size) (hs:s.vars=[])
 (hW:DataW.Whole enc P f.params.toList s.vars false W args.toList ds gs before) (he:Ext W W') (hres:f.resultTypes = #[tb]) (htb:P.underlying tb=some .bool) (hfn:(s.fn H ds).results=[.lit (.bool true)]) (hargs:(s.fn H ds).args=ds) (hvars:(s.fn H ds).vars=[]) :
 s.post enc P f false true false false W args (.bool true) W':=by
 have hW':=hW
 obtain ⟨p,q,hA,hV,rfl,_,_⟩:=hW
 rw [hs] at hV
 obtain ⟨rfl,rfl⟩:=trodVars_none hV
 have hlt:∀ x∈p,x.block < W.heap.size:=fun x hx=>hW'.lt x (by simpa using hx)
 rw [List.append_nil] at hW'
 refine ⟨ds,[],p,[],p,[],hW',?_,?_,?_,Below.frame ⟨he.os,he.tape,he.output,he.size,he.block⟩ _,fun h=>by cases h⟩
 · rw [List.append_nil,hfn,hres]
   exact trodAll_mk1 (shut_bool htb _)
 · rw [List.append_nil,hargs]
   exact trodAll_stays hl he hr hlt hA
 · rw [List.append_nil,hvars,hs]
   exact rfl
end
end Go.Sw
namespace Go.Proofs.YtdfhjlggcdemhaaGreat
open Sw
open Go.ChangeShapes Go.WideShapes Go.RowKit Go.ChangeAt Go.Deep
theorem cellsTerm:Pg.cellsOf 121=2:=by kernel_rfl
theorem cellsCase:Pg.cellsOf 116=3:=by kernel_rfl
theorem cellsSize:Pg.cellsOf 35=2:=by kernel_rfl
theorem cellsField:Pg.cellsOf 38=15:=by kernel_rfl
theorem cellsMessage:Pg.cellsOf 44=2:=by kernel_rfl
theorem cellsDefinition:Pg.cellsOf 24=3:=by kernel_rfl
theorem cellsString:Pg.cellsOf 9=1:=by kernel_rfl
theorem cellsInt:Pg.cellsOf 3=1:=by kernel_rfl
theorem cellsBool:Pg.cellsOf 4=1:=by kernel_rfl
theorem cellsKind:Pg.cellsOf 32=1:=by kernel_rfl
theorem cellsTerms:Pg.cellsOf 33=1:=by kernel_rfl
theorem cellsCases:Pg.cellsOf 36=1:=by kernel_rfl
theorem cellsFields:Pg.cellsOf 42=1:=by kernel_rfl
theorem bytesTerm:1≤Pg.bytesOf 121:=Nat.le_of_ble_eq_true (by kernel_rfl)
theorem bytesCase:1≤Pg.bytesOf 116:=Nat.le_of_ble_eq_true (by kernel_rfl)
theorem bytesField:1≤Pg.bytesOf 38:=Nat.le_of_ble_eq_true (by kernel_rfl)
theorem bytesMessage:1≤Pg.bytesOf 44:=Nat.le_of_ble_eq_true (by kernel_rfl)
def FieldSm (f:FieldD):Prop:=f.terms.length≤140737488355328∧f.cases.length≤140737488355328∧∀ c∈f.cases,c.of.size≤140737488355328
def MsgSm (m:MsgD):Prop:=m.fields.length≤140737488355328∧∀ f∈m.fields,FieldSm f
def DefSm (d:DefD):Prop:=d.msgs.length≤140737488355328∧∀ m∈d.msgs,MsgSm m
theorem cellsMessages:Pg.cellsOf 22=1:=by kernel_rfl
section
variable {H:Type} {enc:TypeId×Value→H} {w:World} {base:Nat} {spare:Nat→Bool} {held:Bool}
theorem term_of {m:Nat} {cs:List Value} {y:DataW H×List MemPlace} (h:DataW.trod enc Pg w base spare held m 121 cs=some y) (hr:Reached Pg 121 y.1):∃ x,ETerm w cs x:=by
 obtain ⟨hl,n,hf⟩:=struct_of_trod Tryz.underlying121 cellsTerm h hr
 obtain ⟨y0,h0,r0⟩:=hf 0 9 0 1 rfl cellsString
 obtain ⟨y1,h1,r1⟩:=hf 1 3 1 1 rfl cellsInt
 match cs,hl with
 | [c0,c1],_ =>
  obtain ⟨s,e0,_⟩:=DataW.trod_string Tryz.underlying9 h0
  obtain ⟨k,e1,_⟩:=DataW.trod_int Tryz.underlying3 h1
  simp at e0 e1
  subst e0 e1
  exact ⟨⟨s,k⟩,rfl⟩
theorem case_of {m:Nat} {cs:List Value} {y:DataW H×List MemPlace} (h:DataW.trod enc Pg w base spare held m 116 cs=some y) (hr:Reached Pg 116 y.1):∃ x,ECase w cs x∧x.of.size≤140737488355328:=by
 obtain ⟨hl,n,hf⟩:=struct_of_trod Tryz.underlying116 cellsCase h hr
 obtain ⟨y0,h0,r0⟩:=hf 0 3 0 1 rfl cellsInt
 obtain ⟨y1,h1,r1⟩:=hf 1 3 1 1 rfl cellsInt
 obtain ⟨y2,h2,r2⟩:=hf 2 9 2 1 rfl cellsString
 match cs,hl with
 | [c0,c1,c2],_ =>
  obtain ⟨a,e0,_⟩:=DataW.trod_int Tryz.underlying3 h0
  obtain ⟨b,e1,_⟩:=DataW.trod_int Tryz.underlying3 h1
  obtain ⟨s,e2,e3,_⟩:=DataW.trod_string Tryz.underlying9 h2
  simp at e0 e1 e2
  subst e0 e1 e2
  refine ⟨⟨a,b,s⟩,rfl,?_⟩
  have:=r2 s.data.toList.length (by rw [e3];exact List.mem_singleton.2 rfl)
  simp only [reachBytes] at this
  have h4:s.size=s.data.toList.length:=Array.length_toList.symm
  show s.size≤_
  omega
theorem size_of {m:Nat} {cs:List Value} {y:DataW H×List MemPlace} (h:DataW.trod enc Pg w base spare held m 35 cs=some y) (hr:Reached Pg 35 y.1):∃ b tv ts,cs=[.int .i64 b,tv]∧TermsOf w tv ts∧ts.length≤140737488355328:=by
 obtain ⟨hl,n,hf⟩:=struct_of_trod Tryz.underlying35 cellsSize h hr
 obtain ⟨y0,h0,r0⟩:=hf 0 3 0 1 rfl cellsInt
 obtain ⟨y1,h1,r1⟩:=hf 1 33 1 1 rfl cellsTerms
 match cs,hl with
 | [c0,c1],_ =>
  obtain ⟨a,e0,_⟩:=DataW.trod_int Tryz.underlying3 h0
  obtain ⟨v,l,e1,hS,_,hL⟩:=slice_of_trod (E:=ETerm) (Q:=fun _=>True) Tryz.underlying33 cellsTerm bytesTerm (by decide) (fun _ _ _ h hr=>let ⟨x,hx⟩:=term_of h hr; ⟨x,hx,trivial⟩) h1 r1
  simp at e0 e1
  subst e0 e1
  exact ⟨a,_,l,rfl,hS,hL⟩
theorem field_of {m:Nat} {cs:List Value} {y:DataW H×List MemPlace} (h:DataW.trod enc Pg w base spare held m 38 cs=some y) (hr:Reached Pg 38 y.1):∃ x,EField w cs x∧FieldSm x:=by
 obtain ⟨hl,n,hf⟩:=struct_of_trod Tryz.underlying38 cellsField h hr
 obtain ⟨y0,h0,r0⟩:=hf 0 9 0 1 rfl cellsString
 obtain ⟨y1,h1,r1⟩:=hf 1 32 1 1 rfl cellsKind
 obtain ⟨y2,h2,r2⟩:=hf 2 3 2 1 rfl cellsInt
 obtain ⟨y3,h3,r3⟩:=hf 3 4 3 1 rfl cellsBool
 obtain ⟨y4,h4,r4⟩:=hf 4 4 4 1 rfl cellsBool
 obtain ⟨y5,h5,r5⟩:=hf 5 3 5 1 rfl cellsInt
 obtain ⟨y6,h6,r6⟩:=hf 6 3 6 1 rfl cellsInt
 obtain ⟨y7,h7,r7⟩:=hf 7 35 7 2 rfl cellsSize
 obtain ⟨y8,h8,r8⟩:=hf 8 9 9 1 rfl cellsString
 obtain ⟨y9,h9,r9⟩:=hf 9 9 10 1 rfl cellsString
 obtain ⟨y10,h10,r10⟩:=hf 10 9 11 1 rfl cellsString
 obtain ⟨y11,h11,r11⟩:=hf 11 36 12 1 rfl cellsCases
 obtain ⟨y12,h12,r12⟩:=hf 12 3 13 1 rfl cellsInt
 obtain ⟨y13,h13,r13⟩:=hf 13 3 14 1 rfl cellsInt
 match cs,hl with
 | [c0,c1,c2,c3,c4,c5,c6,c7,c8,c9,c10,c11,c12,c13,c14],_ =>
  obtain ⟨x0,e0,_⟩:=DataW.trod_string Tryz.underlying9 h0
  obtain ⟨x1,e1,_⟩:=DataW.trod_int Tryz.underlying32 h1
  obtain ⟨x2,e2,_⟩:=DataW.trod_int Tryz.underlying3 h2
  obtain ⟨x3,e3,_⟩:=DataW.trod_bool Tryz.underlying4 h3
  obtain ⟨x4,e4,_⟩:=DataW.trod_bool Tryz.underlying4 h4
  obtain ⟨x5,e5,_⟩:=DataW.trod_int Tryz.underlying3 h5
  obtain ⟨x6,e6,_⟩:=DataW.trod_int Tryz.underlying3 h6
  obtain ⟨x7,tv,ts,e7,hT,hTl⟩:=size_of h7 r7
  obtain ⟨x9,e9,_⟩:=DataW.trod_string Tryz.underlying9 h8
  obtain ⟨x10,e10,_⟩:=DataW.trod_string Tryz.underlying9 h9
  obtain ⟨x11,e11,_⟩:=DataW.trod_string Tryz.underlying9 h10
  obtain ⟨cv,l,e12,hC,hCq,hCl⟩:=slice_of_trod (E:=ECase) (Q:=fun c=>c.of.size≤140737488355328) Tryz.underlying36 cellsCase bytesCase (by decide) (fun _ _ _ h hr=>case_of h hr) h11 r11
  obtain ⟨x13,e13,_⟩:=DataW.trod_int Tryz.underlying3 h12
  obtain ⟨x14,e14,_⟩:=DataW.trod_int Tryz.underlying3 h13
  simp at e0 e1 e2 e3 e4 e5 e6 e7 e9 e10 e11 e12 e13 e14
  obtain ⟨e7,e8⟩:=e7
  subst e0 e1 e2 e3 e4 e5 e6 e7 e8 e9 e10 e11 e12 e13 e14
  exact ⟨⟨x0,x1,x2,x3,x4,x5,x6,x7,ts,x9,x10,x11,l,x13,x14⟩,⟨_,_,rfl,hT,hC⟩,hTl,hCl,hCq⟩
theorem msg_of {m:Nat} {cs:List Value} {y:DataW H×List MemPlace} (h:DataW.trod enc Pg w base spare held m 44 cs=some y) (hr:Reached Pg 44 y.1):∃ x,EMsg w cs x∧MsgSm x:=by
 obtain ⟨hl,n,hf⟩:=struct_of_trod Tryz.underlying44 cellsMessage h hr
 obtain ⟨y0,h0,r0⟩:=hf 0 9 0 1 rfl cellsString
 obtain ⟨y1,h1,r1⟩:=hf 1 42 1 1 rfl cellsFields
 match cs,hl with
 | [c0,c1],_ =>
  obtain ⟨a,e0,_⟩:=DataW.trod_string Tryz.underlying9 h0
  obtain ⟨v,l,e1,hS,hQ,hL⟩:=slice_of_trod (E:=EField) (Q:=FieldSm) Tryz.underlying42 cellsField bytesField (by decide) (fun _ _ _ h hr=>field_of h hr) h1 r1
  simp at e0 e1
  subst e0 e1
  exact ⟨⟨a,l⟩,⟨_,rfl,hS⟩,hL,hQ⟩
theorem def_of {m:Nat} {cs:List Value} {y:DataW H×List MemPlace} (h:DataW.trod enc Pg w base spare held m 24 cs=some y) (hr:Reached Pg 24 y.1):∃ d mv,cs=defCells d mv∧MsgsOf w mv d.msgs∧DefSm d:=by
 obtain ⟨hl,n,hf⟩:=struct_of_trod Tryz.underlying24 cellsDefinition h hr
 obtain ⟨y0,h0,r0⟩:=hf 0 9 0 1 rfl cellsString
 obtain ⟨y1,h1,r1⟩:=hf 1 22 1 1 rfl cellsMessages
 obtain ⟨y2,h2,r2⟩:=hf 2 9 2 1 rfl cellsString
 match cs,hl with
 | [c0,c1,c2],_ =>
  obtain ⟨a,e0,_⟩:=DataW.trod_string Tryz.underlying9 h0
  obtain ⟨v,l,e1,hS,hQ,hL⟩:=slice_of_trod (E:=EMsg) (Q:=MsgSm) Tryz.underlying22 cellsMessage bytesMessage (by decide) (fun _ _ _ h hr=>msg_of h hr) h1 r1
  obtain ⟨b,e2,_⟩:=DataW.trod_string Tryz.underlying9 h2
  simp at e0 e1 e2
  subst e0 e1 e2
  exact ⟨⟨a,l,b⟩,_,rfl,hS,hL,hQ⟩
theorem def_val {r:Reach} {b0:Nat} {v:Value} {d:DataW H} {ps:List MemPlace} (hval:Value.okWide Pg w r b0 24 v) (h:DataW.Trod enc Pg w base spare held 24 v d ps) (hr:Reached Pg 24 d):∃ f,DefVal w v f∧DefSm f:=by
 obtain ⟨cs,rfl,_⟩:=okWide_struct Tryz.underlying24 hval
 obtain ⟨fuel,hf⟩:=h
 obtain ⟨f,tv,h1,h2,hs⟩:=def_of hf hr
 exact ⟨f,⟨tv,congrArg Value.agg (by rw [← h1,cells_agg]),h2⟩,hs⟩
end
end Go.Proofs.YtdfhjlggcdemhaaGreat
namespace Go.Proofs.YtdfhjlggcdemhaaGreat
open Sw
open Go.RowKit (intOf Below)
def sumF (l:List MsgD):Nat:=(l.map fun m=>m.fields.length).sum
def okF (f:FieldD):Prop:=f.cases.length≤50∧f.terms.length≤10
def fitsP (d:DefD):Prop:=d.msgs.length≤70∧sumF d.msgs≤400∧∀ m∈d.msgs,∀ f∈m.fields,okF f
theorem sumF_take {l:List MsgD} {k:Nat} {x:MsgD} (hx:l[k]?=some x):sumF (l.take (k+1))=sumF (l.take k)+x.fields.length:=by
 rw [take_snoc hx];simp [sumF]
theorem le_sumF {l:List MsgD} {m:MsgD} (h:m∈l):m.fields.length≤sumF l:=by
 unfold sumF
 induction l with
 | nil=>cases h
 | cons a l ih =>
  rcases List.mem_cons.1 h with rfl | h
  · simp
  · have:=ih h;simp at this ⊢;omega
theorem forall_take {α:Type} {p:α→Prop} {l:List α} {k:Nat} {x:α} (h:∀ y∈l.take k,p y) (hx:l[k]?=some x) (hp:p x):∀ y∈l.take (k+1),p y:=by
 rw [take_snoc hx]
 intro y hy
 rcases List.mem_append.1 hy with hy | hy
 · exact h y hy
 · simp only [List.mem_singleton] at hy;subst hy;exact hp
theorem refsF_len {f:FieldD} (h:okF f):(refsF f).length≤50:=by
 unfold refsF
 split
 · simp
 · split
   · simpa using h.1
   · simp
theorem allRefs_len:∀ {l:List FieldD},(∀ f∈l,okF f)→(allRefs l).length≤l.length*50
 | [],_=>by simp [allRefs]
 | f::l,h=>by
  have h1:=refsF_len (h f (List.mem_cons_self ..))
  have h2:=allRefs_len (l:=l) (fun g hg=>h g (List.mem_cons_of_mem _ hg))
  unfold allRefs at *
  rw [List.flatMap_cons,List.length_append,List.length_cons]
  omega
theorem fits_calm {d:DefD} (h:fitsP d):calm d:=fun m hm=>by
 have h1:=le_sumF hm
 have h2:=h.2.1
 have h3:=allRefs_len (h.2.2 m hm)
 exact ⟨by omega,fun f hf=>by have:=(h.2.2 m hm f hf).2;omega⟩
theorem fits_tame {d:DefD} (h:fitsP d):tame d:=⟨by have:=h.1;omega,fun m hm=>⟨by have:=le_sumF hm;have:=h.2.1;omega,fun f hf=>⟨by have:=(h.2.2 m hm f hf).2;omega,by have:=(h.2.2 m hm f hf).1;omega⟩⟩⟩
def n7c1 (t6 t23:Value) (next3:KV) (R:RT) (w:World):Prop :=
 X0 42 t23 t6 R w fun t38 w =>
 F0 38 t38 11 R w fun t39 w =>
 L0 36 t39 R w fun t40 w =>
 opV Pg (Builtin.len_ #[36] 3 #[t40]) (panK R) w fun t41 w =>
 B0 .gtr 3 true t41 (.int .i64 50) R w fun t42 w =>
 joinK (fun (t51:Value) (w:World) =>
 pickK t42 (.bool true) t51 fun t52 =>
 condP t52 (
 R (.returned (.bool false)) w) (
 B0 .add 3 true t6 (.int .i64 1) R w fun t35 w =>
 next3 t35 w)) fun K4 =>
 guardP t42 false (
 X0 42 t23 t6 R w fun t46 w =>
 F0 38 t46 7 R w fun t47 w =>
 F0 35 t47 1 R w fun t48 w =>
 L0 33 t48 R w fun t49 w =>
 opV Pg (Builtin.len_ #[33] 3 #[t49]) (panK R) w fun t50 w =>
 B0 .gtr 3 true t50 (.int .i64 10) R w fun t51 w =>
 K4 t51 w) (
 K4 undef w)
def n7c2 (t4 t6 t23 t27:Value) (next1:KW) (next3:KV) (R:RT) (w:World):Prop :=
 opV Pg (Builtin.len_ #[42] 3 #[t23]) (panK R) w fun t32 w =>
 B0 .lss 3 false t6 t32 R w fun t33 w =>
 condP t33 (
 n7c1 t6 t23 next3 R w) (
 B0 .add 3 true t4 (.int .i64 1) R w fun t17 w =>
 next1 t27 t17 w)
def n7c3 (t1:Value) (R:RT) (w:World):Prop :=
 F0 24 t1 1 R w fun t53 w =>
 L0 22 t53 R w fun t54 w =>
 opV Pg (Builtin.len_ #[22] 3 #[t54]) (panK R) w fun t55 w =>
 B0 .leq 3 true t55 (.int .i64 70) R w fun t56 w =>
 R (.returned t56) w
def n7c4 (t1 t3 t4:Value) (next1:KW) (R:RT) (w:World):Prop :=
 F0 24 t1 1 R w fun t18 w =>
 L0 22 t18 R w fun t19 w =>
 X0 22 t19 t4 R w fun t21 w =>
 F0 44 t21 1 R w fun t22 w =>
 L0 42 t22 R w fun t23 w =>
 opV Pg (Builtin.len_ #[42] 3 #[t23]) (panK R) w fun t26 w =>
 B0 .add 3 false t3 t26 R w fun t27 w =>
 B0 .gtr 3 true t27 (.int .i64 400) R w fun t29 w =>
 condP t29 (
 R (.returned (.bool false)) w) (
 loop1 (fun t6 w next3 =>
 n7c2 t4 t6 t23 t27 next1 next3 R w) (.int .i64 0) w)
def n7c5 (t1 t3 t4:Value) (next1:KW) (R:RT) (w:World):Prop :=
 F0 24 t1 1 R w fun t8 w =>
 L0 22 t8 R w fun t9 w =>
 opV Pg (Builtin.len_ #[22] 3 #[t9]) (panK R) w fun t10 w =>
 B0 .lss 3 false t4 t10 R w fun t11 w =>
 joinK (fun (t14:Value) (w:World) =>
 pickK t11 t14 (.bool false) fun t15 =>
 condP t15 (
 n7c4 t1 t3 t4 next1 R w) (
 n7c3 t1 R w)) fun K2 =>
 guardP t11 true (
 B0 .leq 3 true t4 (.int .i64 70) R w fun t14 w =>
 K2 t14 w) (
 K2 undef w)
def n7 (t0:Value) (R:RT) (w:World):Prop :=
 opV Pg (Instr.box 24 t0) (panK R) w fun t1 w =>
 loop2 (fun t3 t4 w next1 =>
 n7c5 t1 t3 t4 next1 R w) (.int .i64 0) (.int .i64 0) w
set_option maxHeartbeats 40000000 in
theorem n7s {t0:Value} {R:RT} {w:World} (h:n7 t0 R w):Calls Pg 31 #[t0] w R:=by
 refine yD Tryz.func31 ?_
 refine zs<|zr<|yv h fun _ w h=>zm<|zn<|zk<|zs<|zr<|zm<|zn<|zk<|zs<|zs<|zr<|zm ?_
 refine zn<|zk<|sim_block<|yl2 [2,3,4,5,6,7,8,9,10,11,12,13,14,15,16,17,18,19,20,21,22,23,24,25,26,27,28,29,30,31,32,33,34,35,36,37,38,39,40,41,42,43,44,45,46,47,48,49,50,51,52] 3 4 h fun σ w next h=>zs<|zs<|sim_regionG<|yG 6<|zm<|yv h fun _ w h=>yv h fun _ w h=>yx h fun _ w h=>yb h fun _ w h=>zm<|zn ?_
 refine yg1 2 5 true [13,14] 14 h (fun _ T hT h=>?_) fun σ w h=>?_
 · refine zm<|yb h fun _ w h=>zn ?_
   exact zt hT h
 refine yG 1<|yp h fun _ h=>zn<|sim_end<|zk<|yC h (fun h=>?_) fun h=>?_
 · refine sim_skip<|zk<|zs<|sim_block<|zs<|zr<|yv h fun _ w h=>yv h fun _ w h=>zm<|yv h fun _ w h=>yv h fun _ w h=>yv h fun _ w h=>zm<|zn<|zk ?_
   refine zs<|zr<|zm<|zm<|yx h fun _ w h=>yb h fun _ w h=>zm<|zn<|zk<|zs<|zs<|zr<|zm<|yb h fun _ w h=>zn ?_
   refine zk<|yC h (fun h=>zs<|zr<|zm<|zn<|zk<|sim_ret<|sim_then_ret<|sim_block_ret<|sim_then_ret<|sim_then_ret<|sim_block_ret<|sim_then_ret<|body_ret1 rfl rfl h) fun h=>sim_skip<|zk<|zs<|zr<|zm<|zn<|zk<|sim_block<|yl1 [2,6,30,31,32,33,34,35,36,37,38,39,40,41,42,43,44,45,46,47,48,49,50,51,52] 6 h fun σ w next h=>zs<|zs<|zr ?_
   refine zm<|zm<|yx h fun _ w h=>yb h fun _ w h=>zn<|zk<|yC h (fun h=>?_) fun h=>?_
   · refine sim_skip<|zk<|zs<|sim_block<|zs<|sim_regionG<|yG 8<|zm<|zm<|yv h fun _ w h=>yv h fun _ w h=>yv h fun _ w h=>yx h fun _ w h=>yb h fun _ w h=>zm ?_
     refine zn<|yg1 8 7 false [44,45,46,47,48,49,50,51] 51 h (fun _ T hT h=>?_) fun σ w h=>?_
     · refine zm<|zm<|yv h fun _ w h=>yv h fun _ w h=>yv h fun _ w h=>yv h fun _ w h=>yx h fun _ w h=>yb h fun _ w h=>zn ?_
       exact zt hT h
     refine yG 1<|yp h fun _ h=>zn<|sim_end<|zk<|yC h (fun h=>?_) fun h=>?_
     · refine zs<|zr<|zm<|zn<|zk<|sim_ret<|sim_block_ret<|sim_then_ret<|sim_then_ret<|sim_block_ret<|sim_block_ret<|sim_then_ret<|sim_then_ret<|sim_block_ret<|sim_then_ret ?_
       exact body_ret1 rfl rfl h
     exact sim_skip<|sim_block_normal<|zk<|zr<|zm<|yb h fun _ w h=>zm<|zn<|zk<|⟨rfl,h⟩
   exact sim_exit<|sim_then_exit<|sim_then_exit<|sim_block_hit<|sim_block_normal<|zk<|zr<|zm<|yb h fun _ w h=>zm<|zn<|zk<|⟨rfl,h⟩
 refine sim_exit<|sim_then_exit<|sim_then_exit<|sim_block_hit<|zk<|zs<|zr<|yv h fun _ w h=>yv h fun _ w h=>yx h fun _ w h=>yb h fun _ w h=>zm<|zn<|zk<|sim_ret ?_
 exact body_ret1 rfl rfl h
theorem fits08_ret (w0:World) (v:Value) (d:DefD) (hd:DefVal w0 v d) (hs:DefSm d):Ret Pg 31 #[v] w0 fun r w'=>∃ b,r = .bool b∧(b=true→fitsP d)∧Ext w0 w':=by
 obtain ⟨mv,rfl,hM⟩:=hd
 obtain ⟨A,c,rfl,hlc,hcm,hlm,hel⟩:=SliceOf.open hM
 refine n7s (R:=retR _) ?_;unfold n7
 simp (disch:=try exact DI) only [↓PR,QR,simprocAttr]
 have hBW:=ElemAt.new (w:=w0) (defCells d (.slice A d.msgs.length c)) (24)
 have eW:Ext w0 (w0.alloc (Obj.cells (List.toArray (defCells d (.slice A d.msgs.length c))) (24))):=(Ext.refl _).alloc _
 generalize (w0.alloc (Obj.cells (List.toArray (defCells d (.slice A d.msgs.length c))) (24)))=W at hBW eW ⊢
 refine loop2_intro (fun a0 a1 w=>∃ (k:Nat) , a0 = .int .i64 (sumF (d.msgs.take k):Nat)∧a1 = .int .i64 (k:Int)∧k≤d.msgs.length∧Ext W w∧sumF (d.msgs.take k)≤400∧∀ m∈d.msgs.take k,∀ f∈m.fields,okF f) (fun a0 a1 _=>d.msgs.length - (intOf a1).toNat) ⟨0,rfl,rfl,Nat.zero_le _,ee,⟨by simp [sumF],by simp⟩⟩ ?_
 rintro _ _ w ⟨k,rfl,rfl,hk,e,hI⟩
 have se:=e.size
 rcases drop_cases hk with ⟨x,hx,hd,hlt,hdec⟩ | ⟨hk,hd,hdec⟩
 · obtain ⟨h400,hok⟩:=hI
   obtain ⟨b,o,cs,rfl,hl,hA,fv,rfl,hF⟩:=hel k x hx
   obtain ⟨A2,c2,rfl,hlc2,hcm2,hlm2,hel2⟩:=SliceOf.open hF
   have hxm:=List.mem_of_getElem? hx
   have hsx:=hs.2 x hxm
   have hx1:=hsx.1
   have e':=eW.trans e
   unfold n7c5
   by_cases hk70:k≤70
   · have d1:decide ((k:Int)≤70)=true:=by simp;omega
     simp (disch:=try exact DI) only [↓PR,QR,simprocAttr,hBW.c3,hdec,d1]
     unfold n7c4
     have hwr:IntKind.i64.wrap ((sumF (d.msgs.take k):Int)+(x.fields.length:Int))=((sumF (d.msgs.take (k+1)):Nat):Int):=by
      rw [sumF_take hx,wrap_ok (by omega) (by omega)];omega
     by_cases hn:sumF (d.msgs.take (k+1))≤400
     · have d2:decide (((sumF (d.msgs.take (k+1)):Nat):Int) > 400)=false:=by simp;omega
       simp (disch:=try exact DI) only [↓PR,QR,simprocAttr,hBW.c3,(hA.c2 e').1,(hA.c2 e').2,hwr,d2]
       rw [hwr]
       refine loop1_intro (fun a0 wb=>∃ (kb:Nat) , a0 = .int .i64 (kb:Int)∧kb≤x.fields.length∧Ext w wb∧∀ f∈x.fields.take kb,okF f) (fun a0 _=>x.fields.length - (intOf a0).toNat) ⟨0,rfl,Nat.zero_le _,ee,by simp⟩ ?_
       rintro _ wb ⟨kb,rfl,hkb,eb,hIb⟩
       have seb:=eb.size
       rcases drop_cases hkb with ⟨xb,hxb,hdb,hltb,hdecb⟩ | ⟨hkb,hdb,hdecb⟩
       · obtain ⟨b2,o2,cs2,rfl,hl2,hA2,hE2⟩:=hel2 kb xb hxb
         obtain ⟨tv,cv,rfl,hT,hC,ht1,hc1⟩:=hE2.op
         obtain ⟨A3,c3,rfl,hlc3,hcm3,hlm3,hel3⟩:=SliceOf.open hC
         obtain ⟨A4,c4,rfl,hlc4,hcm4,hlm4,hel4⟩:=SliceOf.open hT
         have eb':=e'.trans eb
         unfold n7c2
         simp (disch:=try exact DI) only [↓PR,QR,simprocAttr,hdecb]
         unfold n7c1
         have hcell:=hA2.c15 eb'
         by_cases hc50:xb.cases.length≤50
         · have d3:decide ((xb.cases.length:Int) > 50)=false:=by simp;omega
           by_cases ht10:xb.terms.length≤10
           · have d4:decide ((xb.terms.length:Int) > 10)=false:=by simp;omega
             simp (disch:=try exact DI) only [↓PR,QR,simprocAttr,hcell,d3,d4]
             exact ⟨⟨kb+1,rfl,by omega,ee,forall_take hIb hxb ⟨hc50,ht10⟩⟩,meas_lt hltb⟩
           · have d4:decide ((xb.terms.length:Int) > 10)=true:=by simp;omega
             simp (disch:=try exact DI) only [↓PR,QR,simprocAttr,hcell,d3,d4]
             exact ⟨false,rfl,by simp,ee⟩
         · have d3:decide ((xb.cases.length:Int) > 50)=true:=by simp;omega
           simp (disch:=try exact DI) only [↓PR,QR,simprocAttr,hcell,d3]
           exact ⟨false,rfl,by simp,ee⟩
       · subst hkb
         rw [List.take_length] at hIb
         unfold n7c2
         simp (disch:=try exact DI) only [↓PR,QR,simprocAttr,hdecb]
         exact ⟨⟨k+1,rfl,rfl,by omega,ee,⟨hn,forall_take hok hx hIb⟩⟩,meas_lt hlt⟩
     · have d2:decide (((sumF (d.msgs.take (k+1)):Nat):Int) > 400)=true:=by simp;omega
       simp (disch:=try exact DI) only [↓PR,QR,simprocAttr,hBW.c3,(hA.c2 e').1,(hA.c2 e').2,hwr,d2]
       exact ⟨false,rfl,by simp,ee⟩
   · have d1:decide ((k:Int)≤70)=false:=by simp;omega
     have d2:decide ((d.msgs.length:Int)≤70)=false:=by simp;omega
     simp (disch:=try exact DI) only [↓PR,QR,simprocAttr,hBW.c3,hdec,d1,n7c3,d2]
     exact ⟨false,rfl,by simp,ee⟩
 · subst hk
   obtain ⟨h400,hok⟩:=hI
   rw [List.take_length] at h400 hok
   unfold n7c5
   simp (disch:=try exact DI) only [↓PR,QR,simprocAttr,hBW.c3,hdec,n7c3]
   exact ⟨_,rfl,fun hb=>⟨by have:=of_decide_eq_true hb;omega,h400,hok⟩,ee⟩
def zeroS:FieldD:={ name:=ByteArray.empty,kind:=0,bits:=0,little:=false,loose:=false,low:=0,high:=0,base:=0,terms:=[],of:=ByteArray.empty,tag:=ByteArray.empty,fr:=ByteArray.empty,cases:=[],check:=0,key:=0 }
def sA:List FieldD:=[{ zeroS with name:=⟨#[110]⟩,kind:=1,bits:=8,high:=3 },{ zeroS with name:=⟨#[98]⟩,kind:=4,terms:=[⟨⟨#[110]⟩,1⟩] }]
def sM:List FieldD:=[{ zeroS with name:=⟨#[116]⟩,kind:=1,bits:=3,high:=2 },{ zeroS with name:=⟨#[112]⟩,kind:=10,bits:=8 },{ zeroS with name:=⟨#[118]⟩,kind:=3,high:=300 },{ zeroS with name:=⟨#[108]⟩,kind:=7,of:=⟨#[97]⟩,base:=1,terms:=[⟨⟨#[116]⟩,1⟩] },{ zeroS with name:=⟨#[107]⟩,kind:=11,check:=3,fr:=⟨#[116]⟩ }]
def sD:DefD:=⟨⟨#[100]⟩,[⟨⟨#[97]⟩,sA⟩,⟨⟨#[109]⟩,sM⟩],⟨#[109]⟩⟩
abbrev encS (p q:Nat) (f:FieldD):List Value:=fieldCells f (if f.kind=4 then .slice (some ⟨p,0,none⟩) 1 1 else if f.kind=7 then .slice (some ⟨q,0,none⟩) 1 1 else .slice none 0 0) (.slice none 0 0)
theorem flat_len {α β:Type} {n:Nat} {enc:α→List β} (hn:∀ x,(enc x).length=n) (l:List α):(l.flatMap enc).length=l.length*n:=by
 induction l with
 | nil=>simp
 | cons a l ih=>rw [List.flatMap_cons,List.length_append,ih,hn,List.length_cons,Nat.add_mul];omega
theorem row_of {α:Type} {w:World} {b n k:Nat} {E:World→List Value→α→Prop} {enc:α→List Value} {T:TypeId} (l:List α) (h:w.heap[b]?=some (.cells (l.flatMap enc).toArray T (0,0))) (hk:k=l.length) (hl:l.length≤1048576) (hn:∀ x,(enc x).length=n) (hE:∀ x,x∈l→E w (enc x) x):SliceOf w n E (.slice (some ⟨b,0,none⟩) k k) l:=by
 subst hk
 refine OwnE.slice (base:=0) (T:=T) (enc:=enc) ⟨?_,.inr ⟨b,l.length,(l.flatMap enc).toArray,rfl,Nat.zero_le _,h,Nat.le_refl _,by simp only [maxLen];omega,?_,?_⟩⟩ hn hE
 · exact flat_len hn l
 · rw [List.size_toArray];exact flat_len hn l
 · rw [List.take_of_length_le (by rw [flat_len hn l];exact Nat.le_refl _)]
abbrev encM (p q:Nat) (m:MsgD):List Value:=msgCells m (if m.name=⟨#[97]⟩ then .slice (some ⟨p,0,none⟩) 2 2 else .slice (some ⟨q,0,none⟩) 5 5)
theorem given08_ret (w0:World):Ret Pg 61 #[] w0 fun r w'=>DefVal w' r sD∧Ext w0 w':=by
 refine n8s (R:=retR _) ?_;unfold n8
 simp (disch:=try exact DI) only [↓PR,QR,Int.reduceBEq,Int.reduceBNe,Int.reduceLT,Int.reduceLE,Int.reduceGT,Int.reduceGE,Int.reduceNeg]
 generalize hF:World.alloc (World.alloc _ _) _=F
 have e0:Ext w0 F:=by rw [← hF];exact ee
 have o1:F.heap[w0.heap.size+1]?=some (.cells (([⟨⟨#[110]⟩,1⟩]:List TermD).flatMap termCells).toArray 121 (0,0)):=by rw [← hF];simp (disch:=try exact DI) only [↓PR,QR,Int.reduceBEq,Int.reduceBNe,Int.reduceLT,Int.reduceLE,Int.reduceGT,Int.reduceGE,Int.reduceNeg];rfl
 have o3:F.heap[w0.heap.size+1+1+1]?=some (.cells (([⟨⟨#[116]⟩,1⟩]:List TermD).flatMap termCells).toArray 121 (0,0)):=by rw [← hF];simp (disch:=try exact DI) only [↓PR,QR,Int.reduceBEq,Int.reduceBNe,Int.reduceLT,Int.reduceLE,Int.reduceGT,Int.reduceGE,Int.reduceNeg];rfl
 have o5:F.heap[w0.heap.size+1+1+1+1+1]?=some (.cells (sA.flatMap (encS (w0.heap.size+1) (w0.heap.size+1+1+1))).toArray 38 (0,0)):=by rw [← hF];simp (disch:=try exact DI) only [↓PR,QR,Int.reduceBEq,Int.reduceBNe,Int.reduceLT,Int.reduceLE,Int.reduceGT,Int.reduceGE,Int.reduceNeg];rfl
 have o6:F.heap[w0.heap.size+1+1+1+1+1+1]?=some (.cells (sM.flatMap (encS (w0.heap.size+1) (w0.heap.size+1+1+1))).toArray 38 (0,0)):=by rw [← hF];simp (disch:=try exact DI) only [↓PR,QR,Int.reduceBEq,Int.reduceBNe,Int.reduceLT,Int.reduceLE,Int.reduceGT,Int.reduceGE,Int.reduceNeg];rfl
 have o7:F.heap[w0.heap.size+1+1+1+1+1+1+1]?=some (.cells (sD.msgs.flatMap (encM (w0.heap.size+1+1+1+1+1) (w0.heap.size+1+1+1+1+1+1))).toArray 44 (0,0)):=by rw [← hF];simp (disch:=try exact DI) only [↓PR,QR,Int.reduceBEq,Int.reduceBNe,Int.reduceLT,Int.reduceLE,Int.reduceGT,Int.reduceGE,Int.reduceNeg];rfl
 clear hF
 generalize w0.heap.size+1+1+1+1+1+1+1=p7 at o7 ⊢
 generalize w0.heap.size+1+1+1+1+1+1=p6 at o6 o7
 generalize w0.heap.size+1+1+1+1+1=p5 at o5 o7
 generalize w0.heap.size+1+1+1=p3 at o3 o5 o6
 generalize w0.heap.size+1=p1 at o1 o5 o6
 have hT1:TermsOf F (.slice (some ⟨p1,0,none⟩) 1 1) [⟨⟨#[110]⟩,1⟩]:=row_of _ o1 rfl (by decide) (fun _=>rfl) (fun _ _=>rfl)
 have hT3:TermsOf F (.slice (some ⟨p3,0,none⟩) 1 1) [⟨⟨#[116]⟩,1⟩]:=row_of _ o3 rfl (by decide) (fun _=>rfl) (fun _ _=>rfl)
 have h0:TermsOf F (.slice none 0 0) []:=SliceOf.nil _ _ _
 have c0:CasesOf F (.slice none 0 0) []:=SliceOf.nil _ _ _
 have hA:FieldsOf F (.slice (some ⟨p5,0,none⟩) 2 2) sA:=row_of sA o5 rfl (by decide) (fun _=>rfl) fun f hf=>by
  simp only [sA,List.mem_cons,List.not_mem_nil,or_false] at hf
  rcases hf with rfl | rfl
  · exact ⟨_,_,rfl,h0,c0⟩
  · exact ⟨_,_,rfl,hT1,c0⟩
 have hM:FieldsOf F (.slice (some ⟨p6,0,none⟩) 5 5) sM:=row_of sM o6 rfl (by decide) (fun _=>rfl) fun f hf=>by
  simp only [sM,List.mem_cons,List.not_mem_nil,or_false] at hf
  rcases hf with rfl | rfl | rfl | rfl | rfl
  · exact ⟨_,_,rfl,h0,c0⟩
  · exact ⟨_,_,rfl,h0,c0⟩
  · exact ⟨_,_,rfl,h0,c0⟩
  · exact ⟨_,_,rfl,hT3,c0⟩
  · exact ⟨_,_,rfl,h0,c0⟩
 refine ⟨⟨.slice (some ⟨p7,0,none⟩) 2 2,rfl,row_of sD.msgs o7 rfl (by decide) (fun _=>rfl) fun m hm=>?_⟩,e0⟩
 simp only [sD,List.mem_cons,List.not_mem_nil,or_false] at hm
 rcases hm with rfl | rfl
 · exact ⟨_,rfl,hA⟩
 · exact ⟨_,rfl,hM⟩
theorem is_ret (w0:World) (a b e lo hi:Int):Ret Pg 63 #[rangeVal a b,.int .i64 e,.int .i64 lo,.int .i64 hi] w0 fun r w'=>r = .bool (decide (a=lo)&&decide (b=hi)&&e == 0)∧Ext w0 w':=by
 refine n9s (R:=retR _) ?_;unfold n9
 simp (disch:=try exact DI) only [↓PR,QR,simprocAttr]
 exact ⟨by first | trivial | rfl,ee⟩
theorem calm_s:calm sD:=by
 intro m hm
 simp only [sD,List.mem_cons,List.not_mem_nil,or_false] at hm
 rcases hm with rfl | rfl
 · exact ⟨by decide,by decide⟩
 · exact ⟨by decide,by decide⟩
theorem sE_01:errG sD 0 1=0:=by decide +kernel
theorem sE_12:errG sD 1 2=0:=by decide +kernel
theorem sE_13:errG sD 1 3=0:=by decide +kernel
theorem sE_11:errG sD 1 1=0:=by decide +kernel
theorem sE_00:errG sD 0 0=0:=by decide +kernel
theorem sE_10:errG sD 1 0=0:=by decide +kernel
theorem sF_01:fieldV sD 0 1=(0,24):=by decide +kernel
theorem sF_12:fieldV sD 1 2=(8,16):=by decide +kernel
theorem sF_13:fieldV sD 1 3=(8,96):=by decide +kernel
theorem sP_11:posV sD 1 1=(3,3):=by decide +kernel
theorem sP_12:posV sD 1 2=(8,8):=by decide +kernel
theorem sM_0:msgV sD 0=(8,32):=by decide +kernel
theorem sM_1:msgV sD 1=(56,152):=by decide +kernel
theorem field08_true (w0:World) (i j lo hi:Int) (hE:errG sD i j=0) (hF:fieldV sD i j=(lo,hi)):Ret Pg 62 #[.int .i64 i,.int .i64 j,.int .i64 lo,.int .i64 hi] w0 fun r w'=>r = .bool true∧Ext w0 w':=by
 refine n6s (R:=retR _) ?_;unfold n6
 refine callK_ret (given08_ret _) ?_
 rintro v w1 ⟨hd,e1⟩
 refine zcr (FieldX_ret v i j hd calm_s (sound_of sD calm_s) (by decide)) fun w2 e2=>?_
 rw [hE,hF]
 unfold n6c1 getR
 rw [if_pos rfl]
 simp (disch:=try exact DI) only [↓PR,QR,simprocAttr]
 refine zcr (is_ret _ lo hi 0 lo hi) fun w3 e3=>?_
 exact ⟨_,rfl,by simp,ee⟩
theorem position08_true (w0:World) (i j lo hi:Int) (hE:errG sD i j=0) (hF:posV sD i j=(lo,hi)):Ret Pg 64 #[.int .i64 i,.int .i64 j,.int .i64 lo,.int .i64 hi] w0 fun r w'=>r = .bool true∧Ext w0 w':=by
 refine n11s (R:=retR _) ?_;unfold n11
 refine callK_ret (given08_ret _) ?_
 rintro v w1 ⟨hd,e1⟩
 refine zcr (PositionX_ret v i j hd calm_s (sound_of sD calm_s) (by decide) (by decide)) fun w2 e2=>?_
 rw [hE,hF]
 unfold n11c1 getR
 rw [if_pos rfl]
 simp (disch:=try exact DI) only [↓PR,QR,simprocAttr]
 refine zcr (is_ret _ lo hi 0 lo hi) fun w3 e3=>?_
 exact ⟨_,rfl,by simp,ee⟩
theorem known08_ret (w0:World):Ret Pg 32 #[] w0 fun r w'=>r = .bool true∧Ext w0 w':=by
 have hs:=sound_of sD calm_s
 refine n10s (R:=retR _) ?_;unfold n10
 refine callK_ret (given08_ret _) ?_
 rintro v1 w1 ⟨hd1,e1⟩
 refine zcr (MessageX_ret v1 0 hd1 calm_s hs (by decide)) fun w2 e2=>?_
 have E2:=e1.trans e2
 rw [sE_00,sM_0]
 unfold n10c13 getR
 rw [if_pos rfl]
 simp (disch:=try exact DI) only [↓PR,QR,simprocAttr]
 have eA:Ext w2 (w2.alloc (.cells #[.int .i64 8,.int .i64 32] 67)):=ee
 have oA:=heap_new w2 #[.int .i64 8,.int .i64 32] 67
 generalize (w2.alloc (.cells #[.int .i64 8,.int .i64 32] 67))=A at eA oA ⊢
 generalize w2.heap.size=pA at oA ⊢
 refine callK_ret (given08_ret _) ?_
 rintro v3 w3 ⟨hd3,e3⟩
 refine zcr (LengthX_ret v3 0 hd3 calm_s hs (by decide) (fun _=>by rw [sM_0];decide)) fun w4 e4=>?_
 have E4:=(E2.trans eA).trans (e3.trans e4)
 have xA:=(e3.trans e4).obj oA
 rw [sE_00,sM_0]
 unfold n10c12 getR
 rw [if_pos rfl]
 simp only [show ((8:Int)+7).tdiv 8=1 from rfl,show ((32:Int)+7).tdiv 8=4 from rfl]
 simp (disch:=try exact DI) only [↓PR,QR,simprocAttr]
 have eB:Ext w4 (w4.alloc (.cells #[.int .i64 1,.int .i64 4] 67)):=ee
 have oB:=heap_new w4 #[.int .i64 1,.int .i64 4] 67
 generalize (w4.alloc (.cells #[.int .i64 1,.int .i64 4] 67))=B at eB oB ⊢
 generalize w4.heap.size=pB at oB ⊢
 refine callK_ret (given08_ret _) ?_
 rintro v5 w5 ⟨hd5,e5⟩
 refine zcr (MessageX_ret v5 1 hd5 calm_s hs (by decide)) fun w6 e6=>?_
 have f6:=eB.trans (e5.trans e6)
 have E6:=E4.trans f6
 have yA:=f6.obj xA
 have xB:=(e5.trans e6).obj oB
 rw [sE_10,sM_1]
 unfold n10c11 getR
 rw [if_pos rfl]
 simp (disch:=try exact DI) only [↓PR,QR,simprocAttr]
 have eC:Ext w6 (w6.alloc (.cells #[.int .i64 56,.int .i64 152] 67)):=ee
 have oC:=heap_new w6 #[.int .i64 56,.int .i64 152] 67
 generalize (w6.alloc (.cells #[.int .i64 56,.int .i64 152] 67))=C at eC oC ⊢
 generalize w6.heap.size=pC at oC ⊢
 refine callK_ret (given08_ret _) ?_
 rintro v7 w7 ⟨hd7,e7⟩
 refine zcr (FixedX_ret v7 0 hd7 calm_s hs (by decide)) fun w8 e8=>?_
 rw [sE_00,sM_0]
 unfold n10c10
 simp (disch:=try exact DI) only [↓PR,QR,simprocAttr]
 refine zcr (field08_true _ 0 1 0 24 sE_01 sF_01) fun w9 e9=>?_
 have f9:=e7.trans (e8.trans e9)
 have E9:=(E6.trans eC).trans f9
 have zA:=(eC.trans f9).obj yA
 have zB:=(eC.trans f9).obj xB
 have zC:=f9.obj oC
 clear e1 e2 E2 eA oA e3 e4 E4 xA eB oB e5 e6 f6 E6 yA xB eC oC e7 e8 e9 f9 hd1 hd3 hd5 hd7
 simp (disch:=try exact DI) only [↓PR,QR,simprocAttr,↓n10c9,(cells_of_heap zA).1]
 refine zcr (is_ret _ 8 32 0 8 32) fun wa ea=>?_
 simp (disch:=try exact DI) only [↓PR,QR,simprocAttr,↓n10c8,(cells_of_heap (ea.obj zB)).1]
 refine zcr (is_ret _ 1 4 0 1 4) fun wb eb=>?_
 simp (disch:=try exact DI) only [↓PR,QR,simprocAttr,↓n10c7,(cells_of_heap ((ea.trans eb).obj zC)).1]
 refine zcr (is_ret _ 56 152 0 56 152) fun wc ec=>?_
 simp (disch:=try exact DI) only [↓PR,QR,simprocAttr,↓n10c6,↓n10c5,↓n10c4]
 refine zcr (position08_true _ 1 1 3 3 sE_11 sP_11) fun wd ed=>?_
 simp (disch:=try exact DI) only [↓PR,QR,simprocAttr,↓n10c3]
 refine zcr (position08_true _ 1 2 8 8 sE_12 sP_12) fun we ew=>?_
 simp (disch:=try exact DI) only [↓PR,QR,simprocAttr,↓n10c2]
 refine zcr (field08_true _ 1 2 8 16 sE_12 sF_12) fun wf ef=>?_
 simp (disch:=try exact DI) only [↓PR,QR,simprocAttr,↓n10c1]
 refine zcr (field08_true _ 1 3 8 96 sE_13 sF_13) fun wg eg=>?_
 simp (disch:=try exact DI) only [↓PR,QR,simprocAttr]
 exact ⟨by trivial,E9.trans (ea.trans (eb.trans (ec.trans (ed.trans (ew.trans (ef.trans eg))))))⟩
theorem grow_alone {w0 w:World} {da:DefD} {mv:Value} {p14 n k:Nat} (hn:da.msgs.length=n+1) (hl:n≤10) (hk:k < n) (ht:calm da) (hv:(checkP da).2.2=0→msgV da k=msgV da n) (e:Ext w0 w) (o14:DefAt w p14 da mv) :
 n5c14 (.pointer (some ⟨p14,0,none⟩)) (.int .i64 (n:Int)) (.int .i64 (k:Int)) (.bool (!flawedB da)) (retR fun r w'=>r = .bool true∧Ext w0 w') w:=by
 have fin:∀ w',Ext w0 w'→callK Pg 32 #[] (panK (retR fun r w'=>r = .bool true∧Ext w0 w')) w' fun t281 w=>(retR fun r w'=>r = .bool true∧Ext w0 w') (.returned t281) w:=by
  intro w' e'
  refine zcr (known08_ret _) fun w1 e1=>?_
  exact ⟨_,rfl,rfl,e'.trans e1⟩
 unfold n5c14
 by_cases hc:(checkP da).2.2=0
 · have hfb:flawedB da=false:=by unfold flawedB;simp [hc]
   rw [hfb]
   have hE:∀ i:Nat,i≤n→errG da i 0=0:=fun i hi=>by rw [errG_0];unfold msgE;rw [if_neg (by simp [hc]),if_neg (by omega)]
   simp (disch:=try exact DI) only [↓PR,QR,simprocAttr,(cells_of_heap o14.cell).1]
   refine zcr (MessageX_ret _ k ⟨_,rfl,o14.msgs⟩ ht (sound_of da ht) (by omega)) fun w1 e1=>?_
   rw [getR_pk,hE k (by omega),show pkR 0 (msgV da k)=msgV da k from rfl,hv hc]
   unfold n5c13
   generalize hq:msgV da n=q
   have x23:=heap_new w1 #[.int .i64 q.1,.int .i64 q.2] 67
   have eA:Ext w1 (w1.alloc (.cells #[.int .i64 q.1,.int .i64 q.2] 67)):=ee
   have o:=(o14.ext e1).ext eA
   simp (disch:=try exact DI) only [↓PR,QR,simprocAttr,(cells_of_heap o.cell).1]
   generalize (w1.alloc (.cells #[.int .i64 q.1,.int .i64 q.2] 67))=A at x23 eA o ⊢
   generalize w1.heap.size=p23 at x23 ⊢
   refine zcr (MessageX_ret _ n ⟨_,rfl,o.msgs⟩ ht (sound_of da ht) (by omega)) fun w2 e2=>?_
   rw [getR_pk,hE n (Nat.le_refl _),show pkR 0 (msgV da n)=msgV da n from rfl,hq]
   unfold n5c12
   have x25:=heap_new w2 #[.int .i64 q.1,.int .i64 q.2] 67
   have eB:Ext w2 (w2.alloc (.cells #[.int .i64 q.1,.int .i64 q.2] 67)):=ee
   have y23:=(e2.trans eB).obj x23
   have hdd:∀ n:Int,decide (n=n)=true:=fun n=>by simp
   simp (disch:=try exact DI) only [↓PR,QR,simprocAttr,(cells_of_heap y23).1,hdd,↓n5c11]
   exact fin _ (e.trans (e1.trans (eA.trans (e2.trans eB))))
 · have hfb:flawedB da=true:=by unfold flawedB;simp [hc]
   rw [hfb]
   simp (disch:=try exact DI) only [↓PR,QR,simprocAttr]
   exact fin _ e
structure Save (lo hi:Nat) (w w':World):Prop where
 os:w'.os=w.os
 tape:w'.tape=w.tape
 output:w'.output=w.output
 size:w.heap.size≤w'.heap.size
 block:∀ k,k < w.heap.size→(k < lo∨hi≤k)→w'.heap[k]?=w.heap[k]?
section
variable {lo hi:Nat} {w w' w1 w2:World}
theorem Save.refl (lo hi:Nat) (w:World):Save lo hi w w:=⟨rfl,rfl,rfl,Nat.le_refl _,fun _ _ _=>rfl⟩
theorem Save.ext (h:Save lo hi w w1) (e:Ext w1 w2):Save lo hi w w2:=⟨e.os.trans h.os,e.tape.trans h.tape,e.output.trans h.output,Nat.le_trans h.size e.size,fun k hk hb=>(e.block k (Nat.lt_of_lt_of_le hk h.size)).trans (h.block k hk hb)⟩
theorem Save.trans (h:Save lo hi w w1) (k:Save lo hi w1 w2):Save lo hi w w2:=⟨k.os.trans h.os,k.tape.trans h.tape,k.output.trans h.output,Nat.le_trans h.size k.size,fun i hi' hb=>(k.block i (Nat.lt_of_lt_of_le hi' h.size) hb).trans (h.block i hi' hb)⟩
theorem Save.setCell (h:Save lo hi w w1) {b o:Nat} (h1:lo≤b) (h2:b < hi) (v:Value):Save lo hi w (w1.setCell ⟨b,o,none⟩ v) :=
 ⟨h.os,h.tape,h.output,by rw [World.size_setCell];exact h.size,fun k hk hb=>(Only.setCell w1 b o v k (by omega)).trans (h.block k hk hb)⟩
theorem Save.obj (h:Save lo hi w w') {b:Nat} {o:Obj} (hb:w.heap[b]?=some o) (hr:b < lo∨hi≤b):w'.heap[b]?=some o:=(h.block b (Array.getElem?_eq_some_iff.1 hb).1 hr).trans hb
theorem Save.cell (h:Save lo hi w w') {b o:Nat} {v:Value} (hb:w.cell? ⟨b,o,none⟩=some v) (hr:b < lo∨hi≤b):w'.cell? ⟨b,o,none⟩=some v:=(World.cell?_of_block (h.block b (World.block_lt_of_cell? w _ hb) hr)).trans hb
theorem Save.strs (h:Save lo hi w w') {pb:Nat} {sv:Value} {l:List ByteArray} (hs:StrsAt w pb sv l) (hp:hi≤pb):StrsAt w' pb sv l:=by
 obtain ⟨h1,⟨A,c,hv,h2,h3,h4⟩,h5⟩:=hs
 refine ⟨h.cell h1 (.inr hp),⟨A,c,hv,h2,h3,fun hne=>?_⟩,h5⟩
 obtain ⟨b,o,hA,hel⟩:=h4 hne
 refine ⟨b,o,hA,fun k x hx=>?_⟩
 obtain ⟨cs,a1,a2,a3⟩:=hel k x hx
 have hb:pb < b:=h5 ⟨b,o,none⟩ _ _ (by rw [hv,hA])
 exact ⟨cs,a1,fun j v hv=>h.cell (a2 j v hv) (.inr (by omega)),a3⟩
def ShapeC (w:World) (lo hi:Nat) (cv:Value):Prop:=cv = .slice none 0 0∨∃ g len cap cur,cv = .slice (some ⟨g,0,none⟩) len cap∧lo≤g∧g < hi∧w.heap[g]?=some (.cells cur TC (0,0))∧len*3≤cur.size∧len≤1048576
def ShapeF (w:World) (lo hi:Nat) (fv:Value) (n:Nat):Prop:=(fv = .slice none 0 0∧n=0)∨∃ g cap cur,fv = .slice (some ⟨g,0,none⟩) n cap∧lo≤g∧g < hi∧w.heap[g]?=some (.cells cur TF (0,0))∧n*15≤cur.size∧∀ k,k < n→∃ cv,cur[k*15+12]?=some cv∧ShapeC w lo hi cv
theorem ShapeC.set {cv:Value} (h:ShapeC w lo hi cv) (b o:Nat) (v:Value):ShapeC (w.setCell ⟨b,o,none⟩ v) lo hi cv:=by
 rcases h with h | ⟨g,len,cap,cur,h1,h2,h3,h4,h5,h6⟩
 · exact .inl h
 · by_cases e:g=b
   · subst e
     exact .inr ⟨g,len,cap,_,h1,h2,h3,heap_set h4 v,by simpa using h5,h6⟩
   · exact .inr ⟨g,len,cap,cur,h1,h2,h3,(Only.setCell w b o v g e).trans h4,h5,h6⟩
theorem ShapeC.ext {cv:Value} (h:ShapeC w lo hi cv) (e:Ext w w'):ShapeC w' lo hi cv:=by
 rcases h with h | ⟨g,len,cap,cur,h1,h2,h3,h4,h5,h6⟩
 · exact .inl h
 · exact .inr ⟨g,len,cap,cur,h1,h2,h3,e.obj h4,h5,h6⟩
theorem ShapeF.ext {fv:Value} {n:Nat} (h:ShapeF w lo hi fv n) (e:Ext w w'):ShapeF w' lo hi fv n:=by
 rcases h with h | ⟨g,cap,cur,h1,h2,h3,h4,h5,h6⟩
 · exact .inl h
 · exact .inr ⟨g,cap,cur,h1,h2,h3,e.obj h4,h5,fun k hk=>let ⟨cv,a,b⟩:=h6 k hk; ⟨cv,a,b.ext e⟩⟩
theorem ShapeF.set {fv:Value} {n:Nat} (h:ShapeF w lo hi fv n) (b o:Nat) (v:Value) (ho:∀ T cur,w.heap[b]?=some (.cells cur T (0,0))→T=TF→o % 15≠12):ShapeF (w.setCell ⟨b,o,none⟩ v) lo hi fv n:=by
 rcases h with h | ⟨g,cap,cur,h1,h2,h3,h4,h5,h6⟩
 · exact .inl h
 · by_cases e:g=b
   · subst e
     refine .inr ⟨g,cap,_,h1,h2,h3,heap_set h4 v,by simpa using h5,fun k hk=>?_⟩
     obtain ⟨cv,a,hc⟩:=h6 k hk
     have:=ho _ _ h4 rfl
     refine ⟨cv,?_,hc.set _ _ _⟩
     rw [Array.getElem?_setIfInBounds_ne (by omega)]
     exact a
   · exact .inr ⟨g,cap,cur,h1,h2,h3,(Only.setCell w b o v g e).trans h4,h5,fun k hk=>let ⟨cv,a,c⟩:=h6 k hk; ⟨cv,a,c.set _ _ _⟩⟩
end
def Away (w:World) (lo2 hi2 lo hi:Nat) (Ts:List TypeId):Prop:=hi2≤lo∨hi≤lo2∨hi=lo+1∧∃ T',TypeAt w lo T'∧∀ T∈Ts,T'≠T
section
variable {w w':World} {lo hi lo2 hi2:Nat}
theorem Away.sub {Ts Ts':List TypeId} (h:Away w lo2 hi2 lo hi Ts) (hs:∀ T∈Ts',T∈Ts):Away w lo2 hi2 lo hi Ts':=by
 rcases h with h | h | ⟨h0,T',h1,h2⟩
 · exact .inl h
 · exact .inr (.inl h)
 · exact .inr (.inr ⟨h0,T',h1,fun T hT=>h2 T (hs T hT)⟩)
theorem own_save {α:Type} {n:Nat} {T:TypeId} {Ts:List TypeId} {enc:α→List Value} {v:Value} {l:List α} (h:OwnR w lo2 hi2 T n enc v l) (hs:Save lo hi w w') (hd:Away w lo2 hi2 lo hi Ts) (hT:T∈Ts):OwnR w' lo2 hi2 T n enc v l:=by
 refine ⟨⟨h.1.1,?_⟩,h.2⟩
 rcases h.1.2 with h2 | ⟨g,cap,cur,h1,h2,h3,h4⟩
 · exact .inl h2
 · have:=h.2 g (by rw [h1];rfl)
   refine .inr ⟨g,cap,cur,h1,h2,hs.obj h3 ?_,h4⟩
   rcases hd with hd | hd | ⟨hd,T',⟨cur',fr,ht⟩,hne⟩
   · omega
   · omega
   · by_cases e:g=lo
     · subst e
       rw [h3] at ht;injection ht with ht;injection ht with _ ht _
       exact absurd ht.symm (hne T hT)
     · omega
theorem fields_save {v:Value} {l:List FieldD} (h:FieldsN w lo2 hi2 v l) (hs:Save lo hi w w') (hd:Away w lo2 hi2 lo hi [TT,TC,TF]):FieldsN w' lo2 hi2 v l:=by
 obtain ⟨css,h1,h2⟩:=h
 exact ⟨css,own_save h1 hs hd (by simp),h2.imp fun _ _ ⟨tv,cv,h1,h2,h3⟩=>⟨tv,cv,h1,own_save h2 hs hd (by simp),own_save h3 hs hd (by simp)⟩⟩
theorem msgs_save {v:Value} {l:List MsgD} (h:MsgsN w lo2 hi2 v l) (hs:Save lo hi w w') (hd:Away w lo2 hi2 lo hi [TT,TC,TF,TM]):MsgsN w' lo2 hi2 v l:=by
 obtain ⟨css,h1,h2⟩:=h
 exact ⟨css,own_save h1 hs hd (by simp),h2.imp fun _ _ ⟨fv,h1,h2⟩=>⟨fv,h1,fields_save h2 hs (hd.sub (by simp))⟩⟩
end
abbrev zeroD:Array Value := #[.string ByteArray.empty,.slice none 0 0,.string ByteArray.empty]
theorem set3 {W w:World} {p:Nat} {T:TypeId} {u0 u1 u2:Value} (h:w.heap[p]?=some (.cells #[u0,u1,u2] T (0,0))) (e:Ext W w) (g:W.heap.size≤p) (v0 v1 v2:Value):Ext W (((w.setCell ⟨p,0,none⟩ v0).setCell ⟨p,0+1,none⟩ v1).setCell ⟨p,0+2,none⟩ v2)∧(((w.setCell ⟨p,0,none⟩ v0).setCell ⟨p,0+1,none⟩ v1).setCell ⟨p,0+2,none⟩ v2).heap[p]?=some (.cells #[v0,v1,v2] T (0,0))∧Only p w (((w.setCell ⟨p,0,none⟩ v0).setCell ⟨p,0+1,none⟩ v1).setCell ⟨p,0+2,none⟩ v2)∧w.heap.size=(((w.setCell ⟨p,0,none⟩ v0).setCell ⟨p,0+1,none⟩ v1).setCell ⟨p,0+2,none⟩ v2).heap.size:=by
 refine ⟨ee,?_,fun g hg=>?_,by simp only [World.size_setCell]⟩
 · exact heap_set (o:=0+2) (heap_set (o:=0+1) (heap_set (o:=0) h v0) v1) v2
 · rw [Only.setCell _ _ _ _ g hg,Only.setCell _ _ _ _ g hg,Only.setCell _ _ _ _ g hg]
section
variable {QP:List PanicEntry→World→Prop} {W w:World} {a:DefD} {mva:Value}
theorem reg_alc {k:Value→World→Prop} (e:Ext W w) (h:∀ p w',w.heap.size≤p→p < w'.heap.size→Ext w w'→w'.heap[p]?=some (.cells zeroD 24 (0,0))→k (.pointer (some ⟨p,0,none⟩)) w'):opV Pg (Instr.alloc 24 true (.tuple #[])) QP w (fun v w=>EC W w∧k v w):=by
 simp (disch:=try exact DI) only [↓PR,QR,simprocAttr]
 exact ⟨ee,h _ _ (Nat.le_refl _) (by simp only [World.size_alloc];omega) ee (heap_new _ _ _)⟩
end
theorem save_grow8 {w w':World} {g:Nat} (h:w.grownBy w' (some g)):Save g (g+1) w w':=⟨h.os,h.tape,h.output,h.size,fun k hk hb=>h.block k hk (fun e=>by injection e with e;omega)⟩
theorem app_msg {W w:World} {lo hi lf hf bA:Nat} {mv fv:Value} {l:List MsgD} {fs:List FieldD} {nm:ByteArray} {QP:List PanicEntry→World→Prop} {K:Value→World→Prop} (N:MsgsN w lo hi mv l) (F:FieldsN w lf hf fv fs) (hl:0 < l.length) (hl2:l.length≤1000) (hlf:lo≤lf) (hhf:hf≤w.heap.size) (hhi:hi≤w.heap.size) (hlo:W.heap.size≤lo) (e:Ext W w) (hf1:fv.oneCell'=true)
 (oA:w.heap[bA]?=some (.cells #[.string nm,fv] TM (0,0)))
 (hk:∀ v' w' gr,MsgsN w' lo w'.heap.size v' (l++[⟨nm,fs⟩])→Ext W w'→Save gr (gr+1) w w'→lo≤gr→gr < hi→TypeAt w gr TM→K v' w') :
 opV Pg (Builtin.append_ #[22,22] 22 #[mv,.slice (some ⟨bA,0,none⟩) 1 1]) QP w K:=by
 obtain ⟨css,hO,hm⟩:=N
 have hcl:css.length=l.length:=hm.1
 obtain ⟨gr,capr,curr,hvr,hbr,hcr,_⟩:=hO.1.2.resolve_left (fun h=>by have h2:css.length=0:=h.2;omega)
 have hgr:gr < hi:=hO.2 gr (by rw [hvr];rfl)
 refine op_appendL (l':=[(⟨[.string nm,fv],rfl⟩:Cs 2)]) (b:=bA) (o:=0) (c:=1) Tryz.underlying22 ty44 rfl (by decide) (fun x=>x.2) (fun x hx u hu=>?_) hO.1 (fun j x hx=>?_) (by omega) (by simp) (Nat.le_trans (Nat.mul_le_mul (show css.length+1≤1001 by omega) by44) (by decide)) (by simp;omega) ?_
 · simp only [List.mem_singleton] at hx
   subst hx
   simp only [List.mem_cons,List.not_mem_nil,or_false] at hu
   rcases hu with rfl | rfl
   · rfl
   · exact hf1
 · cases j with
   | succ j=>cases hx
   | zero =>
    injection hx with hx
    subst hx
    intro j v hv
    rw [(cells_of_heap oA).1]
    simpa using hv
 rintro g cap w4 hown hg hgl hlt
 have hg':w.grownBy w4 (some gr):=by rw [hvr] at hg;exact hg
 have sv:=save_grow8 hg'
 have tg:TypeAt w gr TM:=⟨curr,_,hcr⟩
 have aw:∀ lo' hi',Away w lo' hi' gr (gr+1) [TT,TC,TF]:=fun _ _ => .inr (.inr ⟨rfl,TM,tg,by decide⟩)
 have s4:=sv.size
 refine hk _ w4 gr ?_ (e.grown hg' (fun k hk=>by injection hk with hk;omega)) sv hbr hgr tg
 refine ⟨css++[⟨[.string nm,fv],rfl⟩],⟨hown,fun b hb=>Option.some.inj (show some g=some b from hb) ▸ hlt⟩,by simp [hcl],fun j x cs hx hcs=>?_⟩
 by_cases hj:j < l.length
 · rw [List.getElem?_append_left hj] at hx
   rw [List.getElem?_append_left (by omega)] at hcs
   obtain ⟨fv,h1,h2⟩:=hm.2 j x cs hx hcs
   exact ⟨fv,h1,(fields_save h2 sv (aw _ _)).mono (Nat.le_refl _) (by omega)⟩
 · rw [List.getElem?_append_right (by omega)] at hx
   rw [List.getElem?_append_right (by omega)] at hcs
   rw [hcl] at hcs
   have hj0:j - l.length=0:=by
    have:=(List.getElem?_eq_some_iff.1 hx).1
    simp at this;omega
   rw [hj0] at hx hcs
   injection hx with hx
   injection hcs with hcs
   subst hx hcs
   exact ⟨fv,rfl,(fields_save F sv (aw _ _)).mono (by omega) (by omega)⟩
theorem fieldsN_one {w:World} {b lo hi:Nat} {x:FieldD} (h:w.heap[b]?=some (.cells (fieldCells x (.slice none 0 0) (.slice none 0 0)).toArray TF (0,0))) (h1:lo≤b) (h2:b < hi) (ht:x.terms=[]) (hc:x.cases=[]):FieldsN w lo hi (.slice (some ⟨b,0,none⟩) 1 1) [x]:=by
 refine ⟨[⟨fieldCells x (.slice none 0 0) (.slice none 0 0),rfl⟩],⟨⟨rfl,.inr ⟨b,1,_,rfl,h1,h,Nat.le_refl _,by decide,rfl,rfl⟩⟩,fun b' hb=>?_⟩,rfl,fun k y cs hy hcs=>?_⟩
 · exact Option.some.inj (show some b=some b' from hb) ▸ h2
 · cases k with
   | succ k=>cases hy
   | zero =>
    injection hy with hy
    injection hcs with hcs
    subst hy hcs
    refine ⟨_,_,rfl,?_,?_⟩
    · rw [ht];exact ⟨OwnE.nil _ _ _ _ _,fun b hb=>by cases hb⟩
    · rw [hc];exact ⟨OwnE.nil _ _ _ _ _,fun b hb=>by cases hb⟩
def onlyF (s:ByteArray):FieldD:={ name:=⟨#[120]⟩,kind:=8,bits:=0,little:=false,loose:=false,low:=0,high:=0,base:=0,terms:=[],of:=s,tag:=ByteArray.empty,fr:=ByteArray.empty,cases:=[],check:=0,key:=0 }
theorem calm_addM {d:DefD} {n s:ByteArray} (ht:calm d):calm (addM d n (onlyF s)):=by
 intro m hm
 rcases List.mem_append.1 hm with hm | hm
 · exact ht m hm
 · simp only [List.mem_singleton] at hm
   subst hm
   exact ⟨by simp [allRefs,refsF,onlyF],by simp [onlyF]⟩
theorem grow_last {w0 w:World} {d:DefD} {m:MsgD} {mva fvm:Value} {p11 p14 lo hi k:Nat} (hk:d.msgs[k]?=some m) (hl:d.msgs.length≤10) (ht:calm d) (hlo:w0.heap.size≤lo) (hlh:lo≤hi) (hhi:hi≤w.heap.size) (N:MsgsN w lo hi mva d.msgs) (g14:w0.heap.size≤p14) (e:Ext w0 w)
 (o11:w.heap[p11]?=some (.cells #[.string m.name,fvm] TM (0,0))) (o14:w.heap[p14]?=some (.cells (defCells d mva).toArray 24 (0,0))) :
 n5c15 (.pointer (some ⟨p11,0,none⟩)) (.pointer (some ⟨p14,0,none⟩)) (.int .i64 (d.msgs.length:Int)) (.int .i64 (k:Int)) (retR fun r w'=>r = .bool true∧Ext w0 w') w:=by
 have hkl:=(List.getElem?_eq_some_iff.1 hk).1
 unfold n5c15
 simp (disch:=try exact DI) only [↓PR,QR,simprocAttr,(cells_of_heap o11).1,(cells_of_heap o14).1]
 generalize hA:World.alloc (World.alloc w _) _=A
 have eA:Ext w A:=by rw [← hA];exact ee
 have oF:A.heap[w.heap.size]?=some (.cells (fieldCells (onlyF m.name) (.slice none 0 0) (.slice none 0 0)).toArray TF (0,0)):=by rw [← hA];exact ((Ext.refl _).alloc _).obj (heap_new w _ _)
 have oM:A.heap[w.heap.size+1]?=some (.cells #[.string ⟨#[122,122,122,122]⟩,.slice (some ⟨w.heap.size,0,none⟩) 1 1] TM (0,0)):=by
  rw [← hA]
  have:=heap_new (w.alloc (.cells (fieldCells (onlyF m.name) (.slice none 0 0) (.slice none 0 0)).toArray TF)) #[.string ⟨#[122,122,122,122]⟩,.slice (some ⟨w.heap.size,0,none⟩) 1 1] TM
  rw [World.size_alloc] at this
  exact this
 have sA:A.heap.size=w.heap.size+1+1:=by rw [← hA];simp only [World.size_alloc]
 clear hA
 have F:FieldsN A w.heap.size A.heap.size (.slice (some ⟨w.heap.size,0,none⟩) 1 1) [onlyF m.name]:=fieldsN_one oF (Nat.le_refl _) (by omega) rfl rfl
 have hlen:(addM d ⟨#[122,122,122,122]⟩ (onlyF m.name)).msgs.length=d.msgs.length+1:=by simp [addM]
 have y14:=eA.obj o14
 refine app_msg (W:=w0) (N.ext eA) F (by omega) (by omega) (by omega) (Nat.le_refl _) (by omega) hlo (e.trans eA) rfl oM ?_
 intro v' w' gr N' e' sv g1 g2 tg
 have u1:v'.oneCell'=true:=SliceOf.oneCell N'.plain
 have ne:p14≠gr:=by
  rintro rfl
  obtain ⟨cur,fr,h⟩:=tg
  rw [y14] at h
  injection h with h
  injection h with _ h _
  exact absurd h (by decide)
 have z14:=sv.obj y14 (by omega)
 simp (disch:=try exact DI) only [↓PR,QR,simprocAttr,(cells_of_heap z14).1,(cells_of_heap z14).2]
 have u14:=heap_set (o:=0+1) z14 v'
 have N2:=N'.only (Only.setCell w' p14 (0+1) v') (.inr (.inr ⟨_,⟨_,_,z14⟩,by decide⟩))
 have e2:Ext w0 (w'.setCell ⟨p14,0+1,none⟩ v'):=e'.setCell g14 _
 refine zcr (Valid_ret' _ (addM d ⟨#[122,122,122,122]⟩ (onlyF m.name)) ⟨v',rfl,N2.plain⟩ (calm_addM ht)) fun w3 e3=>?_
 exact grow_alone hlen hl hkl (calm_addM ht) (fun hc=>span_alone hk rfl rfl hc (calm_addM ht)) (e2.trans e3) ⟨e3.obj u14,(N2.ext e3).plain⟩
theorem others_save {w w':World} {lo hi k g:Nat} {l:List MsgD} {css:List (Cs 2)} (hm:Mates 2 (EMsgN w lo hi) css l) (hA:ApartM css css.length) {ck:Cs 2} (hk:css[k]?=some ck) (hg:own1 ck.1=some g) (sv:Save g (g+1) w w') (tg:TypeAt w g TF) {i:Nat} (hik:i≠k) {m:MsgD} {ci:Cs 2} (hi':l[i]?=some m) (hc:css[i]?=some ci):EMsgN w' lo hi ci.1 m:=by
 obtain ⟨fv,he,csf,hO,hmf⟩:=hm.2 i m ci hi' hc
 have hne:∀ b,fv.ownBlock=some b→b≠g:=by
  rintro b hb rfl
  have hb':own1 ci.1=some b:=by unfold own1;rw [he];exact hb
  have l1:=(List.getElem?_eq_some_iff.1 hc).1
  have l2:=(List.getElem?_eq_some_iff.1 hk).1
  rcases Nat.lt_or_gt_of_ne hik with h | h
  · exact absurd (hA i k ci ck b b h l2 hc hk hb' hg) (Nat.lt_irrefl _)
  · exact absurd (hA k i ck ci b b h l1 hk hc hg hb') (Nat.lt_irrefl _)
 have aw:Away w lo hi g (g+1) [TT,TC] := .inr (.inr ⟨rfl,TF,tg,by decide⟩)
 refine ⟨fv,he,csf,⟨⟨hO.1.1,?_⟩,hO.2⟩,hmf.imp fun _ _ ⟨tv,cv,h1,h2,h3⟩=>⟨tv,cv,h1,own_save h2 sv aw (by simp),own_save h3 sv aw (by simp)⟩⟩
 rcases hO.1.2 with h | ⟨b,cap,cur,h1,h2,h3,h4⟩
 · exact .inl h
 · have:=hne b (by rw [h1];rfl)
   exact .inr ⟨b,cap,cur,h1,h2,sv.obj h3 (by omega),h4⟩
theorem fields_set {w:World} {lo hi g n cap j:Nat} {l:List FieldD} {f f1:FieldD} (h:FieldsN w lo hi (.slice (some ⟨g,0,none⟩) n cap) l) (hf:l[j]?=some f) (o:Nat) (u:Value) (hu:o < 15) (h1:∀ tv cv,(fieldCells f tv cv).set o u=fieldCells f1 tv cv) (ht:f1.terms=f.terms) (hc:f1.cases=f.cases):FieldsN (w.setCell ⟨g,j*15+o,none⟩ u) lo hi (.slice (some ⟨g,0,none⟩) n cap) (l.set j f1):=by
 obtain ⟨css,hO,hm⟩:=h
 obtain ⟨cs,hcs⟩:=getElem?_lt (l:=css) (k:=j) (by rw [hm.1];exact (List.getElem?_eq_some_iff.1 hf).1)
 have ho:=Only.setCell w g (j*15+o) u
 have hjl:=(List.getElem?_eq_some_iff.1 hcs).1
 have tg:TypeAt w g TF:=by
  rcases hO.1.2 with ⟨h2,_⟩ | ⟨b,cp,cur,h2,_,h3,_⟩
  · cases h2
  · injection h2 with h2;injection h2 with h2;injection h2 with h2;subst h2;exact ⟨_,_,h3⟩
 refine ⟨css.set j ⟨cs.1.set o u,by simp [cs.2]⟩,⟨hO.1.set hcs hu u,hO.2⟩,by simp [hm.1],fun i x ci hx hci=>?_⟩
 by_cases hij:i=j
 · subst hij
   rw [List.getElem?_set_self (List.getElem?_eq_some_iff.1 hf).1] at hx
   rw [List.getElem?_set_self hjl] at hci
   injection hx with hx
   injection hci with hci
   subst hx hci
   obtain ⟨tv,cv,a,b,c⟩:=hm.2 i f cs hf hcs
   refine ⟨tv,cv,by show cs.1.set o u=_;rw [a,h1],?_,?_⟩
   · rw [ht];exact b.only ho (.inr (.inr ⟨TF,tg,by decide⟩))
   · rw [hc];exact c.only ho (.inr (.inr ⟨TF,tg,by decide⟩))
 · rw [List.getElem?_set_ne (Ne.symm hij)] at hx hci
   exact (hm.2 i x ci hx hci).only ho (.inr (.inr ⟨TF,tg,by decide⟩))
theorem msgs_field {w w':World} {lo hi hi' k g:Nat} {mv fv:Value} {l:List MsgD} {m:MsgD} {fs':List FieldD} {css:List (Cs 2)} {ck:Cs 2} (hO:OwnR w lo hi TM 2 Subtype.val mv css) (hm:Mates 2 (EMsgN w lo hi) css l) (hA:ApartM css css.length) (hk:css[k]?=some ck) (hlk:l[k]?=some m) (he:ck.1=msgCells m fv) (hg:fv.ownBlock=some g) (sv:Save g (g+1) w w') (tg:TypeAt w g TF) (hF:FieldsN w' lo hi' fv fs') (hh:hi≤hi'):MsgsN w' lo hi' mv (l.set k ⟨m.name,fs'⟩):=by
 refine ⟨css,(own_save hO sv (.inr (.inr ⟨rfl,TF,tg,by decide⟩)) (Ts:=[TM]) (by simp)).mono (Nat.le_refl _) hh,by simp [hm.1],fun i x ci hx hci=>?_⟩
 by_cases hik:i=k
 · subst hik
   rw [List.getElem?_set_self (List.getElem?_eq_some_iff.1 hlk).1] at hx
   injection hx with hx
   subst hx
   rw [hk] at hci
   injection hci with hci
   subst hci
   exact ⟨fv,he,hF⟩
 · rw [List.getElem?_set_ne (Ne.symm hik)] at hx
   exact (others_save hm hA hk (by unfold own1;rw [he];exact hg) sv tg hik hx hci).mono (Nat.le_refl _) hh
def FieldsX (w:World) (lo hi lo' hi':Nat) (v:Value) (l:List FieldD):Prop:=∃ css:List (Cs 15),OwnR w lo' hi' TF 15 Subtype.val v css∧Mates 15 (EFieldN w lo hi) css l
def EMsgX (w:World) (lo hi lo' hi':Nat) (cs:List Value) (m:MsgD):Prop:=∃ fv,cs=msgCells m fv∧(FieldsN w lo hi fv m.fields∨FieldsX w lo hi lo' hi' fv m.fields)
def MsgsX (w:World) (lo hi lo' hi':Nat) (v:Value) (l:List MsgD):Prop:=∃ css:List (Cs 2),OwnR w lo hi TM 2 Subtype.val v css∧Mates 2 (EMsgX w lo hi lo' hi') css l
section
variable {w w':World} {lo hi lo' hi':Nat}
theorem FieldsX.plain {v:Value} {l:List FieldD} (h:FieldsX w lo hi lo' hi' v l):FieldsOf w v l:=by
 obtain ⟨css,h1,h2⟩:=h;exact h1.1.reads (h2.imp fun _ _ h=>h.plain)
theorem FieldsX.ext {v:Value} {l:List FieldD} (h:FieldsX w lo hi lo' hi' v l) (e:Ext w w'):FieldsX w' lo hi lo' hi' v l:=by obtain ⟨css,h1,h2⟩:=h;exact ⟨css,h1.ext e,h2.imp fun _ _ h=>h.ext e⟩
theorem FieldsX.only {b:Nat} {v:Value} {l:List FieldD} (h:FieldsX w lo hi lo' hi' v l) (ho:Only b w w') (hb:Harmless w lo hi b [TT,TC]) (hb':Harmless w lo' hi' b [TF]):FieldsX w' lo hi lo' hi' v l:=by
 obtain ⟨css,h1,h2⟩:=h;exact ⟨css,h1.only ho (hb'.one (by simp)),h2.imp fun _ _ h=>h.only ho hb⟩
theorem MsgsX.plain {v:Value} {l:List MsgD} (h:MsgsX w lo hi lo' hi' v l):MsgsOf w v l:=by
 obtain ⟨css,h1,h2⟩:=h;exact h1.1.reads (h2.imp fun _ _ ⟨fv,a,b⟩=>⟨fv,a,b.elim FieldsN.plain FieldsX.plain⟩)
theorem MsgsX.ext {v:Value} {l:List MsgD} (h:MsgsX w lo hi lo' hi' v l) (e:Ext w w'):MsgsX w' lo hi lo' hi' v l:=by
 obtain ⟨css,h1,h2⟩:=h;exact ⟨css,h1.ext e,h2.imp fun _ _ ⟨fv,a,b⟩=>⟨fv,a,b.imp (·.ext e) (·.ext e)⟩⟩
theorem MsgsX.only {b:Nat} {v:Value} {l:List MsgD} (h:MsgsX w lo hi lo' hi' v l) (ho:Only b w w') (hb:Harmless w lo hi b [TT,TC,TF,TM]) (hb':Harmless w lo' hi' b [TF]):MsgsX w' lo hi lo' hi' v l:=by
 obtain ⟨css,h1,h2⟩:=h
 exact ⟨css,h1.only ho (hb.one (by simp)),h2.imp fun _ _ ⟨fv,a,c⟩=>⟨fv,a,c.imp (·.only ho (hb.sub (by simp))) (·.only ho (hb.sub (by simp)) hb')⟩⟩
end
theorem msgs_more {w w':World} {lo hi lo' hi' k g gM n cap:Nat} {fv fv':Value} {l:List MsgD} {m:MsgD} {fs':List FieldD} {css:List (Cs 2)} {ck:Cs 2} (hO:OwnR w lo hi TM 2 Subtype.val (.slice (some ⟨gM,0,none⟩) n cap) css) (hm:Mates 2 (EMsgN w lo hi) css l) (hA:ApartM css css.length) (hk:css[k]?=some ck) (hlk:l[k]?=some m) (he:ck.1=msgCells m fv) (hg:fv.ownBlock=some g) (sv:Save g (g+1) w w') (tg:TypeAt w g TF) (hF:FieldsN w' lo hi fv' fs'∨FieldsX w' lo hi lo' hi' fv' fs'):MsgsX (w'.setCell ⟨gM,k*2+1,none⟩ fv') lo hi lo' hi' (.slice (some ⟨gM,0,none⟩) n cap) (l.set k ⟨m.name,fs'⟩):=by
 have hO':=own_save hO sv (.inr (.inr ⟨rfl,TF,tg,by decide⟩)) (Ts:=[TM]) (by simp)
 have tM:TypeAt w' gM TM:=by
  rcases hO'.1.2 with ⟨h2,_⟩ | ⟨b,cp,cur,h2,_,h3,_⟩
  · cases h2
  · injection h2 with h2;injection h2 with h2;injection h2 with h2;subst h2;exact ⟨_,_,h3⟩
 have ho:=Only.setCell w' gM (k*2+1) fv'
 have hm':Harmless w' lo hi gM [TT,TC,TF] := .inr (.inr ⟨TM,tM,by decide⟩)
 have hm2:Harmless w' lo' hi' gM [TF] := .inr (.inr ⟨TM,tM,by decide⟩)
 refine ⟨css.set k ⟨ck.1.set 1 fv',by simp [ck.2]⟩,⟨hO'.1.set hk (by decide) fv',hO'.2⟩,by simp [hm.1],fun i x ci hx hci=>?_⟩
 by_cases hik:i=k
 · subst hik
   rw [List.getElem?_set_self (List.getElem?_eq_some_iff.1 hlk).1] at hx
   rw [List.getElem?_set_self (List.getElem?_eq_some_iff.1 hk).1] at hci
   injection hx with hx
   injection hci with hci
   subst hx hci
   exact ⟨fv',by show ck.1.set 1 fv'=_;rw [he];rfl,hF.imp (·.only ho hm') (·.only ho (hm'.sub (by simp)) hm2)⟩
 · rw [List.getElem?_set_ne (Ne.symm hik)] at hx hci
   obtain ⟨fvi,h1,h2⟩:=(others_save hm hA hk (by unfold own1;rw [he];exact hg) sv tg hik hx hci).only ho hm'
   exact ⟨fvi,h1,.inl h2⟩
theorem app_field {W w:World} {lo hi bZ:Nat} {fv:Value} {l:List FieldD} {z:FieldD} {QP:List PanicEntry→World→Prop} {K:Value→World→Prop} (F:FieldsN w lo hi fv l) (hl:0 < l.length) (hl2:l.length≤1000) (hhi:hi≤w.heap.size) (hlo:W.heap.size≤lo) (e:Ext W w)
 (oZ:w.heap[bZ]?=some (.cells (fieldCells z (.slice none 0 0) (.slice none 0 0)).toArray TF (0,0))) (zt:z.terms=[]) (zc:z.cases=[])
 (hk:∀ v' w' gr,(FieldsN w' lo hi v' (l++[z])∨FieldsX w' lo hi w.heap.size w'.heap.size v' (l++[z]))→v'.oneCell'=true→Ext W w'→Save gr (gr+1) w w'→lo≤gr→fv.ownBlock=some gr→TypeAt w gr TF→K v' w') :
 opV Pg (Builtin.append_ #[42,42] 42 #[fv,.slice (some ⟨bZ,0,none⟩) 1 1]) QP w K:=by
 obtain ⟨css,hO,hm⟩:=F
 have hcl:css.length=l.length:=hm.1
 obtain ⟨gr,capr,curr,hvr,hbr,hcr,_⟩:=hO.1.2.resolve_left (fun h=>by have h2:css.length=0:=h.2;omega)
 have hgr:gr < hi:=hO.2 gr (by rw [hvr];rfl)
 refine op_appendL (l':=[(⟨fieldCells z (.slice none 0 0) (.slice none 0 0),rfl⟩:Cs 15)]) (b:=bZ) (o:=0) (c:=1) Tryz.underlying42 ty38 rfl (by decide) (fun x=>x.2) (fun x hx u hu=>?_) hO.1 (fun j x hx=>?_) (by omega) (by simp) (Nat.le_trans (Nat.mul_le_mul (show css.length+1≤1001 by omega) by38) (by decide)) (by simp;omega) ?_
 · simp only [List.mem_singleton] at hx
   subst hx
   simp only [List.mem_cons,List.not_mem_nil,or_false] at hu
   rcases hu with rfl | rfl | rfl | rfl | rfl | rfl | rfl | rfl | rfl | rfl | rfl | rfl | rfl | rfl | rfl<;>rfl
 · cases j with
   | succ j=>cases hx
   | zero =>
    injection hx with hx
    subst hx
    intro j v hv
    rw [(cells_of_heap oZ).1]
    simpa using hv
 rintro g cap w4 hown hg hgl hlt
 have hg':w.grownBy w4 (some gr):=by rw [hvr] at hg;exact hg
 have sv:=save_grow8 hg'
 have tg:TypeAt w gr TF:=⟨curr,_,hcr⟩
 have aw:∀ lo' hi',Away w lo' hi' gr (gr+1) [TT,TC]:=fun _ _ => .inr (.inr ⟨rfl,TF,tg,by decide⟩)
 have s4:=sv.size
 refine hk _ w4 gr ?_ rfl (e.grown hg' (fun k hk=>by injection hk with hk;omega)) sv hbr (by rw [hvr];rfl) tg
 have hmt:Mates 15 (EFieldN w4 lo hi) (css++[⟨fieldCells z (.slice none 0 0) (.slice none 0 0),rfl⟩]) (l++[z]):=by
  refine ⟨by simp [hcl],fun j x cs hx hcs=>?_⟩
  by_cases hj:j < l.length
  · rw [List.getElem?_append_left hj] at hx
    rw [List.getElem?_append_left (by omega)] at hcs
    obtain ⟨tv,cv,h1,h2,h3⟩:=hm.2 j x cs hx hcs
    exact ⟨tv,cv,h1,own_save h2 sv (aw _ _) (by simp),own_save h3 sv (aw _ _) (by simp)⟩
  · rw [List.getElem?_append_right (by omega)] at hx
    rw [List.getElem?_append_right (by omega)] at hcs
    rw [hcl] at hcs
    have hj0:j - l.length=0:=by
     have:=(List.getElem?_eq_some_iff.1 hx).1
     simp at this;omega
    rw [hj0] at hx hcs
    injection hx with hx
    injection hcs with hcs
    subst hx hcs
    refine ⟨_,_,rfl,?_,?_⟩
    · rw [zt];exact ⟨OwnE.nil _ _ _ _ _,fun b hb=>by cases hb⟩
    · rw [zc];exact ⟨OwnE.nil _ _ _ _ _,fun b hb=>by cases hb⟩
 rcases hgl with hgl | hgl
 · rw [hvr] at hgl
   injection hgl with hgl
   subst hgl
   exact .inl ⟨_,⟨hown,fun b hb=>Option.some.inj (show some gr=some b from hb) ▸ hgr⟩,hmt⟩
 · refine .inr ⟨_,⟨⟨hown.1,?_⟩,fun b hb=>Option.some.inj (show some g=some b from hb) ▸ hlt⟩,hmt⟩
   rcases hown.2 with ⟨h2,_⟩ | ⟨b,cp,cur,h2,_,h3⟩
   · cases h2
   · refine .inr ⟨b,cp,cur,h2,?_,h3⟩
     injection h2 with h2
     injection h2 with h2
     injection h2 with h2
     omega
section
variable {w0:World} {d:DefD} {m:MsgD} {mv mva fvm:Value} {p4 p11 p14 lo hi k:Nat}
theorem grow_loop {w:World} {dm dw:DefD} {mvm mvw:Value} {p12 p13:Nat} (hk:d.msgs[k]?=some m) (hl:d.msgs.length≤10) (hc:(checkP d).2.2=0) (ht:calm d) (htm:calm dm) (htw:calm dw) (hlm:dm.msgs.length=d.msgs.length) (hlw:dw.msgs.length=d.msgs.length)
 (hm:(checkP dm).2.2=0→∀ (i:Nat) (a:MsgD),d.msgs[i]?=some a→R2 true (msgV d i) (msgV dm i)) (hw:(checkP dw).2.2=0→∀ (i:Nat) (a:MsgD),d.msgs[i]?=some a→R2 false (msgV d i) (msgV dw i))
 (o4:DefAt w p4 d mv) (o12:DefAt w p12 dm mvm) (o13:DefAt w p13 dw mvw) (hlo:w0.heap.size≤lo) (hlh:lo≤hi) (hhi:hi≤w.heap.size) (N:MsgsN w lo hi mva d.msgs) (g14:w0.heap.size≤p14) (e:Ext w0 w)
 (o11:w.heap[p11]?=some (.cells #[.string m.name,fvm] TM (0,0))) (o14:w.heap[p14]?=some (.cells (defCells d mva).toArray 24 (0,0))) :
 loop1 (fun t16 w next18=>n5c16 (.pointer (some ⟨p4,0,none⟩)) (.pointer (some ⟨p11,0,none⟩)) (.pointer (some ⟨p12,0,none⟩)) (.pointer (some ⟨p13,0,none⟩)) (.pointer (some ⟨p14,0,none⟩)) t16 (.int .i64 (d.msgs.length:Int)) (.int .i64 (k:Int)) next18 (retR fun r w'=>r = .bool true∧Ext w0 w') w) (.int .i64 0) w:=by
 have er:=Ext.refl w
 refine loop1_intro (fun a0 wx=>∃ (kx:Nat) , a0 = .int .i64 (kx:Int)∧kx≤d.msgs.length∧Ext w wx∧True) (fun a0 _=>d.msgs.length - (intOf a0).toNat) ⟨0,rfl,Nat.zero_le _,ee,trivial⟩ ?_
 rintro _ wx ⟨kx,rfl,hkx,ex,hIx⟩
 have sex:=ex.size
 rcases drop_cases hkx with ⟨xx,hxx,hdx,hltx,hdecx⟩ | ⟨hkx,hdx,hdecx⟩
 · unfold n5c16
   simp (disch:=try exact DI) only [↓PR,QR,simprocAttr,hdecx,(cells_of_heap (o4.ext ex).cell).1]
   refine grow_round hxx hl hc ht htm htw hlm hlw (fun h=>hm h kx xx hxx) (fun h=>hw h kx xx hxx) (o4.ext ex) (o12.ext ex) (o13.ext ex) fun w' e'=>?_
   exact ⟨⟨kx+1,rfl,by omega,ee,trivial⟩,meas_lt hltx⟩
 · unfold n5c16
   have hdone:decide ((kx:Int) < (d.msgs.length:Int))=false:=by rw [hkx];simp
   simp (disch:=try exact DI) only [↓PR,QR,simprocAttr,hdone]
   have sx:=ex.size
   exact grow_last hk hl ht hlo hlh (by omega) (N.ext ex) g14 (e.trans ex) (ex.obj o11) (ex.obj o14)
theorem wide_top (hc:(checkP d).2.2=0) (hk:d.msgs[k]?=some m) {j:Nat} {f:FieldD} (hj:m.fields[j]?=some f) (hw:f.kind=1∨f.kind=3∨f.kind=5∨f.kind=6):0≤f.high∧f.high≤34359738367:=by
 have hf:=(check_fine hc).2.2.1
 obtain ⟨_,_,_,h4,_⟩:=next_parts (hf.next hk)
 have hx:examineC (m.fields.take j) (vI (depsOf (d.msgs.take k))) (vB (strsOf (d.msgs.take k))) f=0:=by simpa using fields_all _ _ h4 j f hj
 obtain ⟨_,_,hcc⟩:=exam_all hx
 have hv:=(hf.allV k m hk).1 f (List.mem_of_getElem? hj)
 rcases hw with h | h | h | h
 · have:=num_bounds hcc (by unfold numberB;simp [h])
   unfold highOf at this
   simp [h] at this
   omega
 · have:=hv.num h;omega
 · have:=hv.high5 h;omega
 · have:=hv.high6 h;omega
end
section
variable {w0:World} {d:DefD} {m:MsgD} {mv mva fvm:Value} {p4 p11 p14 lo hi k:Nat}
theorem ne_type {w:World} {p g:Nat} {cs:Array Value} {T T':TypeId} {fr:Nat×Nat} (h:w.heap[p]?=some (.cells cs T fr)) (hT:TypeAt w g T') (hne:T≠T'):p≠g:=by
 rintro rfl
 obtain ⟨cur,fr',h'⟩:=hT
 rw [h] at h'
 injection h' with h'
 injection h' with _ h' _
 exact hne h'
theorem refs_set {f1:FieldD}:∀ {l:List FieldD} {j:Nat} {f:FieldD},l[j]?=some f→refsF f1=refsF f→allRefs (l.set j f1)=allRefs l
 | [],_,_,h,_=>by cases h
 | x::l,0,f,h,hr=>by
  injection h with h
  subst h
  rw [List.set_cons_zero]
  unfold allRefs
  rw [List.flatMap_cons,List.flatMap_cons,hr]
 | x::l,j+1,f,h,hr=>by
  have:=refs_set (l:=l) (j:=j) h hr
  unfold allRefs at *
  rw [List.set_cons_succ,List.flatMap_cons,List.flatMap_cons,this]
theorem calm_set {j:Nat} {f f1:FieldD} (ht:calm d) (hk:d.msgs[k]?=some m) (hf:m.fields[j]?=some f) (hr:refsF f1=refsF f) (htm:f1.terms=f.terms):calm { d with msgs:=d.msgs.set k ⟨m.name,m.fields.set j f1⟩ }:=by
 intro x hx
 rcases List.mem_or_eq_of_mem_set hx with hx | hx
 · exact ht x hx
 · subst hx
   have hm:=ht m (List.mem_of_getElem? hk)
   refine ⟨by rw [refs_set hf hr];exact hm.1,fun y hy=>?_⟩
   rcases List.mem_or_eq_of_mem_set hy with hy | hy
   · exact hm.2 y hy
   · subst hy;rw [htm];exact hm.2 f (List.mem_of_getElem? hf)
theorem grow_wide {w:World} {dm:DefD} {mvm mvw:Value} {p12 p13 lo1 hi1 lo2 hi2 S S':Nat} {fN:Nat} (hfN:fN≤255) (hk:d.msgs[k]?=some m) (hl:d.msgs.length≤10) (hc:(checkP d).2.2=0) (ht:calm d) (htm:calm dm) (hlm:dm.msgs.length=d.msgs.length)
 (hm:(checkP dm).2.2=0→∀ (i:Nat) (a:MsgD),d.msgs[i]?=some a→R2 true (msgV d i) (msgV dm i)) (hn0:0 < m.fields.length) (hn1:m.fields.length≤1000)
 (hM:MsgsOf w0 mv d.msgs) (o4:w.heap[p4]?=some (.cells (defCells d mv).toArray 24 (0,0))) (o12:w.heap[p12]?=some (.cells (defCells dm mvm).toArray 24 (0,0))) (X12:MsgsX w lo1 hi1 S S' mvm dm.msgs)
 (o13:w.heap[p13]?=some (.cells (defCells d mvw).toArray 24 (0,0))) (A13:MsgsA w lo2 hi2 mvw d.msgs) (hlo2:w0.heap.size≤lo2) (h12:hi1≤lo2) (h2S:hi2≤S) (h23:hi2≤lo)
 (hlo:w0.heap.size≤lo) (hlh:lo≤hi) (hhi:hi≤w.heap.size) (N:MsgsN w lo hi mva d.msgs) (g14:w0.heap.size≤p14) (e:Ext w0 w)
 (o11:w.heap[p11]?=some (.cells #[.string m.name,fvm] TM (0,0))) (hF:FieldsOf w0 fvm m.fields) (o14:w.heap[p14]?=some (.cells (defCells d mva).toArray 24 (0,0))) :
 n5c21 (.int .u8 (fN:Int)) (.pointer (some ⟨p4,0,none⟩)) (.pointer (some ⟨p11,0,none⟩)) (.pointer (some ⟨p12,0,none⟩)) (.pointer (some ⟨p13,0,none⟩)) (.pointer (some ⟨p14,0,none⟩)) (.int .i64 (d.msgs.length:Int)) (.int .i64 (k:Int)) (EC w) (retR fun r w'=>r = .bool true∧Ext w0 w') w:=by
 have hkl:=(List.getElem?_eq_some_iff.1 hk).1
 obtain ⟨css,hO,hmt,hA⟩:=A13
 obtain ⟨ck,hck⟩:=getElem?_lt (l:=css) (k:=k) (by rw [hmt.1];exact hkl)
 obtain ⟨fv,he,cssF,hOF,hmF⟩:=hmt.2 k m ck hk hck
 obtain ⟨gM,capM,rfl,hgM,hgMl,hTM,hfM,hElM⟩:=hO.1.row (fun x=>x.2) (by rw [hmt.1];omega)
 obtain ⟨gF,capF,rfl,hgF,hgFl,hTF,hfF,hElF⟩:=hOF.1.row (fun x=>x.2) (by rw [hmF.1];omega)
 have hEk:=hElM k ck hck
 rw [he] at hEk
 have hrem:(IntKind.i64.wrap (fN:Int)).tmod (m.fields.length:Int)=((fN % m.fields.length:Nat):Int):=by
  rw [wrap_ok (by omega) (by omega)];exact (Int.ofNat_tmod fN m.fields.length).symm
 have hjl:fN % m.fields.length < m.fields.length:=Nat.mod_lt _ hn0
 generalize fN % m.fields.length=j at hrem hjl
 obtain ⟨f,hf⟩:=getElem?_lt hjl
 obtain ⟨cf,hcf⟩:=getElem?_lt (l:=cssF) (k:=j) (by rw [hmF.1];exact hjl)
 obtain ⟨tv,cv,hcfe,hTv,hCv⟩:=hmF.2 j f cf hf hcf
 have hEf:=hElF j cf hcf
 rw [hcfe] at hEf
 have er:=Ext.refl w
 have hne0:(m.fields.length:Int)≠0:=by omega
 obtain ⟨Am,cm,rfl,_⟩:=SliceOf.open hF
 rw [hmt.1] at *
 rw [hmF.1] at *
 have h15:=hEf.c15 er
 have hgo:∀ (dw:DefD) (w':World),calm dw→dw.msgs.length=d.msgs.length→((checkP dw).2.2=0→∀ (i:Nat) (a:MsgD),d.msgs[i]?=some a→R2 false (msgV d i) (msgV dw i))→Ext w0 w'→Only gF w w'→w.heap.size≤w'.heap.size→w'.heap[p13]?=some (.cells (defCells dw (.slice (some ⟨gM,0,none⟩) d.msgs.length capM)).toArray 24 (0,0))→MsgsOf w' (.slice (some ⟨gM,0,none⟩) d.msgs.length capM) dw.msgs →
  loop1 (fun t16 w next18=>n5c16 (.pointer (some ⟨p4,0,none⟩)) (.pointer (some ⟨p11,0,none⟩)) (.pointer (some ⟨p12,0,none⟩)) (.pointer (some ⟨p13,0,none⟩)) (.pointer (some ⟨p14,0,none⟩)) t16 (.int .i64 (d.msgs.length:Int)) (.int .i64 (k:Int)) next18 (retR fun r w'=>r = .bool true∧Ext w0 w') w) (.int .i64 0) w':=by
  intro dw w' htw hlw hw e' ho hs o13' hM'
  have hgFh:gF < hi2:=hOF.2 gF rfl
  exact grow_loop hk hl hc ht htm htw hlm hlw hm hw ⟨(ho p4 (ne_type o4 hTF (by decide))).trans o4,hM.ext e'⟩ ⟨(ho p12 (ne_type o12 hTF (by decide))).trans o12,(X12.only ho (.inl (by omega)) (.inr (.inl (by omega)))).plain⟩ ⟨o13',hM'⟩ hlo hlh (by omega) (N.only ho (.inr (.inl (by omega)))) g14 e' ((ho p11 (ne_type o11 hTF (by decide))).trans o11) ((ho p14 (ne_type o14 hTF (by decide))).trans o14)
 have hstay:=hgo d w ht rfl (fun _ i a _=>R2.refl _ _) e (fun _ _=>rfl) (Nat.le_refl _) o13 (hO.1.reads (hmt.imp fun _ _ h=>h.plain))
 have hwide:(f.kind=1∨f.kind=3∨f.kind=5∨f.kind=6)→loop1 (fun t16 w next18=>n5c16 (.pointer (some ⟨p4,0,none⟩)) (.pointer (some ⟨p11,0,none⟩)) (.pointer (some ⟨p12,0,none⟩)) (.pointer (some ⟨p13,0,none⟩)) (.pointer (some ⟨p14,0,none⟩)) t16 (.int .i64 (d.msgs.length:Int)) (.int .i64 (k:Int)) next18 (retR fun r w'=>r = .bool true∧Ext w0 w') w) (.int .i64 0) (w.setCell ⟨gF,j*15+6,none⟩ (.int .i64 (f.high+1))):=by
  intro hw
  have ho:=Only.setCell w gF (j*15+6) (.int .i64 (f.high+1))
  have hrf:refsF { f with high:=f.high+1 }=refsF f:=rfl
  have htw:=calm_set (f1:={ f with high:=f.high+1 }) ht hk hf hrf rfl
  have hF':=fields_set (f1:={ f with high:=f.high+1 }) ⟨cssF,hOF,hmF⟩ hf 6 (.int .i64 (f.high+1)) (by decide) (fun tv cv=>rfl) rfl rfl
  have sv:Save gF (gF+1) w (w.setCell ⟨gF,j*15+6,none⟩ (.int .i64 (f.high+1))):=(Save.refl gF (gF+1) w).setCell (Nat.le_refl _) (Nat.lt_succ_self _) _
  have hN:=msgs_field hO hmt (by rw [hmt.1];exact hA) hck hk he rfl sv hTF hF' (Nat.le_refl _)
  refine hgo { d with msgs:=d.msgs.set k ⟨m.name,m.fields.set j { f with high:=f.high+1 }⟩ } _ htw (by simp) (fun hcw i a ha=>?_) (e.setCell (show w0.heap.size≤gF by omega) _) ho (by simp) ((ho p13 (ne_type o13 hTF (by decide))).trans o13) hN.plain
  obtain ⟨hd,hz⟩:=(check_fine hc).2.2.1.okZ hk
  obtain ⟨hd',hz'⟩:=(check_fine hcw).2.2.1.okZ (k:=k) (m:=⟨m.name,m.fields.set j { f with high:=f.high+1 }⟩) (by rw [List.getElem?_set_self hkl])
  exact spans_grow hc ht hcw htw hk rfl (wide_rel hf rfl hw hd hz hd' hz') ha
 have hwr:(f.kind=1∨f.kind=3∨f.kind=5∨f.kind=6)→IntKind.i64.wrap (f.high+1)=f.high+1:=fun hw=>by have:=wide_top hc hk hf hw;exact wrap_ok (by omega) (by omega)
 unfold n5c21
 by_cases k1:f.kind=1
 · have hwr:=hwr (.inl k1)
   simp (disch:=try exact DI) only [↓PR,QR,simprocAttr,(cells_of_heap o13).1,hEk.c2 er,(cells_of_heap o11).1,hrem,h15,k1,hfF,hwr,↓n5c20,↓n5c19,↓n5c18,↓n5c17]
   exact hwide (.inl k1)
 by_cases k3:f.kind=3
 · have hwr:=hwr (.inr (.inl k3))
   simp (disch:=try exact DI) only [↓PR,QR,simprocAttr,(cells_of_heap o13).1,hEk.c2 er,(cells_of_heap o11).1,hrem,h15,k3,hfF,hwr,↓n5c20,↓n5c19,↓n5c18,↓n5c17]
   exact hwide (.inr (.inl k3))
 by_cases k5:f.kind=5
 · have hwr:=hwr (.inr (.inr (.inl k5)))
   simp (disch:=try exact DI) only [↓PR,QR,simprocAttr,(cells_of_heap o13).1,hEk.c2 er,(cells_of_heap o11).1,hrem,h15,k5,hfF,hwr,↓n5c20,↓n5c19,↓n5c18,↓n5c17]
   exact hwide (.inr (.inr (.inl k5)))
 by_cases k6:f.kind=6
 · have hwr:=hwr (.inr (.inr (.inr k6)))
   simp (disch:=try exact DI) only [↓PR,QR,simprocAttr,(cells_of_heap o13).1,hEk.c2 er,(cells_of_heap o11).1,hrem,h15,k6,hfF,hwr,↓n5c20,↓n5c19,↓n5c18,↓n5c17]
   exact hwide (.inr (.inr (.inr k6)))
 have d1:(f.kind == 1)=false:=by simpa using k1
 have d3:(f.kind == 3)=false:=by simpa using k3
 have d5:(f.kind == 5)=false:=by simpa using k5
 have d6:(f.kind == 6)=false:=by simpa using k6
 simp (disch:=try exact DI) only [↓PR,QR,simprocAttr,(cells_of_heap o13).1,hEk.c2 er,(cells_of_heap o11).1,hrem,h15,d1,d3,d5,d6,↓n5c20,↓n5c19,↓n5c18]
 exact hstay
end
theorem MsgsA.save {w w':World} {lo hi lo2 hi2:Nat} {v:Value} {l:List MsgD} (h:MsgsA w lo2 hi2 v l) (hs:Save lo hi w w') (hd:Away w lo2 hi2 lo hi [TT,TC,TF,TM]):MsgsA w' lo2 hi2 v l:=by
 obtain ⟨css,h1,h2,h3⟩:=h
 exact ⟨css,own_save h1 hs hd (by simp),h2.imp fun _ _ ⟨fv,h1,h2⟩=>⟨fv,h1,fields_save h2 hs (hd.sub (by simp))⟩,h3⟩
def moreF (b:Int):FieldD:={ name:=⟨#[122,122,122,122]⟩,kind:=1,bits:=b,little:=false,loose:=false,low:=0,high:=0,base:=0,terms:=[],of:=ByteArray.empty,tag:=ByteArray.empty,fr:=ByteArray.empty,cases:=[],check:=0,key:=0 }
section
variable {w0:World} {d:DefD} {m:MsgD} {mv mv1 mvw mva fvm:Value} {p4 p11 p12 p13 p14 lo1 hi1 lo2 hi2 lo hi k:Nat}
theorem calm_more8 {b:Int} (ht:calm d) (hk:d.msgs[k]?=some m):calm { d with msgs:=d.msgs.set k ⟨m.name,m.fields++[moreF b]⟩ }:=by
 intro x hx
 rcases List.mem_or_eq_of_mem_set hx with hx | hx
 · exact ht x hx
 · subst hx
   have hm:=ht m (List.mem_of_getElem? hk)
   refine ⟨?_,fun y hy=>?_⟩
   · have:allRefs (m.fields++[moreF b])=allRefs m.fields:=by unfold allRefs;rw [List.flatMap_append];simp [refsF,moreF]
     rw [this];exact hm.1
   · rcases List.mem_append.1 hy with hy | hy
     · exact hm.2 y hy
     · simp only [List.mem_singleton] at hy
       subst hy
       simp [moreF]
theorem grow_fur {w:World} {fN bN:Nat} (hfN:fN≤255) (hbN:bN≤255) (hk:d.msgs[k]?=some m) (hl:d.msgs.length≤10) (hc:(checkP d).2.2=0) (ht:calm d)
 (hn0:0 < m.fields.length) (hn1:m.fields.length≤1000) (hM:MsgsOf w0 mv d.msgs) (o4:w.heap[p4]?=some (.cells (defCells d mv).toArray 24 (0,0))) (o12:w.heap[p12]?=some (.cells (defCells d mv1).toArray 24 (0,0))) (A12:MsgsA w lo1 hi1 mv1 d.msgs)
 (o13:w.heap[p13]?=some (.cells (defCells d mvw).toArray 24 (0,0))) (A13:MsgsA w lo2 hi2 mvw d.msgs) (hlo1:w0.heap.size≤lo1) (hlo2:w0.heap.size≤lo2) (hl1:lo1≤hi1) (h12:hi1≤lo2) (hl2:lo2≤hi2) (h23:hi2≤lo)
 (hlo:w0.heap.size≤lo) (hlh:lo≤hi) (hhi:hi≤w.heap.size) (N:MsgsN w lo hi mva d.msgs) (g14:w0.heap.size≤p14) (e:Ext w0 w)
 (o11:w.heap[p11]?=some (.cells #[.string m.name,fvm] TM (0,0))) (l11:p11 < lo1) (hF:FieldsOf w0 fvm m.fields) (o14:w.heap[p14]?=some (.cells (defCells d mva).toArray 24 (0,0))) :
 drawK w fun C11 w=>n5c23 (.int .u8 (fN:Int)) (.int .u8 (bN:Int)) (.pointer (some ⟨p4,0,none⟩)) (.pointer (some ⟨p11,0,none⟩)) (.pointer (some ⟨p12,0,none⟩)) (.pointer (some ⟨p13,0,none⟩)) (.pointer (some ⟨p14,0,none⟩)) (.int .i64 (d.msgs.length:Int)) (.int .i64 (k:Int)) C11 (retR fun r w'=>r = .bool true∧Ext w0 w') w:=by
 have hkl:=(List.getElem?_eq_some_iff.1 hk).1
 obtain ⟨css,hO,hmt,hA⟩:=A12
 obtain ⟨ck,hck⟩:=getElem?_lt (l:=css) (k:=k) (by rw [hmt.1];exact hkl)
 obtain ⟨fv,he,hFN⟩:=hmt.2 k m ck hk hck
 have hFN0:=hFN
 obtain ⟨cssF,hOF,hmF⟩:=hFN
 obtain ⟨gM,capM,rfl,hgM,hgMl,hTM,hfM,hElM⟩:=hO.1.row (fun x=>x.2) (by rw [hmt.1];omega)
 obtain ⟨gF,capF,rfl,hgF,hgFl,hTF,hfF,hElF⟩:=hOF.1.row (fun x=>x.2) (by rw [hmF.1];omega)
 have hEk:=hElM k ck hck
 rw [he] at hEk
 rw [hmt.1] at *
 rw [hmF.1] at *
 have hgFh:gF < hi1:=hOF.2 gF rfl
 have hgMh:gM < hi1:=hO.2 gM rfl
 have n12:p12≠gF:=ne_type o12 hTF (by decide)
 have nM:gM≠gF:=by
  obtain ⟨cur,fr,h⟩:=hTM
  exact ne_type h hTF (by decide)
 have er:=Ext.refl w
 refine drawK_introB (w1:=w) gF gF (fun _ _ _ _=>rfl) ?_
 unfold n5c23
 simp (disch:=try exact DI) only [↓PR,QR,simprocAttr,(cells_of_heap o12).1,hEk.c2 er]
 generalize IntKind.i64.wrap (1+(IntKind.i64.wrap (bN:Int)).tmod 32)=nb
 generalize hA':World.alloc (World.drew w) _=A
 have eA:Ext w A:=by rw [← hA'];exact ee
 have oZ:A.heap[w.heap.size]?=some (.cells (fieldCells (moreF nb) (.slice none 0 0) (.slice none 0 0)).toArray TF (0,0)):=by
  rw [← hA']
  have:=heap_new w.drew (fieldCells (moreF nb) (.slice none 0 0) (.slice none 0 0)).toArray TF
  rw [World.size_drew] at this
  exact this
 have sA:A.heap.size=w.heap.size+1:=by rw [← hA'];simp only [World.size_alloc,World.size_drew]
 clear hA'
 refine ⟨fun b hb _ _=>eA.block b hb,?_⟩
 refine app_field (W:=w0) (hFN0.ext eA) hn0 hn1 (by omega) hlo1 (e.trans eA) oZ rfl rfl ?_
 intro v' w' gr hFX u1 e' sv g1 hg tg
 obtain rfl:gF=gr:=Option.some.inj (show some gF=some gr from hg)
 refine ⟨fun b hb n _=>(sv.block b (by omega) (by omega)).trans (eA.block b hb),?_⟩
 have hX:=msgs_more (hO.ext eA) (hmt.imp fun _ _ h=>h.ext eA) (by rw [hmt.1];exact hA) hck hk he rfl sv tg hFX
 have cM:w'.cell? ⟨gM,k*2+1,none⟩=some (.slice (some ⟨gF,0,none⟩) m.fields.length capF):=sv.cell (eA.cell (hEk.c2 er).2) (by omega)
 have fM:∀ o,w'.frozen? ⟨gM,o,none⟩=false:=by
  rcases hO.1.2 with ⟨h2,_⟩ | ⟨b,cp,cur,h2,_,h3,_⟩
  · cases h2
  · injection h2 with h2;injection h2 with h2;injection h2 with h2;subst h2
    exact (cells_of_heap (sv.obj (eA.obj h3) (by omega))).2
 unfold n5c22
 simp (disch:=try exact DI) only [↓PR,QR,simprocAttr,cM,fM]
 refine turnK_intro ?_
 refine drawK_intro ?_
 have hoM:=Only.setCell w' gM (k*2+1) v'
 have eD:Ext (w'.setCell ⟨gM,k*2+1,none⟩ v') (w'.setCell ⟨gM,k*2+1,none⟩ v').drew:=(Ext.refl _).wdrew
 have keep:∀ {p:Nat} {ob:Obj},w.heap[p]?=some ob→p≠gF→p≠gM→(w'.setCell ⟨gM,k*2+1,none⟩ v').drew.heap[p]?=some ob:=fun h h1 h2=>eD.obj ((hoM _ h2).trans (sv.obj (eA.obj h) (by omega)))
 have tM:TypeAt w gM TM:=hTM
 have sS:A.heap.size≤w'.heap.size:=sv.size
 refine grow_wide hfN hk hl hc ht (calm_more8 (b:=nb) ht hk) (by simp) (fun hcm i a ha=>?_) hn0 hn1 hM (keep o4 (ne_type o4 hTF (by decide)) (ne_type o4 tM (by decide))) (keep o12 n12 (ne_type o12 tM (by decide))) (hX.ext eD) (keep o13 (ne_type o13 hTF (by decide)) (ne_type o13 tM (by decide)))
  ((((A13.ext eA).save sv (.inr (.inl (by omega)))).only hoM (.inr (.inl (by omega)))).ext eD) hlo2 h12 (by omega) h23 hlo hlh (show hi≤(w'.setCell ⟨gM,k*2+1,none⟩ v').drew.heap.size by have h1:=(Ext.refl (w'.setCell ⟨gM,k*2+1,none⟩ v')).wdrew.size;rw [World.size_setCell] at h1;omega) (((msgs_save (N.ext eA) sv (.inr (.inl (by omega)))).only hoM (.inr (.inl (by omega)))).ext eD) g14 ((e'.setCell (show w0.heap.size≤gM by omega) v').trans eD) (keep o11 (ne_type o11 hTF (by decide)) (by omega)) hF (keep o14 (ne_type o14 hTF (by decide)) (ne_type o14 tM (by decide)))
 obtain ⟨hd,hz⟩:=(check_fine hc).2.2.1.okZ hk
 obtain ⟨hd',hz'⟩:=(check_fine hcm).2.2.1.okZ (k:=k) (m:=⟨m.name,m.fields++[moreF nb]⟩) (by rw [List.getElem?_set_self hkl])
 exact spans_grow hc ht hcm (calm_more8 ht hk) hk rfl (more_rel hd hz hd' hz') ha
end
end Go.Proofs.YtdfhjlggcdemhaaGreat
