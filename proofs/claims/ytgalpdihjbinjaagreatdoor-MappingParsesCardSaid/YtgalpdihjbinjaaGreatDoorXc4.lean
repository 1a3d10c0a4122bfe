/-
  Lemmas for the claim.
-/
import Derived.Test.YtgalpdihjbinjaaGreatDoorXc3
set_option linter.all false
set_option maxHeartbeats 40000000
set_option maxRecDepth 100000
open Go.Instr (loadAt storeAt fieldAt indexAt buildSlice mapUpdate makeFunc alloc build box extract fill sliceAt lookup makeInterface)
open Go.Proofs.Tryz
namespace Go.Proofs.YtgalpdihjbinjaaGreatDoor
open Go.Shelf
def Uj:Go.Shelf.Ren:=⟨λ | 156=>59 | 165=>98 | 166=>99 | 169=>100 | 240=>130 | 241=>131 | 276=>157 | 277=>158 | n=>n,λ | 31=>94 | 9=>9 | 3=>3 | 4=>4 | 0=>0 | 20=>20 | 72=>159 | 76=>163 | 70=>157 | 37=>40 | 75=>162 | 127=>195 | 164=>220 | 5=>5 | 80=>165 | n=>n,λ | n=>n⟩
def BP:Go.Proofs.Lays.n156 Pg Uj:={
 mixed:=K5
 f156:=func59.trans (congrArg some K5)
 f165:=func98.trans (congrArg some K5)
 f166:=func99.trans (congrArg some K5)
 f169:=func100.trans (congrArg some K5)
 f240:=func130.trans (congrArg some K5)
 f241:=func131.trans (congrArg some K5)
 f276:=func157.trans (congrArg some K5)
 f277:=func158.trans (congrArg some K5)
 t0:=underlying0
 a0:=Tryz.isAgg0
 z0:=Tryz.sizeOf0
 v0:=Tryz.zeroValue0
 t3:=underlying3
 a3:=Tryz.isAgg3
 z3:=Tryz.sizeOf3
 v3:=Tryz.zeroValue3
 t4:=underlying4
 a4:=Tryz.isAgg4
 z4:=Tryz.sizeOf4
 v4:=Tryz.zeroValue4
 t9:=underlying9
 a9:=Tryz.isAgg9
 z9:=Tryz.sizeOf9
 v9:=Tryz.zeroValue9
 t20:=underlying20
 a20:=Tryz.isAgg20
 z20:=Tryz.sizeOf20
 v20:=Tryz.zeroValue20
 t31:=underlying94
 a31:=Tryz.isAgg94
 z31:=Tryz.sizeOf94
 v31:=Tryz.zeroValue94
 t37:=underlying40
 a37:=Tryz.isAgg40
 z37:=Tryz.sizeOf40
 v37:=Tryz.zeroValue40
 t70:=underlying157
 a70:=Tryz.isAgg157
 z70:=Tryz.sizeOf157
 v70:=Tryz.zeroValue157
 t72:=underlying159
 a72:=Tryz.isAgg159
 z72:=Tryz.sizeOf159
 v72:=Tryz.zeroValue159
 t75:=underlying162
 a75:=Tryz.isAgg162
 z75:=Tryz.sizeOf162
 v75:=Tryz.zeroValue162
 t76:=underlying163
 a76:=Tryz.isAgg163
 z76:=Tryz.sizeOf163
 v76:=Tryz.zeroValue163
 t127:=underlying195
 a127:=Tryz.isAgg195
 z127:=Tryz.sizeOf195
 v127:=Tryz.zeroValue195
 t164:=underlying220
 a164:=Tryz.isAgg220
 z164:=Tryz.sizeOf220
 v164:=Tryz.zeroValue220 }
def Vo:Builder.Extra Pg Uj:={
 sizeBuilder:=K5
 liesBuilder:=K5
 t5:=underlying5
 a5:=Tryz.isAgg5
 z5:=Tryz.sizeOf5
 v5:=Tryz.zeroValue5
 infoByte:=K5
 cellsByte:=K5
 sizeByte:=K5
 neB5:=by decide }
open Go.RowKit in
def jB (bk o c:Nat) (xs:List ByteArray) (sep:ByteArray) (w:World) (hcells:∀ (j:Nat) x,xs[j]?=some x→w.cell? ⟨bk,o+j,none⟩=some (.string x)) (hbk:bk < w.heap.size) (hN:xs.length≤140737488355328) (hcap:xs.length≤c) (YJ:(Lib.join (xs.map (·.data.toList)) sep.data.toList).length≤140737488355328) :
 Calls Pg 59 #[.slice (some ⟨bk,o,none⟩) xs.length c,.string sep] w λ e w'=>e = .returned (.string ⟨(Lib.join (xs.map (·.data.toList)) sep.data.toList).toArray⟩)∧Below w.heap.size w w':=Any.strings_Join BP Vo bk o c xs sep w hcells hbk hN hcap YJ
def BM:Go.Shelf.Ren:=⟨λ | 103=>128 | 210=>156 | 206=>190 | n=>n,λ | 9=>9 | 4=>4 | 24=>65 | 3=>3 | n=>n,λ | n=>n⟩
def My:Go.Proofs.Lays.n103 Pg BM:={
 mixed:=K5
 f103:=func128.trans (congrArg some K5)
 f206:=func190.trans (congrArg some K5)
 f210:=func156.trans (congrArg some K5)
 t3:=underlying3
 a3:=Tryz.isAgg3
 z3:=Tryz.sizeOf3
 v3:=Tryz.zeroValue3
 t4:=underlying4
 a4:=Tryz.isAgg4
 z4:=Tryz.sizeOf4
 v4:=Tryz.zeroValue4
 t9:=underlying9
 a9:=Tryz.isAgg9
 z9:=Tryz.sizeOf9
 v9:=Tryz.zeroValue9
 t24:=underlying65
 a24:=Tryz.isAgg65
 z24:=Tryz.sizeOf65
 v24:=Tryz.zeroValue65 }
open Go.RowKit in
def JZ (s p:ByteArray) (w:World) :
 Calls Pg 128 #[.string s,.string p] w λ e w'=>e = .returned (.tuple #[.string ⟨(Lib.trimPrefix s.data.toList p.data.toList).toArray⟩,.bool (Lib.hasPrefix s.data.toList p.data.toList)])∧w'=w:=Any.strings_CutPrefix My s p w
def BN:Go.Shelf.Ren:=⟨λ | 104=>49 | 211=>86 | 207=>124 | n=>n,λ | 9=>9 | 4=>4 | 24=>65 | 3=>3 | n=>n,λ | n=>n⟩
def Mz:Go.Proofs.Lays.n104 Pg BN:={
 mixed:=K5
 f104:=func49.trans (congrArg some K5)
 f207:=func124.trans (congrArg some K5)
 f211:=func86.trans (congrArg some K5)
 t3:=underlying3
 a3:=Tryz.isAgg3
 z3:=Tryz.sizeOf3
 v3:=Tryz.zeroValue3
 t4:=underlying4
 a4:=Tryz.isAgg4
 z4:=Tryz.sizeOf4
 v4:=Tryz.zeroValue4
 t9:=underlying9
 a9:=Tryz.isAgg9
 z9:=Tryz.sizeOf9
 v9:=Tryz.zeroValue9
 t24:=underlying65
 a24:=Tryz.isAgg65
 z24:=Tryz.sizeOf65
 v24:=Tryz.zeroValue65 }
open Go.RowKit in
def J1 (s p:ByteArray) (w:World) (hs:s.size≤9223372036854775807) :
 Calls Pg 49 #[.string s,.string p] w λ e w'=>e = .returned (.tuple #[.string ⟨(Lib.trimSuffix s.data.toList p.data.toList).toArray⟩,.bool (Lib.hasSuffix s.data.toList p.data.toList)])∧w'=w:=Any.strings_CutSuffix Mz s p w hs
def jz:Go.Shelf.Ren:=⟨λ | 171=>101 | 243=>132 | 246=>159 | 283=>191 | 284=>192 | 285=>193 | 286=>194 | 129=>208 | 317=>207 | 318=>209 | 319=>210 | 320=>211 | 337=>244 | 338=>245 | n=>n,λ | 3=>3 | 9=>9 | 2=>2 | 4=>4 | 171=>246 | 0=>0 | 53=>191 | 37=>40 | 5=>5 | 173=>249 | 212=>281 | 51=>273 | 20=>20 | 213=>282 | 46=>197 | 232=>305 | 233=>306 | n=>n,λ | 17=>5 | 18=>6 | 19=>7 | n=>n⟩
def If:Go.Proofs.LaysM.n171 Pg jz:={
 mixed:=K5
 f129:=func208.trans (congrArg some K5)
 f171:=func101.trans (congrArg some K5)
 f243:=func132.trans (congrArg some K5)
 f246:=func159.trans (congrArg some K5)
 f283:=func191.trans (congrArg some K5)
 f284:=func192.trans (congrArg some K5)
 f285:=func193.trans (congrArg some K5)
 f286:=func194.trans (congrArg some K5)
 f317:=func207.trans (congrArg some K5)
 f318:=func209.trans (congrArg some K5)
 f319:=func210.trans (congrArg some K5)
 f320:=func211.trans (congrArg some K5)
 f337:=func244.trans (congrArg some K5)
 f338:=func245.trans (congrArg some K5)
 t0:=underlying0
 a0:=Tryz.isAgg0
 z0:=Tryz.sizeOf0
 v0:=Tryz.zeroValue0
 t2:=underlying2
 a2:=Tryz.isAgg2
 z2:=Tryz.sizeOf2
 v2:=Tryz.zeroValue2
 t3:=underlying3
 a3:=Tryz.isAgg3
 z3:=Tryz.sizeOf3
 v3:=Tryz.zeroValue3
 t4:=underlying4
 a4:=Tryz.isAgg4
 z4:=Tryz.sizeOf4
 v4:=Tryz.zeroValue4
 t5:=underlying5
 a5:=Tryz.isAgg5
 z5:=Tryz.sizeOf5
 v5:=Tryz.zeroValue5
 t9:=underlying9
 a9:=Tryz.isAgg9
 z9:=Tryz.sizeOf9
 v9:=Tryz.zeroValue9
 t20:=underlying20
 a20:=Tryz.isAgg20
 z20:=Tryz.sizeOf20
 v20:=Tryz.zeroValue20
 t37:=underlying40
 a37:=Tryz.isAgg40
 z37:=Tryz.sizeOf40
 v37:=Tryz.zeroValue40
 t46:=underlying197
 a46:=Tryz.isAgg197
 z46:=Tryz.sizeOf197
 v46:=Tryz.zeroValue197
 t51:=underlying273
 a51:=Tryz.isAgg273
 z51:=Tryz.sizeOf273
 v51:=Tryz.zeroValue273
 t53:=underlying191
 a53:=Tryz.isAgg191
 z53:=Tryz.sizeOf191
 v53:=Tryz.zeroValue191
 t171:=underlying246
 a171:=Tryz.isAgg246
 z171:=Tryz.sizeOf246
 v171:=Tryz.zeroValue246
 t173:=underlying249
 a173:=Tryz.isAgg249
 z173:=Tryz.sizeOf249
 v173:=Tryz.zeroValue249
 t212:=underlying281
 a212:=Tryz.isAgg281
 z212:=Tryz.sizeOf281
 v212:=Tryz.zeroValue281
 t213:=underlying282
 a213:=Tryz.isAgg282
 z213:=Tryz.sizeOf282
 t232:=underlying305
 a232:=Tryz.isAgg305
 z232:=Tryz.sizeOf305
 v232:=Tryz.zeroValue305
 t233:=underlying306
 a233:=Tryz.isAgg306
 z233:=Tryz.sizeOf306
 v233:=Tryz.zeroValue306
 g17:=K5
 g18:=K5
 g19:=K5
 i0:=K5
 i2:=K5
 i3:=K5
 i4:=K5
 i5:=K5
 i9:=K5
 i20:=K5
 i37:=K5
 i46:=K5
 i51:=K5
 i53:=K5
 i171:=K5
 i173:=K5
 i212:=K5
 i232:=K5
 i233:=K5
 m17:=K5
 m18:=K5
 m19:=by kernel_rfl }
open Go.RowKit Go.Sort Go.Lib in
def jA (n:Int) (h0 : -9223372036854775808≤n) (h1:n≤9223372036854775807) (w:World) (htab:Lib.TabIs Pg w "internal/strconv.uint64pow10" .u64 Lib.pow10Tab) :
 Calls Pg 101 #[.int .i64 n] w λ e w'=>e = .returned (.string ⟨(Lib.itoa n).toArray⟩)∧∃ k os,w'=grow (w.drewN k) os:=Any.strconv_Itoa If n h0 h1 w htab
def KE:Go.Shelf.Ren:=⟨λ | 172=>125 | 244=>152 | 245=>153 | 247=>183 | 279=>184 | 280=>185 | 281=>186 | 282=>187 | 287=>155 | 316=>205 | 171=>101 | 205=>206 | 321=>188 | 322=>189 | 243=>132 | 246=>159 | 283=>191 | 284=>192 | 285=>193 | 286=>194 | 129=>208 | 317=>207 | 318=>209 | 319=>210 | 320=>211 | 337=>244 | 338=>245 | n=>n,λ | 9=>9 | 3=>3 | 75=>162 | 76=>163 | 4=>4 | 5=>5 | 167=>239 | 37=>40 | 0=>0 | 85=>240 | 2=>2 | 168=>242 | 53=>191 | 175=>192 | 46=>197 | 210=>278 | 127=>195 | 145=>294 | 143=>292 | 21=>21 | 171=>246 | 173=>249 | 212=>281 | 51=>273 | 20=>20 | 213=>282 | 232=>305 | 233=>306 | 80=>165 | n=>n,λ | 15=>3 | 16=>4 | 17=>5 | 18=>6 | 19=>7 | n=>n⟩
def Uz:Go.Proofs.LaysC.n172 Pg KE:={
 mixed:=K5
 f129:=func208.trans (congrArg some K5)
 f171:=func101.trans (congrArg some K5)
 f172:=func125.trans (congrArg some K5)
 f205:=func206.trans (congrArg some K5)
 f243:=func132.trans (congrArg some K5)
 f244:=func152.trans (congrArg some K5)
 f245:=func153.trans (congrArg some K5)
 f246:=func159.trans (congrArg some K5)
 f247:=func183.trans (congrArg some K5)
 f279:=func184.trans (congrArg some K5)
 f280:=func185.trans (congrArg some K5)
 f281:=func186.trans (congrArg some K5)
 f282:=func187.trans (congrArg some K5)
 f283:=func191.trans (congrArg some K5)
 f284:=func192.trans (congrArg some K5)
 f285:=func193.trans (congrArg some K5)
 f286:=func194.trans (congrArg some K5)
 f287:=func155.trans (congrArg some K5)
 f316:=func205.trans (congrArg some K5)
 f317:=func207.trans (congrArg some K5)
 f318:=func209.trans (congrArg some K5)
 f319:=func210.trans (congrArg some K5)
 f320:=func211.trans (congrArg some K5)
 f321:=func188.trans (congrArg some K5)
 f322:=func189.trans (congrArg some K5)
 f337:=func244.trans (congrArg some K5)
 f338:=func245.trans (congrArg some K5)
 t0:=underlying0
 a0:=Tryz.isAgg0
 z0:=Tryz.sizeOf0
 v0:=Tryz.zeroValue0
 t2:=underlying2
 a2:=Tryz.isAgg2
 z2:=Tryz.sizeOf2
 v2:=Tryz.zeroValue2
 t3:=underlying3
 a3:=Tryz.isAgg3
 z3:=Tryz.sizeOf3
 v3:=Tryz.zeroValue3
 t4:=underlying4
 a4:=Tryz.isAgg4
 z4:=Tryz.sizeOf4
 v4:=Tryz.zeroValue4
 t5:=underlying5
 a5:=Tryz.isAgg5
 z5:=Tryz.sizeOf5
 v5:=Tryz.zeroValue5
 t9:=underlying9
 a9:=Tryz.isAgg9
 z9:=Tryz.sizeOf9
 v9:=Tryz.zeroValue9
 t20:=underlying20
 a20:=Tryz.isAgg20
 z20:=Tryz.sizeOf20
 v20:=Tryz.zeroValue20
 t21:=underlying21
 a21:=Tryz.isAgg21
 z21:=Tryz.sizeOf21
 v21:=Tryz.zeroValue21
 t37:=underlying40
 a37:=Tryz.isAgg40
 z37:=Tryz.sizeOf40
 v37:=Tryz.zeroValue40
 t46:=underlying197
 a46:=Tryz.isAgg197
 z46:=Tryz.sizeOf197
 v46:=Tryz.zeroValue197
 t51:=underlying273
 a51:=Tryz.isAgg273
 z51:=Tryz.sizeOf273
 v51:=Tryz.zeroValue273
 t53:=underlying191
 a53:=Tryz.isAgg191
 z53:=Tryz.sizeOf191
 v53:=Tryz.zeroValue191
 t75:=underlying162
 a75:=Tryz.isAgg162
 z75:=Tryz.sizeOf162
 v75:=Tryz.zeroValue162
 t76:=underlying163
 a76:=Tryz.isAgg163
 z76:=Tryz.sizeOf163
 v76:=Tryz.zeroValue163
 t85:=underlying240
 a85:=Tryz.isAgg240
 z85:=Tryz.sizeOf240
 v85:=Tryz.zeroValue240
 t127:=underlying195
 a127:=Tryz.isAgg195
 z127:=Tryz.sizeOf195
 v127:=Tryz.zeroValue195
 t143:=underlying292
 a143:=Tryz.isAgg292
 z143:=Tryz.sizeOf292
 v143:=Tryz.zeroValue292
 t145:=underlying294
 a145:=Tryz.isAgg294
 z145:=Tryz.sizeOf294
 v145:=Tryz.zeroValue294
 t167:=underlying239
 a167:=Tryz.isAgg239
 z167:=Tryz.sizeOf239
 v167:=Tryz.zeroValue239
 t168:=underlying242
 a168:=Tryz.isAgg242
 z168:=Tryz.sizeOf242
 v168:=Tryz.zeroValue242
 t171:=underlying246
 a171:=Tryz.isAgg246
 z171:=Tryz.sizeOf246
 v171:=Tryz.zeroValue246
 t173:=underlying249
 a173:=Tryz.isAgg249
 z173:=Tryz.sizeOf249
 v173:=Tryz.zeroValue249
 t175:=underlying192
 a175:=Tryz.isAgg192
 z175:=Tryz.sizeOf192
 v175:=Tryz.zeroValue192
 t210:=underlying278
 a210:=Tryz.isAgg278
 z210:=Tryz.sizeOf278
 v210:=Tryz.zeroValue278
 t212:=underlying281
 a212:=Tryz.isAgg281
 z212:=Tryz.sizeOf281
 v212:=Tryz.zeroValue281
 t213:=underlying282
 a213:=Tryz.isAgg282
 z213:=Tryz.sizeOf282
 t232:=underlying305
 a232:=Tryz.isAgg305
 z232:=Tryz.sizeOf305
 v232:=Tryz.zeroValue305
 t233:=underlying306
 a233:=Tryz.isAgg306
 z233:=Tryz.sizeOf306
 v233:=Tryz.zeroValue306
 g15:=K5
 g16:=K5
 g17:=K5
 g18:=K5
 g19:=K5
 t80:=underlying165
 a80:=Tryz.isAgg165
 z80:=Tryz.sizeOf165
 v80:=Tryz.zeroValue165
 i0:=K5
 i2:=K5
 i3:=K5
 i4:=K5
 i5:=K5
 i9:=K5
 i20:=K5
 i21:=K5
 i37:=K5
 i46:=K5
 i51:=K5
 i53:=K5
 i75:=K5
 i76:=K5
 i80:=K5
 i85:=K5
 i127:=K5
 i143:=K5
 i145:=K5
 i167:=K5
 i168:=K5
 i171:=K5
 i173:=K5
 i175:=K5
 i210:=K5
 i212:=K5
 i232:=K5
 i233:=K5
 m15:=K5
 m16:=K5
 m17:=K5
 m18:=K5
 m19:=K5
 c0:=K5
 c2:=K5
 c3:=K5
 c4:=K5
 c5:=K5
 c9:=K5
 c20:=K5
 c21:=K5
 c37:=K5
 c46:=K5
 c51:=K5
 c53:=K5
 c75:=K5
 c76:=K5
 c80:=K5
 c85:=K5
 c127:=K5
 c143:=K5
 c145:=K5
 c167:=K5
 c168:=K5
 c171:=K5
 c173:=K5
 c175:=K5
 c210:=K5
 c212:=K5
 c213:=K5
 c232:=K5
 c233:=by kernel_rfl }
open Go.RowKit in
def zF (s:ByteArray) (hmax:s.size≤9223372036854775806) (v:Int) (h:Lib.atoiAll s.data.toList = .ok v) (w:World) :
 Calls Pg 125 #[.string s] w λ e w'=>e = .returned (.tuple #[.int .i64 v,.nilIface])∧(w'=w∨∃ t,w'=Lib.bytesWorld w 5 t):=Any.strconv_Atoi_ok Uz s hmax v h w
open Go.RowKit in
def Kt (s:ByteArray) (hlim:s.size≤281474976710656) (h:Lib.atoiAll s.data.toList=Go.Lib.NumEnd.syntax) (ev:Value) (w:World) (hv:w.cell? ⟨3,0,none⟩=some ev) (hev:ev = .nilIface∨∃ te pe,ev = .iface te pe) :
 Calls Pg 125 #[.string s] w λ e w'=>∃ N,e = .returned (.tuple #[.int .i64 (0),.iface 242 (Qq5 N)])∧w.heap.size≤N∧w'.heap[N]?=some (.cells #[.string ⟨#[65,116,111,105]⟩,.string s,ev] 278 (0,0))∧Below w.heap.size w w':=Any.strconv_Atoi_syntax Uz s hlim h ev w hv hev
open Go.RowKit in
def KN (s:ByteArray) (hlim:s.size≤281474976710656) (h:Lib.atoiAll s.data.toList = .range) (ev:Value) (w:World) (hv:w.cell? ⟨4,0,none⟩=some ev) (hev:ev = .nilIface∨∃ te pe,ev = .iface te pe) :
 Calls Pg 125 #[.string s] w λ e w'=>∃ N,e = .returned (.tuple #[.int .i64 (Lib.atoiSat s.data.toList),.iface 242 (Qq5 N)])∧w.heap.size≤N∧w'.heap[N]?=some (.cells #[.string ⟨#[65,116,111,105]⟩,.string s,ev] 278 (0,0))∧Below w.heap.size w w':=Any.strconv_Atoi_range Uz s hlim h ev w hv hev
def BQ:Go.Shelf.Ren:=⟨λ | 221=>85 | 268=>121 | 138=>122 | 143=>123 | 195=>148 | 197=>149 | 218=>150 | 219=>151 | 260=>178 | 217=>179 | 225=>180 | 224=>181 | 267=>182 | 266=>203 | 314=>204 | n=>n,λ | 9=>9 | 3=>3 | 31=>94 | 4=>4 | 0=>0 | 105=>215 | 21=>21 | 5=>5 | 46=>197 | 119=>269 | 139=>272 | 138=>271 | 146=>274 | 51=>273 | n=>n,λ | 1=>0 | 3=>1 | 4=>2 | n=>n⟩
def MC:Go.Proofs.Lays.n221 Pg BQ:={
 mixed:=K5
 f138:=func122.trans (congrArg some K5)
 f143:=func123.trans (congrArg some K5)
 f195:=func148.trans (congrArg some K5)
 f197:=func149.trans (congrArg some K5)
 f217:=func179.trans (congrArg some K5)
 f218:=func150.trans (congrArg some K5)
 f219:=func151.trans (congrArg some K5)
 f221:=func85.trans (congrArg some K5)
 f224:=func181.trans (congrArg some K5)
 f225:=func180.trans (congrArg some K5)
 f260:=func178.trans (congrArg some K5)
 f266:=func203.trans (congrArg some K5)
 f267:=func182.trans (congrArg some K5)
 f268:=func121.trans (congrArg some K5)
 f314:=func204.trans (congrArg some K5)
 t0:=underlying0
 a0:=Tryz.isAgg0
 z0:=Tryz.sizeOf0
 v0:=Tryz.zeroValue0
 t3:=underlying3
 a3:=Tryz.isAgg3
 z3:=Tryz.sizeOf3
 v3:=Tryz.zeroValue3
 t4:=underlying4
 a4:=Tryz.isAgg4
 z4:=Tryz.sizeOf4
 v4:=Tryz.zeroValue4
 t5:=underlying5
 a5:=Tryz.isAgg5
 z5:=Tryz.sizeOf5
 v5:=Tryz.zeroValue5
 t9:=underlying9
 a9:=Tryz.isAgg9
 z9:=Tryz.sizeOf9
 v9:=Tryz.zeroValue9
 t21:=underlying21
 a21:=Tryz.isAgg21
 z21:=Tryz.sizeOf21
 v21:=Tryz.zeroValue21
 t31:=underlying94
 a31:=Tryz.isAgg94
 z31:=Tryz.sizeOf94
 v31:=Tryz.zeroValue94
 t46:=underlying197
 a46:=Tryz.isAgg197
 z46:=Tryz.sizeOf197
 v46:=Tryz.zeroValue197
 t51:=underlying273
 a51:=Tryz.isAgg273
 z51:=Tryz.sizeOf273
 v51:=Tryz.zeroValue273
 t105:=underlying215
 a105:=Tryz.isAgg215
 z105:=Tryz.sizeOf215
 v105:=Tryz.zeroValue215
 t119:=underlying269
 a119:=Tryz.isAgg269
 z119:=Tryz.sizeOf269
 t138:=underlying271
 a138:=Tryz.isAgg271
 z138:=Tryz.sizeOf271
 v138:=Tryz.zeroValue271
 t139:=underlying272
 a139:=Tryz.isAgg272
 z139:=Tryz.sizeOf272
 v139:=Tryz.zeroValue272
 t146:=underlying274
 a146:=Tryz.isAgg274
 z146:=Tryz.sizeOf274
 v146:=Tryz.zeroValue274
 g1:=K5
 g3:=K5
 g4:=by kernel_rfl }
open Go.RowKit Go.Lib in
def Gw (s sep:ByteArray) (sv:Nat) (n:Int) (N:Nat) (m:Int) (w:World) (hs:s.size < 4294967281) (hm:w.cell? ⟨0,0,none⟩=some (.int .i64 m)) (h1:1≤sep.size) (hsv:sv≤sep.size) (hn0:n≠0) (hn63:n≤9223372036854775807) (hN:(N:Int)=min (if n < 0 then (Lib.countB s sep:Int)+1 else n) ((s.size:Int)+1)) :
 Calls Pg 85 #[.string s,.string sep,.int .i64 sv,.int .i64 n] w λ e w'=>
  e = .returned (.slice (some ⟨w.heap.size,0,none⟩) (Lib.splitB sep sv (N - 1) s).length N)∧w'=w.alloc (.cells (Lib.cellsOf (Lib.splitB sep sv (N - 1) s) N) 9):=Any.strings_genSplit MC K5 s sep sv n N m w hs hm h1 hsv hn0 hn63 hN
def BO:Go.Shelf.Ren:=⟨λ | 146=>50 | 221=>85 | 268=>121 | 138=>122 | 143=>123 | 195=>148 | 197=>149 | 218=>150 | 219=>151 | 260=>178 | 217=>179 | 225=>180 | 224=>181 | 267=>182 | 266=>203 | 314=>204 | n=>n,λ | 9=>9 | 31=>94 | 3=>3 | 4=>4 | 0=>0 | 105=>215 | 21=>21 | 5=>5 | 46=>197 | 119=>269 | 139=>272 | 138=>271 | 146=>274 | 51=>273 | n=>n,λ | 1=>0 | 3=>1 | 4=>2 | n=>n⟩
def MA:Go.Proofs.Lays.n146 Pg BO:={
 mixed:=K5
 f138:=func122.trans (congrArg some K5)
 f143:=func123.trans (congrArg some K5)
 f146:=func50.trans (congrArg some K5)
 f195:=func148.trans (congrArg some K5)
 f197:=func149.trans (congrArg some K5)
 f217:=func179.trans (congrArg some K5)
 f218:=func150.trans (congrArg some K5)
 f219:=func151.trans (congrArg some K5)
 f221:=func85.trans (congrArg some K5)
 f224:=func181.trans (congrArg some K5)
 f225:=func180.trans (congrArg some K5)
 f260:=func178.trans (congrArg some K5)
 f266:=func203.trans (congrArg some K5)
 f267:=func182.trans (congrArg some K5)
 f268:=func121.trans (congrArg some K5)
 f314:=func204.trans (congrArg some K5)
 t0:=underlying0
 a0:=Tryz.isAgg0
 z0:=Tryz.sizeOf0
 v0:=Tryz.zeroValue0
 t3:=underlying3
 a3:=Tryz.isAgg3
 z3:=Tryz.sizeOf3
 v3:=Tryz.zeroValue3
 t4:=underlying4
 a4:=Tryz.isAgg4
 z4:=Tryz.sizeOf4
 v4:=Tryz.zeroValue4
 t5:=underlying5
 a5:=Tryz.isAgg5
 z5:=Tryz.sizeOf5
 v5:=Tryz.zeroValue5
 t9:=underlying9
 a9:=Tryz.isAgg9
 z9:=Tryz.sizeOf9
 v9:=Tryz.zeroValue9
 t21:=underlying21
 a21:=Tryz.isAgg21
 z21:=Tryz.sizeOf21
 v21:=Tryz.zeroValue21
 t31:=underlying94
 a31:=Tryz.isAgg94
 z31:=Tryz.sizeOf94
 v31:=Tryz.zeroValue94
 t46:=underlying197
 a46:=Tryz.isAgg197
 z46:=Tryz.sizeOf197
 v46:=Tryz.zeroValue197
 t51:=underlying273
 a51:=Tryz.isAgg273
 z51:=Tryz.sizeOf273
 v51:=Tryz.zeroValue273
 t105:=underlying215
 a105:=Tryz.isAgg215
 z105:=Tryz.sizeOf215
 v105:=Tryz.zeroValue215
 t119:=underlying269
 a119:=Tryz.isAgg269
 z119:=Tryz.sizeOf269
 t138:=underlying271
 a138:=Tryz.isAgg271
 z138:=Tryz.sizeOf271
 v138:=Tryz.zeroValue271
 t139:=underlying272
 a139:=Tryz.isAgg272
 z139:=Tryz.sizeOf272
 v139:=Tryz.zeroValue272
 t146:=underlying274
 a146:=Tryz.isAgg274
 z146:=Tryz.sizeOf274
 v146:=Tryz.zeroValue274
 g1:=K5
 g3:=K5
 g4:=by kernel_rfl }
open Go.RowKit Go.Lib in
def ql (s sep:ByteArray) (m:Int) (w:World) (hs:s.size < 4294967281) (hm:w.cell? ⟨0,0,none⟩=some (.int .i64 m)) (h1:1≤sep.size) :
 Calls Pg 50 #[.string s,.string sep] w λ e w'=>
  e = .returned (.slice (some ⟨w.heap.size,0,none⟩) (Lib.countB s sep+1) (Lib.countB s sep+1))∧w'=w.alloc (.cells ((Lib.splitB sep 0 (Lib.countB s sep) s).map Value.string).toArray 9):=Any.strings_Split MA K5 s sep m w hs hm h1
open Sw
open Go.RowKit (intOf Below)
def WX (n:Int):BAr:=⟨(Go.Lib.itoa n).toArray⟩
def Kx (sep:BAr) (xs:List BAr):BAr:=⟨(Go.Lib.join (xs.map (·.data.toList)) sep.data.toList).toArray⟩
def xj {a b:BAr} (h:a.data.toList=b.data.toList):a=b:=by
 cases a;cases b
 congr
 exact Array.toList_inj.1 h
def size_append (a b:BAr):(a++b).size=a.size+b.size:=by simp [ByteArray.size_append]
def Q1 {n:Int} (h0 : -9223372036854775808≤n) (h1:n≤9223372036854775807):(WX n).size≤21:=by
 have:=Go.Lib.itoa_length_le n h0 h1
 unfold WX ByteArray.size
 simpa using this
def UR (w:Wd):Prop:=Go.Lib.TabIs Pg w "internal/strconv.uint64pow10" .u64 Go.Lib.pow10Tab
def ZfT:(Pg.globalNamed "internal/strconv.uint64pow10").isSome=true:=K5
def UR.lt {w:Wd} (h:UR w) {g:Nat} (hg:Pg.globalNamed "internal/strconv.uint64pow10" = some g):g < w.heap.size:=by
 unfold UR Go.Lib.TabIs World.var? at h
 rw [hg] at h
 simp only [Option.bind_some] at h
 rcases Nat.lt_or_ge g w.heap.size with h' | h'
 · exact h'
 · rw [Array.getElem?_eq_none h'] at h;cases h
def UR.same {w w':Wd} (h:UR w) (hb:∀ g,Pg.globalNamed "internal/strconv.uint64pow10" = some g→w'.heap[g]?=w.heap[g]?):UR w':=by
 obtain ⟨g,hg⟩:=Option.isSome_iff_exists.1 ZfT
 have:=hb g hg
 unfold UR Go.Lib.TabIs World.var? at h ⊢
 rw [hg] at h ⊢
 simp only [Option.bind_some] at h ⊢
 rw [this]
 exact h
def UR.ext {w w':Wd} (h:UR w) (e:Ext w w'):UR w':=h.same λ g hg=>e.block g (h.lt hg)
def PD (w:Wd) (k:Nat) (os:Array Obj):Ext w (Sort.grow (w.drewN k) os):=⟨rfl,rfl,rfl,by show w.heap.size≤(w.heap++os).size;simp,λ i hi=>by show (w.heap++os)[i]?=_;rw [Array.getElem?_append_left hi]⟩
def KT {w:Wd} (hT:UR w) (n:Int) (h0 : -9223372036854775808≤n) (h1:n≤9223372036854775807):Ret Pg 101 #[.int .i64 n] w λ r w'=>r = .string (WX n)∧Ext w w':=by
 refine Calls.mono (jA n h0 h1 w hT) ?_
 rintro e w' ⟨rfl,k,os,rfl⟩
 exact ⟨_,rfl,rfl,PD w k os⟩
def jW {w:Wd} {base:Nat} {v:Vl} {l:List BAr} (h:VO w base v l) (sep:BAr) (hl:0 < l.length) (hn:l.length≤100000) (hz:(Kx sep l).size≤1000000000):Ret Pg 59 #[v,.string sep] w λ r w'=>r = .string (Kx sep l)∧Ext w w':=by
 obtain ⟨g,cap,rfl,_,hg,_,_,hE⟩:=h.row (λ _=>rfl) hl
 obtain ⟨A,c,hv,hlc,_⟩:=Zd.open (h.slice (E:=zL) (λ _=>rfl) (λ _ _=>rfl))
 injection hv with _ _ hv
 subst hv
 have hzz:(Go.Lib.join (l.map (·.data.toList)) sep.data.toList).length≤140737488355328:=by
  unfold Kx ByteArray.size at hz
  simp only [List.size_toArray] at hz
  omega
 refine Calls.mono (jB g 0 cap l sep w (λ j x hx=>?_) hg C1 hlc hzz) ?_
 · have:=hE j x hx 0 _ rfl
   rw [Nat.zero_add]
   simpa using this
 · rintro e w' ⟨rfl,hb⟩
   exact ⟨_,rfl,rfl,Ext.of_below hb⟩
structure UO (w:Wd):Prop where
 tab:UR w
 len:∃ m,w.cell? ⟨0,0,none⟩=some (.int .i64 m)
 syn:∃ ev,w.cell? ⟨3,0,none⟩=some ev∧(ev = .nilIface∨∃ te pe,ev = .iface te pe)
 rng:∃ ev,w.cell? ⟨4,0,none⟩=some ev∧(ev = .nilIface∨∃ te pe,ev = .iface te pe)
def UO.ext {w w':Wd} (h:UO w) (e:Ext w w'):UO w':=⟨h.tab.ext e,h.len.imp λ _ h=>e.cell h,h.syn.imp λ _ h=>⟨e.cell h.1,h.2⟩,h.rng.imp λ _ h=>⟨e.cell h.1,h.2⟩⟩
def ZbA {w:Wd} {b n c:Nat} {l:List BAr} (hn:n=l.length) (h1:l.length≤c) (h2:c≤9223372036854775807) (hc:∀ k x,l[k]?=some x→w.cell? ⟨b,k,none⟩=some (.string x)):Zd w 1 zL (.slice (some ⟨b,0,none⟩) n c) l:=by
 subst hn
 refine ⟨_,_,rfl,h1,h2,λ _=>⟨_,_,rfl,λ k x hx=>⟨[.string x],rfl,λ j v hv=>?_,rfl⟩⟩⟩
 cases j with
 | zero=>injection hv with hv;subst hv;simpa using hc k x hx
 | succ j=>cases hv
def NL {w:Wd} (hE:UO w) (s:BAr) (c:UInt8) (hs:s.size≤100000):Ret Pg 50 #[.string s,.string ⟨#[c]⟩] w λ r w'=>Ext w w'∧∃ n,r = .slice (some ⟨w.heap.size,0,none⟩) n n∧Zd w' 1 zL r (Go.Lib.splitB ⟨#[c]⟩ 0 (Go.Lib.countB s ⟨#[c]⟩) s):=by
 obtain ⟨m,hm⟩:=hE.len
 have hl:=Go.Lib.splitB_all ⟨#[c]⟩ (Nat.le_refl _) 0 _ s rfl
 have hle:=Go.Lib.countB_le ⟨#[c]⟩ (Nat.le_refl _) s.size s (Nat.le_refl _)
 refine Calls.mono (ql s ⟨#[c]⟩ m w C1 hm (Nat.le_refl _)) ?_
 rintro e w' ⟨rfl,rfl⟩
 refine ⟨_,rfl,(Ext.refl w).alloc _,_,rfl,?_⟩
 refine ZbA hl.symm C1 C1 λ k x hx=>?_
 generalize Go.Lib.splitB ⟨#[c]⟩ 0 (Go.Lib.countB s ⟨#[c]⟩) s=L at hx ⊢
 rw [QN,List.getElem?_toArray,List.getElem?_map,hx]
 rfl
def QG (c:UInt8):Bool:=decide (48≤c.toNat)&&decide (c.toNat≤57)
def BU (n:Nat) (c:UInt8):Nat:=n*10+(c.toNat - 48)
def Fx (l:List UInt8):Nat:=l.foldl BU 0
def qt (l:List UInt8) (c:UInt8):Fx (l++[c])=Fx l*10+(c.toNat - 48):=by simp [Fx,BU]
def QQ {c:UInt8}:QG c=true↔48≤c.toNat∧c.toNat≤57:=by simp [QG]
def FI {l:List UInt8} {c:UInt8}:(l++[c]).all QG=true↔l.all QG=true∧QG c=true:=by simp
def Ob {l:List UInt8} (h:l≠[]) (c:UInt8):(l++[c]).head?=l.head?:=by
 cases l with
 | nil=>exact absurd rfl h
 | cons a l=>rfl
def UW {u:Nat} (h:u < 10):(UInt8.ofNat (48+u)).toNat=48+u:=by
 rw [UInt8.toNat_ofNat']
 exact Nat.mod_eq_of_lt C1
def GY (u:Nat):Go.Lib.decDigits u≠[]∧(Go.Lib.decDigits u).all QG=true∧Fx (Go.Lib.decDigits u)=u∧((Go.Lib.decDigits u).head?=some 48→u=0):=by
 induction u using Nat.strongRecOn with
 | ind u ih=>
  by_cases h:u < 10
  · rw [Go.Lib.decDigits_one h]
    refine ⟨by simp,?_,?_,λ e=>?_⟩
    · rw [List.all_cons,List.all_nil,Bool.and_true,QQ,UW h];omega
    · show 0*10+((UInt8.ofNat (48+u)).toNat - 48)=u
      rw [UW h];omega
    · injection e with e
      have:=UW h
      rw [e] at this
      have h48:(48:UInt8).toNat=48:=rfl
      omega
  · obtain ⟨a1,a2,a3,a4⟩:=ih (u / 10) C1
    rw [Go.Lib.decDigits,dif_neg h]
    have hm:u % 10 < 10:=Nat.mod_lt _ C1
    refine ⟨by simp,FI.2 ⟨a2,?_⟩,?_,λ e=>?_⟩
    · rw [QQ,UW hm];omega
    · rw [qt,a3,UW hm];omega
    · rw [Ob a1] at e
      have:=a4 e
      omega
def O0 (l:List UInt8):(ByteArray.mk l.toArray).data.toList=l:=rfl
def V0 {n:Int} (h:n < 0):Go.Lib.itoa n=45::Go.Lib.decDigits n.natAbs:=by unfold Go.Lib.itoa;rw [if_pos h]
def V2 {n:Int} (h:¬ n < 0):Go.Lib.itoa n=Go.Lib.decDigits n.toNat:=by unfold Go.Lib.itoa;rw [if_neg h]
def Pv {d:List UInt8} (h3:d.all QG=true) {c:UInt8} (hc:c.toNat < 48):d.head?≠some c:=by
 cases d with
 | nil=>simp
 | cons a l=>
  rw [List.all_cons,Bool.and_eq_true] at h3
  have:=QQ.1 h3.1
  intro e
  injection e with e
  subst e
  omega
def Ye (c:UInt8):List UInt8→List (List UInt8)
 | []=>[[]]
 | b::l=>if b=c then []::Ye c l else match Ye c l with
  | []=>[[b]]
  | x::r=>(b::x)::r
def QE (c:UInt8):∀ l,Ye c l≠[]
 | []=>by simp [Ye]
 | b::l=>by
  unfold Ye
  split
  · simp
  · cases Ye c l<;>simp
def Wu (c:UInt8) (l:List UInt8):Ye c (c::l)=[]::Ye c l:=by rw [Ye,if_pos rfl]
def Y4 {c b:UInt8} (h:b≠c) {l x:List UInt8} {r:List (List UInt8)} (hl:Ye c l=x::r):Ye c (b::l)=(b::x)::r:=by rw [Ye,if_neg h,hl]
def CQ {c:UInt8}:∀ {x:List UInt8},c ∉ x→Ye c x=[x]
 | [],_=>rfl
 | b::l,h=>by
  have h1:b≠c:=λ e=>h (by rw [e];exact List.mem_cons_self ..)
  exact Y4 h1 (CQ λ e=>h (List.mem_cons_of_mem _ e))
def CR {c:UInt8}:∀ {x:List UInt8} (l:List UInt8),c ∉ x→Ye c (x++c::l)=x::Ye c l
 | [],l,_=>Wu c l
 | b::x,l,h=>by
  have h1:b≠c:=λ e=>h (by rw [e];exact List.mem_cons_self ..)
  exact Y4 h1 (CR (x:=x) l λ e=>h (List.mem_cons_of_mem _ e))
def Hb {b c:UInt8} (l:List UInt8) (h:b≠c):Go.Lib.index (b::l) [c]=if Go.Lib.index l [c] == -1 then -1 else Go.Lib.index l [c]+1:=by
 have hp:([c]:List UInt8).isPrefixOf (b::l)=false:=by simp [List.isPrefixOf,Ne.symm h]
 rw [Go.Lib.index,hp];simp
def Ha (c:UInt8) (l:List UInt8):Go.Lib.index (c::l) [c]=0:=by
 rw [Go.Lib.index];simp [List.isPrefixOf]
def BT (c:UInt8):∀ s:List UInt8,Go.Lib.splitK [c] 0 (Go.Lib.count s [c]) s=Ye c s
 | []=>by rw [Go.Lib.count_one];rfl
 | b::l=>by
  have ih:=BT c l
  by_cases h:b=c
  · subst h
    rw [Go.Lib.count_cons_eq,Nat.add_comm,Go.Lib.splitK,Ha,if_neg K7,Wu,← ih]
    rfl
  · rw [Go.Lib.count_cons_ne b c l h]
    cases hk:Go.Lib.count l [c] with
    | zero=>
     rw [hk] at ih
     exact (Y4 h ih.symm).symm
    | succ k=>
     rw [hk] at ih
     have hge:=Go.Lib.index_ge l [c]
     have hm:Go.Lib.index l [c] ≠ -1:=λ e=>by rw [Go.Lib.count_miss e] at hk;cases hk
     obtain ⟨i,hi⟩:∃ i:Nat,Go.Lib.index l [c]=i:=⟨(Go.Lib.index l [c]).toNat,by omega⟩
     have n1:¬ (((i:Int) == -1)=true):=λ e=>by have:=beq_iff_eq.1 e;omega
     have n2:¬ ((((i:Int)+1) == -1)=true):=λ e=>by have:=beq_iff_eq.1 e;omega
     have t2:((i:Int)+1).toNat=i+1:=C1
     rw [Go.Lib.splitK,hi,if_neg n1] at ih
     rw [Go.Lib.splitK,Hb l h,hi,if_neg n1,if_neg n2,t2]
     refine Eq.trans ?_ (Y4 h ih.symm).symm
     simp only [Int.toNat_natCast,List.length_singleton,Nat.add_zero,List.take_succ_cons]
     rfl
def mkB (l:List UInt8):BAr:=⟨l.toArray⟩
def ZeI (s:BAr):mkB s.data.toList=s:=rfl
def Zeo (c:UInt8) (s:BAr):List BAr:=(Ye c s.data.toList).map mkB
def OW (c:UInt8) (s:BAr):Go.Lib.splitB ⟨#[c]⟩ 0 (Go.Lib.countB s ⟨#[c]⟩) s=Zeo c s:=by
 have h:=Go.Lib.splitB_data ⟨#[c]⟩ 0 (Go.Lib.countB s ⟨#[c]⟩) s
 have hs:Go.Lib.splitK [c] 0 (Go.Lib.countB s ⟨#[c]⟩) s.data.toList=Ye c s.data.toList:=BT c s.data.toList
 have h:(Go.Lib.splitB ⟨#[c]⟩ 0 (Go.Lib.countB s ⟨#[c]⟩) s).map (·.data.toList)=Ye c s.data.toList:=h.trans hs
 unfold Zeo
 rw [← h,List.map_map]
 have:(mkB ∘ λ x:BAr=>x.data.toList)=id:=by funext x;rfl
 rw [this,List.map_id]
def Hd (c:UInt8) (x y:List UInt8) (r:List (List UInt8)):Go.Lib.join (x::y::r) [c]=x++c::Go.Lib.join (y::r) [c]:=by
 rw [Go.Lib.join_cons,Go.Lib.join_cons]
 unfold Go.Lib.joinTail
 simp
def CS (c:UInt8):∀ {xs:List (List UInt8)},xs≠[]→(∀ x∈xs,c ∉ x)→Ye c (Go.Lib.join xs [c])=xs
 | [],h,_=>absurd rfl h
 | [x],_,h=>by rw [Go.Lib.join_one];exact CQ (h x (List.mem_cons_self ..))
 | x::y::r,_,h=>by
  rw [Hd,CR _ (h x (List.mem_cons_self ..)),CS c (by simp) λ z hz=>h z (List.mem_cons_of_mem _ hz)]
def FY:∀ (l:List UInt8) (a:Nat),a≤l.foldl BU a
 | [],a=>Nat.le_refl _
 | c::l,a=>by
  have:=FY l (BU a c)
  rw [List.foldl_cons]
  unfold BU at this ⊢
  omega
def Zei (o:Go.Lib.NumEnd Nat) (n:Nat):Prop:=(o = .ok n)∨(o = .range∧18446744073709551616≤n)
def qf:∀ (l:List UInt8) (a:Nat),l.all QG=true→Zei (Go.Lib.parseUint10 a l) (l.foldl BU a)
 | [],a,_ => .inl rfl
 | c::r,a,h=>by
  rw [List.all_cons,Bool.and_eq_true] at h
  have h2:=QQ.1 h.1
  have hle:=FY r (a*10+(c.toNat - 48))
  simp only [Go.Lib.parseUint10]
  rw [if_pos h2,List.foldl_cons,show BU a c=a*10+(c.toNat - 48) from rfl]
  by_cases h3:1844674407370955162≤a
  · rw [if_pos h3]
    exact .inr ⟨rfl,by omega⟩
  · rw [if_neg h3]
    by_cases h4:18446744073709551616≤a*10+(c.toNat - 48)
    · rw [if_pos h4]
      exact .inr ⟨rfl,by omega⟩
    · rw [if_neg h4]
      exact qf r _ h.2
def Wb (n:Nat):UInt8:=UInt8.ofNat (if n < 10 then 48+n else 87+n)
def Vf (l:List UInt8):List UInt8:=l.flatMap λ c=>[Wb (c.toNat / 16),Wb (c.toNat % 16)]
def PM (c:UInt8):Bool:=(decide (48≤c.toNat)&&decide (c.toNat≤57))||(decide (97≤c.toNat)&&decide (c.toNat≤102))
def Je (l:List UInt8):(Vf l).length=2*l.length:=by
 induction l with
 | nil=>rfl
 | cons a l ih=>
  show (Vf (a::l)).length=_
  unfold Vf at ih ⊢
  rw [List.flatMap_cons,List.length_append,ih,List.length_cons,List.length_cons,List.length_cons,List.length_nil]
  omega
def NM {n:Int} (h0 : -9223372036854775808≤n) (h1:n≤9223372036854775807):Go.Lib.atoiAll (Go.Lib.itoa n) = .ok n:=by
 by_cases hn:n < 0
 · obtain ⟨a1,a2,a3,_⟩:=GY n.natAbs
   have hp:=qf (Go.Lib.decDigits n.natAbs) 0 a2
   change Zei _ (Fx (Go.Lib.decDigits n.natAbs)) at hp
   rw [a3] at hp
   rw [V0 hn,Go.Lib.atoiAll_minus]
   rcases hp with hp | ⟨_,hb⟩
   · unfold Go.Lib.parseMag Go.Lib.signed
     rw [if_neg a1,hp]
     simp only
     rw [if_neg C1]
     congr 1
     omega
   · omega
 · obtain ⟨a1,a2,a3,_⟩:=GY n.toNat
   have hp:=qf (Go.Lib.decDigits n.toNat) 0 a2
   change Zei _ (Fx (Go.Lib.decDigits n.toNat)) at hp
   rw [a3] at hp
   rw [V2 hn]
   cases hd:Go.Lib.decDigits n.toNat with
   | nil=>exact absurd hd a1
   | cons c r=>
    rw [hd] at hp a2
    have hc:=List.all_eq_true.1 a2 c (List.mem_cons_self ..)
    rw [QQ] at hc
    rw [Go.Lib.atoiAll_plain c r C1 C1]
    rcases hp with hp | ⟨_,hb⟩
    · unfold Go.Lib.parseMag Go.Lib.signless
      rw [if_neg (by simp),hp]
      simp only
      rw [if_neg C1]
      congr 1
      omega
    · omega
def IN:BAr:=⟨#[101,110,100]⟩
def kwW (k:Int):List UInt8:=if k=1 then [99,111,112,121] else if k=2 then [97,100,100] else if k=3 then [118,97,108,117,101] else if k=4 then [98,121,116,101,115] else if k=6 then [110,101,115,116,101,100] else if k=7 then [102,105,116] else [116,97,98,108,101]
def YE (l:List UInt8):List UInt8:=if l=[] then [45] else Vf l
def QH (x:Qd):List UInt8:=Go.Lib.itoa x.low++45::(Go.Lib.itoa x.high++58::Go.Lib.itoa x.to)
def WS (r:FrD):List (List UInt8):=if r.kind=1 then [r.fr.data.toList] else if r.kind=2 then [r.fr.data.toList,Go.Lib.itoa r.add] else if r.kind=3 then [Go.Lib.itoa r.value] else if r.kind=4 then [YE r.bytes] else if r.kind=6 then [r.fr.data.toList] else if r.kind=7 then [] else r.fr.data.toList::r.table.map QH
def Xh (r:FrD):List (List UInt8):=r.to.data.toList::kwW r.kind::WS r
def XC (r:FrD):List UInt8:=Go.Lib.join (Xh r) [32]
def Yz (r:FrD):Bool:=match Xg r.kind with
 | none=>false
 | some u=>Wq r u&&(Yq r.to&&(decide (r.to≠IN)&&(!u.fr||Yq r.fr)))
def ZbD {s:BAr} (h:Yq s=true):∀ c∈s.data.toList,WR c=true:=by
 unfold Yq at h
 simp only [Bool.and_eq_true] at h
 exact λ c hc=>List.all_eq_true.1 h.2 c hc
def DE {s:BAr} (h:Yq s=true) {c:UInt8} (hc:WR c=false):c ∉ s.data.toList:=λ hm=>by
 have:=ZbD h c hm
 rw [hc] at this
 cases this
def FQ (n:Nat) {c:UInt8} (hc:QG c=false):c ∉ Go.Lib.decDigits n:=λ hm=>by
 have:=List.all_eq_true.1 (GY n).2.1 c hm
 rw [hc] at this
 cases this
def UZ (n:Int) {c:UInt8} (hc:QG c=false) (h45:c≠45):c ∉ Go.Lib.itoa n:=by
 by_cases hn:n < 0
 · rw [V0 hn]
   intro hm
   rcases List.mem_cons.1 hm with h | h
   · exact h45 h
   · exact FQ _ hc h
 · rw [V2 hn]
   exact FQ _ hc
def F6 (n:Nat) (h:n < 16):PM (Wb n)=true:=by
 have:∀ n:Fin 16,PM (Wb n.1)=true:=K7
 exact this ⟨n,h⟩
def F7:∀ l:List UInt8,(Vf l).all PM=true
 | []=>rfl
 | a::l=>by
  have ih:=F7 l
  unfold Vf at ih ⊢
  rw [List.flatMap_cons,List.all_append,ih,Bool.and_true]
  have h1:a.toNat < 256:=a.toNat_lt
  rw [List.all_cons,List.all_cons,List.all_nil,Bool.and_true,F6 _ C1,F6 _ C1]
  rfl
def FT (l:List UInt8) {c:UInt8} (hc:PM c=false) (h45:c≠45):c ∉ YE l:=by
 unfold YE
 split
 · intro h
   exact h45 (List.mem_singleton.1 h)
 · intro hm
   have:=List.all_eq_true.1 (F7 l) c hm
   rw [hc] at this
   cases this
def TM (x:Qd) {c:UInt8} (hc:QG c=false) (h45:c≠45) (h58:c≠58):c ∉ QH x:=by
 unfold QH
 intro h
 rcases List.mem_append.1 h with h | h
 · exact UZ _ hc h45 h
 rcases List.mem_cons.1 h with h | h
 · exact h45 h
 rcases List.mem_append.1 h with h | h
 · exact UZ _ hc h45 h
 rcases List.mem_cons.1 h with h | h
 · exact h58 h
 · exact UZ _ hc h45 h
def ZaY (k:Int):(32:UInt8) ∉ kwW k∧(10:UInt8) ∉ kwW k:=by
 unfold kwW
 repeat' split
 all_goals decide
def MM {r:FrD} (h:Yz r=true) {c:UInt8} (h1:WR c=false) (h2:QG c=false) (h3:PM c=false) (h45:c≠45) (h58:c≠58) (hk:c ∉ kwW r.kind):∀ x∈Xh r,c ∉ x:=by
 unfold Yz at h
 cases hu:Xg r.kind with
 | none=>rw [hu] at h;cases h
 | some u=>
  rw [hu] at h
  simp only [Bool.and_eq_true,decide_eq_true_eq,Bool.or_eq_true,Bool.not_eq_true'] at h
  obtain ⟨_,hto,_,hfr⟩:=h
  have hf:u.fr=true→c ∉ r.fr.data.toList:=λ hu=>by
   rcases hfr with hfr | hfr
   · rw [hu] at hfr;cases hfr
   · exact DE hfr h1
  intro x hx
  unfold Xh at hx
  rcases List.mem_cons.1 hx with rfl | hx
  · exact DE hto h1
  rcases List.mem_cons.1 hx with rfl | hx
  · exact hk
  unfold WS at hx
  unfold Xg at hu
  split at hx
  · rename_i k1
    rw [if_pos k1] at hu
    injection hu with hu
    rw [List.mem_singleton.1 hx]
    exact hf (by rw [← hu])
  rename_i k1
  rw [if_neg k1] at hu
  split at hx
  · rename_i k2
    rw [if_pos k2] at hu
    injection hu with hu
    rcases List.mem_cons.1 hx with rfl | hx
    · exact hf (by rw [← hu])
    · rw [List.mem_singleton.1 hx];exact UZ _ h2 h45
  rename_i k2
  rw [if_neg k2] at hu
  split at hx
  · rw [List.mem_singleton.1 hx];exact UZ _ h2 h45
  rename_i k3
  rw [if_neg k3] at hu
  split at hx
  · rw [List.mem_singleton.1 hx];exact FT _ h3 h45
  rename_i k4
  rw [if_neg k4] at hu
  have h5:r.kind=5∨r.kind=6→u.fr=true:=λ h=>by
   rcases h with h | h
   · rw [if_pos h] at hu
     injection hu with hu
     rw [← hu]
   · rw [if_neg C1,if_pos h] at hu
     injection hu with hu
     rw [← hu]
  split at hx
  · rename_i k6
    rw [List.mem_singleton.1 hx]
    exact hf (h5 (.inr k6))
  rename_i k6
  split at hx
  · cases hx
  rename_i k7
  have k5:r.kind=5:=by
   by_cases h:r.kind=5
   · exact h
   · rw [if_neg h,if_neg k6,if_neg k7] at hu
     cases hu
  rcases List.mem_cons.1 hx with rfl | hx
  · exact hf (h5 (.inl k5))
  · obtain ⟨y,_,rfl⟩:=List.mem_map.1 hx
    exact TM y h2 h45 h58
def Zaj {r:FrD} (h:Yz r=true):∀ x∈Xh r,(32:UInt8) ∉ x:=MM h K7 K7 K7 K7 K7 (ZaY _).1
def yf {r:FrD} (h:Yz r=true):Ye 32 (XC r)=Xh r:=CS 32 (by unfold Xh;simp) (Zaj h)
def Xz (n:Int):Bool:=decide (-9223372036854775808≤n)&&decide (n≤9223372036854775807)
def Wg (x:Qd):Bool:=Xz x.low&&(Xz x.high&&Xz x.to)
def inF (r:FrD):Bool:=Xz r.add&&(Xz r.value&&r.table.all Wg)
def okF (r:FrD):Bool:=Yz r&&inF r
def ZI (s:List UInt8):List UInt8:=match s with
 | 45::r=>45::r.takeWhile QG
 | s=>s.takeWhile QG
def j0 (l:List UInt8):Prop:=l=[]∨∃ c r,l=c::r∧QG c=false
def Ik {d rest:List UInt8} (h:d.all QG=true) (hr:j0 rest):(d++rest).takeWhile QG=d:=by
 induction d with
 | nil=>
  rcases hr with rfl | ⟨c,r,rfl,hc⟩
  · rfl
  · rw [List.nil_append,List.takeWhile_cons,hc]
    rfl
 | cons a d ih=>
  rw [List.all_cons,Bool.and_eq_true] at h
  rw [List.cons_append,List.takeWhile_cons,h.1,if_pos rfl,ih h.2]
def WN (n:Int) {rest:List UInt8} (hr:j0 rest):ZI (Go.Lib.itoa n++rest)=Go.Lib.itoa n:=by
 by_cases hn:n < 0
 · rw [V0 hn]
   show 45::(Go.Lib.decDigits n.natAbs++rest).takeWhile QG=_
   rw [Ik (GY _).2.1 hr]
 · rw [V2 hn]
   obtain ⟨a1,a2,_⟩:=GY n.toNat
   cases hd:Go.Lib.decDigits n.toNat with
   | nil=>exact absurd hd a1
   | cons c r=>
    rw [hd] at a2
    have hc:=List.all_eq_true.1 a2 c (List.mem_cons_self ..)
    rw [QQ] at hc
    have Y7:c≠45:=λ e=>by rw [e] at hc;exact absurd hc.1 K7
    have:ZI (c::r++rest)=(c::r++rest).takeWhile QG:=by
     unfold ZI
     split
     · rename_i heq
       injection heq with h1 _
       exact absurd h1 Y7
     · rfl
    rw [this,Ik a2 hr]
def UT (l:List UInt8):Option Int:=match Go.Lib.atoiAll l with
 | .ok n=>some n
 | _=>none
def VQ {n:Int} (h:Xz n=true):UT (Go.Lib.itoa n)=some n:=by
 unfold Xz at h
 simp only [Bool.and_eq_true,decide_eq_true_eq] at h
 unfold UT
 rw [NM h.1 h.2]
def Cm (s:List UInt8):Option (Int×List UInt8):=(UT (ZI s)).map λ n=>(n,s.drop (ZI s).length)
def Ge {n:Int} (h:Xz n=true) {rest:List UInt8} (hr:j0 rest):Cm (Go.Lib.itoa n++rest)=some (n,rest):=by
 unfold Cm
 rw [WN n hr,VQ h,Option.map_some,List.drop_left]
def Ze4 (s:List UInt8):Option Qd:=match Cm s with
 | some (low,45::s2)=>match Cm s2 with
  | some (high,58::s3)=>match Cm s3 with
   | some (to,[])=>some ⟨low,high,to⟩
   | _=>none
  | _=>none
 | _=>none
def Zbo {x:Qd} (h:Wg x=true):Ze4 (QH x)=some x:=by
 unfold Wg at h
 simp only [Bool.and_eq_true] at h
 unfold Ze4 QH
 rw [Ge h.1 (.inr ⟨45,_,rfl,by decide⟩)]
 simp only
 rw [Ge h.2.1 (.inr ⟨58,_,rfl,by decide⟩)]
 simp only
 have:=Ge h.2.2 (rest:=[]) (.inl rfl)
 rw [List.append_nil] at this
 rw [this]
def VY (c:UInt8):Option Nat:=if 48≤c.toNat∧c.toNat≤57 then some (c.toNat - 48) else if 97≤c.toNat∧c.toNat≤102 then some (c.toNat - 87) else if 65≤c.toNat∧c.toNat≤70 then some (c.toNat - 55) else none
def XQ:List UInt8→Option (List UInt8)
 | []=>some []
 | [a]=>(VY a).map λ x=>[UInt8.ofNat x]
 | a::b::l=>match VY a,VY b,XQ l with
  | some x,some y,some r=>some (UInt8.ofNat (16*x+y)::r)
  | _,_,_=>none
def Q0 (s:List UInt8):List UInt8:=(XQ s).getD []
def Db {n:Nat} (h:n < 16):VY (Wb n)=some n:=by
 have:∀ n:Fin 16,VY (Wb n.1)=some n.1:=K7
 exact this ⟨n,h⟩
def B3:∀ l:List UInt8,XQ (Vf l)=some l
 | []=>rfl
 | a::l=>by
  have h1:a.toNat < 256:=a.toNat_lt
  show XQ (Wb (a.toNat / 16)::Wb (a.toNat % 16)::Vf l)=_
  rw [XQ,Db C1,Db C1,B3 l]
  simp only
  rw [show 16*(a.toNat / 16)+a.toNat % 16=a.toNat by omega,UInt8.ofNat_toNat]
def GR (l:List UInt8):Q0 (YE l)=l:=by
 unfold Q0 YE
 by_cases h:l=[]
 · rw [if_pos h,h]
   rfl
 · rw [if_neg h,B3]
   rfl
def H4:List (List UInt8)→Option (List Qd)
 | []=>some []
 | w::l=>match Ze4 w,H4 l with
  | some x,some r=>some (x::r)
  | _,_=>none
def H5:∀ {l:List Qd},l.all Wg=true→H4 (l.map QH)=some l
 | [],_=>rfl
 | x::l,h=>by
  rw [List.all_cons,Bool.and_eq_true] at h
  rw [List.map_cons,H4,Zbo h.1,H5 h.2]
def ZiW:List (List UInt8)→Option FrD
 | t::k::rest=>
  let a:=rest[0]?.getD []
  if k=kwW 1 then some ⟨mkB t,1,mkB a,0,0,[],[]⟩
  else if k=kwW 2 then (Cm (rest[1]?.getD [])).map λ q=>⟨mkB t,2,mkB a,q.1,0,[],[]⟩
  else if k=kwW 3 then (Cm a).map λ q=>⟨mkB t,3,⟨#[]⟩,0,q.1,[],[]⟩
  else if k=kwW 4 then some ⟨mkB t,4,⟨#[]⟩,0,0,Q0 a,[]⟩
  else if k=kwW 5 then (H4 rest.tail).map λ l=>⟨mkB t,5,mkB a,0,0,[],l⟩
  else if k=kwW 6 then some ⟨mkB t,6,mkB a,0,0,[],[]⟩
  else if k=kwW 7 then some ⟨mkB t,7,⟨#[]⟩,0,0,[],[]⟩
  else none
 | _=>none
def Ah {r:FrD} {u:jt} (h:Wq r u=true):(u.fr=false→r.fr=⟨#[]⟩)∧(u.add=false→r.add=0)∧(u.value=false→r.value=0)∧(u.bytes=false→r.bytes=[])∧(u.table=false→r.table=[]):=by
 unfold Wq at h
 simp only [Bool.and_eq_true,Bool.or_eq_true,decide_eq_true_eq,List.length_eq_zero_iff] at h
 obtain ⟨h1,h2,h3,h4,h5⟩:=h
 exact ⟨λ e=>h1.resolve_left (by rw [e];decide),λ e=>h2.resolve_left (by rw [e];decide),λ e=>h3.resolve_left (by rw [e];decide),λ e=>h4.resolve_left (by rw [e];decide),λ e=>h5.resolve_left (by rw [e];decide)⟩
def H2 {r:FrD} (h:okF r=true):ZiW (Xh r)=some r:=by
 unfold okF at h
 rw [Bool.and_eq_true] at h
 obtain ⟨h,hi⟩:=h
 unfold inF at hi
 simp only [Bool.and_eq_true] at hi
 obtain ⟨i1,i2,i3⟩:=hi
 obtain ⟨to,kind,fr,add,value,bytes,table⟩:=r
 unfold Yz at h
 simp only at i1 i2 i3 h
 have hint:∀ n,Xz n=true→Cm (Go.Lib.itoa n)=some (n,[]):=λ n hn=>by
  have:=Ge hn (rest:=[]) (.inl rfl)
  rwa [List.append_nil] at this
 cases hu:Xg kind with
 | none=>rw [hu] at h;cases h
 | some u=>
  rw [hu] at h
  simp only [Bool.and_eq_true] at h
  obtain ⟨c1,c2,c3,c4,c5⟩:=Ah h.1
  simp only at c1 c2 c3 c4 c5
  unfold Xg at hu
  unfold Xh WS
  simp only
  by_cases k1:kind=1
  · subst k1
    rw [if_pos rfl] at hu
    injection hu with hu
    subst hu
    rw [c2 rfl,c3 rfl,c4 rfl,c5 rfl]
    rfl
  by_cases k2:kind=2
  · subst k2
    rw [if_neg K7,if_pos rfl] at hu
    injection hu with hu
    subst hu
    rw [c3 rfl,c4 rfl,c5 rfl,if_neg K7,if_pos rfl]
    show (Cm (Go.Lib.itoa add)).map _=_
    rw [hint _ i1]
    rfl
  by_cases k3:kind=3
  · subst k3
    rw [if_neg K7,if_neg K7,if_pos rfl] at hu
    injection hu with hu
    subst hu
    rw [c1 rfl,c2 rfl,c4 rfl,c5 rfl,if_neg K7,if_neg K7,if_pos rfl]
    show (Cm (Go.Lib.itoa value)).map _=_
    rw [hint _ i2]
    rfl
  by_cases k4:kind=4
  · subst k4
    rw [if_neg K7,if_neg K7,if_neg K7,if_pos rfl] at hu
    injection hu with hu
    subst hu
    rw [c1 rfl,c2 rfl,c3 rfl,c5 rfl,if_neg K7,if_neg K7,if_neg K7,if_pos rfl]
    show some (FrD.mk (mkB to.data.toList) 4 ⟨#[]⟩ 0 0 (Q0 (YE bytes)) [])=_
    rw [GR]
    rfl
  by_cases k5:kind=5
  · subst k5
    rw [if_neg K7,if_neg K7,if_neg K7,if_neg K7,if_pos rfl] at hu
    injection hu with hu
    subst hu
    rw [c2 rfl,c3 rfl,c4 rfl,if_neg K7,if_neg K7,if_neg K7,if_neg K7,if_neg K7,if_neg K7]
    show (H4 (table.map QH)).map _=_
    rw [H5 i3]
    rfl
  by_cases k6:kind=6
  · subst k6
    rw [if_neg K7,if_neg K7,if_neg K7,if_neg K7,if_neg K7,if_pos rfl] at hu
    injection hu with hu
    subst hu
    rw [c2 rfl,c3 rfl,c4 rfl,c5 rfl]
    rfl
  by_cases k7:kind=7
  · subst k7
    rw [if_neg K7,if_neg K7,if_neg K7,if_neg K7,if_neg K7,if_neg K7,if_pos rfl] at hu
    injection hu with hu
    subst hu
    rw [c1 rfl,c2 rfl,c3 rfl,c4 rfl,c5 rfl]
    rfl
  · rw [if_neg k1,if_neg k2,if_neg k3,if_neg k4,if_neg k5,if_neg k6,if_neg k7] at hu
    cases hu
def P3 {r s:FrD} (hr:okF r=true) (hs:okF s=true) (h:XC r=XC s):r=s:=by
 have pr:Yz r=true:=by unfold okF at hr;rw [Bool.and_eq_true] at hr;exact hr.1
 have ps:Yz s=true:=by unfold okF at hs;rw [Bool.and_eq_true] at hs;exact hs.1
 have hw:Xh r=Xh s:=by rw [← yf pr,← yf ps,h]
 have h1:=H2 hr
 rw [hw,H2 hs] at h1
 injection h1 with h1
 exact h1.symm
noncomputable def Xt (s:List UInt8):Option FrD:=open Classical in if h:∃ r,okF r=true∧XC r=s then some (Classical.choose h) else none
def G7 {s:List UInt8} {r:FrD}:Xt s=some r↔okF r=true∧XC r=s:=by
 unfold Xt
 constructor
 · intro h
   split at h
   · rename_i he
     injection h with h
     rw [← h]
     exact Classical.choose_spec he
   · cases h
 · intro h
   have he:∃ r,okF r=true∧XC r=s:=⟨r,h⟩
   rw [dif_pos he]
   congr 1
   have:=Classical.choose_spec he
   exact P3 this.1 h.1 (this.2.trans h.2.symm)
def AC {s:List UInt8}:Xt s=none↔∀ r,okF r=true→XC r≠s:=by
 constructor
 · intro h r hr hl
   rw [G7.2 ⟨hr,hl⟩] at h
   cases h
 · intro h
   cases ho:Xt s with
   | none=>rfl
   | some r=>
    obtain ⟨h1,h2⟩:=G7.1 ho
    exact absurd h2 (h r h1)
def NB (s:List UInt8):Option FrD→Option FrD
 | none=>none
 | some x=>if okF x=true∧XC x=s then some x else none
def AD {s:List UInt8} {o:Option FrD} (h:∀ r,okF r=true→XC r=s→o=some r):Xt s=NB s o:=by
 cases o with
 | none=>
  refine AC.2 λ r hr hl=>?_
  have:=h r hr hl
  cases this
 | some x=>
  show Xt s=if okF x=true∧XC x=s then some x else none
  by_cases hx:okF x=true∧XC x=s
  · rw [if_pos hx]
    exact G7.2 hx
  · rw [if_neg hx]
    refine AC.2 λ r hr hl=>?_
    have:=h r hr hl
    injection this with this
    subst this
    exact hx ⟨hr,hl⟩
def ZdD c d b (a:WPr) (Qu:KV) (R:RT) w:=
 J0 43 c 6 a λ e=>
 I0 41 e a λ f=>
 M0 41 f b a λ g=>
 I0 78 g a λ h=>
 J0 43 d 6 a λ i=>
 I0 41 i a λ j=>
 M0 41 j b a λ k=>
 I0 78 k a λ l=>
 qV Pg a (ZA .neq 78 false h l) λ m=>
 Zr m (
 R (.returned (.bool false)) w) (
 B0 .add 3 true b (QqQ 1) R w λ n w=>
 Qu n w)
def ZdE a c b (Qu:KV) R w:=
 F0 43 a 6 R w λ d w=>
 L0 41 d R w λ e w=>
 G0 41 3 e R w λ f w=>
 B0 .lss 3 false b f R w λ g w=>
 Zr g (
 Z4 w λ h w=>
 ZdD a c b h Qu R w) (
 R (.returned (.bool true)) w)
def ZdF b c f g (R:RT) w:=
 Zx f (.bool true) g λ d=>
 Zp (λ (a:Vl) (w:Wd)=>
 Zx d (.bool true) a λ h=>
 Zr h (
 R (.returned (.bool false)) w) (
 YW (λ i w Qu=>
 ZdE b c i Qu R w) (QqQ 0) w)) λ e=>
 Zm d false (
 F0 43 b 6 R w λ j w=>
 L0 41 j R w λ k w=>
 G0 41 3 k R w λ l w=>
 F0 43 c 6 R w λ m w=>
 L0 41 m R w λ n w=>
 G0 41 3 n R w λ o w=>
 B0 .neq 3 false l o R w λ a w=>
 e a w) (
 e undef w)
def ZdG b c f g R w:=
 Zx f (.bool true) g λ d=>
 Zp (λ (a:Vl) (w:Wd)=>
 ZdF b c d a R w) λ e=>
 Zm d false (
 F0 43 b 5 R w λ h w=>
 L0 40 h R w λ i w=>
 opV Pg (Go.convert 40 9 i) (Zc R) w λ j w=>
 F0 43 c 5 R w λ k w=>
 L0 40 k R w λ l w=>
 opV Pg (Go.convert 40 9 l) (Zc R) w λ m w=>
 B0 .neq 9 false j m R w λ a w=>
 e a w) (
 e undef w)
def ZdH b c f g R w:=
 Zx f (.bool true) g λ d=>
 Zp (λ (a:Vl) (w:Wd)=>
 ZdG b c d a R w) λ e=>
 Zm d false (
 F0 43 b 4 R w λ h w=>
 L0 3 h R w λ i w=>
 F0 43 c 4 R w λ j w=>
 L0 3 j R w λ k w=>
 B0 .neq 3 false i k R w λ a w=>
 e a w) (
 e undef w)
def ZdI b c f g R w:=
 Zx f (.bool true) g λ d=>
 Zp (λ (a:Vl) (w:Wd)=>
 ZdH b c d a R w) λ e=>
 Zm d false (
 F0 43 b 3 R w λ h w=>
 L0 3 h R w λ i w=>
 F0 43 c 3 R w λ j w=>
 L0 3 j R w λ k w=>
 B0 .neq 3 false i k R w λ a w=>
 e a w) (
 e undef w)
def ZdJ b c f g R w:=
 Zx f (.bool true) g λ d=>
 Zp (λ (a:Vl) (w:Wd)=>
 ZdI b c d a R w) λ e=>
 Zm d false (
 F0 43 b 2 R w λ h w=>
 L0 9 h R w λ i w=>
 F0 43 c 2 R w λ j w=>
 L0 9 j R w λ k w=>
 B0 .neq 9 false i k R w λ a w=>
 e a w) (
 e undef w)
def n69 f g R w:=
 opV Pg (box 43 f) (Zc R) w λ a w=>
 opV Pg (box 43 g) (Zc R) w λ b w=>
 F0 43 a 0 R w λ h w=>
 L0 9 h R w λ i w=>
 F0 43 b 0 R w λ j w=>
 L0 9 j R w λ k w=>
 B0 .neq 9 false i k R w λ d w=>
 Zp (λ (c:Vl) (w:Wd)=>
 ZdJ a b d c R w) λ e=>
 Zm d false (
 F0 43 a 1 R w λ l w=>
 L0 39 l R w λ m w=>
 F0 43 b 1 R w λ n w=>
 L0 39 n R w λ o w=>
 B0 .neq 39 false m o R w λ c w=>
 e c w) (
 e undef w)
def Zlo:QqX2 41 n69:=λ h=>by
 refine yD func41 ?_
 refine zs<|zr<|yv h λ h=>yv h λ h=>zm<|zn<|zk<|zs<|zs<|Zq<|yG 6<|yv h λ h=>yv h λ h=>yv h λ h=>yv h λ h=>?_
 refine yb h λ h=>zm<|zn<|yg1 5 5 false [12,13,14,15,16] 16 h (λ _ T hT h=>?_) λ σ w h=>?_
 · refine yv h λ h=>yv h λ h=>yv h λ h=>yv h λ h=>yb h λ h=>zn ?_
   exact zt hT h
 refine yG 2<|yp h λ h=>zm<|zn<|yg1 5 12 false [19,20,21,22,23] 23 h (λ _ T hT h=>?_) λ σ w h=>?_
 · refine yv h λ h=>yv h λ h=>yv h λ h=>yv h λ h=>yb h λ h=>zn ?_
   exact zt hT h
 refine yG 2<|yp h λ h=>zm<|zn<|yg1 5 19 false [26,27,28,29,30] 30 h (λ _ T hT h=>?_) λ σ w h=>?_
 · refine yv h λ h=>yv h λ h=>yv h λ h=>yv h λ h=>yb h λ h=>zn ?_
   exact zt hT h
 refine yG 2<|yp h λ h=>zm<|zn<|yg1 5 26 false [33,34,35,36,37] 37 h (λ _ T hT h=>?_) λ σ w h=>?_
 · refine yv h λ h=>yv h λ h=>yv h λ h=>yv h λ h=>yb h λ h=>zn ?_
   exact zt hT h
 refine yG 2<|yp h λ h=>zm<|zn<|yg1 7 33 false [40,41,42,43,44,45,46] 46 h (λ _ T hT h=>?_) λ σ w h=>?_
 · refine yv h λ h=>yv h λ h=>yv h λ h=>yv h λ h=>yv h λ h=>yv h λ h=>yb h λ h=>zn ?_
   exact zt hT h
 refine yG 2<|yp h λ h=>zm<|zn<|yg1 7 42 false [49,50,51,52,53,54,55] 55 h (λ _ T hT h=>?_) λ σ w h=>?_
 · refine yv h λ h=>yv h λ h=>yx h λ h=>yv h λ h=>yv h λ h=>yx h λ h=>yb h λ h=>zn ?_
   exact zt hT h
 refine yG 1<|yp h λ h=>zn<|ZG<|zk<|yC h (λ h=>zs<|zr<|zm<|zn<|zk<|Zg<|Zb<|Zj rfl rfl h) λ h=>Zk<|zk<|zs<|zs<|zr<|zm<|zn<|zk ?_
 refine Zl<|yl1 [4,5,57,58,59,60,61,62,63,64,65,66,67,68,69,70,71,72,73,74] 5 h λ σ w next h=>zs<|zs<|zr<|zm<|yv h λ h=>yv h λ h=>yx h λ h=>yb h λ h=>zn<|zk<|yC h (λ h=>?_) λ h=>?_
 · refine Zk<|zk<|zs<|Zl<|zs<|yh [64,65,66,67,68,69,70,71,72,73,74] h λ C hC h=>ye 0 hC h λ h=>?_
   refine ye 1 hC h λ h=>?_
   refine yw 2 hC ?_
   refine ye 3 hC h λ h=>?_
   refine ye 4 hC h λ h=>?_
   refine ye 5 hC h λ h=>?_
   refine ye 6 hC h λ h=>?_
   refine yw 7 hC ?_
   refine ye 8 hC h λ h=>?_
   refine ye 9 hC h λ h=>?_
   refine ye 10 hC h λ h=>?_
   exact yz<|zk<|yC h (λ h=>zs<|zr<|zm<|zn<|zk<|Zg<|Zh<|Zb<|Zb<|Zh<|Zb<|Zj rfl rfl h) λ h=>Zk<|Zf<|zk<|zr<|zm<|yb h λ h=>zm<|zn<|zk<|⟨rfl,h⟩
 exact ZN<|Ze<|Ze<|Zs<|zk<|zs<|zr<|zm<|zn<|zk<|Zg<|Zj rfl rfl h
def n25 b R w:=
 B0 .geq 3 true b (QqQ 0) R w λ c w=>
 Zp (λ (a:Vl) (w:Wd)=>
 Zx c a (.bool false) λ e=>
 R (.returned e) w) λ d=>
 Zm c true (
 B0 .lss 3 true b (QqQ 34359738368) R w λ a w=>
 d a w) (
 d undef w)
def ZkI:QqX1 42 n25:=λ h=>by
 refine yD func42 ?_
 refine zs<|zr<|zm<|zn<|zk<|zs<|Zq<|yG 3<|zm<|yb h λ h=>zm<|zn<|yg1 2 2 true [6,7] 7 h (λ _ T hT h=>?_) λ σ w h=>?_
 · refine zm<|yb h λ h=>zn ?_
   exact zt hT h
 exact yG 2<|yp h λ h=>zm<|zn<|ZG<|zk<|Zg<|Zj rfl rfl h
def Rp b c a (Zz:KV) R w:=
 X0 41 b a R w λ d w=>
 L0 78 d R w λ e w=>
 X9 Pg c #[e] (Zc R) w λ f w=>
 Zr f (
 R (.returned a) w) (
 B0 .add 3 true a (QqQ 1) R w λ g w=>
 Zz g w)
def ZhM a c R w:=
 G0 41 3 a R w λ d w=>
 YW (λ b w Zz=>
 B0 .lss 3 false b d R w λ e w=>
 Zr e (
 Rp a c b Zz R w) (
 R (.returned (.int .i64 (-1))) w)) (QqQ 0) w
def ZhN:QqX2 43 ZhM:=λ h=>by
 refine yD func43 ?_
 refine zs<|zr<|zm<|zn<|zk<|zs<|zs<|zr<|zm<|yx h λ h=>zm<|zn<|zk<|Zl<|yl1 [4,5,8,9,10,11,12,13,14,15,16,17,18] 8 h λ σ w next h=>?_
 refine zs<|zr<|yb h λ h=>zn<|zk<|zs<|yC h (λ h=>?_) λ h=>?_
 · refine Zk<|zk<|zs<|Zl<|zs<|zr<|zm<|zm<|zn<|zk<|zs<|zr<|zm<|zm<|zm ?_
   refine yv h λ h=>yv h λ h=>yV h λ h=>zn<|zk<|yC h (λ h=>zs<|zr<|zm<|zm<|zn<|zk<|Zg<|Zh<|Zb<|Zb<|Zh<|Zb<|Zj rfl rfl h) λ h=>Zk<|Zf<|zk<|zr<|yb h λ h=>zm<|zn<|zk ?_
   exact ⟨rfl,h⟩
 exact ZN<|Ze<|Ze<|Zs<|zk<|zs<|zr<|zm<|zn<|zk<|Zg<|Zj rfl rfl h
def n18 f b R w:=
 opV Pg (box 78 f) (Zc R) w λ c w=>
 L0 3 b R w λ g w=>
 F0 78 c 0 R w λ h w=>
 L0 3 h R w λ i w=>
 B0 .geq 3 false g i R w λ d w=>
 Zp (λ (a:Vl) (w:Wd)=>
 Zx d a (.bool false) λ j=>
 R (.returned j) w) λ e=>
 Zm d true (
 L0 3 b R w λ k w=>
 F0 78 c 1 R w λ l w=>
 L0 3 l R w λ m w=>
 B0 .leq 3 false k m R w λ a w=>
 e a w) (
 e undef w)
def ZkC:QqX2 44 n18:=λ h=>by
 refine yD func44 ?_
 refine zs<|zr<|yv h λ h=>zm<|zn<|zk<|zs<|Zq<|yG 5<|yv h λ h=>yv h λ h=>yv h λ h=>yb h λ h=>zm<|zn ?_
 refine yg1 4 4 true [9,10,11,12] 12 h (λ _ T hT h=>?_) λ σ w h=>?_
 · refine yv h λ h=>yv h λ h=>yv h λ h=>yb h λ h=>zn ?_
   exact zt hT h
 exact yG 2<|yp h λ h=>zm<|zn<|ZG<|zk<|Zg<|Zj rfl rfl h
def Ro b c a (Zz:KV) R w:=
 X0 22 b a R w λ d w=>
 L0 60 d R w λ e w=>
 X9 Pg c #[e] (Zc R) w λ f w=>
 Zr f (
 R (.returned a) w) (
 B0 .add 3 true a (QqQ 1) R w λ g w=>
 Zz g w)
def ZhJ a c R w:=
 G0 22 3 a R w λ d w=>
 YW (λ b w Zz=>
 B0 .lss 3 false b d R w λ e w=>
 Zr e (
 Ro a c b Zz R w) (
 R (.returned (.int .i64 (-1))) w)) (QqQ 0) w
def ZhK:QqX2 46 ZhJ:=λ h=>by
 refine yD func46 ?_
 refine zs<|zr<|zm<|zn<|zk<|zs<|zs<|zr<|zm<|yx h λ h=>zm<|zn<|zk<|Zl<|yl1 [4,5,8,9,10,11,12,13,14,15,16,17,18] 8 h λ σ w next h=>?_
 refine zs<|zr<|yb h λ h=>zn<|zk<|zs<|yC h (λ h=>?_) λ h=>?_
 · refine Zk<|zk<|zs<|Zl<|zs<|zr<|zm<|zm<|zn<|zk<|zs<|zr<|zm<|zm<|zm ?_
   refine yv h λ h=>yv h λ h=>yV h λ h=>zn<|zk<|yC h (λ h=>zs<|zr<|zm<|zm<|zn<|zk<|Zg<|Zh<|Zb<|Zb<|Zh<|Zb<|Zj rfl rfl h) λ h=>Zk<|Zf<|zk<|zr<|yb h λ h=>zm<|zn<|zk ?_
   exact ⟨rfl,h⟩
 exact ZN<|Ze<|Ze<|Zs<|zk<|zs<|zr<|zm<|zn<|zk<|Zg<|Zj rfl rfl h
def n22 a b R w:=
 opV Pg (box 60 a) (Zc R) w λ c w=>
 F0 60 c 0 R w λ d w=>
 L0 9 d R w λ e w=>
 L0 9 b R w λ f w=>
 B0 .eql 9 false e f R w λ g w=>
 R (.returned g) w
def ZkG:QqX2 47 n22:=λ h=>by
 refine yD func47 ?_
 refine zs<|zr<|yv h λ h=>zm<|zn<|zk<|zs<|zr<|yv h λ h=>yv h λ h=>yv h λ h=>yb h λ h=>zm<|zn<|zk ?_
 exact Zg<|Zj rfl rfl h
def ZcJ f b g d (a:WPr) R w:=
 Zp (λ (c:Vl) (w:Wd)=>
 Zx d c (.bool false) λ h=>
 S0 43 b g R w λ w=>
 a w∧(
 qW Pg 43 b w λ r0=>
 R (.returned (.tuple #[r0,h])) w)) λ e=>
 Zm d true (
 I0 43 b a λ i=>
 C0 60 #[i] R w λ j w=>
 a w∧(
 ZU Pg 59 #[j,(.string { data := #[32] })] (Zc R) w λ k w=>
 a w∧(
 qV Pg a (ZA .eql 9 false k f) λ c=>
 e c w))) (
 e undef w)
def M9 c b (a:WPr) (R:RT) w:=
 I0 43 b a λ d=>
 I0 43 b a λ e=>
 C0 58 #[e] R w λ f w=>
 a w∧(
 ZcJ c b d f a R w)
def Se b c (a d:WPr) R w:=
 qV Pg a (indexAt 94 c (QqQ 0)) λ e=>
 I0 9 e a λ f=>
 J0 43 b 1 a λ g=>
 opU Pg (storeAt 39 g (QqQ 1)) (Zc R) w λ w=>
 a w∧(
 J0 43 b 2 a λ h=>
 S0 9 h f R w λ w=>
 WB w λ i w=>
 d w)
def ZcK b a (c:WPr) R w:=
 E0q a 0 R w λ d w=>
 E0q a 1 R w λ f w=>
 E0q a 2 R w λ g w=>
 F0 43 b 3 R w λ e w=>
 S0 3 e d R w λ w=>
 c w
def Sf a b (c:WPr) R w:=
 opV Pg (indexAt 94 b (QqQ 1)) (Zc R) w λ d w=>
 L0 9 d R w λ e w=>
 C0 87 #[e] R w λ f w=>
 ZcK a f c R w
def Sg b c (a d:WPr) R w:=
 qV Pg a (indexAt 94 c (QqQ 0)) λ e=>
 I0 9 e a λ f=>
 J0 43 b 1 a λ g=>
 opU Pg (storeAt 39 g (QqQ 2)) (Zc R) w λ w=>
 a w∧(
 J0 43 b 2 a λ h=>
 S0 9 h f R w λ w=>
 WB w λ i w=>
 Sf b c d R w)
def ZcL b a (c:WPr) R w:=
 E0q a 0 R w λ d w=>
 E0q a 1 R w λ f w=>
 E0q a 2 R w λ g w=>
 F0 43 b 4 R w λ e w=>
 S0 3 e d R w λ w=>
 c w
def ZcM a b (c:WPr) R w:=
 F0 43 a 1 R w λ d w=>
 opU Pg (storeAt 39 d (QqQ 4)) (Zc R) w λ w=>
 F0 43 a 5 R w λ e w=>
 S0 40 e b R w λ w=>
 c w
def Sh a R w:=
 L0 43 a R w λ b w=>
 S0 43 a b R w λ w=>
 qW Pg 43 a w λ r0=>
 R (.returned (.tuple #[r0,(.bool false)])) w
def R1 a b c (zy:KV) R w:=
 F0 43 a 6 R w λ d w=>
 L0 41 d R w λ e w=>
 L0 78 b R w λ f w=>
 opV Pg (buildSlice 41 1 #[(0,f)]) (Zc R) w λ g w=>
 opV Pg (Builtin.append_ #[41,41] 41 #[e,g]) (Zc R) w λ h w=>
 F0 43 a 6 R w λ i w=>
 S0 41 i h R w λ w=>
 B0 .add 3 true c (QqQ 1) R w λ j w=>
 zy j w
def R2 a d b (zy:KV) R w:=
 E0q b 0 R w λ e w=>
 E0q b 1 R w λ f w=>
 opV Pg (alloc 78 true (.tuple #[])) (Zc R) w λ c w=>
 S0 78 c e R w λ w=>
 N0 f R w λ g w=>
 Zr g (
 Sh a R w) (
 R1 a c d zy R w)
def R3 b c a (zy:KV) R w:=
 X0 94 c a R w λ d w=>
 L0 9 d R w λ e w=>
 C0 89 #[e] R w λ f w=>
 R2 b a f zy R w
def EK d a (e:WPr) R w:=
 G0 94 3 a R w λ f w=>
 opV Pg (Builtin.min_ #[3,3] 3 #[(QqQ 3),f]) (Zc R) w λ g w=>
 opV Pg (sliceAt 94 a (some g) none none) (Zc R) w λ b w=>
 G0 94 3 b R w λ h w=>
 YW (λ c w zy=>
 B0 .lss 3 false c h R w λ i w=>
 Zr i (
 R3 d b c zy R w) (
 e w)) (QqQ 0) w
def Lh b c d (a e:WPr) R w:=
 qV Pg a (indexAt 94 d (QqQ 0)) λ f=>
 I0 9 f a λ g=>
 J0 43 b 1 a λ h=>
 opU Pg (storeAt 39 h (QqQ 5)) (Zc R) w λ w=>
 a w∧(
 J0 43 b 2 a λ i=>
 S0 9 i g R w λ w=>
 WB w λ j w=>
 EK b c e R w)
def Li b c (a d:WPr) R w:=
 qV Pg a (indexAt 94 c (QqQ 0)) λ e=>
 I0 9 e a λ f=>
 J0 43 b 1 a λ g=>
 opU Pg (storeAt 39 g (QqQ 6)) (Zc R) w λ w=>
 a w∧(
 J0 43 b 2 a λ h=>
 S0 9 h f R w λ w=>
 WB w λ i w=>
 d w)
def ZeM a R w:=
 L0 43 a R w λ b w=>
 S0 43 a b R w λ w=>
 qW Pg 43 a w λ r0=>
 R (.returned (.tuple #[r0,(.bool false)])) w
def R4 a b (c:WPr) R w:=
 opV Pg (ZA .eql 9 true b (.string { data := #[102,105,116] })) (Zc R) w λ d w=>
 Zr d (
 F0 43 a 1 R w λ e w=>
 opU Pg (storeAt 39 e (QqQ 7)) (Zc R) w λ w=>
 c w) (
 ZeM a R w)
def R5 a d b (c:WPr) R w:=
 opV Pg (ZA .eql 9 true b (.string { data := #[110,101,115,116,101,100] })) (Zc R) w λ e w=>
 Zr e (
 Z4 w λ f w=>
 Li a d f c R w) (
 R4 a b c R w)
def R6 a b (c:WPr) R w:=
 opV Pg (indexAt 94 b (QqQ 0)) (Zc R) w λ d w=>
 L0 9 d R w λ e w=>
 C0 88 #[e] R w λ f w=>
 ZcM a f c R w
def R7 a e b c (d:WPr) R w:=
 opV Pg (ZA .eql 9 true c (.string { data := #[116,97,98,108,101] })) (Zc R) w λ f w=>
 Zr f (
 Z4 w λ g w=>
 Lh a e b g d R w) (
 R5 a b c d R w)
def R8 a b (c:WPr) R w:=
 F0 43 a 1 R w λ d w=>
 opU Pg (storeAt 39 d (QqQ 3)) (Zc R) w λ w=>
 opV Pg (indexAt 94 b (QqQ 0)) (Zc R) w λ e w=>
 L0 9 e R w λ f w=>
 C0 87 #[f] R w λ g w=>
 ZcL a g c R w
def R9 a e b c (d:WPr) R w:=
 opV Pg (ZA .eql 9 true c (.string { data := #[98,121,116,101,115] })) (Zc R) w λ f w=>
 Zr f (
 R6 a b d R w) (
 R7 a e b c d R w)
def Sa a e b c (d:WPr) R w:=
 opV Pg (ZA .eql 9 true c (.string { data := #[118,97,108,117,101] })) (Zc R) w λ f w=>
 Zr f (
 R8 a b d R w) (
 R9 a e b c d R w)
def Sb a e b c (d:WPr) R w:=
 opV Pg (ZA .eql 9 true c (.string { data := #[97,100,100] })) (Zc R) w λ f w=>
 Zr f (
 Z4 w λ g w=>
 Sg a b g d R w) (
 Sa a e b c d R w)
def ZeN a R w:=
 L0 43 a R w λ b w=>
 S0 43 a b R w λ w=>
 qW Pg 43 a w λ r0=>
 R (.returned (.tuple #[r0,(.bool false)])) w
def Sc f b a R w:=
 opV Pg (indexAt 94 a (QqQ 0)) (Zc R) w λ g w=>
 L0 9 g R w λ h w=>
 F0 43 b 0 R w λ i w=>
 S0 9 i h R w λ w=>
 G0 94 3 a R w λ j w=>
 G0 94 3 a R w λ k w=>
 opV Pg (sliceAt 94 a (some (QqQ 2)) (some j) (some k)) (Zc R) w λ l w=>
 opV Pg (buildSlice 94 2 #[(0,(.string { data := #[] })),(1,(.string { data := #[] }))]) (Zc R) w λ m w=>
 opV Pg (Builtin.append_ #[94,94] 94 #[l,m]) (Zc R) w λ c w=>
 opV Pg (indexAt 94 a (QqQ 1)) (Zc R) w λ n w=>
 L0 9 n R w λ d w=>
 opV Pg (ZA .eql 9 true d (.string { data := #[99,111,112,121] })) (Zc R) w λ o w=>
 Zp (λ (w:Wd)=>
 Z4 w λ p w=>
 M9 f b p R w) λ e=>
 Zr o (
 Z4 w λ q w=>
 Se b c q e R w) (
 Sb b a c d e R w)
def Sd c a b R w:=
 G0 94 3 b R w λ d w=>
 B0 .lss 3 true d (QqQ 2) R w λ e w=>
 Zr e (
 ZeN a R w) (
 Sc c a b R w)
def n47 a R w:=
 opV Pg (alloc 43 true (.tuple #[])) (Zc R) w λ b w=>
 ZU Pg 50 #[a,(.string { data := #[32] })] (Zc R) w λ c w=>
 Sd a b c R w
def Zk2:QqX1 51 n47:=λ h=>by
 refine yD func51 ?_
 refine zs<|zr<|yv h λ h=>zm<|zn<|zk<|zs<|zr<|zm<|yc h c50 λ h=>zm<|zn<|zk<|zs<|zs ?_
 refine zr<|zm<|yx h λ h=>yb h λ h=>zn<|zk<|yC h (λ h=>zs<|zr<|yv h λ h=>yu h λ h=>zm<|zn<|zk<|Zg<|Zb<|YD rfl rfl rfl h) λ h=>Zk<|zk<|zs<|zr<|zm<|yv h λ h=>yv h λ h=>?_
 refine yv h λ h=>yu h λ h=>zn<|zk<|zs<|zr<|zm<|zm<|yx h λ h=>zm<|yx h λ h=>yv h λ h=>yS h λ h=>yx h λ h=>zm ?_
 refine zn<|zk<|zs<|zs<|zr<|zm<|yv h λ h=>yv h λ h=>zn<|zk<|Zl<|zs<|zr<|yb h λ h=>zm ?_
 refine zn<|zk<|yJ0 [3,7,8,9,31,34,35,36,37,38,39,40,41,42,43,44,45,46,47,48,49,50,51,52,53,54,55,56,57,58,59,60,61,62,63,64,65,66,67,68,69,70,71,72,73,74,75,76,77,78,79,80,81,82,83,84,85,86,87,88,89,90,91,92,93,94,95,96,97,98,99,100,101,102,103,104,105,106,107,108,109,110,111,112,113,114,115,116] h (λ _ _ hkK1 h=>?_) λ σ w h=>?_
 · refine yC h (λ h=>?_) λ h=>?_
   · refine yh [34,35,36,37,38] h λ C hC h=>yw 0 hC ?_
     refine ye 1 hC h λ h=>?_
     refine ye 2 hC h λ h=>?_
     refine ye 3 hC h λ h=>?_
     refine yo 4 ?_
     refine yu h λ h=>zn ?_
     obtain ⟨hC,h⟩:=h
     refine ⟨hC,?_⟩
     refine ye 5 hC h λ h=>?_
     refine yq 6 1 ?_
     refine yu h λ h=>zn ?_
     obtain ⟨C5,hC,h⟩:=h
     refine ⟨C5,hC,?_⟩
     refine yz<|zk ?_
     exact zt hkK1 h
   refine zs<|zr<|yb h λ h=>zm<|zn<|zk<|yC h (λ h=>?_) λ h=>?_
   · refine zs<|yh [41,42,43,44,45] h λ C hC h=>yw 0 hC ?_
     refine ye 1 hC h λ h=>?_
     refine ye 2 hC h λ h=>?_
     refine ye 3 hC h λ h=>?_
     refine yo 4 ?_
     refine yu h λ h=>zn ?_
     obtain ⟨hC,h⟩:=h
     refine ⟨hC,?_⟩
     refine ye 5 hC h λ h=>?_
     refine yq 6 1 ?_
     refine yu h λ h=>zn ?_
     obtain ⟨C7,hC,h⟩:=h
     refine ⟨C7,hC,?_⟩
     refine yz<|zk<|zr<|zm<|yv h λ h=>yv h λ h=>yc h c87 λ h=>zm<|yv h λ h=>yv h λ h=>yv h λ h=>yv h λ h=>yu h λ h=>zn<|zk ?_
     exact zt hkK1 h
   refine zs<|zr<|yb h λ h=>zm<|zn<|zk<|yC h (λ h=>?_) λ h=>?_
   · refine zs<|zr<|yv h λ h=>yu h λ h=>zn<|zk<|zr<|zm<|yv h λ h=>yv h λ h=>yc h c87 λ h=>zm<|yv h λ h=>yv h λ h=>yv h λ h=>?_
     refine yv h λ h=>yu h λ h=>zn<|zk ?_
     exact zt hkK1 h
   refine zs<|zr<|yb h λ h=>zm<|zn<|zk<|yC h (λ h=>?_) λ h=>?_
   · refine zr<|zm<|yv h λ h=>yv h λ h=>yc h c88 λ h=>yv h λ h=>yu h λ h=>yv h λ h=>yu h λ h=>zn<|zk ?_
     exact zt hkK1 h
   refine zs<|zr<|yb h λ h=>zm<|zn<|zk<|yC h (λ h=>?_) λ h=>?_
   · refine zs<|yh [77,78,79,80,81] h λ C hC h=>yw 0 hC ?_
     refine ye 1 hC h λ h=>?_
     refine ye 2 hC h λ h=>?_
     refine ye 3 hC h λ h=>?_
     refine yo 4 ?_
     refine yu h λ h=>zn ?_
     obtain ⟨hC,h⟩:=h
     refine ⟨hC,?_⟩
     refine ye 5 hC h λ h=>?_
     refine yq 6 1 ?_
     refine yu h λ h=>zn ?_
     obtain ⟨C9,hC,h⟩:=h
     refine ⟨C9,hC,?_⟩
     refine yz<|zk<|zs<|zr<|zm<|zm<|yx h λ h=>yx h λ h=>yv h λ h=>yx h λ h=>zm<|zn<|zk<|Zl<|yl1 [3,7,8,9,88,89,90,91,92,93,94,95,96,97,98,99,100,101,102,103,104,105,106] 88 h λ σ w next h=>?_
     refine zs<|zr<|yb h λ h=>zn<|zk<|zs<|yC h (λ h=>?_) λ h=>?_
     · refine Zk<|zk<|zs<|Zl<|zs<|zr<|yv h λ h=>yv h λ h=>zm<|zn<|zk<|zs<|zr<|zm<|yc h c89 λ h=>?_
       refine zm<|yv h λ h=>yv h λ h=>yv h λ h=>yu h λ h=>zm<|zn<|zk<|zs<|zs<|zr<|zm<|yv h λ h=>zn<|zk ?_
       refine yC h (λ h=>?_) λ h=>?_
       · refine zs<|zr<|yv h λ h=>yu h λ h=>zm<|zn<|zk<|Zg<|Zb<|Zh<|Zb<|Zb<|Zh<|Zb<|Zh ?_
         exact Zb<|YD rfl rfl rfl h
       refine Zk<|zk<|zr<|yv h λ h=>yv h λ h=>yv h λ h=>yS h λ h=>yx h λ h=>yv h λ h=>yu h λ h=>zn<|Zf<|zk<|zr<|yb h λ h=>?_
       exact zm<|zn<|zk<|⟨rfl,h⟩
     refine ZN<|Ze<|Ze<|Zs<|zk ?_
     exact zt hkK1 h
   refine zs<|zr<|yb h λ h=>zm<|zn<|zk<|yC h (λ h=>?_) λ h=>?_
   · refine yh [109,110,111,112,113] h λ C hC h=>yw 0 hC ?_
     refine ye 1 hC h λ h=>?_
     refine ye 2 hC h λ h=>?_
     refine ye 3 hC h λ h=>?_
     refine yo 4 ?_
     refine yu h λ h=>zn ?_
     obtain ⟨hC,h⟩:=h
     refine ⟨hC,?_⟩
     refine ye 5 hC h λ h=>?_
     refine yq 6 1 ?_
     refine yu h λ h=>zn ?_
     obtain ⟨C12,hC,h⟩:=h
     refine ⟨C12,hC,?_⟩
     refine yz<|zk ?_
     exact zt hkK1 h
   refine zs<|zr<|yb h λ h=>zm<|zn<|zk<|yC h (λ h=>?_) λ h=>?_
   · refine zr<|yv h λ h=>yu h λ h=>zn<|zk ?_
     exact zt hkK1 h
   exact zs<|zr<|yv h λ h=>yu h λ h=>zm<|zn<|zk<|Zg<|Zb<|Zh<|Zb<|YD rfl rfl rfl h
 refine Zf<|zk<|zs<|yh [3,117,118,119,120,121,122,123,124,125,126] h λ C hC h=>ye 0 hC h λ h=>?_
 refine ye 1 hC h λ h=>?_
 refine yo 2 ?_
 refine yc h c58 λ h=>zn ?_
 obtain ⟨hC,h⟩:=h
 refine ⟨hC,?_⟩
 refine yw 3 hC ?_
 refine yj1 3 [8,6,5,7,4,3,2,1,0] [121,122,123,124,125] 125 h (λ _ hT hb h=>?_) (λ _ hT hb h=>?_) λ σ w hC h=>?_
 · refine ye 4 hC h λ h=>?_
   refine yw 7 hC ?_
   refine yo 5 ?_
   refine yc h c60 λ h=>zn ?_
   obtain ⟨hC,h⟩:=h
   refine ⟨hC,?_⟩
   refine yo 6 ?_
   refine yc h c59 λ h=>zn ?_
   obtain ⟨hC,h⟩:=h
   refine ⟨hC,?_⟩
   refine ye 8 hC h λ h=>?_
   exact yt hT hC h
 · refine yi 4 hC ?_
   refine yi 7 hC ?_
   refine yi 5 hC ?_
   refine yi 6 hC ?_
   refine yi 8 hC ?_
   exact yt hT hC h
 refine yP 9 hC h λ _ h=>?_
 refine yo 10 ?_
 refine yu h λ h=>zn ?_
 obtain ⟨hC,h⟩:=h
 refine ⟨hC,?_⟩
 refine yw 11 hC ?_
 exact yz<|zk<|Zg<|YD rfl rfl rfl h
def n41 a R w:=
 ZU Pg 90 #[a,(.func (.func 91) #[] #[])] (Zc R) w λ b w=>
 N0 b R w λ c w=>
 R (.returned c) w
def ZkX:QqX1 52 n41:=λ h=>by
 refine yD func52 ?_
 exact zs<|zr<|zm<|zn<|zk<|zs<|zr<|zm<|yc h c90 λ h=>yv h λ h=>zm<|zn<|zk<|Zg<|Zj rfl rfl h
def ZdK d b c (a:WPr) (e:KV) R w:=
 qV Pg a (Builtin.len_ #[94] 3 #[b]) λ f=>
 qV Pg a (ZA .sub 3 true f (QqQ 1)) λ g=>
 qV Pg a (Builtin.len_ #[94] 3 #[b]) λ h=>
 qV Pg a (ZA .sub 3 true h (QqQ 1)) λ i=>
 M0 94 b i a λ j=>
 I0 9 j a λ k=>
 qV Pg a (ZA .add 3 true c (QqQ 1)) λ l=>
 qV Pg a (sliceAt 9 d (some c) (some l) none) λ m=>
 qV Pg a (ZA .add 9 false k m) λ n=>
 M0 94 b g a λ o=>
 S0 9 o n R w λ w=>
 WB w λ p w=>
 e b w
def ZdL c e a b (Zz:KW) R w:=
 opV Pg (Instr.index 9 c b) (Zc R) w λ f w=>
 B0 .eql 5 false f e R w λ g w=>
 Zp (λ (a:Vl) (w:Wd)=>
 B0 .add 3 true b (QqQ 1) R w λ h w=>
 Zz a h w) λ d=>
 Zr g (
 opV Pg (buildSlice 94 1 #[(0,(.string { data := #[] }))]) (Zc R) w λ i w=>
 opV Pg (Builtin.append_ #[94,94] 94 #[a,i]) (Zc R) w λ j w=>
 d j w) (
 Z4 w λ k w=>
 ZdK c a b k d R w)
def ZdM a d b c (Zz:KW) R w:=
 G0 9 3 a R w λ e w=>
 B0 .lss 3 false c e R w λ f w=>
 Zr f (
 ZdL a d b c Zz R w) (
 R (.returned b) w)
def n70 a b R w:=
 opV Pg (buildSlice 94 1 #[(0,(.string { data := #[] }))]) (Zc R) w λ c w=>
 Wy (λ d e w Zz=>
 ZdM a b d e Zz R w) c (QqQ 0) w
def Zlp:QqX2 53 n70:=λ h=>by
 refine yD func53 ?_
 refine zs<|zr<|zm<|zn<|zk<|zs<|zr<|yS h λ h=>zm<|zn<|zk<|zs<|zs<|zr<|zm ?_
 refine zn<|zk<|Zl<|yl2 [5,6,8,9,10,11,12,13,14,15,16,17,18,19,20,21,22,23,24,25,26,27,28,29,30,31,32,33,34,35,36,37,38] 5 6 h λ σ w next h=>zs<|zs<|zr<|zm<|zm<|yx h λ h=>yb h λ h=>zn<|zk<|yC h (λ h=>?_) λ h=>?_
 · refine Zk<|zk<|zs<|Zl<|zs<|zr<|zm<|zm<|yv h λ h=>zm<|yb h λ h=>zn<|zk<|yJ1 [5,19,20,21,22,23,24,25,26,27,28,29,30,31,32,33,34,35,36,37,38] 5 h (λ _ _ hkK2 h=>?_) λ σ w h=>?_
   · refine yC h (λ h=>?_) λ h=>?_
     · refine zr<|zm<|yS h λ h=>yx h λ h=>zm<|zn<|zk ?_
       exact zt hkK2 h
     refine yh [22,23,24,25,26,27,28,29,30,31,32,33,34,35,36,37,38] h λ C hC h=>yw 0 hC ?_
     refine yw 1 hC ?_
     refine ye 2 hC h λ h=>?_
     refine ye 3 hC h λ h=>?_
     refine yw 4 hC ?_
     refine yw 5 hC ?_
     refine ye 6 hC h λ h=>?_
     refine ye 7 hC h λ h=>?_
     refine ye 8 hC h λ h=>?_
     refine ye 9 hC h λ h=>?_
     refine yw 10 hC ?_
     refine yw 11 hC ?_
     refine yw 12 hC ?_
     refine ye 13 hC h λ h=>?_
     refine ye 14 hC h λ h=>?_
     refine ye 15 hC h λ h=>?_
     refine ye 16 hC h λ h=>?_
     refine yq 17 1 ?_
     refine yu h λ h=>zn ?_
     obtain ⟨C4,hC,h⟩:=h
     refine ⟨C4,hC,?_⟩
     refine yz<|zk ?_
     exact zt hkK2 h
   exact Zf<|zk<|zr<|zm<|yb h λ h=>zm<|zn<|zk<|⟨rfl,h⟩
 exact ZN<|Ze<|Ze<|Zs<|zk<|zs<|zr<|zm<|zm<|zn<|zk<|Zg<|Zj rfl rfl h
def Zdw d b e f (a:WPr) (Zz:KV) R w:=
 M0 94 f b a λ g=>
 I0 9 g a λ h=>
 qV Pg a (indexAt 94 e (QqQ 1)) λ i=>
 I0 9 i a λ j=>
 qV Pg a (ZA .eql 9 false h j) λ k=>
 Zp (λ (w:Wd)=>
 B0 .add 3 true b (QqQ 1) R w λ l w=>
 Zz l w) λ c=>
 Zr k (
 F0 43 d 1 R w λ m w=>
 S0 39 m b R w λ w=>
 c w) (
 c w)
def Ng f b g c R w:=
 E0q c 0 R w λ h w=>
 E0q c 1 R w λ d w=>
 L0 43 g R w λ i w=>
 Zp (λ (a:Vl) (w:Wd)=>
 Zx d a (.bool false) λ j=>
 S0 43 b i R w λ w=>
 qW Pg 43 b w λ r0=>
 R (.returned (.tuple #[r0,j])) w) λ e=>
 Zm d true (
 B0 .eql 9 false h f R w λ a w=>
 e a w) (
 e undef w)
def Zdx b a (c:WPr) R w:=
 E0q a 0 R w λ d w=>
 E0q a 1 R w λ f w=>
 F0 43 b 3 R w λ e w=>
 S0 3 e d R w λ w=>
 c w
def Zdy b a (c:WPr) R w:=
 E0q a 0 R w λ d w=>
 E0q a 1 R w λ f w=>
 F0 43 b 4 R w λ e w=>
 S0 3 e d R w λ w=>
 c w
def Zdz a R w:=
 opV Pg (build 43 #[]) (Zc R) w λ b w=>
 S0 43 a b R w λ w=>
 qW Pg 43 a w λ r0=>
 R (.returned (.tuple #[r0,(.bool false)])) w
def ZdA a b c d (JM:KV) R w:=
 F0 43 a 5 R w λ e w=>
 L0 40 e R w λ f w=>
 B0 .mul 3 true (QqQ 16) c R w λ g w=>
 B0 .add 3 false g d R w λ h w=>
 opV Pg (Go.convert 3 5 h) (Zc R) w λ i w=>
 opV Pg (buildSlice 40 1 #[(0,i)]) (Zc R) w λ j w=>
 opV Pg (Builtin.append_ #[40,40] 40 #[f,j]) (Zc R) w λ k w=>
 F0 43 a 5 R w λ l w=>
 S0 40 l k R w λ w=>
 B0 .add 3 true b (QqQ 2) R w λ m w=>
 JM m w
def ZdB f g h b c (JM:KV) R w:=
 B0 .lss 3 true b (QqQ 0) R w λ d w=>
 Zp (λ (a:Vl) (w:Wd)=>
 Zx d (.bool true) a λ i=>
 Zr i (
 Zdz f R w) (
 ZdA g h b c JM R w)) λ e=>
 Zm d false (
 B0 .lss 3 true c (QqQ 0) R w λ a w=>
 e a w) (
 e undef w)
def ZdC d e b c (a:WPr) (JM:KV) (R:RT) w:=
 qV Pg a (Instr.index 9 c b) λ f=>
 qV Pg a (ZA .add 3 true b (QqQ 1)) λ g=>
 qV Pg a (Instr.index 9 c g) λ h=>
 C0 95 #[f] R w λ i w=>
 a w∧(
 C0 95 #[h] R w λ j w=>
 a w∧(
 ZdB d e b i j JM R w))
def SX c d a b (e:WPr) (JM:KV) R w:=
 B0 .add 3 true a (QqQ 1) R w λ f w=>
 G0 9 3 b R w λ g w=>
 B0 .lss 3 false f g R w λ h w=>
 Zr h (
 Z4 w λ i w=>
 ZdC c d a b i JM R w) (
 e w)
def SP a b c (d:WPr) (QU:KV) R w:=
 J0 43 a 6 d λ e=>
 S0 41 e c R w λ w=>
 WB w λ g w=>
 B0 .add 3 true b (QqQ 1) R w λ f w=>
 QU f w
def SQ b c d e (a:WPr) (QU:KV) R w:=
 opV Pg (buildSlice 41 1 #[(0,e)]) (Zc R) w λ f w=>
 a w∧(
 opV Pg (Builtin.append_ #[41,41] 41 #[d,f]) (Zc R) w λ g w=>
 a w∧(
 SP b c g a QU R w))
def SR b c d (a:WPr) (QU:KV) (R:RT) w:=
 J0 43 b 6 a λ e=>
 I0 41 e a λ f=>
 M0 94 d c a λ g=>
 I0 9 g a λ h=>
 C0 96 #[h] R w λ i w=>
 a w∧(
 SQ b c f i a QU R w)
def Lz c a b (d:WPr) (QU:KV) R w:=
 G0 94 3 b R w λ e w=>
 B0 .lss 3 false a e R w λ f w=>
 Zr f (
 Z4 w λ g w=>
 SR c a b g QU R w) (
 d w)
def LA b c d (a:WPr) R w:=
 B0 .eql 3 true d (QqQ 5) R w λ e w=>
 Zr e (
 YW (λ f w QU=>
 Lz b f c a QU R w) (QqQ 3) w) (
 a w)
def EP d a e f b (c:WPr) R w:=
 B0 .eql 3 true b (QqQ 4) R w λ g w=>
 Zr g (
 YW (λ h w JM=>
 SX d a h f c JM R w) (QqQ 0) w) (
 LA a e b c R w)
def Bo e a f b c (d:WPr) R w:=
 B0 .eql 3 true c (QqQ 3) R w λ g w=>
 Zr g (
 C0 94 #[b,(QqQ 0)] R w λ h w=>
 Zdy a h d R w) (
 EP e a f b c d R w)
def ER f b a g c R w:=
 F0 43 a 1 R w λ h w=>
 L0 39 h R w λ d w=>
 B0 .eql 3 true d (QqQ 2) R w λ i w=>
 Zp (λ (w:Wd)=>
 L0 43 a R w λ j w=>
 C0 61 #[j] R w λ k w=>
 Ng f b a k R w) λ e=>
 Zr i (
 C0 94 #[c,(QqQ 0)] R w λ l w=>
 Zdx a l e R w) (
 Bo b a g c d e R w)
def SS a b (c:WPr) R w:=
 opV Pg (indexAt 94 b (QqQ 2)) (Zc R) w λ d w=>
 L0 9 d R w λ e w=>
 F0 43 a 2 R w λ f w=>
 S0 9 f e R w λ w=>
 c w
def SU g h c a i d R w:=
 Zp (λ (b:Vl) (w:Wd)=>
 Zx d b (.bool false) λ j=>
 Zp (λ (w:Wd)=>
 ER g h c a i R w) λ e=>
 Zr j (
 SS c a e R w) (
 e w)) λ f=>
 Zm d true (
 G0 94 3 a R w λ k w=>
 B0 .gtr 3 true k (QqQ 2) R w λ b w=>
 f b w) (
 f undef w)
def ES c d b a R w:=
 G0 94 3 a R w λ e w=>
 B0 .sub 3 true e (QqQ 1) R w λ f w=>
 X0 94 a f R w λ g w=>
 L0 9 g R w λ h w=>
 F0 43 b 1 R w λ i w=>
 L0 39 i R w λ j w=>
 C0 93 #[j] R w λ k w=>
 C0 92 #[k,(.int .u8 102)] R w λ l w=>
 SU c d b a h l R w
def LB d e a b c f (Zz:KV) R w:=
 B0 .leq 3 true b (QqQ 7) R w λ g w=>
 Zr g (
 Z4 w λ h w=>
 Zdw a b c f h Zz R w) (
 ES d e a c R w)
def ZeO a R w:=
 opV Pg (build 43 #[]) (Zc R) w λ b w=>
 S0 43 a b R w λ w=>
 qW Pg 43 a w λ r0=>
 R (.returned (.tuple #[r0,(.bool false)])) w
def SV c d a R w:=
 opV Pg (buildSlice 94 8 #[(0,(.string { data := #[] })),(1,(.string { data := #[99,111,112,121] })),(2,(.string { data := #[97,100,100] })),(3,(.string { data := #[118,97,108,117,101] })),(4,(.string { data := #[98,121,116,101,115] })),(5,(.string { data := #[116,97,98,108,101] })),(6,(.string { data := #[110,101,115,116,101,100] })),(7,(.string { data := #[102,105,116] }))]) (Zc R) w λ e w=>
 opV Pg (indexAt 94 a (QqQ 0)) (Zc R) w λ f w=>
 L0 9 f R w λ g w=>
 opV Pg (build 43 #[(0,g)]) (Zc R) w λ h w=>
 opV Pg (alloc 43 true (.tuple #[])) (Zc R) w λ b w=>
 S0 43 b h R w λ w=>
 YW (λ i w Zz=>
 LB c d b i a e Zz R w) (QqQ 1) w
def SW c a b R w:=
 G0 94 3 b R w λ d w=>
 B0 .lss 3 true d (QqQ 2) R w λ e w=>
 Zr e (
 ZeO a R w) (
 SV c a b R w)
def n68 a R w:=
 opV Pg (alloc 43 true (.tuple #[])) (Zc R) w λ b w=>
 C0 53 #[a,(.int .u8 32)] R w λ c w=>
 SW a b c R w
def Zln:QqX1 54 n68:=λ h=>by
 refine yD func54 ?_
 refine zs<|zr<|yv h λ h=>zm<|zn<|zk<|zs<|zr<|zm<|yc h c53 λ h=>zm<|zn<|zk<|zs<|zs ?_
 refine zr<|zm<|yx h λ h=>yb h λ h=>zn<|zk<|yC h (λ h=>zs<|zr<|yB h λ h=>yu h λ h=>zm<|zn<|zk<|Zg<|Zb<|YD rfl rfl rfl h) λ h=>Zk<|zk<|zs<|zr<|yS h λ h=>zm<|zn ?_
 refine zk<|zs<|zr<|zm<|yv h λ h=>yv h λ h=>yB h λ h=>yv h λ h=>yu h λ h=>zn<|zk<|zs<|zs<|zr<|zm ?_
 refine zn<|zk<|Zl<|yl1 [7,26,27,28,29,30,31,32,33,34,35,36,37,38,39] 7 h λ σ w next h=>zs<|zs<|zr<|zm<|yb h λ h=>zn<|zk<|yC h (λ h=>?_) λ h=>?_
 · refine Zk<|zk<|zs<|Zl<|zs<|yh [30,31,32,33,34,35,36,37] h λ C hC h=>yw 0 hC ?_
   refine yw 1 hC ?_
   refine ye 2 hC h λ h=>?_
   refine ye 3 hC h λ h=>?_
   refine yw 4 hC ?_
   refine ye 5 hC h λ h=>?_
   refine ye 6 hC h λ h=>?_
   refine ye 7 hC h λ h=>?_
   refine yz<|zk<|yJ0 [38,39] h (λ _ _ hkK3 h=>?_) λ σ w h=>?_
   · refine yC h (λ h=>?_) λ h=>?_
     · refine zr<|zm<|yv h λ h=>yu h λ h=>zn<|zk ?_
       exact zt hkK3 h
     refine Zk<|zk ?_
     exact zt hkK3 h
   exact Zf<|zk<|zr<|zm<|yb h λ h=>zm<|zn<|zk<|⟨rfl,h⟩
 refine ZN<|Ze<|Ze<|Zs<|zk<|zs<|zr<|zm<|zm<|yx h λ h=>yb h λ h=>yv h λ h=>yv h λ h=>zm<|zn ?_
 refine zk<|zs<|zs<|Zq<|yG 5<|yv h λ h=>yv h λ h=>yc h c93 λ h=>yc h c92 λ h=>zm<|zn<|yg1 3 4 true [51,52,53] 53 h (λ _ T hT h=>?_) λ σ w h=>?_
 · refine zm<|yx h λ h=>yb h λ h=>zn ?_
   exact zt hT h
 refine yG 1<|yp h λ h=>zn<|ZG<|zk<|yJ0 [55,56,57,58] h (λ _ _ hkK5 h=>?_) λ σ w h=>?_
 · refine yC h (λ h=>?_) λ h=>?_
   · refine zr<|zm<|yv h λ h=>yv h λ h=>yv h λ h=>yu h λ h=>zn<|zk ?_
     exact zt hkK5 h
   refine Zk<|zk ?_
   exact zt hkK5 h
 refine zk<|zs<|zs<|zr<|yv h λ h=>yv h λ h=>zn<|zk<|Zl<|zs<|zr<|yb h λ h=>zm<|zn<|zk ?_
 refine yJ0 [3,9,10,11,12,63,64,65,66,67,68,69,70,71,72,73,74,75,76,77,78,79,80,81,82,83,84,85,86,87,88,89,90,91,92,93,94,95,96,97,98,99,100,101,102,103,104,105,106,107,108,109,110,111,112,113,114,115,116,117,118,119,120,121,122,123,124,125,126,127,128,129] h (λ _ _ hkK6 h=>?_) λ σ w h=>?_
 · refine yC h (λ h=>?_) λ h=>?_
   · refine zr<|zm<|yc h c94 λ h=>zm<|yv h λ h=>yv h λ h=>yv h λ h=>yu h λ h=>zn<|zk ?_
     exact zt hkK6 h
   refine zs<|zr<|yb h λ h=>zm<|zn<|zk<|yC h (λ h=>?_) λ h=>?_
   · refine zr<|zm<|yc h c94 λ h=>zm<|yv h λ h=>yv h λ h=>yv h λ h=>yu h λ h=>zn<|zk ?_
     exact zt hkK6 h
   refine zs<|zr<|yb h λ h=>zm<|zn<|zk<|yC h (λ h=>?_) λ h=>?_
   · refine zs<|zr<|zm<|zn<|zk<|Zl<|yl1 [3,9,10,11,79,80,81,82,83,84,85,86,87,88,89,90,91,92,93,94,95,96,97,98,99,100,101,102,103,104,105,106,107,108,109,110,111] 9 h λ σ w next h=>zs<|zs<|zr<|zm<|yb h λ h=>zm<|yx h λ h=>yb h λ h=>?_
     refine zn<|zk<|yC h (λ h=>?_) λ h=>?_
     · refine Zk<|zk<|zs<|Zl<|zs<|yh [10,11,86,87,88,89,90,91,92,93,94] h λ C hC h=>yw 0 hC ?_
       refine yw 1 hC ?_
       refine ye 2 hC h λ h=>?_
       refine yw 4 hC ?_
       refine yw 5 hC ?_
       refine ye 6 hC h λ h=>?_
       refine ye 7 hC h λ h=>?_
       refine yo 3 ?_
       refine yc h c95 λ h=>zn ?_
       obtain ⟨hC,h⟩:=h
       refine ⟨hC,?_⟩
       refine yo 8 ?_
       refine yc h c95 λ h=>zn ?_
       obtain ⟨hC,h⟩:=h
       refine ⟨hC,?_⟩
       refine yw 9 hC ?_
       refine yw 10 hC ?_
       refine yz<|zk<|zs<|zs<|Zq<|yG 3<|zm<|yb h λ h=>zm<|zn<|yg1 2 2 false [98,99] 99 h (λ _ T hT h=>?_) λ σ w h=>?_
       · refine zm<|yb h λ h=>zn ?_
         exact zt hT h
       refine yG 1<|yp h λ h=>zn<|ZG<|zk<|yC h (λ h=>?_) λ h=>?_
       · refine zs<|zr<|yB h λ h=>yu h λ h=>zm<|zn<|zk<|Zg<|Zb<|Zh<|Zb<|Zb<|Zh<|Zb<|Zh ?_
         exact Zb<|YD rfl rfl rfl h
       refine Zk<|zk<|zr<|yv h λ h=>yv h λ h=>zm<|yb h λ h=>zm<|yb h λ h=>yv h λ h=>yS h λ h=>yx h λ h=>yv h λ h=>yu h λ h=>zn ?_
       exact Zf<|zk<|zr<|zm<|yb h λ h=>zm<|zn<|zk<|⟨rfl,h⟩
     refine ZN<|Ze<|Ze<|Zs<|zk ?_
     exact zt hkK6 h
   refine zs<|zr<|yb h λ h=>zm<|zn<|zk<|yC h (λ h=>?_) λ h=>?_
   · refine zs<|zr<|zm<|zn<|zk<|Zl<|yl1 [12,114,115,116,117,118,119,120,121,122,123,124,125,126,127,128,129] 12 h λ σ w next h=>zs<|zs<|zr<|zm<|zm<|yx h λ h=>yb h λ h=>zn ?_
     refine zk<|yC h (λ h=>?_) λ h=>?_
     · refine Zk<|zk<|zs<|Zl<|yh [120,121,122,123,124,125,126,127,128,129] h λ C hC h=>ye 0 hC h λ h=>?_
       refine ye 1 hC h λ h=>?_
       refine yw 2 hC ?_
       refine yw 3 hC ?_
       refine ye 4 hC h λ h=>?_
       refine ye 5 hC h λ h=>?_
       refine yo 6 ?_
       refine yc h c96 λ h=>zn ?_
       obtain ⟨hC,h⟩:=h
       refine ⟨hC,?_⟩
       refine yo 7 ?_
       refine yS h λ h=>zn ?_
       obtain ⟨hC,h⟩:=h
       refine ⟨hC,?_⟩
       refine yo 8 ?_
       refine yx h λ h=>zn ?_
       obtain ⟨hC,h⟩:=h
       refine ⟨hC,?_⟩
       refine ye 9 hC h λ h=>?_
       refine yq 10 1 ?_
       refine yu h λ h=>zn ?_
       obtain ⟨C13,hC,h⟩:=h
       refine ⟨C13,hC,?_⟩
       exact yz<|Zf<|zk<|zr<|zm<|yb h λ h=>zm<|zn<|zk<|⟨rfl,h⟩
     refine ZN<|Ze<|Ze<|Zs<|zk ?_
     exact zt hkK6 h
   refine Zk<|zk ?_
   exact zt hkK6 h
 refine Zf<|zk<|zs<|zr<|yv h λ h=>yc h c61 λ h=>zm<|yv h λ h=>yv h λ h=>zm<|zm<|zn<|zk<|zs<|Zq ?_
 refine yG 3<|yv h λ h=>zm<|zm<|zn<|yg1 3 2 true [138,139,140] 140 h (λ _ T hT h=>?_) λ σ w h=>?_
 · refine zm<|zm<|yb h λ h=>zn ?_
   exact zt hT h
 exact yG 3<|yp h λ h=>yu h λ h=>zm<|zn<|ZG<|zk<|Zg<|YD rfl rfl rfl h
def n39 R w:=
 opV Pg (Instr.makeMap 106 none) (Zc R) w λ a w=>
 opV Pg (build 105 #[(0,(.bool true))]) (Zc R) w λ b w=>
 opU Pg (mapUpdate 106 a (QqQ 1) b) (Zc R) w λ w=>
 opV Pg (build 105 #[(0,(.bool true)),(1,(.bool true))]) (Zc R) w λ c w=>
 opU Pg (mapUpdate 106 a (QqQ 2) c) (Zc R) w λ w=>
 opV Pg (build 105 #[(2,(.bool true))]) (Zc R) w λ d w=>
 opU Pg (mapUpdate 106 a (QqQ 3) d) (Zc R) w λ w=>
 opV Pg (build 105 #[(3,(.bool true))]) (Zc R) w λ e w=>
 opU Pg (mapUpdate 106 a (QqQ 4) e) (Zc R) w λ w=>
 opV Pg (build 105 #[(0,(.bool true)),(4,(.bool true))]) (Zc R) w λ f w=>
 opU Pg (mapUpdate 106 a (QqQ 5) f) (Zc R) w λ w=>
 opV Pg (build 105 #[(0,(.bool true))]) (Zc R) w λ g w=>
 opU Pg (mapUpdate 106 a (QqQ 6) g) (Zc R) w λ w=>
 opV Pg (build 105 #[]) (Zc R) w λ h w=>
 opU Pg (mapUpdate 106 a (QqQ 7) h) (Zc R) w λ w=>
 R (.returned a) w
def ZkV:QqX0 57 n39:=λ h=>by
 refine yD func57 ?_
 refine zs<|zr<|zm<|zn<|zk<|zs<|zr<|yv h λ h=>yB h λ h=>yu h λ h=>yB h λ h=>yu h λ h=>yB h λ h=>yu h λ h=>yB h λ h=>?_
 exact yu h λ h=>yB h λ h=>yu h λ h=>yB h λ h=>yu h λ h=>yB h λ h=>yu h λ h=>zm<|zm<|zn<|zk<|Zg<|Zj rfl rfl h
def FO (f:Zv):(f.kind=1∨f.kind=2∨f.kind=3∨f.kind=4∨f.kind=5∨f.kind=6∨f.kind=7∨f.kind=8∨f.kind=9∨f.kind=10∨f.kind=11∨f.kind=12)∨((f.kind == 1)=false∧(f.kind == 3)=false∧(f.kind == 4)=false∧(f.kind == 5)=false∧(f.kind == 6)=false∧(f.kind == 7)=false∧(f.kind == 8)=false∧(f.kind == 12)=false∧(f.kind == 9)=false):=by
 by_cases h:1≤f.kind∧f.kind≤12
 · left;omega
 · right
   have key:∀ n:Int,(1≤n∧n≤12)→(f.kind == n)=false:=λ n hn=>by
    have:f.kind≠n:=C1
    simpa using this
   exact ⟨key 1 C1,key 3 C1,key 4 C1,key 5 C1,key 6 C1,key 7 C1,key 8 C1,key 12 C1,key 9 C1⟩
def D9 {f:Zv} (h1:(f.kind == 1)=false) (h3:(f.kind == 3)=false) (h4:(f.kind == 4)=false) (h5:(f.kind == 5)=false) (h6:(f.kind == 6)=false) (h7:(f.kind == 7)=false) (h8:(f.kind == 8)=false) (h12:(f.kind == 12)=false) (h9:(f.kind == 9)=false):WG f=0:=by
 have e:∀ n:Int,(f.kind == n)=false→f.kind≠n:=λ n h=>by simpa using h
 unfold WG
 rw [if_neg (by have:=e _ h1;have:=e _ h3;omega),if_neg (by have:=e _ h4;have:=e _ h5;omega),if_neg (e _ h6),if_neg (e _ h7),if_neg (by have:=e _ h8;have:=e _ h12;omega),if_neg (e _ h9)]
def qA (w0:Wd) (v:Vl) (f:Zv) (hf:Z8 w0 v f):Ret Pg 68 #[v] w0 λ r w'=>r = .int .i64 (WG f)∧Ext w0 w':=by
 obtain ⟨tv,cv,rfl,hT,hC,_,_⟩:=hf.op
 refine ZkQ (R:=ZE _) ?_;unfold n34
 rcases FO f with (h | h | h | h | h | h | h | h | h | h | h | h) | ⟨h1,h3,h4,h5,h6,h7,h8,h12,h9⟩
 case inr=>
  simp (disch:=try exact DI) only [↓PR,QR,simprocAttr,↓RF,↓RG,↓RH,↓RI,h1,h3,h4,h5,h6,h7,h8,h12,h9]
  exact ⟨by rw [D9 h1 h3 h4 h5 h6 h7 h8 h12 h9],ee⟩
 all_goals
  simp (disch:=try exact DI) only [↓PR,QR,simprocAttr,↓RF,↓RG,↓RH,↓RI,h]
  exact ⟨by unfold WG;rw [h];rfl,ee⟩
def QM (w0:Wd) (n:Int):Ret Pg 42 #[.int .i64 n] w0 λ r w'=>r = .bool (WL n)∧w'=w0:=by
 refine ZkI (R:=ZE _) ?_;unfold n25
 unfold WL
 by_cases h1:0≤n
 · have d1:decide (n≥0)=true:=by simpa using h1
   by_cases h2:n < 34359738368
   · have d2:decide (n < 34359738368)=true:=by simpa using h2
     refine Qqb d1 d2 ?_
     exact ⟨by simp [h1,h2],by trivial⟩
   · have d2:decide (n < 34359738368)=false:=by simpa using h2
     refine Qqb d1 d2 ?_
     exact ⟨by simp [h2],by trivial⟩
 · have d1:decide (n≥0)=false:=by simpa using h1
   refine Qqh d1 ?_
   exact ⟨by simp [h1],by trivial⟩
def CG (u:jt):Vl := .agg #[.bool u.fr,.bool u.add,.bool u.value,.bool u.bytes,.bool u.table]
def Pd (L:List (Int×Vl×Nat)):Prop:=∀ k,Sw.look L k=(Xg k).map CG
def Ws {w0 w:Wd} {m c:Nat} {L:List (Int×Vl×Nat)} {QP:PEn} {ku:WPr} (hM:XA w m XE L c) (e:Ext w0 w) (hm:w0.heap.size≤m) (k:Int) (v:Vl)
 (h:∀ w' L' c',XA w' m XE L' c'→(∀ k',Sw.look L' k'=if k'=k then some v else Sw.look L k')→Ext w0 w'→ku w'):opU Pg (mapUpdate 106 (.map (some m)) (.int .i64 k) v) QP w ku:=by
 rw [Kp underlying106 (QJ.int underlying39) hM k v]
 exact h _ _ _ (hM.put k v) (λ k'=>yj _ _ _ _ _) (e.putObj hm _)
def Kg (w0:Wd):Ret Pg 57 #[] w0 λ r w'=>∃ m L c,r = .map (some m)∧w0.heap.size≤m∧XA w' m XE L c∧Pd L∧Ext w0 w':=by
 refine ZkV (R:=ZE _) ?_;unfold n39
 refine Qqv ?_
 have hM0:XA (w0.alloc (.map #[] 0)) w0.heap.size XE [] 0:=XA.new w0 _
 have e0:Ext w0 (w0.alloc (.map #[] 0)):=ee
 refine Ws hM0 e0 (Nat.le_refl _) 1 _ (λ w1 L1 c1 hM1 hl1 e1=>?_)
 refine Qqv ?_
 refine Ws hM1 e1 (Nat.le_refl _) 2 _ (λ w2 L2 c2 hM2 hl2 e2=>?_)
 refine Qqv ?_
 refine Ws hM2 e2 (Nat.le_refl _) 3 _ (λ w3 L3 c3 hM3 hl3 e3=>?_)
 refine Qqv ?_
 refine Ws hM3 e3 (Nat.le_refl _) 4 _ (λ w4 L4 c4 hM4 hl4 e4=>?_)
 refine Qqv ?_
 refine Ws hM4 e4 (Nat.le_refl _) 5 _ (λ w5 L5 c5 hM5 hl5 e5=>?_)
 refine Qqv ?_
 refine Ws hM5 e5 (Nat.le_refl _) 6 _ (λ w6 L6 c6 hM6 hl6 e6=>?_)
 refine Qqv ?_
 refine Ws hM6 e6 (Nat.le_refl _) 7 _ (λ w7 L7 c7 hM7 hl7 e7=>?_)
 refine Qqv ?_
 refine ⟨_,L7,c7,rfl,Nat.le_refl _,hM7,λ k=>?_,e7⟩
 rw [hl7,hl6,hl5,hl4,hl3,hl2,hl1]
 unfold Xg
 by_cases k1:k=1
 · subst k1;rfl
 by_cases k2:k=2
 · subst k2;rfl
 by_cases k3:k=3
 · subst k3;rfl
 by_cases k4:k=4
 · subst k4;rfl
 by_cases k5:k=5
 · subst k5;rfl
 by_cases k6:k=6
 · subst k6;rfl
 by_cases k7:k=7
 · subst k7;rfl
 rw [if_neg k1,if_neg k2,if_neg k3,if_neg k4,if_neg k5,if_neg k6,if_neg k7,if_neg k1,if_neg k2,if_neg k3,if_neg k4,if_neg k5,if_neg k6,if_neg k7]
 rfl
def Zdt a c d b R w:=
 E0q b 0 R w λ e w=>
 E0q b 1 R w λ g w=>
 opV Pg (build 78 #[(0,c),(1,d),(2,e)]) (Zc R) w λ f w=>
 S0 78 a f R w λ w=>
 qW Pg 78 a w λ r0=>
 R (.returned r0) w
def Zdu b c d a R w:=
 E0q a 0 R w λ e w=>
 E0q a 1 R w λ f w=>
 B0 .add 3 true f (QqQ 1) R w λ g w=>
 C0 94 #[b,g] R w λ h w=>
 Zdt c d e h R w
def Zdv a c b R w:=
 E0q b 0 R w λ d w=>
 E0q b 1 R w λ e w=>
 B0 .add 3 true e (QqQ 1) R w λ f w=>
 C0 94 #[a,f] R w λ g w=>
 Zdu a c d g R w
def n67 a R w:=
 opV Pg (alloc 78 true (.tuple #[])) (Zc R) w λ b w=>
 C0 94 #[a,(QqQ 0)] R w λ c w=>
 Zdv a b c R w
def Zlm:QqX1 96 n67:=λ h=>by
 refine yD func96 ?_
 refine zs<|zr<|yv h λ h=>zn<|zk<|zs<|zr<|zm<|yc h c94 λ h=>zm<|yv h λ h=>yv h λ h=>zm<|zm<|zn ?_
 refine zk<|zs<|zr<|zm<|zm<|yb h λ h=>yc h c94 λ h=>zm<|yv h λ h=>yv h λ h=>zm<|zm<|zn<|zk<|zs ?_
 refine zr<|zm<|zm<|yb h λ h=>yc h c94 λ h=>zm<|yv h λ h=>yv h λ h=>zm<|zm<|zn<|zk<|zs<|zr<|zm ?_
 exact zm<|zm<|yB h λ h=>yu h λ h=>zn<|zk<|Zg<|Gb rfl rfl h
def RJ b d e (R:RT) w:=
 Zp (λ (a:Vl) (w:Wd)=>
 Zx b a (.bool false) λ f=>
 R (.returned f) w) λ c=>
 Zm b true (
 Zx d (.bool true) e λ a=>
 c a w) (
 c undef w)
def RK d e b R w:=
 Zp (λ (a:Vl) (w:Wd)=>
 RJ e b a R w) λ c=>
 Zm b false (
 F0 43 d 6 R w λ f w=>
 L0 41 f R w λ g w=>
 G0 41 3 g R w λ h w=>
 B0 .eql 3 true h (QqQ 0) R w λ a w=>
 c a w) (
 c undef w)
def RL c d e f R w:=
 Zx e f (.bool false) λ a=>
 Zp (λ (g:Vl) (w:Wd)=>
 RK c a g R w) λ b=>
 Zm a true (
 F0 105 d 4 R w λ h w=>
 L0 4 h R w λ i w=>
 b i w) (
 b undef w)
def RM c h d e R w:=
 Zp (λ (a:Vl) (w:Wd)=>
 Zp (λ (b:Vl) (w:Wd)=>
 RL c h d b R w) λ f=>
 Zm d true (
 Zx e (.bool true) a λ b=>
 f b w) (
 f undef w)) λ g=>
 Zm e false (
 F0 43 c 5 R w λ i w=>
 L0 40 i R w λ j w=>
 G0 40 3 j R w λ k w=>
 B0 .eql 3 true k (QqQ 0) R w λ a w=>
 g a w) (
 g undef w)
def RN d a e f R w:=
 Zx e f (.bool false) λ b=>
 Zp (λ (g:Vl) (w:Wd)=>
 RM d a b g R w) λ c=>
 Zm b true (
 F0 105 a 3 R w λ h w=>
 L0 4 h R w λ i w=>
 c i w) (
 c undef w)
def RO c h d e R w:=
 Zp (λ (a:Vl) (w:Wd)=>
 Zp (λ (b:Vl) (w:Wd)=>
 RN c h d b R w) λ f=>
 Zm d true (
 Zx e (.bool true) a λ b=>
 f b w) (
 f undef w)) λ g=>
 Zm e false (
 F0 43 c 4 R w λ i w=>
 L0 3 i R w λ j w=>
 B0 .eql 3 true j (QqQ 0) R w λ a w=>
 g a w) (
 g undef w)
def RQ d a e f R w:=
 Zx e f (.bool false) λ b=>
 Zp (λ (g:Vl) (w:Wd)=>
 RO d a b g R w) λ c=>
 Zm b true (
 F0 105 a 2 R w λ h w=>
 L0 4 h R w λ i w=>
 c i w) (
 c undef w)
def RR c h d e R w:=
 Zp (λ (a:Vl) (w:Wd)=>
 Zp (λ (b:Vl) (w:Wd)=>
 RQ c h d b R w) λ f=>
 Zm d true (
 Zx e (.bool true) a λ b=>
 f b w) (
 f undef w)) λ g=>
 Zm e false (
 F0 43 c 3 R w λ i w=>
 L0 3 i R w λ j w=>
 B0 .eql 3 true j (QqQ 0) R w λ a w=>
 g a w) (
 g undef w)
def RU d a e f R w:=
 Zx e (.bool true) f λ b=>
 Zp (λ (g:Vl) (w:Wd)=>
 RR d a b g R w) λ c=>
 Zm b true (
 F0 105 a 1 R w λ h w=>
 L0 4 h R w λ i w=>
 c i w) (
 c undef w)
def n35 f g R w:=
 opV Pg (box 43 f) (Zc R) w λ b w=>
 opV Pg (box 105 g) (Zc R) w λ c w=>
 F0 105 c 0 R w λ h w=>
 L0 4 h R w λ d w=>
 Zp (λ (a:Vl) (w:Wd)=>
 RU b c d a R w) λ e=>
 Zm d false (
 F0 43 b 2 R w λ i w=>
 L0 9 i R w λ j w=>
 opV Pg (ZA .eql 9 true j (.string { data := #[] })) (Zc R) w λ a w=>
 e a w) (
 e undef w)
def ZkR:QqX2 97 n35:=λ h=>by
 refine yD func97 ?_
 refine zs<|zr<|yv h λ h=>yv h λ h=>zm<|zn<|zk<|zs<|Zq<|yG 3<|yv h λ h=>yv h λ h=>zm<|zn<|yg1 3 2 false [8,9,10] 10 h (λ _ T hT h=>?_) λ σ w h=>?_
 · refine yv h λ h=>yv h λ h=>yb h λ h=>zn ?_
   exact zt hT h
 refine yG 2<|yp h λ h=>zm<|zn<|yg1 3 7 true [13,14,15] 15 h (λ _ T hT h=>?_) λ σ w h=>?_
 · refine yv h λ h=>yv h λ h=>zm<|zn ?_
   exact zt hT h
 refine yg1 3 10 false [16,17,18] 18 h (λ _ T hT h=>?_) λ σ w h=>?_
 · refine yv h λ h=>yv h λ h=>yb h λ h=>zn ?_
   exact zt hT h
 refine yg1 1 7 true [19] 19 h (λ _ T hT h=>?_) λ σ w h=>?_
 · refine yp h λ h=>zn ?_
   exact zt hT h
 refine yG 2<|yp h λ h=>zm<|zn<|yg1 3 16 true [22,23,24] 24 h (λ _ T hT h=>?_) λ σ w h=>?_
 · refine yv h λ h=>yv h λ h=>zm<|zn ?_
   exact zt hT h
 refine yg1 3 19 false [25,26,27] 27 h (λ _ T hT h=>?_) λ σ w h=>?_
 · refine yv h λ h=>yv h λ h=>yb h λ h=>zn ?_
   exact zt hT h
 refine yg1 1 16 true [28] 28 h (λ _ T hT h=>?_) λ σ w h=>?_
 · refine yp h λ h=>zn ?_
   exact zt hT h
 refine yG 2<|yp h λ h=>zm<|zn<|yg1 3 25 true [31,32,33] 33 h (λ _ T hT h=>?_) λ σ w h=>?_
 · refine yv h λ h=>yv h λ h=>zm<|zn ?_
   exact zt hT h
 refine yg1 4 28 false [34,35,36,37] 37 h (λ _ T hT h=>?_) λ σ w h=>?_
 · refine yv h λ h=>yv h λ h=>yx h λ h=>yb h λ h=>zn ?_
   exact zt hT h
 refine yg1 1 25 true [38] 38 h (λ _ T hT h=>?_) λ σ w h=>?_
 · refine yp h λ h=>zn ?_
   exact zt hT h
 refine yG 2<|yp h λ h=>zm<|zn<|yg1 3 35 true [41,42,43] 43 h (λ _ T hT h=>?_) λ σ w h=>?_
 · refine yv h λ h=>yv h λ h=>zm<|zn ?_
   exact zt hT h
 refine yg1 4 38 false [44,45,46,47] 47 h (λ _ T hT h=>?_) λ σ w h=>?_
 · refine yv h λ h=>yv h λ h=>yx h λ h=>yb h λ h=>zn ?_
   exact zt hT h
 refine yg1 1 35 true [48] 48 h (λ _ T hT h=>?_) λ σ w h=>?_
 · refine yp h λ h=>zn ?_
   exact zt hT h
 exact yG 2<|yp h λ h=>zm<|zn<|ZG<|zk<|Zg<|Zj rfl rfl h
def Zcf a b c d (Zz:KV) R w:=
 B0 .add 9 false c d R w λ e w=>
 C0 99 #[a,e] R w λ g w=>
 B0 .add 3 true b (QqQ 1) R w λ f w=>
 Zz f w
def Zcg a b c d (Zz:KV) R w:=
 opV Pg (ZA .and 5 true c (.int .u8 15)) (Zc R) w λ e w=>
 opV Pg (Go.convert 5 191 e) (Zc R) w λ f w=>
 C0 133 #[f,(QqQ 16)] R w λ g w=>
 Zcf a b d g Zz R w
def Zch c d a (Zz:KV) R w:=
 X0 40 c a R w λ e w=>
 L0 5 e R w λ b w=>
 opV Pg (ZA .shr 5 true b (.int .u64 4)) (Zc R) w λ f w=>
 opV Pg (Go.convert 5 191 f) (Zc R) w λ g w=>
 C0 133 #[g,(QqQ 16)] R w λ h w=>
 Zcg d a b h Zz R w
def Zci c a d b (Zz:KV) R w:=
 B0 .lss 3 false b d R w λ e w=>
 Zr e (
 Zch c a b Zz R w) (
 C0 100 #[a] R w λ f w=>
 R (.returned f) w)
def Zcj a R w:=
 opV Pg (alloc 159 true (.tuple #[])) (Zc R) w λ b w=>
 G0 40 3 a R w λ c w=>
 YW (λ d w Zz=>
 Zci a b c d Zz R w) (QqQ 0) w
def n36 a R w:=
 G0 40 3 a R w λ b w=>
 B0 .eql 3 true b (QqQ 0) R w λ c w=>
 Zr c (
 R (.returned (.string { data := #[45] })) w) (
 Zcj a R w)
def ZkS:QqX1 102 n36:=λ h=>by
 refine yD func102 ?_
 refine zs<|zr<|zm<|zn<|zk<|zs<|zs<|zr<|zm<|yx h λ h=>yb h λ h=>zn<|zk<|yC h (λ h=>zs<|zr<|zm<|zn<|zk<|Zg<|Zb<|Zj rfl rfl h) λ h=>?_
 refine Zk<|zk<|zs<|zr<|yv h λ h=>zn<|zk<|zs<|zs<|zr<|zm<|yx h λ h=>zm<|zn<|zk ?_
 refine Zl<|yl1 [5,11,12,13,14,15,16,17,18,19,20,21,22,23,24,25] 11 h λ σ w next h=>zs<|zr<|yb h λ h=>zn<|zk<|zs<|yC h (λ h=>?_) λ h=>?_
 · refine Zk<|zk<|zs<|Zl<|zs<|zr<|yv h λ h=>yv h λ h=>zm<|zn<|zk<|zr<|zm<|yb h λ h=>yv h λ h=>?_
   refine yc h Zfx λ h=>zm<|yb h λ h=>yv h λ h=>yc h Zfx λ h=>yb h λ h=>yc h c99 λ h=>zn<|Zf<|zk<|zr<|yb h λ h=>zm<|zn<|zk ?_
   exact ⟨rfl,h⟩
 exact ZN<|Ze<|Ze<|Zs<|zk<|zs<|zr<|yc h Zji λ h=>zm<|zn<|zk<|Zg<|Zj rfl rfl h
def n63 e R w:=
 opV Pg (box 43 e) (Zc R) w λ b w=>
 F0 43 b 1 R w λ f w=>
 L0 39 f R w λ g w=>
 B0 .geq 39 true g (QqQ 1) R w λ c w=>
 Zp (λ (a:Vl) (w:Wd)=>
 Zx c a (.bool false) λ h=>
 R (.returned h) w) λ d=>
 Zm c true (
 F0 43 b 1 R w λ i w=>
 L0 39 i R w λ j w=>
 B0 .leq 39 true j (QqQ 7) R w λ a w=>
 d a w) (
 d undef w)
def Zli:QqX1 103 n63:=λ h=>by
 refine yD func103 ?_
 refine zs<|zr<|yv h λ h=>zm<|zn<|zk<|zs<|Zq<|yG 4<|yv h λ h=>yv h λ h=>yb h λ h=>zm<|zn<|yg1 3 3 true [7,8,9] 9 h (λ _ T hT h=>?_) λ σ w h=>?_
 · refine yv h λ h=>yv h λ h=>yb h λ h=>zn ?_
   exact zt hT h
 exact yG 2<|yp h λ h=>zm<|zn<|ZG<|zk<|Zg<|Zj rfl rfl h
def Hv b d e (R:RT) w:=
 Zp (λ (a:Vl) (w:Wd)=>
 Zx b a (.bool false) λ f=>
 R (.returned f) w) λ c=>
 Zm b true (
 Zx d (.bool true) e λ a=>
 c a w) (
 c undef w)
def Hw d e b R w:=
 Zp (λ (a:Vl) (w:Wd)=>
 Hv e b a R w) λ c=>
 Zm b false (
 F0 43 d 6 R w λ f w=>
 L0 41 f R w λ g w=>
 G0 41 3 g R w λ h w=>
 B0 .eql 3 true h (QqQ 0) R w λ a w=>
 c a w) (
 c undef w)
def Hx c d e f R w:=
 Zx e (.bool true) f λ a=>
 Zp (λ (g:Vl) (w:Wd)=>
 Hw c a g R w) λ b=>
 Zm a true (
 C0 92 #[d,(.int .u8 116)] R w λ h w=>
 b h w) (
 b undef w)
def Hy b e c R w:=
 Zp (λ (a:Vl) (w:Wd)=>
 Hx b e c a R w) λ d=>
 Zm c false (
 F0 43 b 5 R w λ f w=>
 L0 40 f R w λ g w=>
 G0 40 3 g R w λ h w=>
 B0 .eql 3 true h (QqQ 0) R w λ a w=>
 d a w) (
 d undef w)
def Hz e b c f g (R:RT) w:=
 Zp (λ (a:Vl) (w:Wd)=>
 Zx c (.bool true) a λ h=>
 Zr h (
 R (.returned (.bool false)) w) (
 C0 92 #[b,(.int .u8 98)] R w λ i w=>
 Hy e b i R w)) λ d=>
 Zm c false (
 Zx f g (.bool false) λ a=>
 d a w) (
 d undef w)
def HA b e f c R w:=
 Zp (λ (a:Vl) (w:Wd)=>
 Hz b e f c a R w) λ d=>
 Zm c true (
 F0 43 b 4 R w λ g w=>
 L0 3 g R w λ h w=>
 B0 .neq 3 true h (QqQ 0) R w λ a w=>
 d a w) (
 d undef w)
def HB d a e f R w:=
 Zx e (.bool true) f λ b=>
 Zp (λ (g:Vl) (w:Wd)=>
 HA d a b g R w) λ c=>
 Zm b false (
 C0 92 #[a,(.int .u8 118)] R w λ h w=>
 N0 h R w λ i w=>
 c i w) (
 c undef w)
def HC c h d e R w:=
 Zp (λ (a:Vl) (w:Wd)=>
 Zp (λ (b:Vl) (w:Wd)=>
 HB c h d b R w) λ f=>
 Zm d false (
 Zx e a (.bool false) λ b=>
 f b w) (
 f undef w)) λ g=>
 Zm e true (
 F0 43 c 3 R w λ i w=>
 L0 3 i R w λ j w=>
 B0 .neq 3 true j (QqQ 0) R w λ a w=>
 g a w) (
 g undef w)
def HD d a e f R w:=
 Zx e f (.bool false) λ b=>
 Zp (λ (g:Vl) (w:Wd)=>
 HC d a b g R w) λ c=>
 Zm b false (
 C0 92 #[a,(.int .u8 97)] R w λ h w=>
 N0 h R w λ i w=>
 c i w) (
 c undef w)
def Bk b e f R w:=
 N0 f R w λ c w=>
 Zp (λ (a:Vl) (w:Wd)=>
 HD b e c a R w) λ d=>
 Zm c true (
 F0 43 b 2 R w λ g w=>
 L0 9 g R w λ h w=>
 opV Pg (ZA .neq 9 true h (.string { data := #[] })) (Zc R) w λ a w=>
 d a w) (
 d undef w)
def n61 c R w:=
 opV Pg (box 43 c) (Zc R) w λ a w=>
 F0 43 a 1 R w λ d w=>
 L0 39 d R w λ e w=>
 C0 93 #[e] R w λ b w=>
 C0 92 #[b,(.int .u8 102)] R w λ f w=>
 Bk a b f R w
def Zlg:QqX1 104 n61:=λ h=>by
 refine yD func104 ?_
 refine zs<|zr<|yv h λ h=>zm<|zn<|zk<|zs<|zr<|yv h λ h=>yv h λ h=>yc h c93 λ h=>zm<|zn<|zk<|zs ?_
 refine zs<|Zq<|yG 4<|zm<|yc h c92 λ h=>yv h λ h=>zm<|zn<|yg1 3 3 true [11,12,13] 13 h (λ _ T hT h=>?_) λ σ w h=>?_
 · refine yv h λ h=>yv h λ h=>yb h λ h=>zn ?_
   exact zt hT h
 refine yG 2<|yp h λ h=>zm<|zn<|yg1 4 8 false [16,17,18,19] 19 h (λ _ T hT h=>?_) λ σ w h=>?_
 · refine zm<|yc h c92 λ h=>yv h λ h=>zm<|zn ?_
   exact zt hT h
 refine yg1 3 12 true [20,21,22] 22 h (λ _ T hT h=>?_) λ σ w h=>?_
 · refine yv h λ h=>yv h λ h=>yb h λ h=>zn ?_
   exact zt hT h
 refine yg1 1 8 false [23] 23 h (λ _ T hT h=>?_) λ σ w h=>?_
 · refine yp h λ h=>zn ?_
   exact zt hT h
 refine yG 2<|yp h λ h=>zm<|zn<|yg1 4 18 false [26,27,28,29] 29 h (λ _ T hT h=>?_) λ σ w h=>?_
 · refine zm<|yc h c92 λ h=>yv h λ h=>zm<|zn ?_
   exact zt hT h
 refine yg1 3 22 true [30,31,32] 32 h (λ _ T hT h=>?_) λ σ w h=>?_
 · refine yv h λ h=>yv h λ h=>yb h λ h=>zn ?_
   exact zt hT h
 refine yg1 1 18 false [33] 33 h (λ _ T hT h=>?_) λ σ w h=>?_
 · refine yp h λ h=>zn ?_
   exact zt hT h
 refine yG 1<|yp h λ h=>zn<|ZG<|zk<|yC h (λ h=>zs<|zr<|zm<|zn<|zk<|Zg<|Zb<|Zj rfl rfl h) λ h=>Zk<|zk<|zs<|Zq<|yG 3<|zm<|yc h c92 λ h=>zm ?_
 refine zn<|yg1 4 2 false [38,39,40,41] 41 h (λ _ T hT h=>?_) λ σ w h=>?_
 · refine yv h λ h=>yv h λ h=>yx h λ h=>yb h λ h=>zn ?_
   exact zt hT h
 refine yG 2<|yp h λ h=>zm<|zn<|yg1 3 8 true [44,45,46] 46 h (λ _ T hT h=>?_) λ σ w h=>?_
 · refine zm<|yc h c92 λ h=>zm<|zn ?_
   exact zt hT h
 refine yg1 4 11 false [47,48,49,50] 50 h (λ _ T hT h=>?_) λ σ w h=>?_
 · refine yv h λ h=>yv h λ h=>yx h λ h=>yb h λ h=>zn ?_
   exact zt hT h
 refine yg1 1 8 true [51] 51 h (λ _ T hT h=>?_) λ σ w h=>?_
 · refine yp h λ h=>zn ?_
   exact zt hT h
 exact yG 2<|yp h λ h=>zm<|zn<|ZG<|zk<|Zg<|Zj rfl rfl h
def Zc7 a R w:=
 B0 .sub 3 true (QqQ 48) a R w λ b w=>
 opV Pg (Go.convert 3 5 b) (Zc R) w λ c w=>
 opV Pg (buildSlice 40 1 #[(0,c)]) (Zc R) w λ d w=>
 opV Pg (Go.convert 40 9 d) (Zc R) w λ e w=>
 opV Pg (ZA .add 9 true (.string { data := #[45] }) e) (Zc R) w λ f w=>
 R (.returned f) w
def Zc8 a R w:=
 B0 .add 3 true (QqQ 48) a R w λ b w=>
 opV Pg (Go.convert 3 5 b) (Zc R) w λ c w=>
 opV Pg (buildSlice 40 1 #[(0,c)]) (Zc R) w λ d w=>
 opV Pg (Go.convert 40 9 d) (Zc R) w λ e w=>
 R (.returned e) w
def Zc9 b c (d:WPr) (e:KV) R w:=
 opV Pg (buildSlice 40 1 #[(0,c)]) (Zc R) w λ f w=>
 XS d w λ a w=>
 qV Pg a (Go.convert 40 9 f) λ g=>
 qV Pg a (ZA .add 9 false b g) λ h=>
 e h w
def SF g h (a:WPr) (R:RT) w:=
 qV Pg a (ZA .quo 3 true g (QqQ 10)) λ d=>
 qV Pg a (ZA .add 3 true (QqQ 48) h) λ i=>
 qV Pg a (Go.convert 3 5 i) λ e=>
 Zp (λ (j:Vl) (w:Wd)=>
 R (.returned j) w) λ f=>
 (
 C0 105 #[d] R w λ b w=>
 a w∧(
 Zc9 b e a f R w))∧(
 opV Pg (buildSlice 40 1 #[(0,e)]) (Zc R) w λ k w=>
 XS a w λ c w=>
 qV Pg c (Go.convert 40 9 k) λ l=>
 C0 105 #[d] R w λ b w=>
 c w∧(
 qV Pg c (ZA .add 9 false b l) λ m=>
 f m w))
def Zda b R w:=
 B0 .rem 3 true b (QqQ 10) R w λ a w=>
 B0 .lss 3 true a (QqQ 0) R w λ d w=>
 Zp (λ (e:Vl) (w:Wd)=>
 Z4 w λ f w=>
 SF b e f R w) λ c=>
 Zr d (
 opV Pg (Op.unary .neg a) (Zc R) w λ g w=>
 c g w) (
 c a w)
def Nb a b c R w:=
 Zx b c (.bool false) λ d=>
 Zr d (
 B0 .lss 3 true a (QqQ 0) R w λ e w=>
 Zr e (
 Zc7 a R w) (
 Zc8 a R w)) (
 Zda a R w)
def n58 a R w:=
 opV Pg (ZA .gtr 3 true a (.int .i64 (-10))) (Zc R) w λ c w=>
 Zp (λ (b:Vl) (w:Wd)=>
 Nb a c b R w) λ d=>
 Zm c true (
 B0 .lss 3 true a (QqQ 10) R w λ b w=>
 d b w) (
 d undef w)
def Zld:QqX1 105 n58:=λ h=>by
 refine yD func105 ?_
 refine zs<|zr<|zm<|zn<|zk<|zs<|zs<|Zq<|yG 3<|zm<|yb h λ h=>zm<|zn<|yg1 2 2 true [7,8] 8 h (λ _ T hT h=>?_) λ σ w h=>?_
 · refine zm<|yb h λ h=>zn ?_
   exact zt hT h
 refine yG 1<|yp h λ h=>zn<|ZG<|zk<|yC h (λ h=>?_) λ h=>?_
 · refine zs<|zs<|zr<|zm<|yb h λ h=>zn<|zk<|yC h (λ h=>zs<|zr<|zm<|yb h λ h=>yv h λ h=>yS h λ h=>yv h λ h=>yb h λ h=>zm<|zn<|zk<|Zg<|Zb<|Zb<|Zj rfl rfl h) λ h=>Zk<|zk<|zs<|zr<|zm<|yb h λ h=>?_
   exact yv h λ h=>yS h λ h=>yv h λ h=>zm<|zn<|zk<|Zg<|Zb<|Zj rfl rfl h
 refine Zk<|zk<|zs<|zr<|zm<|yb h λ h=>zm<|zn<|zk<|zs<|zs<|zr<|zm<|yb h λ h=>zn ?_
 refine zk<|yJ1 [3,27,28] 3 h (λ _ _ hkK2 h=>?_) λ σ w h=>?_
 · refine yC h (λ h=>?_) λ h=>?_
   · refine zr<|zm<|yv h λ h=>zm<|zn<|zk ?_
     exact zt hkK2 h
   refine Zk<|zk ?_
   exact zt hkK2 h
 refine zk<|zs<|yh [2,29,30,31,32,33,34,35,36,37] h λ C hC h=>yw 0 hC ?_
 refine ye 1 hC h λ h=>?_
 refine yw 3 hC ?_
 refine ye 4 hC h λ h=>?_
 refine ye 5 hC h λ h=>?_
 refine X1 h (λ K4 hK h=>?_)
 refine Qx [2,31,35,36,37] (λ ρ w=>K4 (ρ 2) w) (λ T hT=>?_) (λ σ w h=>?_)
 · obtain ⟨h0,h1⟩:=h
   refine Y5 2 6 rfl rfl K5 (λ _ _=>rfl) (λ _ _=>rfl) ?_ ?_
   · have h:=h0
     refine yc h IC λ h=>zn ?_
     obtain ⟨hC,h⟩:=h
     refine ⟨_,λ _ h=>h,hC,?_⟩
     refine yr 6 ?_
     refine yS h λ h=>zn ?_
     obtain ⟨C5,hs,hC,h⟩:=h
     refine ⟨C5,hs,hC,?_⟩
     refine ye 7 hC h λ h=>?_
     refine ye 8 hC h λ h=>?_
     refine yw 9 hC ?_
     refine yz ?_
     exact zt hT h
   have h:=h1
   refine yS h λ h=>zn ?_
   obtain ⟨C6,hs,hC,h⟩:=h
   refine ⟨C6,hs,hC,?_⟩
   refine ye 7 hC h λ h=>?_
   refine yo 2 ?_
   refine yc h IC λ h=>zn ?_
   obtain ⟨hC,h⟩:=h
   refine ⟨hC,?_⟩
   refine ye 8 hC h λ h=>?_
   refine yw 9 hC ?_
   refine yz ?_
   exact zt hT h
 subst hK
 exact zk<|Zg<|Zj rfl rfl h
def CP (w0:Wd) (v:Vl) (r:FrD) (hr:QI w0 v r) (x:jt):Ret Pg 97 #[v,CG x] w0 λ q w'=>q = .bool (Wq r x)∧Ext w0 w':=by
 obtain ⟨bv,tv,rfl,hB,hT,o1,o2⟩:=hr.op
 obtain ⟨Ab,cb,rfl,_⟩:=Zd.open hB
 obtain ⟨At,ct,rfl,_⟩:=Zd.open hT
 obtain ⟨u1,u2,u3,u4,u5⟩:=x
 unfold CG
 refine ZkR (R:=ZE _) ?_;unfold n35
 rw [YO]
 have c1:=Zt w0 #[.string r.to,.int .i64 r.kind,.string r.fr,.int .i64 r.add,.int .i64 r.value,.slice Ab r.bytes.length cb,.slice At r.table.length ct] 43
 have e1:Ext w0 (w0.alloc (.cells #[.string r.to,.int .i64 r.kind,.string r.fr,.int .i64 r.add,.int .i64 r.value,.slice Ab r.bytes.length cb,.slice At r.table.length ct] 43)):=ee
 generalize (w0.alloc (.cells #[.string r.to,.int .i64 r.kind,.string r.fr,.int .i64 r.add,.int .i64 r.value,.slice Ab r.bytes.length cb,.slice At r.table.length ct] 43))=w1 at *
 rw [YO]
 have c2:=Zt w1 #[.bool u1,.bool u2,.bool u3,.bool u4,.bool u5] 105
 have e2:Ext w1 (w1.alloc (.cells #[.bool u1,.bool u2,.bool u3,.bool u4,.bool u5] 105)):=ee
 generalize (w1.alloc (.cells #[.bool u1,.bool u2,.bool u3,.bool u4,.bool u5] 105))=w2 at *
 have c1:=e2.obj c1
 have e:=e1.trans e2
 have k1:=(Za c1).1
 have k2:=(Za c2).1
 clear c1 c2 e1 e2 hr hB hT
 refine Qqb k1 k2 ?_
 have hcl:Wq r ⟨u1,u2,u3,u4,u5⟩=((u1||decide (r.fr=⟨#[]⟩))&&((u2||r.add == 0)&&((u3||r.value == 0)&&((u4||(r.bytes.length:Int) == 0)&&(u5||(r.table.length:Int) == 0))))):=by
  unfold Wq
  have z:∀ n:Nat,((n:Int) == 0)=decide (n=0):=λ n=>by rw [Bool.eq_iff_iff];simp
  rw [z,z]
  rfl
 rw [hcl]
 clear hcl
 repeat' first
  | exact ⟨by simp [*],e⟩
  | (simp [*];done)
  | (refine qJ (λ _=>?_) (λ _=>?_)<;>simp (disch:=try exact DI) only [↓PR,QR,simprocAttr,↓RJ,↓RK,↓RL,↓RM,↓RN,↓RO,↓RQ,↓RR,↓RU, *])
  | (refine Ai (λ _=>?_) (λ _=>?_)<;>simp (disch:=try exact DI) only [↓PR,QR,simprocAttr,↓RJ,↓RK,↓RL,↓RM,↓RN,↓RO,↓RQ,↓RR,↓RU, *])
def RV c d a R w:=
 E0q a 0 R w λ e w=>
 E0q a 1 R w λ f w=>
 Z4 w λ b w=>
 qV Pg b (sliceAt 9 c (some d) none none) λ g=>
 qV Pg b (ZA .eql 162 true f .nilIface) λ h=>
 R (.returned (.tuple #[e,g,h])) w
def qT b a c d (Zz:KV) R w:=
 Zx c d (.bool false) λ e=>
 Zr e (
 B0 .add 3 true a (QqQ 1) R w λ f w=>
 Zz f w) (
 opV Pg (sliceAt 9 b none (some a) none) (Zc R) w λ g w=>
 C0 125 #[g] R w λ h w=>
 RV b a h R w)
def qU g h c d i j (Zz:KV) R w:=
 Zp (λ (a:Vl) (w:Wd)=>
 Zp (λ (b:Vl) (w:Wd)=>
 qT g h c b Zz R w) λ e=>
 Zm c true (
 Zx d (.bool true) a λ b=>
 e b w) (
 e undef w)) λ f=>
 Zm d false (
 Zx i j (.bool false) λ a=>
 f a w) (
 f undef w)
def qX b e f g c (Zz:KV) R w:=
 Zp (λ (a:Vl) (w:Wd)=>
 qU b e f g c a Zz R w) λ d=>
 Zm c true (
 opV Pg (Instr.index 9 b (QqQ 0)) (Zc R) w λ h w=>
 opV Pg (ZA .eql 5 true h (.int .u8 45)) (Zc R) w λ a w=>
 d a w) (
 d undef w)
def qY d a e b (Zz:KV) R w:=
 Zp (λ (f:Vl) (w:Wd)=>
 qX d a e b f Zz R w) λ c=>
 Zm b false (
 B0 .eql 3 true a (QqQ 0) R w λ g w=>
 c g w) (
 c undef w)
def qZ b c d e (Zz:KV) R w:=
 Zp (λ (a:Vl) (w:Wd)=>
 Zp (λ (h:Vl) (w:Wd)=>
 qY b c d h Zz R w) λ f=>
 Zm d true (
 Zx e a (.bool false) λ i=>
 f i w) (
 f undef w)) λ g=>
 Zm e true (
 opV Pg (Instr.index 9 b c) (Zc R) w λ j w=>
 opV Pg (ZA .leq 5 true j (.int .u8 57)) (Zc R) w λ a w=>
 g a w) (
 g undef w)
def Zcn a b (Zz:KV) R w:=
 G0 9 3 a R w λ e w=>
 B0 .lss 3 false b e R w λ c w=>
 Zp (λ (f:Vl) (w:Wd)=>
 qZ a b c f Zz R w) λ d=>
 Zm c true (
 opV Pg (Instr.index 9 a b) (Zc R) w λ g w=>
 opV Pg (ZA .geq 5 true g (.int .u8 48)) (Zc R) w λ h w=>
 d h w) (
 d undef w)
def n38 a R w:=
 YW (λ b w Zz=>
 Zcn a b Zz R w) (QqQ 0) w
def ZkU:QqX1 87 n38:=λ h=>by
 refine yD func87 ?_
 refine zs<|zr<|zm<|zm<|zm<|zn<|zk<|zs<|zr<|zm<|zn<|zk<|zs<|Zl<|yl1 [5,8,9,10,11,12,13,14,15,16,17,18,19,20,21,22,23,24,25,26,27,28,29,30,31,32,33,34] 5 h λ σ w next h=>?_
 refine zs<|zs<|Zq<|yG 5<|zm<|zm<|yx h λ h=>yb h λ h=>zm<|zn<|yg1 5 4 true [13,14,15,16,17] 17 h (λ _ T hT h=>?_) λ σ w h=>?_
 · refine zm<|zm<|yv h λ h=>yb h λ h=>zm<|zn ?_
   exact zt hT h
 refine yg1 4 9 true [18,19,20,21] 21 h (λ _ T hT h=>?_) λ σ w h=>?_
 · refine zm<|zm<|yv h λ h=>yb h λ h=>zn ?_
   exact zt hT h
 refine yg1 2 4 true [22,23] 23 h (λ _ T hT h=>?_) λ σ w h=>?_
 · refine yp h λ h=>zm<|zn ?_
   exact zt hT h
 refine yg1 3 15 false [24,25,26] 26 h (λ _ T hT h=>?_) λ σ w h=>?_
 · refine zm<|yb h λ h=>zm<|zn ?_
   exact zt hT h
 refine yg1 3 18 true [27,28,29] 29 h (λ _ T hT h=>?_) λ σ w h=>?_
 · refine zm<|yv h λ h=>yb h λ h=>zn ?_
   exact zt hT h
 refine yg1 1 15 false [30] 30 h (λ _ T hT h=>?_) λ σ w h=>?_
 · refine yp h λ h=>zn ?_
   exact zt hT h
 refine yg1 1 4 true [31] 31 h (λ _ T hT h=>?_) λ σ w h=>?_
 · refine yp h λ h=>zn ?_
   exact zt hT h
 refine yG 1<|yp h λ h=>zn<|ZG<|zk<|yC h (λ h=>Zk<|zk<|Zl<|zr<|zm<|yb h λ h=>zm<|zn<|Zf<|zk<|⟨rfl,h⟩) λ h=>ZN<|Ze<|Ze<|Zs<|zk<|zs<|zr<|zm ?_
 refine zm<|yv h λ h=>yc h Zju λ h=>zm<|yv h λ h=>yv h λ h=>zm<|zm<|zn<|zk<|zs<|yh [2,3,4,42,43,44,45,46,47] h λ C hC h=>yw 0 hC ?_
 refine yw 1 hC ?_
 refine yw 2 hC ?_
 refine ye 3 hC h λ h=>?_
 refine yw 4 hC ?_
 refine ye 5 hC h λ h=>?_
 refine yw 6 hC ?_
 refine yw 7 hC ?_
 refine yw 8 hC ?_
 exact yz<|zk<|Zg<|NN rfl rfl rfl rfl h
def ZcN b c (d:WPr) (a:PEn) (R:RT) w:=
 opV Pg (loadAt 40 b) a w λ e w=>
 opV Pg (Go.convert 191 5 c) a w λ f w=>
 opV Pg (buildSlice 40 1 #[(0,f)]) a w λ g w=>
 opV Pg (Builtin.append_ #[40,40] 40 #[e,g]) a w λ h w=>
 opU Pg (storeAt 40 b h) a w λ w=>
 d w
def ZcO b c (d:WPr) (a:PEn) (e:Nat→Wd→Prop) R w:=
 opV Pg (extract c 0) a w λ f w=>
 opV Pg (extract c 1) a w λ g w=>
 opV Pg (ZA .neq 162 true g .nilIface) a w λ h w=>
 Zr h (
 opU Pg (storeAt 40 b (Value.slice none 0 0)) a w λ w=>
 e 0 w) (
 ZcN b f d a R w)
def Zh5 b c (d:WPr) (a:PEn) (e:Nat→Wd→Prop) (l1:Nat) R w:=
 Ad l1 w λ w=>
 opV Pg (Go.convert 40 9 c) a w λ f w=>
 ZU Pg 127 #[f,(QqQ 16),(QqQ 8)] a w λ g w=>
 ZcO b g d a e R w
def ZcP a (ds:LDf) R w:=
 opV Pg (loadAt 40 a) (OQ0 ds 40 a R) w λ b w=>
 opU Pg (storeAt 40 a b) (OQ0 ds 40 a R) w λ w=>
 Ul Pg ds [(some 40,a)] R w
def ZcQ a b (ds:LDf) R w:=
 BF Pg b ds (λ l1 c w d e f=>
 Zh5 a c d f e l1 R w) (λ ch ds w=>OQ0 ds 40 a R ch w) w (λ ds w=>
 ZcP a ds R w) [λ ds w=>
 Ul Pg ds [(some 40,a)] R w]
def n48 b (R:RT) w:=
 (λ (ds:LDf)=>
 opV Pg (alloc 40 true (.tuple #[])) (ZD Pg ds [(some 40,undef)] R) w λ a w=>
 opV Pg (Go.convert 9 40 b) (OQ0 ds 40 a R) w λ c w=>
 ZU Pg 126 #[c,(QqQ 2)] (OQ0 ds 40 a R) w λ d w=>
 ZcQ a d ds R w) []
def Zk3:QqX1 88 n48:=λ h=>by
 refine yE func88 ?_
 unfold n48 at h
 dsimp only at h
 refine zs<|zr<|yv h λ h=>zn<|zk<|zs<|zs<|zr<|zm<|yv h λ h=>yc h Zjv λ h=>zn<|zk<|Zl<|Gr [.ret] h rfl (λ l1 t9 w Kr1 Xr1 Qr1 h=>?_) (λ ds w h=>?_) (λ c ds w h=>?_) (λ ch ds w h=>X7 rfl h)
 · refine zr<|zm<|zn<|zk ?_
   obtain ⟨hr,h⟩:=h
   refine ⟨rfl,hr,λ w hb=>?_⟩
   have h:=h w hb
   refine Zl<|zs<|zr<|zm<|yv h λ h=>yc h c127 λ h=>zm<|yv h λ h=>yv h λ h=>zm<|zm<|zn<|zk<|zs<|zs ?_
   refine zr<|zm<|yb h λ h=>zn<|zk<|yC h (λ h=>zs<|zr<|yu h λ h=>zn<|zk<|Zg<|Zb<|Zh<|⟨rfl,0,rfl,h⟩) λ h=>Zk<|zk<|zr<|yv h λ h=>zm<|yv h λ h=>yS h λ h=>yx h λ h=>?_
   exact yu h λ h=>zn<|Zf<|⟨rfl,h⟩
 · exact Zf<|zk<|zs<|zr<|yv h λ h=>yu h λ h=>zn<|zk<|Zg<|X8 rfl h
 rcases c with _ | c
 · refine ⟨_,rfl,.inl ⟨rfl,?_⟩⟩
   exact Zh<|Zb<|X8 rfl h
 exact h.elim
def ZcC b e f g h R w:=
 Zx g h (.bool false) λ c=>
 Zp (λ (a:Vl) (w:Wd)=>
 Zx c a (.bool false) λ i=>
 S0 78 b f R w λ w=>
 qW Pg 78 b w λ r0=>
 R (.returned (.tuple #[r0,i])) w) λ d=>
 Zm c true (
 opV Pg (ZA .eql 9 true e (.string { data := #[] })) (Zc R) w λ a w=>
 d a w) (
 d undef w)
def ZcD a c g b R w:=
 E0q b 0 R w λ h w=>
 E0q b 1 R w λ i w=>
 E0q b 2 R w λ j w=>
 F0 78 a 2 R w λ k w=>
 S0 3 k h R w λ w=>
 L0 78 a R w λ l w=>
 Zp (λ (m:Vl) (w:Wd)=>
 Zx c m (.bool false) λ d=>
 Zp (λ (n:Vl) (w:Wd)=>
 ZcC a i l d n R w) λ e=>
 Zm d true (
 e j w) (
 e undef w)) λ f=>
 Zm c true (
 f g w) (
 f undef w)
def ZcE b c a R w:=
 E0q a 0 R w λ d w=>
 E0q a 1 R w λ e w=>
 C0 87 #[d] R w λ f w=>
 ZcD b c e f R w
def ZcF c d e f g R w:=
 Zx d g (.bool false) λ a=>
 Zp (λ (h:Vl) (w:Wd)=>
 Zx a h (.bool false) λ i=>
 ZU Pg 128 #[e,(.string { data := #[58] })] (Zc R) w λ j w=>
 ZcE c i j R w) λ b=>
 Zm a true (
 b f w) (
 b undef w)
def ZcG b c e a R w:=
 E0q a 0 R w λ f w=>
 E0q a 1 R w λ g w=>
 E0q a 2 R w λ h w=>
 F0 78 b 1 R w λ i w=>
 S0 3 i f R w λ w=>
 Zp (λ (j:Vl) (w:Wd)=>
 ZcF b c g h j R w) λ d=>
 Zm c true (
 d e w) (
 d undef w)
def ZcH b c a R w:=
 E0q a 0 R w λ d w=>
 E0q a 1 R w λ e w=>
 C0 87 #[d] R w λ f w=>
 ZcG b c e f R w
def ZcI b a R w:=
 E0q a 0 R w λ c w=>
 E0q a 1 R w λ d w=>
 E0q a 2 R w λ e w=>
 F0 78 b 0 R w λ f w=>
 S0 3 f c R w λ w=>
 ZU Pg 128 #[d,(.string { data := #[45] })] (Zc R) w λ g w=>
 ZcH b e g R w
def n46 a R w:=
 opV Pg (alloc 78 true (.tuple #[])) (Zc R) w λ b w=>
 C0 87 #[a] R w λ c w=>
 ZcI b c R w
def Zk1:QqX1 89 n46:=λ h=>by
 refine yD func89 ?_
 refine zs<|zr<|yv h λ h=>zm<|zn<|zk<|zs<|zr<|zm<|zm<|zm<|zn<|zk<|zs<|zr ?_
 refine zm<|yc h c87 λ h=>zm<|yv h λ h=>yv h λ h=>yv h λ h=>yv h λ h=>yu h λ h=>zm<|zm<|zn<|zk<|zs<|zr<|zm ?_
 refine yc h Zfw λ h=>zm<|yv h λ h=>yv h λ h=>zm<|zm<|zn<|zk<|zs<|zr<|zm<|yc h c87 λ h=>zm<|yv h λ h=>yv h λ h=>?_
 refine yv h λ h=>yv h λ h=>yu h λ h=>zm<|zm<|zn<|zk<|zs<|Zq<|yG 2<|zm<|zm<|zn<|yg1 1 1 true [28] 28 h (λ _ T hT h=>?_) λ σ w h=>?_
 · refine zm<|zn ?_
   exact zt hT h
 refine yG 2<|yp h λ h=>zm<|zn<|yg1 1 4 true [31] 31 h (λ _ T hT h=>?_) λ σ w h=>?_
 · refine zm<|zn ?_
   exact zt hT h
 refine yG 2<|yp h λ h=>zm<|zn<|ZG<|zk<|zs<|zr<|zm<|yc h Zfw λ h=>zm<|yv h λ h=>yv h λ h=>zm<|zm ?_
 refine zn<|zk<|zs<|zr<|zm<|yc h c87 λ h=>zm<|yv h λ h=>yv h λ h=>yv h λ h=>yv h λ h=>yu h λ h=>zm<|zm<|zn ?_
 refine zk<|zs<|Zq<|yG 3<|yv h λ h=>zm<|zm<|zn<|yg1 1 2 true [48] 48 h (λ _ T hT h=>?_) λ σ w h=>?_
 · refine zm<|zn ?_
   exact zt hT h
 refine yG 2<|yp h λ h=>zm<|zn<|yg1 1 5 true [51] 51 h (λ _ T hT h=>?_) λ σ w h=>?_
 · refine zm<|zn ?_
   exact zt hT h
 refine yG 2<|yp h λ h=>zm<|zn<|yg1 2 8 true [54,55] 55 h (λ _ T hT h=>?_) λ σ w h=>?_
 · refine zm<|yb h λ h=>zn ?_
   exact zt hT h
 exact yG 3<|yp h λ h=>yu h λ h=>zm<|zn<|ZG<|zk<|Zg<|YD rfl rfl rfl h
def Zht a b (R:RT) w:=
 C0 129 #[a,b] R w λ c w=>
 B0 .geq 3 true c (QqQ 0) R w λ d w=>
 R (.returned d) w
def Zhu:QqX2 90 Zht:=λ h=>by
 refine yD func90 ?_
 refine zs<|zr<|zm<|zn<|zk<|zs<|zr<|zm<|zm<|yc h Zjw λ h=>yb h λ h=>zm<|zn<|zk<|Zg ?_
 exact Zj rfl rfl h
def n42 a (R:RT) w:=
 C0 35 #[a] R w λ b w=>
 N0 b R w λ c w=>
 R (.returned c) w
def ZkY:QqX1 91 n42:=λ h=>by
 refine yD func91 ?_
 exact zs<|zr<|zm<|zn<|zk<|zs<|zr<|zm<|yc h c35 λ h=>yv h λ h=>zm<|zn<|zk<|Zg<|Zj rfl rfl h
def Zdp b c a (Zz:KV) R w:=
 opV Pg (Instr.index 9 b a) (Zc R) w λ d w=>
 B0 .eql 5 false d c R w λ e w=>
 Zr e (
 R (.returned (.bool true)) w) (
 B0 .add 3 true a (QqQ 1) R w λ f w=>
 Zz f w)
def Zdq a c b (Zz:KV) R w:=
 G0 9 3 a R w λ d w=>
 B0 .lss 3 false b d R w λ e w=>
 Zr e (
 Zdp a c b Zz R w) (
 R (.returned (.bool false)) w)
def n64 a b R w:=
 YW (λ c w Zz=>
 Zdq a b c Zz R w) (QqQ 0) w
def Zlj:QqX2 92 n64:=λ h=>by
 refine yD func92 ?_
 refine zs<|zr<|zm<|zn<|zk<|zs<|zs<|zr<|zm<|zn<|zk<|Zl<|yl1 [4,5,6,7,8,9,10,11,12,13,14,15,16] 5 h λ σ w next h=>zs<|zs ?_
 refine zr<|zm<|zm<|yx h λ h=>yb h λ h=>zn<|zk<|yC h (λ h=>?_) λ h=>?_
 · refine Zk<|zk<|zs<|Zl<|zs<|zr<|zm<|zm<|yv h λ h=>zm<|yb h λ h=>zn<|zk<|yC h (λ h=>zs<|zr<|zm<|zn<|zk<|Zg<|Zh<|Zb<|Zb<|Zh<|Zb<|Zj rfl rfl h) λ h=>?_
   exact Zk<|Zf<|zk<|zr<|zm<|yb h λ h=>zm<|zn<|zk<|⟨rfl,h⟩
 exact ZN<|Ze<|Ze<|Zs<|zk<|zs<|zr<|zm<|zn<|zk<|Zg<|Zj rfl rfl h
def n71 a R w:=
 opV Pg (buildSlice 94 8 #[(0,(.string { data := #[] })),(1,(.string { data := #[102] })),(2,(.string { data := #[102,97] })),(3,(.string { data := #[118] })),(4,(.string { data := #[98] })),(5,(.string { data := #[102,116] })),(6,(.string { data := #[102] })),(7,(.string { data := #[] }))]) (Zc R) w λ b w=>
 X0 94 b a R w λ c w=>
 L0 9 c R w λ d w=>
 R (.returned d) w
def Zlq:QqX1 93 n71:=λ h=>by
 refine yD func93 ?_
 refine zs<|zr<|zm<|zn<|zk<|zs<|zr<|yS h λ h=>zm<|yv h λ h=>yv h λ h=>zm<|zn<|zk<|Zg ?_
 exact Zj rfl rfl h
def SN a c d R w:=
 N0 c R w λ e w=>
 Zp (λ (a:Vl) (w:Wd)=>
 R (.returned (.tuple #[a,d])) w) λ b=>
 Zr e (
 opV Pg (Op.unary .neg a) (Zc R) w λ f w=>
 b f w) (
 b a w)
def Zdr b c a (Qt:KW) R w:=
 B0 .mul 3 true (QqQ 10) c R w λ d w=>
 opV Pg (Instr.index 9 b a) (Zc R) w λ e w=>
 opV Pg (ZA .sub 5 true e (.int .u8 48)) (Zc R) w λ f w=>
 opV Pg (Go.convert 5 3 f) (Zc R) w λ g w=>
 B0 .sub 3 false d g R w λ h w=>
 B0 .add 3 true a (QqQ 1) R w λ i w=>
 Qt i h w
def HE c d g h i a (Qt:KW) R w:=
 Zx h i (.bool false) λ e=>
 Zp (λ (b:Vl) (w:Wd)=>
 Zx e b (.bool false) λ j=>
 Zr j (
 Zdr c d a Qt R w) (
 SN d g a R w)) λ f=>
 Zm e true (
 opV Pg (Instr.index 9 c a) (Zc R) w λ k w=>
 opV Pg (ZA .leq 5 true k (.int .u8 57)) (Zc R) w λ b w=>
 f b w) (
 f undef w)
def SO a f g b (Qt:KW) R w:=
 G0 9 3 a R w λ h w=>
 B0 .lss 3 false b h R w λ d w=>
 Zp (λ (c:Vl) (w:Wd)=>
 HE a f g d c b Qt R w) λ e=>
 Zm d true (
 opV Pg (Instr.index 9 a b) (Zc R) w λ i w=>
 opV Pg (ZA .geq 5 true i (.int .u8 48)) (Zc R) w λ c w=>
 e c w) (
 e undef w)
def Nf e b f g R w:=
 Zx f g (.bool false) λ c=>
 Zp (λ (a:Vl) (w:Wd)=>
 Wy (λ a h w Qt=>
 SO e h c a Qt R w) a (QqQ 0) w) λ d=>
 Zr c (
 B0 .add 3 true b (QqQ 1) R w λ i w=>
 d i w) (
 d b w)
def Zds b c (a:WPr) R w:=
 qV Pg a (Builtin.len_ #[9] 3 #[b]) λ g=>
 qV Pg a (ZA .lss 3 false c g) λ e=>
 Zp (λ (d:Vl) (w:Wd)=>
 Nf b c e d R w) λ f=>
 Zm e true (
 qV Pg a (Instr.index 9 b c) λ h=>
 qV Pg a (ZA .eql 5 true h (.int .u8 45)) λ d=>
 f d w) (
 f undef w)
def n65 a b R w:=
 Z4 w λ c w=>
 Zds a b c R w
def Zlk:QqX2 94 n65:=λ h=>by
 refine yD func94 ?_
 refine zs<|zr<|zm<|zm<|zn<|zk<|zs<|yh [6,7,8,9,10,11,12,13,14,15,16,17] h λ C hC h=>yw 0 hC ?_
 refine yw 1 hC ?_
 refine ye 2 hC h λ h=>?_
 refine ye 3 hC h λ h=>?_
 refine yw 4 hC ?_
 refine yw 10 hC ?_
 refine yj1 2 [8,7,6,5,10,4,3,2,1,0] [13,14,15,16] 16 h (λ _ hT hb h=>?_) (λ _ hT hb h=>?_) λ σ w hC h=>?_
 · refine yw 5 hC ?_
   refine yw 6 hC ?_
   refine ye 7 hC h λ h=>?_
   refine ye 8 hC h λ h=>?_
   exact yt hT hC h
 · refine yi 5 hC ?_
   refine yi 6 hC ?_
   refine yi 7 hC ?_
   refine yi 8 hC ?_
   exact yt hT hC h
 refine yP 9 hC h λ _ h=>?_
 refine yw 11 hC ?_
 refine yz<|zk<|zs<|zs<|zr<|zm<|zn<|zk<|yJ1 [1,19,20] 1 h (λ _ _ hkK3 h=>?_) λ σ w h=>?_
 · refine yC h (λ h=>?_) λ h=>?_
   · refine zr<|zm<|yb h λ h=>zm<|zn<|zk ?_
     exact zt hkK3 h
   refine Zk<|zk ?_
   exact zt hkK3 h
 refine zk<|zs<|Zl<|yl2 [1,6,21,22,23,24,25,26,27,28,29,30,31,32,33,34,35,36,37,38,39,40,41,42,43,44,45,46] 1 6 h λ σ w next h=>zs<|zs<|Zq<|yG 5<|zm<|zm<|yx h λ h=>yb h λ h=>zm<|zn<|yg1 4 4 true [26,27,28,29] 29 h (λ _ T hT h=>?_) λ σ w h=>?_
 · refine zm<|zm<|yv h λ h=>yb h λ h=>zn ?_
   exact zt hT h
 refine yG 2<|yp h λ h=>zm<|zn<|yg1 4 10 true [32,33,34,35] 35 h (λ _ T hT h=>?_) λ σ w h=>?_
 · refine zm<|zm<|yv h λ h=>yb h λ h=>zn ?_
   exact zt hT h
 refine yG 1<|yp h λ h=>zn<|ZG<|zk<|yC h (λ h=>?_) λ h=>?_
 · refine Zk<|zk<|Zl<|zs<|zr<|zm<|yb h λ h=>zm<|zm<|yv h λ h=>yb h λ h=>yv h λ h=>yb h λ h=>zm<|zn ?_
   exact zk<|zr<|zm<|yb h λ h=>zm<|zn<|Zf<|zk<|⟨rfl,h⟩
 refine ZN<|Ze<|Ze<|Zs<|zk<|zs<|zs<|zr<|zm<|yv h λ h=>zn<|zk<|yJ1 [6,49,50] 6 h (λ _ _ hkK7 h=>?_) λ σ w h=>?_
 · refine yC h (λ h=>?_) λ h=>?_
   · refine zr<|zm<|yv h λ h=>zm<|zn<|zk ?_
     exact zt hkK7 h
   refine Zk<|zk ?_
   exact zt hkK7 h
 exact zk<|zs<|zr<|zm<|zm<|zm<|zm<|zn<|zk<|Zg<|Yg rfl rfl rfl h
def Dn a R w:=
 opV Pg (ZA .sub 5 true a (.int .u8 97)) (Zc R) w λ b w=>
 opV Pg (Go.convert 5 3 b) (Zc R) w λ c w=>
 B0 .add 3 true c (QqQ 10) R w λ d w=>
 R (.returned d) w
def Do a R w:=
 opV Pg (ZA .geq 5 true a (.int .u8 97)) (Zc R) w λ c w=>
 Zp (λ (b:Vl) (w:Wd)=>
 Zx c b (.bool false) λ e=>
 Zr e (
 Dn a R w) (
 R (.returned (.int .i64 (-1))) w)) λ d=>
 Zm c true (
 opV Pg (ZA .leq 5 true a (.int .u8 102)) (Zc R) w λ b w=>
 d b w) (
 d undef w)
def Dp a b c R w:=
 Zx b c (.bool false) λ d=>
 Zr d (
 opV Pg (ZA .sub 5 true a (.int .u8 48)) (Zc R) w λ e w=>
 opV Pg (Go.convert 5 3 e) (Zc R) w λ f w=>
 R (.returned f) w) (
 Do a R w)
def n62 a R w:=
 opV Pg (ZA .geq 5 true a (.int .u8 48)) (Zc R) w λ c w=>
 Zp (λ (b:Vl) (w:Wd)=>
 Dp a c b R w) λ d=>
 Zm c true (
 opV Pg (ZA .leq 5 true a (.int .u8 57)) (Zc R) w λ b w=>
 d b w) (
 d undef w)
def Zlh:QqX1 95 n62:=λ h=>by
 refine yD func95 ?_
 refine zs<|zr<|zm<|zn<|zk<|zs<|zs<|Zq<|yG 3<|zm<|yb h λ h=>zm<|zn<|yg1 2 2 true [6,7] 7 h (λ _ T hT h=>?_) λ σ w h=>?_
 · refine zm<|yb h λ h=>zn ?_
   exact zt hT h
 refine yG 1<|yp h λ h=>zn<|ZG<|zk<|yC h (λ h=>zs<|zr<|zm<|yb h λ h=>yv h λ h=>zm<|zn<|zk<|Zg<|Zb<|Zj rfl rfl h) λ h=>Zk<|zk<|zs<|zs<|Zq<|yG 3<|zm<|yb h λ h=>?_
 refine zm<|zn<|yg1 2 2 true [15,16] 16 h (λ _ T hT h=>?_) λ σ w h=>?_
 · refine zm<|yb h λ h=>zn ?_
   exact zt hT h
 refine yG 1<|yp h λ h=>zn<|ZG<|zk<|yC h (λ h=>zs<|zr<|zm<|yb h λ h=>yv h λ h=>yb h λ h=>zm<|zn<|zk<|Zg<|Zb<|Zj rfl rfl h) λ h=>Zk<|zk<|zs<|zr<|zm<|zn<|zk<|Zg ?_
 exact Zj rfl rfl h
def Rt a b R w:=
 N0 b R w λ c w=>
 Zr c (
 R (.returned (.tuple #[(QqQ 0),(.bool false)])) w) (
 L0 3 a R w λ d w=>
 R (.returned (.tuple #[d,(.bool true)])) w)
def ZbT b a (c:WPr) R w:=
 L0 3 a R w λ d w=>
 F0 43 b 3 R w λ e w=>
 L0 3 e R w λ f w=>
 B0 .add 3 false d f R w λ g w=>
 S0 3 a g R w λ w=>
 c w
def ZbU a b c (d:WPr) R w:=
 F0 43 a 6 R w λ e w=>
 L0 41 e R w λ f w=>
 X0 41 f c R w λ g w=>
 F0 78 g 2 R w λ h w=>
 L0 3 h R w λ i w=>
 S0 3 b i R w λ w=>
 d w
def ZbV a b (d:WPr) R w:=
 F0 43 a 6 R w λ e w=>
 L0 41 e R w λ f w=>
 opV Pg (makeFunc (.func 44) #[] #[b]) (Zc R) w λ g w=>
 C0 43 #[f,g] R w λ c w=>
 B0 .lss 3 true c (QqQ 0) R w λ h w=>
 Zr h (
 R (.returned (.tuple #[(QqQ 0),(.bool false)])) w) (
 ZbU a b c d R w)
def ZbW a b (c:WPr) R w:=
 F0 43 a 4 R w λ d w=>
 L0 3 d R w λ e w=>
 S0 3 b e R w λ w=>
 c w
def ZbX a b (c:WPr) R w:=
 F0 43 a 3 R w λ d w=>
 L0 3 d R w λ e w=>
 F0 43 a 3 R w λ f w=>
 L0 3 f R w λ g w=>
 opV Pg (Op.unary .neg g) (Zc R) w λ h w=>
 opV Pg (Builtin.max_ #[3,3] 3 #[e,h]) (Zc R) w λ i w=>
 C0 42 #[i] R w λ j w=>
 N0 j R w λ k w=>
 Zr k (
 R (.returned (.tuple #[(QqQ 0),(.bool false)])) w) (
 ZbT a b c R w)
def M5 a b c (d:WPr) R w:=
 B0 .eql 39 true c (QqQ 3) R w λ e w=>
 Zr e (
 ZbW a b d R w) (
 B0 .eql 39 true c (QqQ 5) R w λ f w=>
 Zr f (
 ZbV a b d R w) (
 R (.returned (.tuple #[(QqQ 0),(.bool false)])) w))
def ZbY b a R w:=
 F0 43 b 1 R w λ e w=>
 L0 39 e R w λ c w=>
 B0 .eql 39 true c (QqQ 1) R w λ f w=>
 Zp (λ (w:Wd)=>
 L0 3 a R w λ g w=>
 C0 42 #[g] R w λ h w=>
 Rt a h R w) λ d=>
 Zr f (
 d w) (
 B0 .eql 39 true c (QqQ 2) R w λ i w=>
 Zr i (
 ZbX b a d R w) (
 M5 b a c d R w))
def n17 b c R w:=
 opV Pg (box 43 b) (Zc R) w λ d w=>
 opV Pg (box 3 c) (Zc R) w λ a w=>
 L0 3 a R w λ e w=>
 C0 42 #[e] R w λ f w=>
 N0 f R w λ g w=>
 Zr g (
 R (.returned (.tuple #[(QqQ 0),(.bool false)])) w) (
 ZbY d a R w)
def ZkB:QqX2 18 n17:=λ h=>by
 refine yD func18 ?_
 refine zs<|zr<|yv h λ h=>yv h λ h=>zm<|zm<|zn<|zk<|zs<|zs<|zr<|yv h λ h=>yc h c42 λ h=>yv h λ h=>zn ?_
 refine zk<|yC h (λ h=>zs<|zr<|zm<|zm<|zn<|zk<|Zg<|Zb<|Yg rfl rfl rfl h) λ h=>Zk<|zk<|zs<|zs<|zr<|yv h λ h=>yv h λ h=>zn<|zk<|Zl<|zs<|zr ?_
 refine yb h λ h=>zm<|zn<|zk<|yJ0 [4,5,6,14,15,16,17,18,19,20,21,22,23,24,25,26,27,28,29,30,31,32,33,34,35,36,37,38,39,40,41,42,43,44,45] h (λ _ _ hkK1 h=>?_) λ σ w h=>?_
 · refine yC h (λ h=>?_) λ h=>?_
   · refine Zk<|zk ?_
     exact zt hkK1 h
   refine zs<|zr<|yb h λ h=>zm<|zn<|zk<|yC h (λ h=>?_) λ h=>?_
   · refine zs<|zs<|zr<|yv h λ h=>yv h λ h=>yv h λ h=>yv h λ h=>yv h λ h=>yx h λ h=>yc h c42 λ h=>yv h λ h=>zn<|zk<|yC h (λ h=>zs<|zr<|zm<|zm<|zn<|zk<|Zg<|Zb<|Zb<|Zh<|Zb<|Yg rfl rfl rfl h) λ h=>?_
     refine Zk<|zk<|zr<|yv h λ h=>yv h λ h=>yv h λ h=>yb h λ h=>yu h λ h=>zn<|zk ?_
     exact zt hkK1 h
   refine zs<|zr<|yb h λ h=>zm<|zn<|zk<|yC h (λ h=>?_) λ h=>?_
   · refine zr<|yv h λ h=>yv h λ h=>yu h λ h=>zn<|zk ?_
     exact zt hkK1 h
   refine zs<|zr<|yb h λ h=>zm<|zn<|zk<|yC h (λ h=>?_) λ h=>?_
   · refine zs<|zr<|yv h λ h=>yv h λ h=>yF h λ h=>yc h c43 λ h=>zm<|zn<|zk<|zs<|zs<|zr<|zm<|yb h λ h=>zn ?_
     refine zk<|yC h (λ h=>zs<|zr<|zm<|zm<|zn<|zk<|Zg<|Zb<|Zb<|Zh<|Zb<|Yg rfl rfl rfl h) λ h=>Zk<|zk<|zr<|yv h λ h=>yv h λ h=>zm<|yv h λ h=>yv h λ h=>yv h λ h=>yu h λ h=>zn<|zk ?_
     exact zt hkK1 h
   exact zs<|zr<|zm<|zm<|zn<|zk<|Zg<|Zb<|Zh<|Zb<|Yg rfl rfl rfl h
 refine Zf<|zk<|zs<|zs<|zr<|yv h λ h=>yc h c42 λ h=>yv h λ h=>zn<|zk<|yC h (λ h=>zs<|zr<|zm<|zm<|zn<|zk<|Zg<|Zb<|Yg rfl rfl rfl h) λ h=>Zk<|zk<|zs ?_
 exact zr<|yv h λ h=>zm<|zm<|zn<|zk<|Zg<|Yg rfl rfl rfl h
def Zb9 a R w:=
 opV Pg (Builtin.max_ #[3,3] 3 #[a,(QqQ 0)]) (Zc R) w λ b w=>
 B0 .geq 3 true a (QqQ 0) R w λ c w=>
 R (.returned (.tuple #[b,c])) w
def n21 a b R w:=
 opV Pg (box 24 a) (Zc R) w λ c w=>
 opV Pg (box 9 b) (Zc R) w λ d w=>
 F0 24 c 1 R w λ e w=>
 L0 22 e R w λ f w=>
 opV Pg (makeFunc (.func 47) #[] #[d]) (Zc R) w λ g w=>
 C0 46 #[f,g] R w λ h w=>
 Zb9 h R w
def ZkF:QqX2 20 n21:=λ h=>by
 refine yD func20 ?_
 refine zs<|zr<|yv h λ h=>yv h λ h=>zm<|zm<|zn<|zk<|zs<|zr<|yv h λ h=>yv h λ h=>yF h λ h=>yc h c46 λ h=>zm ?_
 exact zn<|zk<|zs<|zr<|zm<|yx h λ h=>zm<|yb h λ h=>zm<|zm<|zn<|zk<|Zg<|Yg rfl rfl rfl h
abbrev UQ (w:Wd) (v:Vl) (l:List BAr):Prop:=Zd w 1 zL v l
def before_succ {α:Type} {p:α→Bool} {l:List α} {k:Nat} {x:α} (h:∀ (j:Nat) y,j < k→l[j]?=some y→p y=false) (hx:l[k]?=some x) (hp:p x=false):∀ (j:Nat) y,j < k+1→l[j]?=some y→p y=false:=λ j y hj hy=>by
 by_cases hjk:j=k
 · subst hjk;rw [hx] at hy;injection hy with hy;subst hy;exact hp
 · exact h j y C1 hy
def Gu (w0:Wd) (v:Vl) (l:List MrD) (g:FuncId) (caps:AVl) (p:MrD→Bool) (hs:Gz w0 v l) (hg:Callable Pg g) (hc:US w0 zO g caps p l) :
 Ret Pg 46 #[v,.func (.func g) #[] caps] w0 λ r w'=>r = .int .i64 (idx p l)∧Ext w0 w':=by
 obtain ⟨A,c,rfl,hlc,hcm,hlm,Xj⟩:=Zd.open hs
 refine ZhK (R:=ZE _) ?_;unfold ZhJ
 refine Qqv ?_
 refine ZL (λ i w=>∃ k:Nat,i = .int .i64 k∧k≤l.length∧Ext w0 w∧∀ (j:Nat) y,j < k→l[j]?=some y→p y=false) (λ i _=>l.length - (intOf i).toNat) ⟨0,rfl,by omega,Ext.refl _,λ j y h=>by omega⟩ ?_
 rintro i w ⟨k,rfl,hk,e,hb⟩
 by_cases Yo:k < l.length
 · obtain ⟨x,hx⟩:=getElem?_lt Yo
   obtain ⟨b,o,cs,rfl,hl,hA,hE⟩:=Xj k x hx
   have hd:decide ((k:Int) < (l.length:Int))=true:=by simp;omega
   refine Qqh hd ?_
   unfold Ro
   refine Qqv ?_
   obtain ⟨fv,rfl,hF⟩:=hE
   have o1:=Zd.oneCell hF
   have hV:zO w0 (.agg (YZ x fv).toArray) x:=⟨fv,rfl,hF⟩
   refine Qqh (hA.c3 e) ?_
   rw [Y3 hg]
   simp only [Array.empty_append]
   refine Zi (hc w _ x (List.mem_of_getElem? hx) e (hV.ext e)) ?_
   rintro r w' ⟨rfl,e'⟩
   cases hp:p x with
   | true=>
    refine Qqv ?_
    exact ⟨by rw [We hx hp hb],e.trans e'⟩
   | false=>
    refine Qqv ?_
    exact ⟨⟨k+1,rfl,by omega,e.trans e',before_succ hb hx hp⟩,by simp [intOf];omega⟩
 · have hd:decide ((k:Int) < (l.length:Int))=false:=by simp;omega
   refine Qqh hd ?_
   exact ⟨by rw [Wf λ j y hy=>hb j y (by have:=(Qqx hy).1;omega) hy],e⟩
def zM (w0:Wd) (v:Vl) (l:List Qd) (g:FuncId) (caps:AVl) (p:Qd→Bool) (hs:Q9 w0 v l) (hg:Callable Pg g) (hc:US w0 (λ _ v x=>v = .agg (ZW x).toArray) g caps p l) :
 Ret Pg 43 #[v,.func (.func g) #[] caps] w0 λ r w'=>r = .int .i64 (idx p l)∧Ext w0 w':=by
 obtain ⟨A,c,rfl,hlc,hcm,hlm,Xj⟩:=Zd.open hs
 refine ZhN (R:=ZE _) ?_;unfold ZhM
 refine Qqv ?_
 refine ZL (λ i w=>∃ k:Nat,i = .int .i64 k∧k≤l.length∧Ext w0 w∧∀ (j:Nat) y,j < k→l[j]?=some y→p y=false) (λ i _=>l.length - (intOf i).toNat) ⟨0,rfl,by omega,Ext.refl _,λ j y h=>by omega⟩ ?_
 rintro i w ⟨k,rfl,hk,e,hb⟩
 by_cases Yo:k < l.length
 · obtain ⟨x,hx⟩:=getElem?_lt Yo
   obtain ⟨b,o,cs,rfl,hl,hA,hE⟩:=Xj k x hx
   have hd:decide ((k:Int) < (l.length:Int))=true:=by simp;omega
   refine Qqh hd ?_
   unfold Rp
   refine Qqv ?_
   obtain rfl:=hE
   have hV:(.agg (ZW x).toArray:Vl) = .agg (ZW x).toArray:=rfl
   refine Qqh (hA.c3 e) ?_
   rw [Y3 hg]
   simp only [Array.empty_append]
   refine Zi (hc w _ x (List.mem_of_getElem? hx) e (hV)) ?_
   rintro r w' ⟨rfl,e'⟩
   cases hp:p x with
   | true=>
    refine Qqv ?_
    exact ⟨by rw [We hx hp hb],e.trans e'⟩
   | false=>
    refine Qqv ?_
    exact ⟨⟨k+1,rfl,by omega,e.trans e',before_succ hb hx hp⟩,by simp [intOf];omega⟩
 · have hd:decide ((k:Int) < (l.length:Int))=false:=by simp;omega
   refine Qqh hd ?_
   exact ⟨by rw [Wf λ j y hy=>hb j y (by have:=(Qqx hy).1;omega) hy],e⟩
def Gt (w0:Wd) (v:Vl) (l:List FrD) (g:FuncId) (caps:AVl) (p:FrD→Bool) (hs:Ve w0 v l) (hg:Callable Pg g) (hc:US w0 QI g caps p l) :
 Ret Pg 114 #[v,.func (.func g) #[] caps] w0 λ r w'=>r = .int .i64 (idx p l)∧Ext w0 w':=by
 obtain ⟨A,c,rfl,hlc,hcm,hlm,Xj⟩:=Zd.open hs
 refine ZhG (R:=ZE _) ?_;unfold ZhF
 refine Qqv ?_
 refine ZL (λ i w=>∃ k:Nat,i = .int .i64 k∧k≤l.length∧Ext w0 w∧∀ (j:Nat) y,j < k→l[j]?=some y→p y=false) (λ i _=>l.length - (intOf i).toNat) ⟨0,rfl,by omega,Ext.refl _,λ j y h=>by omega⟩ ?_
 rintro i w ⟨k,rfl,hk,e,hb⟩
 by_cases Yo:k < l.length
 · obtain ⟨x,hx⟩:=getElem?_lt Yo
   obtain ⟨b,o,cs,rfl,hl,hA,hE⟩:=Xj k x hx
   have hd:decide ((k:Int) < (l.length:Int))=true:=by simp;omega
   refine Qqh hd ?_
   unfold Rm
   refine Qqv ?_
   obtain ⟨bv,tv,rfl,hB,hT,o1,o2⟩:=hE.op
   have hV:QI w0 (.agg (Zo x bv tv).toArray) x:=⟨bv,tv,rfl,hB,hT⟩
   refine Qqh (hA.c7 e) ?_
   rw [Y3 hg]
   simp only [Array.empty_append]
   refine Zi (hc w _ x (List.mem_of_getElem? hx) e (hV.ext e)) ?_
   rintro r w' ⟨rfl,e'⟩
   cases hp:p x with
   | true=>
    refine Qqv ?_
    exact ⟨by rw [We hx hp hb],e.trans e'⟩
   | false=>
    refine Qqv ?_
    exact ⟨⟨k+1,rfl,by omega,e.trans e',before_succ hb hx hp⟩,by simp [intOf];omega⟩
 · have hd:decide ((k:Int) < (l.length:Int))=false:=by simp;omega
   refine Qqh hd ?_
   exact ⟨by rw [Wf λ j y hy=>hb j y (by have:=(Qqx hy).1;omega) hy],e⟩
def WD (w0:Wd) (v:Vl) (l:List FrD) (g:FuncId) (caps:AVl) (p:FrD→Bool) (hs:Ve w0 v l) (hg:Callable Pg g) (hc:US w0 QI g caps p l) :
 Ret Pg 78 #[v,.func (.func g) #[] caps] w0 λ r w'=>r = .bool (l.any p)∧Ext w0 w':=by
 refine Zho (R:=ZE _) ?_;unfold Zhn
 refine Zi (Gt _ _ l g caps p hs hg hc) ?_
 rintro r w' ⟨rfl,e⟩
 refine Qqw ?_
 exact ⟨by rw [VG],e⟩
def KS (w0:Wd) (v:Vl) (l:List BAr) (g:FuncId) (caps:AVl) (p:BAr→Bool) (hs:UQ w0 v l) (hg:Callable Pg g) (hc:US w0 (λ _ v x=>v = .string x) g caps p l) :
 Ret Pg 129 #[v,.func (.func g) #[] caps] w0 λ r w'=>r = .int .i64 (idx p l)∧Ext w0 w':=by
 obtain ⟨A,c,rfl,hlc,hcm,hlm,Xj⟩:=Zd.open hs
 refine ZhT (R:=ZE _) ?_;unfold ZhS
 refine Qqv ?_
 refine ZL (λ i w=>∃ k:Nat,i = .int .i64 k∧k≤l.length∧Ext w0 w∧∀ (j:Nat) y,j < k→l[j]?=some y→p y=false) (λ i _=>l.length - (intOf i).toNat) ⟨0,rfl,by omega,Ext.refl _,λ j y h=>by omega⟩ ?_
 rintro i w ⟨k,rfl,hk,e,hb⟩
 by_cases Yo:k < l.length
 · obtain ⟨x,hx⟩:=getElem?_lt Yo
   obtain ⟨b,o,cs,rfl,hl,hA,hE⟩:=Xj k x hx
   have hd:decide ((k:Int) < (l.length:Int))=true:=by simp;omega
   refine Qqh hd ?_
   unfold Rs
   refine Qqv ?_
   obtain rfl:=hE
   have hV:(.string x:Vl) = .string x:=rfl
   refine Qqh (hA.c1 e) ?_
   rw [Y3 hg]
   simp only [Array.empty_append]
   refine Zi (hc w _ x (List.mem_of_getElem? hx) e (hV)) ?_
   rintro r w' ⟨rfl,e'⟩
   cases hp:p x with
   | true=>
    refine Qqv ?_
    exact ⟨by rw [We hx hp hb],e.trans e'⟩
   | false=>
    refine Qqv ?_
    exact ⟨⟨k+1,rfl,by omega,e.trans e',before_succ hb hx hp⟩,by simp [intOf];omega⟩
 · have hd:decide ((k:Int) < (l.length:Int))=false:=by simp;omega
   refine Qqh hd ?_
   exact ⟨by rw [Wf λ j y hy=>hb j y (by have:=(Qqx hy).1;omega) hy],e⟩
def UM (w0:Wd) (v:Vl) (l:List BAr) (g:FuncId) (caps:AVl) (p:BAr→Bool) (hs:UQ w0 v l) (hg:Callable Pg g) (hc:US w0 (λ _ v x=>v = .string x) g caps p l) :
 Ret Pg 90 #[v,.func (.func g) #[] caps] w0 λ r w'=>r = .bool (l.any p)∧Ext w0 w':=by
 refine Zhu (R:=ZE _) ?_;unfold Zht
 refine Zi (KS _ _ l g caps p hs hg hc) ?_
 rintro r w' ⟨rfl,e⟩
 refine Qqw ?_
 exact ⟨by rw [VG],e⟩
def Iz (w:Wd) (v:Vl) (x:MrD) (hv:zO w v x) (q:Nat) (s:BAr) (hq:w.heap[q]?=some (.cells #[.string s] 9 (0,0))):Ret Pg 47 #[v,Qq5 q] w λ r w'=>r = .bool (decide (x.fr=s))∧Ext w w':=by
 obtain ⟨fv,rfl,hF,o1⟩:=hv.op
 refine ZkG (R:=ZE _) ?_;unfold n22
 rw [YO]
 have jw:=Yr.new (w:=w) (YZ x fv) (60)
 have eW:Ext w (w.alloc (Obj.cells (List.toArray (YZ x fv)) (60))):=(Ext.refl _).alloc _
 generalize (w.alloc (Obj.cells (List.toArray (YZ x fv)) (60)))=W at jw eW ⊢
 have c:=Za (eW.obj hq)
 refine Qqb (jw.c3 (Ext.refl W)) c.1 ?_
 exact ⟨by trivial,eW⟩
def Ov (w:Wd) (v:Vl) (x y:FrD) (hv:QI w v x) (q:Nat) (bv tv:Vl) (hq:w.heap[q]?=some (.cells (Zo y bv tv).toArray 43 (0,0))):Ret Pg 111 #[v,Qq5 q] w λ r w'=>r = .bool (decide (x.to=y.to))∧Ext w w':=by
 obtain ⟨bx,tx,rfl,hB,hT,o1,o2⟩:=hv.op
 refine ZkO (R:=ZE _) ?_;unfold n32
 rw [YO]
 have jw:=Yr.new (w:=w) (Zo x bx tx) (43)
 have eW:Ext w (w.alloc (Obj.cells (List.toArray (Zo x bx tx)) (43))):=(Ext.refl _).alloc _
 generalize (w.alloc (Obj.cells (List.toArray (Zo x bx tx)) (43)))=W at jw eW ⊢
 have c:=Za (eW.obj hq)
 refine Qqb (jw.c7 (Ext.refl W)) c.1 ?_
 exact ⟨by trivial,eW⟩
def AG (w:Wd) (v:Vl) (x:FrD) (f:Zv) (hv:QI w v x) (q:Nat) (bv tv:Vl) (hq:w.heap[q]?=some (.cells (Zw f bv tv).toArray 123 (0,0))):Ret Pg 79 #[v,Qq5 q] w λ r w'=>r = .bool (decide (x.to=f.name))∧Ext w w':=by
 obtain ⟨bx,tx,rfl,hB,hT,o1,o2⟩:=hv.op
 refine ZkK (R:=ZE _) ?_;unfold n28
 rw [YO]
 have jw:=Yr.new (w:=w) (Zo x bx tx) (43)
 have eW:Ext w (w.alloc (Obj.cells (List.toArray (Zo x bx tx)) (43))):=(Ext.refl _).alloc _
 generalize (w.alloc (Obj.cells (List.toArray (Zo x bx tx)) (43)))=W at jw eW ⊢
 have c:=Za (eW.obj hq)
 refine Qqb (jw.c7 (Ext.refl W)) c.1 ?_
 exact ⟨by trivial,eW⟩
def Mx {α:Type} (p:α→Bool) (l:List α):(l.find? p=none∧l.findIdx? p=none∧l.any p=false∧Od p l=0∧idx p l = -1)∨∃ (k:Nat) (x:α),l[k]?=some x∧l.find? p=some x∧l.findIdx? p=some k∧l.any p=true∧Od p l=k∧idx p l=k:=by
 cases h:l.findIdx? p with
 | none=>
  have hi:idx p l = -1:=by unfold idx;rw [h]
  have hn:=List.findIdx?_eq_none_iff.1 h
  exact .inl ⟨List.find?_eq_none.2 λ x hx=>by simp [hn x hx],rfl,List.any_eq_false.2 λ x hx=>by simp [hn x hx],by unfold Od;rw [hi];rfl,hi⟩
 | some k=>
  have hi:idx p l=k:=by unfold idx;rw [h]
  obtain ⟨hk,h1,h2⟩:=List.findIdx?_eq_some_iff_getElem.1 h
  refine .inr ⟨k,l[k],List.getElem?_eq_getElem hk,?_,rfl,List.any_eq_true.2 ⟨_,List.getElem_mem hk,h1⟩,by unfold Od;rw [hi,if_neg C1],hi⟩
  exact List.find?_eq_some_iff_getElem.2 ⟨h1,k,hk,rfl,λ j hj=>by simpa using h2 j hj⟩
def j5 (w0:Wd) (v:Vl) (m:Xn) (s:BAr) (hm:Xx w0 v m):Ret Pg 20 #[v,.string s] w0 λ r w'=>r = .tuple #[.int .i64 (((GL m s).getD 0:Nat):Int),.bool (GL m s).isSome]∧Ext w0 w':=by
 obtain ⟨rv,rfl,hR,o1⟩:=hm.op
 refine ZkF (R:=ZE _) ?_;unfold n21
 rw [YO]
 have jw:=Yr.new (w:=w0) (Z2 m rv) (24)
 have eW:Ext w0 (w0.alloc (Obj.cells (List.toArray (Z2 m rv)) (24))):=(Ext.refl _).alloc _
 generalize (w0.alloc (Obj.cells (List.toArray (Z2 m rv)) (24)))=W at jw eW ⊢
 simp (disch:=try exact DI) only [↓PR,QR,simprocAttr,λ o=>jw.c2 ((Ext.refl W).alloc o)]
 generalize hV:World.alloc W _=V
 have oV:V.heap[W.heap.size]?=some (.cells #[.string s] 9 (0,0)):=by rw [← hV];exact Zt _ _ _
 have eV:Ext W V:=by rw [← hV];exact (Ext.refl W).alloc _
 clear hV
 refine Zi (Gu V _ m.rules _ _ (λ r=>decide (r.fr=s)) (hR.ext (eW.trans eV)) c47 λ w u x _ e hu=>Iz w u x hu _ s (e.obj oV)) ?_
 rintro _ w' ⟨rfl,e⟩
 unfold Zb9 GL
 rcases Mx (λ r:MrD=>decide (r.fr=s)) m.rules with ⟨_,h2,_,_,h5⟩ | ⟨k,x,_,_,h2,_,_,h5⟩
 · rw [h2,h5]
   refine Qqv ?_
   exact ⟨by trivial,eW.trans (eV.trans e)⟩
 · rw [h2,h5]
   have hk:¬ (0:Int) > (k:Int):=C1
   have hk2:decide ((0:Int)≤(k:Int))=true:=by simp
   refine Qqb hk hk2 ?_
   exact ⟨by trivial,eW.trans (eV.trans e)⟩
def Vw (a f c:Int):PanicEntry:={ v := .iface 82 (VF a f c),recovered:=false }
def mR (w:Wd) (b:Bool) (a f c:Int):Ending→Wd→Prop:=λ e w'=>Ext w w'∧(b=true∧e = .returned (.tuple #[])∨b=false∧e = .panicked [Vw a f c])
def YN {f:FuncId} {args:AVl} {QP:PEn} {w:Wd} {k:KV} {b:Bool} {a fl c:Int} (h:Calls Pg f args w (mR w b a fl c)) (hk:∀ w',Ext w w'→b=true→k (.tuple #[]) w') (hp:∀ w',Ext w w'→b=false→QP [Vw a fl c] w'):ZU Pg f args QP w k:=
 Uo h (λ v w' h=>by rcases h with ⟨e,⟨h1,h2⟩ | ⟨_,h2⟩⟩<;>cases h2;exact hk w' e h1) (λ ch w' h=>by rcases h with ⟨e,⟨_,h2⟩ | ⟨h1,h2⟩⟩<;>cases h2;exact hp w' e h1) (λ w' h=>by rcases h with ⟨_,⟨_,h2⟩ | ⟨_,h2⟩⟩<;>cases h2)
def Ev {w w':Wd} {b:Bool} {a f c:Int} (e:Ext w w') (h:b=true):mR w b a f c (.returned (.tuple #[])) w':=⟨e,.inl ⟨h,rfl⟩⟩
def xv {w w':Wd} {b:Bool} {a f c c':Int} (e:Ext w w') (h:b=false) (hc:c=c'):Zc (mR w b a f c) [Vw a f c'] w':=⟨e,.inr ⟨h,by rw [hc]⟩⟩
structure CkM (a0 w:Wd) (cb:Nat) (m:Xn) (d e:QF) (ru fi:Int):Prop where
 ext:Ext a0 w
 low:a0.heap.size≤cb
 obj:∃ rv dv ev,w.heap[cb]?=some (.cells #[.string m.name,rv,.string d.name,dv,.string d.start,.string e.name,ev,.string e.start,.int .i64 ru,.int .i64 fi] 81 (0,0))∧Gz a0 rv m.rules∧VN a0 dv d.msgs∧VN a0 ev e.msgs
section
variable {a0 w:Wd} {cb:Nat} {m:Xn} {d e:QF} {ru fi:Int}
def CkM.go {w':Wd} (h:CkM a0 w cb m d e ru fi) (x:Ext w w'):CkM a0 w' cb m d e ru fi:=by
 obtain ⟨h1,h2,rv,dv,ev,h3,h4⟩:=h
 exact ⟨h1.trans x,h2,rv,dv,ev,x.obj h3,h4⟩
def CkM.setField (h:CkM a0 w cb m d e ru fi) (n:Int):CkM a0 (w.setCell ⟨cb,9,none⟩ (.int .i64 n)) cb m d e ru n:=by
 obtain ⟨h1,h2,rv,dv,ev,h3,h4⟩:=h
 refine ⟨h1.setCell h2 _,h2,rv,dv,ev,?_,h4⟩
 have:=Zy (o:=9) h3 (.int .i64 n)
 simpa using this
def CkM.setRule (h:CkM a0 w cb m d e ru fi) (n:Int):CkM a0 (w.setCell ⟨cb,8,none⟩ (.int .i64 n)) cb m d e n fi:=by
 obtain ⟨h1,h2,rv,dv,ev,h3,h4⟩:=h
 refine ⟨h1.setCell h2 _,h2,rv,dv,ev,?_,h4⟩
 have:=Zy (o:=8) h3 (.int .i64 n)
 simpa using this
def XF (h:CkM a0 w cb m d e ru fi) (b:Bool) (c:Int):Calls Pg 33 #[Qq5 cb,.bool b,.int .i64 c] w (mR w b ru fi c):=by
 obtain ⟨_,_,rv,dv,ev,h1,_⟩:=h
 refine ZkL ?_;unfold n29
 cases b with
 | true=>
  simp (disch:=try exact DI) only [↓PR,QR,simprocAttr,↓M7]
  exact Ev (Ext.refl _) rfl
 | false=>
  simp (disch:=try exact DI) only [↓PR,QR,simprocAttr,↓M7]
  refine ZB ?_
  simp (disch:=try exact DI) only [↓PR,QR,simprocAttr,↓M7,(Za h1).1]
  rw [HT]
  exact xv (Ext.refl _).drew rfl rfl
def J8:Xr:=⟨ByteArray.empty,[]⟩
def Us (b0 w0:Wd) (e0:Ext b0 w0) (v:Vl) (d:QF) (s:BAr) (hd:Qg b0 v d):Ret Pg 76 #[v,.string s] w0 λ r w'=>(∃ u,r = .tuple #[u,.bool (Hn d s).isSome]∧Wo b0 u ((Hn d s).getD J8))∧Ext w0 w':=by
 obtain ⟨mv,rfl,hM⟩:=hd
 have hM0:=hM
 refine ZkW (R:=ZE _) ?_;unfold n40
 rw [YO]
 have jw:=Yr.new (w:=w0) (XB d mv) (27)
 have eW:Ext w0 (w0.alloc (Obj.cells (List.toArray (XB d mv)) (27))):=(Ext.refl _).alloc _
 generalize (w0.alloc (Obj.cells (List.toArray (XB d mv)) (27)))=W at jw eW ⊢
 have sW:=eW.size
 simp (disch:=try exact DI) only [↓PR,QR,simprocAttr,λ o=>jw.c3 ((Ext.refl W).alloc o)]
 generalize hV:World.alloc W _=V
 have oV:=Zt W #[.string Qqk,.slice none 0 0] 74
 rw [hV] at oV
 have eV:Ext W V:=by rw [← hV];exact (Ext.refl W).alloc _
 clear hV
 refine zcr (Pc V _ d s ⟨_,rfl,hM.ext (e0.trans (eW.trans eV))⟩) λ w1 e1=>?_
 have E1:=(eW.trans eV).trans e1
 have o1:=e1.obj oV
 unfold Zcq
 rcases Mx (λ x:Xr=>decide (x.name=s)) d.msgs with ⟨h1,_,h3,h4,_⟩ | ⟨k,x,hx,h1,_,h3,h4,_⟩
 · have hp:Hn d s=none:=h1
   rw [h3,h4,hp]
   simp (disch:=try exact DI) only [↓PR,QR,simprocAttr,Zco,(Za o1).1,(Za o1).2]
   exact ⟨⟨_,rfl,_,rfl,Zd.nil _ _ _⟩,(E1.setCell sW _).setCell sW _⟩
 · have hp:Hn d s=some x:=h1
   obtain ⟨b,o,c,rfl,_,_,_,hkl,Xj⟩:=HW hM hx
   obtain ⟨cs,_,hA,fv,rfl,hF⟩:=Xj k x hx
   have f1:=Zd.oneCell hF
   rw [h3,h4,hp]
   simp (disch:=try exact DI) only [↓PR,QR,simprocAttr,Zcp,jw.c3 (eV.trans e1),hA.c2 (e0.trans E1),(Za o1).1,(Za o1).2]
   exact ⟨⟨_,rfl,_,rfl,hF⟩,(E1.setCell sW _).setCell sW _⟩
def VC:Zv:=⟨ByteArray.empty,0,0,false,false,0,0,0,[],ByteArray.empty,ByteArray.empty,ByteArray.empty,[],0,0⟩
def T6 {w:Wd} {b:Nat} {cs:AVl} (ho:w.heap[b]?=some (.cells cs 123 (0,0))) (hc:cs.size=15) (f:Zv) (tv cv:Vl) (t1:tv.oneCell'=true) (c1:cv.oneCell'=true) {QP:PEn} {ku:WPr}
 (h:∀ w',w'.heap[b]?=some (.cells (Zw f tv cv).toArray 123 (0,0))→(∀ a,Ext a w→a.heap.size≤b→Ext a w')→ku w'):opU Pg (storeAt 123 (Qq5 b) (.agg (Zw f tv cv).toArray)) QP w ku:=by
 rw [Va Vq ho (vs:=Zw f tv cv) rfl C1 (by intro v hv;simp only [List.mem_cons,List.not_mem_nil,or_false] at hv;rcases hv with rfl | rfl | rfl | rfl | rfl | rfl | rfl | rfl | rfl | rfl | rfl | rfl | rfl | rfl | rfl<;>first | rfl | assumption)]
 refine h _ ?_ λ a e hb=>Ks _ _ _ _ e hb
 rw [X3 _ 0 ho,JW (by rw [hc];rfl)]
def CW (w0:Wd) (v:Vl) (d:Xr) (s:BAr) (hd:Wo w0 v d):Ret Pg 110 #[v,.string s] w0 λ r w'=>(∃ u,r = .tuple #[u,.int .i64 (Ej (Qj d s))]∧Z8 w' u ((Qj d s).getD VC))∧Ext w0 w':=by
 obtain ⟨mv,rfl,hM⟩:=hd
 have hM0:=hM
 refine ZkT (R:=ZE _) ?_;unfold n37
 rw [YO]
 have jw:=Yr.new (w:=w0) (Yj d mv) (74)
 have eW:Ext w0 (w0.alloc (Obj.cells (List.toArray (Yj d mv)) (74))):=(Ext.refl _).alloc _
 generalize (w0.alloc (Obj.cells (List.toArray (Yj d mv)) (74)))=W at jw eW ⊢
 have sW:=eW.size
 simp (disch:=try exact DI) only [↓PR,QR,simprocAttr,λ o=>jw.c2 ((Ext.refl W).alloc o)]
 generalize hV:World.alloc W _=V
 have oV:=Zt W #[.string Qqk,.int .i64 0,.int .i64 0,.bool false,.bool false,.int .i64 0,.int .i64 0,.int .i64 0,.slice none 0 0,.string Qqk,.string Qqk,.string Qqk,.slice none 0 0,.int .i64 0,.int .i64 0] 123
 rw [hV] at oV
 have eV:Ext W V:=by rw [← hV];exact (Ext.refl W).alloc _
 clear hV
 refine zcr (xc V _ d s ⟨_,rfl,hM.ext (eW.trans eV)⟩) λ w1 e1=>?_
 have E1:=(eW.trans eV).trans e1
 have o1:=e1.obj oV
 unfold Zcm
 rcases Mx (λ x:Zv=>decide (x.name=s)) d.fields with ⟨h1,_,h3,h4,_⟩ | ⟨k,x,hx,h1,_,h3,h4,_⟩
 · have hp:Qj d s=none:=h1
   rw [h3,h4,hp]
   unfold Zcl
   refine Qqv ?_
   refine T6 o1 rfl VC (.slice none 0 0) (.slice none 0 0) rfl rfl λ w2 o2 hx=>?_
   have E2:=hx _ E1 sW
   refine Qqh (Za o2).1 ?_
   exact ⟨⟨_,rfl,_,_,rfl,Zd.nil _ _ _,Zd.nil _ _ _⟩,E2⟩
 · have hp:Qj d s=some x:=h1
   obtain ⟨b,o,c,rfl,_,_,_,hkl,Xj⟩:=HW hM hx
   obtain ⟨cs,_,hA,hE⟩:=Xj k x hx
   obtain ⟨tv,cv,rfl,hT,hC,t1,c1⟩:=hE.op
   rw [h3,h4,hp]
   refine Qqv ?_
   refine ZB ?_
   simp (disch:=try exact DI) only [↓PR,QR,simprocAttr,Zck,jw.c2 (eV.trans e1),hA.c15 E1]
   refine zcr (qA _ _ x ⟨_,_,rfl,hT.ext E1.drew,hC.ext E1.drew⟩) λ w2 e2=>?_
   refine ⟨e2,?_⟩
   have E2:=E1.drew.trans e2
   refine T6 (((Ext.refl w1).drew.trans e2).obj o1) rfl x tv cv t1 c1 λ w3 o3 hx=>?_
   have E3:=hx _ E2 sW
   refine Yx ?_
   refine Qqh (Za o3).1 ?_
   exact ⟨⟨_,rfl,_,_,rfl,hT.ext E3,hC.ext E3⟩,E3⟩
end
def J4 (Zu:List (BAr×Int)) (m:Xr):List (BAr×Int):=Zu++[(m.name,Vu Zu m+1)]
def GM (ZH:List (BAr×Bool)) (m:Xr):List (BAr×Bool):=ZH++[(m.name,jM ZH m)]
def QO (l:List Xr):List (BAr×Int):=l.foldl J4 []
def J6 (l:List Xr):List (BAr×Bool):=l.foldl GM []
def Wz (Zu:List (BAr×Int)) (ZH:List (BAr×Bool)) (at_:Nat):List Xr→Int×Int×Int
 | []=>(0,0,0)
 | m::l=>if (Vi Zu ZH m).2=0 then Wz (J4 Zu m) (GM ZH m) (at_+1) l else (at_,Vi Zu ZH m)
def N6 (d:QF) (r:Int×Int×Int):Int×Int×Int:=if r.2.2=0 then (if (Ya (QO d.msgs) d.start).isSome then (0,0,0) else (-1,-1,11)) else r
def Qz (d:QF):Int×Int×Int:=
 if Yq d.name then (if 1≤d.msgs.length∧d.msgs.length≤60 then N6 d (Wz [] [] 0 d.msgs) else (-1,-1,3)) else (-1,-1,1)
def OZ {Zu:List (BAr×Int)} {m:Xr} {r:Int×Int} (h:(KF Zu m r).2=0):Vu Zu m < 16:=by
 unfold KF at h
 split at h
 · split at h
   · assumption
   · exact absurd h K7
 · contradiction
def DF {Zu:List (BAr×Int)} {ZH:List (BAr×Bool)} {m:Xr} (h:(Vi Zu ZH m).2=0):Vu Zu m < 16:=by
 unfold Vi at h
 split at h
 · split at h
   · exact absurd h K7
   · split at h
     · exact OZ h
     · exact absurd h K7
 · exact absurd h K7
def Low.step {Zu:List (BAr×Int)} {ZH:List (BAr×Bool)} {m:Xr} (hl:Low Zu) (h:(Vi Zu ZH m).2=0):Low (J4 Zu m):=by
 intro p hp
 rcases List.mem_append.1 hp with hp | hp
 · exact hl p hp
 · simp only [List.mem_singleton] at hp
   subst hp
   have h1:=DF h
   have h2:=(G3 (λ s=>(Ya Zu s).getD 0) (Nv m) 0 K7 (λ s _=>hl.get s) K7).1
   exact ⟨by show 0≤Vu Zu m+1;unfold Vu;omega,by show Vu Zu m+1≤16;omega⟩
abbrev UE (p3 p4:Nat):Deferred:={ target := .fn (.func 134) #[Qq5 p3,Qq5 p4],args := #[] }
def NY {p3 p4:Nat} {w:Wd} {k:FrameMode→Wd→Prop} (h:k .returning w):jy Pg [UE p3 p4] .returning w k:=by
 refine ⟨by simp,.inr ⟨.func 134,_,134,#[Qq5 p3,Qq5 p4],rfl,?_,?_⟩⟩
 · exact Qi Zfy _ w
 · refine Zil ?_
   unfold n93
   show opV _ (ZA .neq _ true .nilIface .nilIface) _ _ _
   rw [Ud underlying20]
   refine Qqv ?_
   exact h
def NW {p3 p4:Nat} {w:Wd} {k:FrameMode→Wd→Prop} {a f c:Int} {x0 x1 x2 y:Vl} (o3:w.heap[p3]?=some (.cells #[x0,x1,x2] 131 (0,0))) (o4:w.heap[p4]?=some (.cells #[y] 4 (0,0)))
 (h:k .returning ((((w.setCell ⟨p3,0,none⟩ (.int .i64 a)).setCell ⟨p3,1,none⟩ (.int .i64 f)).setCell ⟨p3,2,none⟩ (.int .i64 c)).setCell ⟨p4,0,none⟩ (.bool true))):jy Pg [UE p3 p4] (.panicking [XH a f c]) w k:=by
 have Y7:p3≠p4:=by rintro rfl;rw [o3] at o4;cases o4
 refine ⟨by simp,.inr ⟨.func 134,_,134,#[Qq5 p3,Qq5 p4],rfl,?_,?_⟩⟩
 · exact Qi Zfy _ w
 · refine Zil ?_
   rw [show recM (.panicking [XH a f c])=(.iface 131 (VF a f c),.panicking [{ v := .iface 131 (VF a f c),recovered:=true }]) from rfl]
   unfold n93
   rw [Ue underlying20]
   refine Qqv ?_
   unfold Zd5
   rw [Fc underlying131 rfl]
   refine Qqp (Za o3).1 (Za o3).2 (Za o4).1 (Za o4).2 ?_
   exact h
section
variable {w0:Wd}
def CkE (w:Wd) (cb:Nat) (Zu:List (BAr×Int)) (ZH:List (BAr×Bool)):Prop:=∃ md ms dn mv ds at_ fld mn fv,w.heap[cb]?=some (.cells #[.string dn,mv,.string ds,.map (some md),.map (some ms),.int .i64 at_,.int .i64 fld,.string mn,fv] 201 (0,0))∧Y6 w md (vI Zu)∧Y6 w ms (vB ZH)
def CkE.other {w:Wd} {cb b o:Nat} {Zu:List (BAr×Int)} {ZH:List (BAr×Bool)} (h:CkE w cb Zu ZH) (hn:b≠cb) (v:Vl):CkE (w.setCell ⟨b,o,none⟩ v) cb Zu ZH:=by
 obtain ⟨md,ms,dn,mv,ds,at_,fld,mn,fv,h1,h2,h3⟩:=h
 exact ⟨md,ms,dn,mv,ds,at_,fld,mn,fv,(YA.setCell w b o v cb (λ e=>hn e.symm)).trans h1,h2.setCell _ _,h3.setCell _ _⟩
def CkO.left {a0 w:Wd} {cb md ms:Nat} {Zu:List (BAr×Int)} {ZH:List (BAr×Bool)} {at_ fld:Int} {fs:List Zv} (h:CkO a0 w cb md ms Zu ZH at_ fld fs):CkE w cb Zu ZH:=by
 obtain ⟨dn,mv,ds,mn,fv,h1,_⟩:=h.obj
 exact ⟨md,ms,dn,mv,ds,at_,fld,mn,fv,h1,h.mdeps,h.mstrs⟩
def qE (w0:Wd) (d:QF) (r:Vl) (w':Wd):Prop:=Ext w0 w'∧∃ cb,r = .tuple #[Qq5 cb,VF (Qz d).1 (Qz d).2.1 (Qz d).2.2,.bool (decide ((Qz d).2.2≠0))] ∧
 ((Qz d).2.2=0→CkE w' cb (QO d.msgs) (J6 d.msgs))
abbrev Mo (cb p3 p4:Nat):List (Option TypeId×Vl):=[(none,Qq5 cb),(some 131,Qq5 p3),(some 4,Qq5 p4)]
def MW {w:Wd} {d:QF} {cb p3 p4:Nat} {a f c:Int} {x0 x1 x2 y:Vl} (e:Ext w0 w) (h3:w0.heap.size≤p3) (h4:w0.heap.size≤p4) (o3:w.heap[p3]?=some (.cells #[x0,x1,x2] 131 (0,0))) (o4:w.heap[p4]?=some (.cells #[y] 4 (0,0)))
 (h:Qz d=(a,f,c)) (hc:c≠0):ZD Pg [UE p3 p4] (Mo cb p3 p4) (ZE (qE w0 d)) [XH a f c] w:=by
 have Y7:p3≠p4:=by rintro rfl;rw [o3] at o4;cases o4
 unfold ZD
 refine NW o3 o4 ?_
 have q3:=Zy (o:=2) (Zy (o:=1) (Zy (o:=0) o3 (.int .i64 a)) (.int .i64 f)) (.int .i64 c)
 have e1:Ext w0 ((((w.setCell ⟨p3,0,none⟩ (.int .i64 a)).setCell ⟨p3,1,none⟩ (.int .i64 f)).setCell ⟨p3,2,none⟩ (.int .i64 c)).setCell ⟨p4,0,none⟩ (.bool true)):=(((e.setCell h3 _).setCell h3 _).setCell h3 _).setCell h4 _
 have q4:=Zy (o:=0) ((YA.setCell ((w.setCell ⟨p3,0,none⟩ (.int .i64 a)).setCell ⟨p3,1,none⟩ (.int .i64 f)) p3 2 (.int .i64 c) p4 C1).trans ((YA.setCell (w.setCell ⟨p3,0,none⟩ (.int .i64 a)) p3 1 (.int .i64 f) p4 C1).trans ((YA.setCell w p3 0 (.int .i64 a) p4 C1).trans o4))) (.bool true)
 have q3':=(YA.setCell _ p4 0 (.bool true) p3 Y7).trans q3
 simp only [List.setIfInBounds_toArray,List.set_cons_zero,List.set_cons_succ] at q3' q4
 generalize ((((w.setCell ⟨p3,0,none⟩ (.int .i64 a)).setCell ⟨p3,1,none⟩ (.int .i64 f)).setCell ⟨p3,2,none⟩ (.int .i64 c)).setCell ⟨p4,0,none⟩ (.bool true))=W at e1 q3' q4 ⊢
 unfold endM y1 XV Mo
 simp only
 refine Qqb (Za q3').1 (Za q4).1 ?_
 refine ⟨e1,cb,?_,λ h0=>?_⟩
 · rw [h];simp [hc]
 · rw [h] at h0;exact absurd h0 hc
def Py {w:Wd} {d:QF} {cb p3 p4:Nat} (e:Ext w0 w) (hC:CkE w cb (QO d.msgs) (J6 d.msgs)) (o3:w.heap[p3]?=some (.cells #[.int .i64 0,.int .i64 0,.int .i64 0] 131 (0,0))) (o4:w.heap[p4]?=some (.cells #[.bool false] 4 (0,0)))
 (h:Qz d=(0,0,0)):Ul Pg [UE p3 p4] (Mo cb p3 p4) (ZE (qE w0 d)) w:=by
 unfold Ul
 refine NY ?_
 unfold endM y1 XV Mo
 simp only
 refine Qqb (Za o3).1 (Za o4).1 ?_
 refine ⟨e,cb,?_,λ h0=>hC⟩
 rw [h];simp
def NR {f:FuncId} {args:AVl} {QP:PEn} {a0 w:Wd} {k:KV} {at_:Int} {r:Int×Int} {K:WPr} (h:Calls Pg f args w (EX a0 at_ r K)) (hk:∀ w',r.2=0→K w'→k (.tuple #[]) w') (hp:∀ w',Ext a0 w'→r.2≠0→QP [XH at_ r.1 r.2] w'):ZU Pg f args QP w k:=
 Uo h (λ v w' h=>by rcases h with ⟨e,⟨h1,h2,h3⟩ | ⟨_,h2⟩⟩<;>cases h2;exact hk w' h1 h3) (λ ch w' h=>by rcases h with ⟨e,⟨_,h2,_⟩ | ⟨h1,h2⟩⟩<;>cases h2;exact hp w' e h1) (λ w' h=>by rcases h with ⟨_,⟨_,h2,_⟩ | ⟨_,h2⟩⟩<;>cases h2)
def Ar {α β:Type} (g:β→α→β) {l:List α} {k:Nat} {x:α} (b:β) (hx:l[k]?=some x):(l.take (k+1)).foldl g b=g ((l.take k).foldl g b) x:=by rw [Qy hx,List.foldl_append];rfl
def Pz {A0 w:Wd} {d:QF} {cb p1 p3 p4 md ms:Nat} {fs:List Zv} {mv:Vl} (ea:Ext w0 A0) (hM:VN A0 mv d.msgs) (hC:CkO A0 w cb md ms [] [] (-1) (-1) fs) (o1:A0.heap[p1]?=some (.cells (XB d mv).toArray 27 (0,0)))
 (o3:A0.heap[p3]?=some (.cells #[.int .i64 0,.int .i64 0,.int .i64 0] 131 (0,0))) (o4:A0.heap[p4]?=some (.cells #[.bool false] 4 (0,0))) (h3:w0.heap.size≤p3) (h4:w0.heap.size≤p4) (hr:Qz d=N6 d (Wz [] [] 0 d.msgs)) :
 Bu (Qq5 p1) (Qq5 p3) (Qq5 p4) (Qq5 cb) [UE p3 p4] (ZE (qE w0 d)) w:=by
 have pan:∀ w' a f c,Ext A0 w'→Qz d=(a,f,c)→c≠0→ZD Pg [UE p3 p4] (Mo cb p3 p4) (ZE (qE w0 d)) [XH a f c] w':=λ w' a f c e h h0=>MW (ea.trans e) h3 h4 (e.obj o3) (e.obj o4) h h0
 obtain ⟨A,c,rfl,hlc,hcm,hlm,Xj⟩:=Zd.open hM
 unfold Bu
 refine Qqh (Za (hC.ext.obj o1)).1 ?_
 refine ZL (λ i w'=>∃ (k:Nat) (at':Int) (fs':List Zv),i = .int .i64 k∧k≤d.msgs.length∧CkO A0 w' cb md ms (QO (d.msgs.take k)) (J6 (d.msgs.take k)) at' (-1) fs'∧Low (QO (d.msgs.take k))∧Qz d=N6 d (Wz (QO (d.msgs.take k)) (J6 (d.msgs.take k)) k (d.msgs.drop k))) (λ i _=>d.msgs.length - (intOf i).toNat) ⟨0,-1,fs,rfl,by omega,hC,(λ _ h=>by cases h),hr⟩ ?_
 rintro i w' ⟨k,at',fs',rfl,hk,hC',hlow,hrk⟩
 have lw':=hC'.ext.size
 obtain ⟨dn,mv,ds,mn,fv',x1,x2⟩:=hC'.obj
 obtain ⟨n1,n2,l1,l2,l3⟩:=hC'.nd
 rcases ZY hk with ⟨x,hx,hd,Yo,ZT⟩ | ⟨hk,hd,ZT⟩
 · obtain ⟨b,o,cs,rfl,hl,hA,fv,rfl,hF⟩:=Xj k x hx
   have hf1:=Zd.oneCell hF
   rw [hd] at hrk
   simp only [Wz] at hrk
   unfold DD
   refine Qqh ZT ?_
   unfold HK
   refine Qqp (hA.c2 hC'.ext).1 (hA.c2 hC'.ext).2 (Za x1).1 (Za x1).2 ?_
   have hCw:=(hC'.setAt (k:Int)).go ((Ext.refl _).alloc (Obj.cells (Yj x fv).toArray 74))
   refine NR (Td (m:=x) hlow hCw _ ⟨fv,rfl,hF⟩ (λ w'=>CkO A0 w' cb md ms (J4 (QO (d.msgs.take k)) x) (GM (J6 (d.msgs.take k)) x) k (-1) x.fields) (λ w' h=>h)) (λ w5 h0 hC5=>?_) (λ w5 e5 h0=>?_)
   · rw [if_pos h0] at hrk
     have hd1:QO (d.msgs.take (k+1))=J4 (QO (d.msgs.take k)) x:=Ar J4 [] hx
     have hs1:J6 (d.msgs.take (k+1))=GM (J6 (d.msgs.take k)) x:=Ar GM [] hx
     rw [← hd1,← hs1] at hrk hC5
     have hlow':Low (QO (d.msgs.take (k+1))):=by rw [hd1];exact hlow.step h0
     refine Qqv ?_
     exact ⟨⟨k+1,k,x.fields,rfl,by omega,hC5,hlow',hrk⟩,Yh (kd := .i64) Yo⟩
   · rw [if_neg h0] at hrk
     refine pan _ _ _ _ e5 ?_ h0
     rw [hrk]
     unfold N6
     rw [if_neg h0]
 · subst hk
   rw [hd] at hrk
   rw [List.take_length] at hC' hrk
   unfold DD
   refine Qqh ZT ?_
   unfold HJ
   refine Qqb (Za x1).1 (Za x1).2 ?_
   have hC2:=hC'.setAt (-1)
   generalize (w'.setCell ⟨cb,5,none⟩ (.int .i64 (-1)))=W at hC2 ⊢
   clear x1 x2 hC'
   obtain ⟨dn,mv,ds,mn,fv',x1,x2⟩:=hC2.obj
   refine ZB ?_
   have eD:Ext W W.drew:=(Ext.refl W).wdrew
   unfold HI
   refine Qqb (Za x1).1 (Za (hC2.ext.obj o1)).1 ?_
   rw [BC underlying198 underlying9 ty3 (hC2.mdeps.ext eD) d.start]
   have hsome:(Yy (vI (QO d.msgs)) d.start).isSome=(Ya (QO d.msgs) d.start).isSome:=by rw [Gi,Option.isSome_map]
   rw [hsome]
   simp only [Wz,N6,if_true] at hrk
   refine Qqv ?_
   refine ZS (YK (hC2.go eD).chk _ 11 K7) (λ w5 e5 h0=>?_) (λ w5 e5 h0=>?_)
   · have hs:=Qn K7 h0
     rw [hs,if_pos rfl] at hrk
     have hC5:=hC2.go (eD.trans e5)
     have y3:=hC5.ext.obj o3
     have y4:=hC5.ext.obj o4
     have ne34:p3≠p4:=by rintro rfl;rw [o3] at o4;cases o4
     unfold HH
     refine Qqp (Za y3).1 (Za y3).2 (Za y4).1 (Za y4).2 ?_
     have c3:p3≠cb:=by have:=hC5.lcb;have:=(Qqj o3).1;omega
     have c4:p4≠cb:=by have:=hC5.lcb;have:=(Qqj o4).1;omega
     have q3:=Zy (o:=2) (Zy (o:=1) (Zy (o:=0) y3 (.int .i64 0)) (.int .i64 0)) (.int .i64 0)
     have q4:=Zy (o:=0) ((YA.setCell ((w5.setCell ⟨p3,0,none⟩ (.int .i64 0)).setCell ⟨p3,1,none⟩ (.int .i64 0)) p3 2 (.int .i64 0) p4 C1).trans ((YA.setCell (w5.setCell ⟨p3,0,none⟩ (.int .i64 0)) p3 1 (.int .i64 0) p4 C1).trans ((YA.setCell w5 p3 0 (.int .i64 0) p4 C1).trans y4))) (.bool false)
     have q3':=(YA.setCell _ p4 0 (.bool false) p3 ne34).trans q3
     exact Py (((((ea.trans hC5.ext).setCell h3 _).setCell h3 _).setCell h3 _).setCell h4 _) ((((hC5.left.other c3 _).other c3 _).other c3 _).other c4 _) (by simpa using q3') (by simpa using q4) hrk
   · have hs:(Ya (QO d.msgs) d.start).isSome=false:=by
      cases hq:(Ya (QO d.msgs) d.start).isSome with
      | false=>rfl
      | true=>rw [hq] at h0;exact absurd rfl h0
     rw [hs,if_neg (by simp)] at hrk
     rw [hs]
     exact pan _ _ _ _ (hC2.ext.trans (eD.trans e5)) hrk K7
def En (v:Vl) (d:QF) (hd:Qg w0 v d):Ret Pg 106 #[v] w0 (qE w0 d):=by
 obtain ⟨mv,rfl,hM⟩:=hd
 have hm1:=Zd.oneCell hM
 refine ZlM (R:=ZE _) ?_;unfold n92
 refine Qqv ?_
 refine ⟨UE (w0.heap.size+1) (w0.heap.size+1+1),_,rfl,?_⟩
 simp only [World.size_alloc]
 generalize hA0:((w0.alloc (Obj.cells (XB d mv).toArray 27)).alloc (Obj.cells #[.int .i64 0,.int .i64 0,.int .i64 0] 131)).alloc (Obj.cells #[.bool false] 4)=A0
 have ea:Ext w0 A0:=by rw [← hA0];exact ee
 have o1:A0.heap[w0.heap.size]?=some (.cells (XB d mv).toArray 27 (0,0)):=by rw [← hA0];exact Qqf
 have o3:A0.heap[w0.heap.size+1]?=some (.cells #[.int .i64 0,.int .i64 0,.int .i64 0] 131 (0,0)):=by rw [← hA0];exact Qqf
 have o4:A0.heap[w0.heap.size+1+1]?=some (.cells #[.bool false] 4 (0,0)):=by rw [← hA0];exact Qqf
 have Vs:A0.heap.size=w0.heap.size+1+1+1:=by rw [← hA0];simp only [World.size_alloc]
 clear hA0
 have hC:CkO A0 (((A0.alloc (Obj.map #[] 0)).alloc (Obj.map #[] 0)).alloc (Obj.cells #[.string d.name,mv,.string d.start,.map (some (w0.heap.size+1+1+1)),.map (some (w0.heap.size+1+1+1+1)),.int .i64 (-1),.int .i64 (-1),.string Qqk,.slice none 0 0] 201)) (w0.heap.size+1+1+1+1+1) (w0.heap.size+1+1+1) (w0.heap.size+1+1+1+1) [] [] (-1) (-1) []:=by
  refine ⟨ee,⟨d.name,mv,d.start,ByteArray.empty,.slice none 0 0,?_,Zd.nil _ _ _⟩,?_,?_,by omega,by omega,by omega,by omega⟩
  · have:=Zt ((A0.alloc (Obj.map #[] 0)).alloc (Obj.map #[] 0)) #[.string d.name,mv,.string d.start,.map (some (w0.heap.size+1+1+1)),.map (some (w0.heap.size+1+1+1+1)),.int .i64 (-1),.int .i64 (-1),.string Qqk,.slice none 0 0] 201
    simp only [World.size_alloc,Vs] at this
    exact this
  · have:=(Y6.new A0).ext (((Ext.refl _).alloc (Obj.map #[] 0)).alloc (Obj.cells #[.string d.name,mv,.string d.start,.map (some (w0.heap.size+1+1+1)),.map (some (w0.heap.size+1+1+1+1)),.int .i64 (-1),.int .i64 (-1),.string Qqk,.slice none 0 0] 201))
    simp only [World.size_alloc,Vs] at this
    exact this
  · have:=(Y6.new (A0.alloc (Obj.map #[] 0))).ext ((Ext.refl _).alloc (Obj.cells #[.string d.name,mv,.string d.start,.map (some (w0.heap.size+1+1+1)),.map (some (w0.heap.size+1+1+1+1)),.int .i64 (-1),.int .i64 (-1),.string Qqk,.slice none 0 0] 201))
    simp only [World.size_alloc,Vs] at this
    exact this
 generalize (((A0.alloc (Obj.map #[] 0)).alloc (Obj.map #[] 0)).alloc (Obj.cells #[.string d.name,mv,.string d.start,.map (some (w0.heap.size+1+1+1)),.map (some (w0.heap.size+1+1+1+1)),.int .i64 (-1),.int .i64 (-1),.string Qqk,.slice none 0 0] 201))=W at hC ⊢
 generalize hcb:w0.heap.size+1+1+1+1+1=cb at hC ⊢
 generalize hmd:w0.heap.size+1+1+1=md at hC Vs
 generalize hms:w0.heap.size+1+1+1+1=ms at hC
 generalize hp3:w0.heap.size+1+1=p4 at o4 ⊢
 generalize hp4:w0.heap.size+1=p3 at o3 ⊢
 have l3:w0.heap.size≤p3:=C1
 have l4:w0.heap.size≤p4:=C1
 refine Qqh (Za (hC.ext.obj o1)).1 ?_
 refine zcr (UP _ d.name) λ w1 e1=>?_
 have hC1:=hC.go e1
 have pan:∀ w' a f c,Ext A0 w'→Qz d=(a,f,c)→c≠0→ZD Pg [UE p3 p4] (Mo cb p3 p4) (ZE (qE w0 d)) [XH a f c] w':=λ w' a f c e h h0=>MW (ea.trans e) l3 l4 (e.obj o3) (e.obj o4) h h0
 generalize hr:Qz d=r
 have hr':=hr
 unfold Qz at hr
 refine ZS (YK hC1.chk _ 1 K7) (λ w2 e2 h0=>?_) (λ w2 e2 h0=>?_)
 · have hn:Yq d.name=true:=Qn K7 h0
   rw [if_pos hn] at hr
   have hC2:=hC1.go e2
   have fin:∀ b,b=decide (1≤d.msgs.length∧d.msgs.length≤60)→ZU Pg 135 #[Qq5 cb,.bool b,.int .i64 3] (ZD Pg [UE p3 p4] (Mo cb p3 p4) (ZE (qE w0 d))) w2 (λ _ w=>Bu (Qq5 w0.heap.size) (Qq5 p3) (Qq5 p4) (Qq5 cb) [UE p3 p4] (ZE (qE w0 d)) w):=by
    rintro b rfl
    refine ZS (YK hC2.chk _ 3 K7) (λ w3 e3 h0=>?_) (λ w3 e3 h0=>?_)
    · have hl:=Qn K7 h0
      simp only [decide_eq_true_eq] at hl
      rw [if_pos hl] at hr
      exact Pz ea (hM.ext ea) (hC2.go e3) o1 o3 o4 l3 l4 (hr'.trans hr.symm)
    · by_cases hl:1≤d.msgs.length∧d.msgs.length≤60
      · rw [decide_eq_true hl] at h0;exact absurd rfl h0
      · rw [if_neg hl] at hr
        rw [decide_eq_false hl]
        exact pan _ _ _ _ (hC2.ext.trans e3) (hr'.trans hr.symm) K7
   obtain ⟨A,c,rfl,hlc,hcm,hlm,Xj⟩:=Zd.open hM
   have x1:=hC2.ext.obj o1
   unfold HL
   by_cases h1l:1≤d.msgs.length
   · have d1:decide ((d.msgs.length:Int)≥1)=true:=by simp;omega
     by_cases h2l:d.msgs.length≤60
     · have d2:decide ((d.msgs.length:Int)≤60)=true:=by simp;omega
       simp (disch:=try exact DI) only [↓PR,QR,simprocAttr,(Za x1).1,d1,d2,↓HH,↓HI,↓HJ,↓HK,↓DD,↓Bu,↓Nm,↓Nn,↓HL]
       exact fin _ (by simp [h1l,h2l])
     · have d2:decide ((d.msgs.length:Int)≤60)=false:=by simp;omega
       simp (disch:=try exact DI) only [↓PR,QR,simprocAttr,(Za x1).1,d1,d2,↓HH,↓HI,↓HJ,↓HK,↓DD,↓Bu,↓Nm,↓Nn,↓HL]
       exact fin _ (by simp [h2l])
   · have d1:decide ((d.msgs.length:Int)≥1)=false:=by simp;omega
     simp (disch:=try exact DI) only [↓PR,QR,simprocAttr,(Za x1).1,d1,↓HH,↓HI,↓HJ,↓HK,↓DD,↓Bu,↓Nm,↓Nn,↓HL]
     exact fin _ (by simp [h1l])
 · have hn:Yq d.name=false:=by
    cases hq:Yq d.name with
    | false=>rfl
    | true=>rw [hq] at h0;exact absurd rfl h0
   rw [hn,if_neg (by simp)] at hr
   rw [hn]
   exact pan _ _ _ _ (hC1.ext.trans e2) (hr'.trans hr.symm) K7
end
section
variable {w0:Wd}
abbrev Zes (r:Int×Int×Int):Vl:=VF r.1 r.2.1 r.2.2
abbrev Qk (d:QF):Bool:=decide ((Qz d).2.2≠0)
def NH (v:Vl) (d:QF) (hd:Qg w0 v d):Ret Pg 70 #[v] w0 λ r w'=>r = .tuple #[Zes (Qz d),.bool (Qk d)]∧Ext w0 w':=by
 obtain ⟨mv,rfl,hM⟩:=hd
 have hm1:=Zd.oneCell hM
 refine Zlr (R:=ZE _) ?_;unfold n72
 refine Qqv ?_
 refine Zi (En _ d ⟨mv,rfl,VN.ext hM ee⟩) ?_
 rintro _ w1 ⟨e1,cb,rfl,_⟩
 have s1:=e1.size
 simp only [World.size_alloc] at s1
 have o2:=e1.obj (Zt (w0.alloc (Obj.cells (XB d mv).toArray 27)) #[.int .i64 0,.int .i64 0,.int .i64 0] 131)
 rw [World.size_alloc] at o2
 simp (disch:=try exact DI) only [↓PR,QR,simprocAttr,↓ZdN,(Za o2).1,(Za o2).2]
 exact ⟨by first | trivial | rfl,ee⟩
def CL (v:Vl) (d:QF) (hd:Qg w0 v d):Ret Pg 34 #[v] w0 λ r w'=>r = .bool (!Qk d)∧Ext w0 w':=by
 obtain ⟨mv,rfl,hM⟩:=hd
 have hm1:=Zd.oneCell hM
 refine ZlB (R:=ZE _) ?_;unfold n81
 refine Qqv ?_
 refine zcr (NH _ d ⟨mv,rfl,VN.ext hM ee⟩) λ w1 e1=>?_
 simp (disch:=try exact DI) only [↓PR,QR,simprocAttr,↓ZdP]
 exact ⟨by first | trivial | rfl,ee⟩
end
section
variable {Zu deps':List (BAr×Int)} {ZH strs':List (BAr×Bool)}
def LL {m:Xr} (h:(Vi Zu ZH m).2=0):Yq m.name=true∧Ya Zu m.name=none∧(1≤m.fields.length∧m.fields.length≤40)∧(XR Zu ZH [] m.fields).2=0∧Vu Zu m < 16:=by
 have hl:=DF h
 unfold Vi at h
 by_cases h1:Yq m.name=true
 · rw [if_pos h1] at h
   by_cases h2:(Ya Zu m.name).isSome=true
   · rw [if_pos h2] at h;exact absurd h K7
   · rw [if_neg h2] at h
     by_cases h3:1≤m.fields.length∧m.fields.length≤40
     · rw [if_pos h3] at h
       refine ⟨h1,by simpa using h2,h3,?_,hl⟩
       unfold KF at h
       split at h
       · assumption
       · contradiction
     · rw [if_neg h3] at h;exact absurd h K7
 · rw [if_neg h1] at h;exact absurd h K7
end
section
variable {Zu:List (BAr×Int)} {ZH:List (BAr×Bool)}
def AI {m:Xr} {l:List Xr} {i:Nat} (h:(Vi Zu ZH m).2=0):Wz Zu ZH i (m::l)=Wz (J4 Zu m) (GM ZH m) (i+1) l:=if_pos h
def G9 {m:Xr} {l:List Xr} {i:Nat} (h:¬ (Vi Zu ZH m).2=0):Wz Zu ZH i (m::l)=((i:Int),Vi Zu ZH m):=if_neg h
def Jk (r:List Xr):∀ (l:List Xr) (Zu:List (BAr×Int)) (ZH:List (BAr×Bool)) (i:Nat),((Wz Zu ZH i l).2.2=0→Wz Zu ZH i (l++r)=Wz (l.foldl J4 Zu) (l.foldl GM ZH) (i+l.length) r)∧((Wz Zu ZH i l).2.2≠0→Wz Zu ZH i (l++r)=Wz Zu ZH i l)
 | [],Zu,ZH,i=>⟨λ _=>rfl,λ h=>absurd rfl h⟩
 | m::l,Zu,ZH,i=>by
  have ih:=Jk r l (J4 Zu m) (GM ZH m) (i+1)
  by_cases h:(Vi Zu ZH m).2=0
  · rw [AI h,List.cons_append,AI h]
    simp only [List.foldl_cons,List.length_cons]
    rw [show i+(l.length+1)=i+1+l.length by omega]
    exact ih
  · rw [G9 h,List.cons_append,G9 h]
    exact ⟨λ k=>absurd k h,λ _=>rfl⟩
def Za3 {l:List Xr} {Zu:List (BAr×Int)} {ZH:List (BAr×Bool)} {i:Nat} (h:(Wz Zu ZH i l).2.2=0) {k:Nat} {m:Xr} (hk:l[k]?=some m):(Vi ((l.take k).foldl J4 Zu) ((l.take k).foldl GM ZH) m).2=0∧(Wz Zu ZH i (l.take k)).2.2=0:=by
 have hl:l=l.take k++m::l.drop (k+1):=by
  have:=(List.take_append_drop k l).symm
  rw [List.drop_eq_getElem_cons (Qqx hk).1] at this
  rw [(Qqx hk).2] at this
  exact this
 rw [hl] at h
 by_cases h0:(Wz Zu ZH i (l.take k)).2.2=0
 · rw [(Jk _ _ _ _ _).1 h0] at h
   refine ⟨?_,h0⟩
   by_cases h1:(Vi ((l.take k).foldl J4 Zu) ((l.take k).foldl GM ZH) m).2=0
   · exact h1
   · rw [G9 h1] at h;exact absurd h h1
 · rw [(Jk _ _ _ _ _).2 h0] at h;exact absurd h h0
def Zej (l:List Xr):Prop:=(Wz [] [] 0 l).2.2=0
def Zej.next {l:List Xr} (h:Zej l) {k:Nat} {m:Xr} (hk:l[k]?=some m):(Vi (QO (l.take k)) (J6 (l.take k)) m).2=0:=(Za3 h hk).1
end
section
variable {d:QF}
def IG (h:(Qz d).2.2=0):Yq d.name=true∧(1≤d.msgs.length∧d.msgs.length≤60)∧Zej d.msgs∧(Ya (QO d.msgs) d.start).isSome=true:=by
 unfold Qz at h
 by_cases h1:Yq d.name=true
 · rw [if_pos h1] at h
   by_cases h2:1≤d.msgs.length∧d.msgs.length≤60
   · rw [if_pos h2] at h
     unfold N6 at h
     by_cases h3:(Wz [] [] 0 d.msgs).2.2=0
     · rw [if_pos h3] at h
       by_cases h4:(Ya (QO d.msgs) d.start).isSome=true
       · exact ⟨h1,h2,h3,h4⟩
       · rw [if_neg h4] at h;exact absurd h K7
     · rw [if_neg h3] at h;exact absurd h h3
   · rw [if_neg h2] at h;exact absurd h K7
 · rw [if_neg h1] at h;exact absurd h K7
end
def ZbH (D:List BAr) (seen:List Vl) (v:Vl):Prop:=∃ s,seen=(D.take seen.length).map Value.string∧D[seen.length]?=some s∧v = .string s
def Zef (D:List BAr) (seen:List Vl):Prop:=seen=D.map Value.string
def FC (pb:Nat) (sv:Vl) (l:List BAr):Pf Pg 198 #[Qq5 pb] (ZbH (Z5 [] l)) (Zef (Z5 [] l)) (λ w=>Qh w pb sv l):=by
 intro yv J Jx Jp w _ hFP hJe hJx hJp XY h0
 obtain ⟨hc,hT,_⟩:=hFP _ w h0
 obtain ⟨A,c,rfl,hlc,hcm,hlm,Xj⟩:=Zd.open hT
 refine Zh7 (t0:=yv) (t1 := Qq5 pb) ?_
 unfold n80
 refine Qqh hc ?_
 refine ZL (λ i w'=>∃ k j:Nat,i = .int .i64 k∧k≤l.length∧J (((Z5 [] l).take j).map Value.string) w'∧j≤(Z5 [] l).length∧(Z5 [] l).drop j=Z5 (l.take k) (l.drop k)) (λ i _=>l.length - (intOf i).toNat) ⟨0,0,rfl,by omega,h0,by omega,rfl⟩ ?_
 rintro i w' ⟨k,j,rfl,hk,hJ,hj,hD⟩
 rcases ZY hk with ⟨x,hx,hd,Yo,ZT⟩ | ⟨hk,hd,ZT⟩
 · obtain ⟨hc',hT',_⟩:=hFP _ w' hJ
   obtain ⟨A',c',hv,_,hcm',_,hel'⟩:=Zd.open hT'
   injection hv with hv _ hv'
   subst hv hv'
   obtain ⟨b,o,cs,rfl,hl,hA,rfl⟩:=hel' k x hx
   have er:=Ext.refl w'
   rw [hd] at hD
   simp only [Z5] at hD
   simp (disch:=try exact DI) only [↓PR,QR,simprocAttr,↓U0,↓U1,ZT,hA.c1,hc']
   rw [Uf underlying94 ty9 b o l.length c .i64 k C1]
   have YJ:(l.take k).length=k:=by rw [List.length_take];omega
   have hpre:Zd w' 1 zL (.slice (some ⟨b,o,none⟩) k c) (l.take k):=by
    refine ⟨_,c,by rw [YJ],by rw [YJ];omega,hcm,λ _=>⟨b,o,rfl,λ i y hy=>?_⟩⟩
    rw [List.getElem?_take] at hy
    split at hy
    · obtain ⟨b',o',cs,hA',h1,h2,h3⟩:=hel' i y hy
      injection hA' with hA'
      injection hA' with h5 h6
      subst h5 h6
      exact ⟨cs,h1,h2,h3⟩
    · cases hy
   refine zcr (Q8 w' _ _ x hpre) λ w2 e2=>?_
   have hJ2:=(hJe _).ext hJ e2
   have htk:l.take (k+1)=l.take k++[x]:=Qy hx
   cases hany:(l.take k).any (λ y=>decide (x=y)) with
   | true=>
    rw [hany,if_pos rfl,← htk] at hD
    simp (disch:=try exact DI) only [↓PR,QR,simprocAttr,↓U0,↓U1]
    exact ⟨⟨k+1,j,rfl,by omega,hJ2,hj,hD⟩,Yh (kd := .i64) Yo⟩
   | false=>
    rw [hany,if_neg (by simp),← htk] at hD
    have Oc:j < (Z5 [] l).length:=by
     have:=congrArg List.length hD
     simp at this
     omega
    have hxj:(Z5 [] l)[j]?=some x:=by
     have:=congrArg (λ l=>l[0]?) hD
     simpa using this
    have hD2:(Z5 [] l).drop (j+1)=Z5 (l.take (k+1)) (l.drop (k+1)):=by
     rw [← List.tail_drop,hD];rfl
    have hjm:(((Z5 [] l).take j).map Value.string).length=j:=by rw [List.length_map,List.length_take];omega
    have hs:=XY _ (.string x) ⟨x,by rw [hjm],by rw [hjm];exact hxj,rfl⟩ (λ _=>True) Gy.true w2 hJ2 trivial
    rw [show ((Z5 [] l).take j).map Value.string++[.string x]=((Z5 [] l).take (j+1)).map Value.string by rw [Qy hxj];simp] at hs
    simp (disch:=try exact DI) only [↓PR,QR,simprocAttr,↓U0,↓U1]
    refine Kc hs (λ ch w h=>h.2) ?_
    rintro v w3 ⟨_,⟨rfl,h2⟩ | ⟨rfl,h2⟩⟩
    · simp (disch:=try exact DI) only [↓PR,QR,simprocAttr,↓U0,↓U1]
      exact ⟨⟨k+1,j+1,rfl,by omega,h2,Oc,hD2⟩,Yh (kd := .i64) Yo⟩
    · simp (disch:=try exact DI) only [↓PR,QR,simprocAttr,↓U0,↓U1]
      exact .inr h2
 · subst hk
   simp (disch:=try exact DI) only [↓PR,QR,simprocAttr,↓U0,↓U1,ZT]
   rw [hd] at hD
   have Oc:j=(Z5 [] l).length:=by
    have:=congrArg List.length hD
    simp [Z5] at this
    omega
   exact .inl ⟨_,by unfold Zef;rw [Oc,List.take_length],hJ⟩
def ZM.cellsAt {α:Type} {w:Wd} {base n:Nat} {T:TypeId} {enc:α→List Vl} {v:Vl} {l:List α} (h:ZM w base T n enc v l) (g:Nat) (hg:v.ownBlock=some g):∃ cs T f,w.heap[g]?=some (.cells cs T f):=by
 rcases h.2 with ⟨rfl,h0⟩ | ⟨g',cap,cur,rfl,hb,hg',hc,hm,hs,ht⟩
 · cases hg
 · have:g'=g:=by simpa [Value.ownBlock] using hg
   subst this
   exact ⟨_,_,_,hg'⟩
def ZM.keep {α:Type} {w w':Wd} {base n:Nat} {T:TypeId} {enc:α→List Vl} {v:Vl} {l:List α} (h:ZM w base T n enc v l) (hk:∀ b,v.ownBlock=some b→w'.heap[b]?=w.heap[b]?):ZM w' base T n enc v l:=by
 obtain ⟨h1,h2⟩:=h
 refine ⟨h1,?_⟩
 rcases h2 with h2 | ⟨g,cap,cur,hv,a1,a2,a3⟩
 · exact .inl h2
 · exact .inr ⟨g,cap,cur,hv,a1,by rw [hk g (by rw [hv];rfl)];exact a2,a3⟩
def BV:∀ {a b:List BAr},a.map Value.string=b.map Value.string→a=b
 | [],[],_=>rfl
 | [],_::_,h=>by cases h
 | _::_,[],h=>by cases h
 | x::a,y::b,h=>by
  rw [List.map_cons,List.map_cons] at h
  injection h with h1 h2
  injection h1 with h1
  rw [h1,BV h2]
def xb (w0:Wd) (pb:Nat) (sv:Vl) (l:List BAr) (hS:Qh w0 pb sv l) (hL:(Z5 [] l).length≤1048576) :
 Ret Pg 200 #[.slice none 0 0,.func (.func 198) #[] #[Qq5 pb]] w0 λ r w'=>ZM w' w0.heap.size 9 1 YQ r (Z5 [] l)∧Ext w0 w':=by
 have hseq:=FC pb sv l
 generalize hDD:Z5 [] l=D at hseq hL ⊢
 refine Zhc (R:=ZE _) ?_;unfold ZeK
 refine Qqv ?_
 let I:List Vl→Wd→Prop:=λ seen w=>Ext w0 w∧∃ (ss:List BAr) (tv:Vl),seen=ss.map Value.string∧ss.length≤D.length∧w.heap[w0.heap.size]?=some (.cells #[tv] 94 (0,0))∧ZM w (w0.heap.size+1) 9 1 YQ tv ss
 have hLI:∀ B,w0.heap.size≤B→∀ k,Yd B (I k):=λ B hB k=>Yd.and (Yd.from hB) (Yd.ex λ ss=>Yd.ex λ tv=>Yd.and (Yd.const _ _) (Yd.and (Yd.const _ _) (Yd.and (Yd.has B rfl) Yd.own)))
 refine ⟨_,_,ZbH D,Zef D,(λ w=>Qh w pb sv l),I,λ _ _=>False,λ _ _=>False,rfl,ZfD,hseq,?_,λ k w h=>hS.ext h.1,λ k=>hLI _ (by simp) k,λ _=>Yd.const _ _,λ _=>Yd.const _ _,?_,?_,?_,?_⟩
 · refine ⟨ee,[],.slice none 0 0,rfl,Nat.zero_le _,?_,ZM.nil _ _ _ _ _⟩
   exact Qqf
 · intro Rk hF seen x w1 hal hI1 hR1 hlt1 hready
   refine ⟨hready,λ w4 hbz=>?_⟩
   have hR4:=hF _ _ (KR6.busied hbz) hR1
   have hI4:=(hLI (w0.alloc (.cells #[.slice none 0 0] 94)).heap.size (by simp) seen).busied hbz (Nat.le_succ _) hI1
   clear hI1 hR1 hready hbz hlt1
   obtain ⟨x0,_,hx0,rfl⟩:=hal
   obtain ⟨e4,ss,tv,rfl,hsub,h24,hO⟩:=hI4
   rw [List.length_map] at hx0
   have Yo:=(Qqx hx0).1
   have YJ:ss.length≤1048576:=C1
   have z2:=(Qqj h24).1
   have hr:∀ g,tv.ownBlock=some g→w0.heap.size+1≤g:=λ g hb=>(World.ownsRow.lt hO g hb).1
   have eA:Ext w4 (w4.alloc (.cells #[.string x0] 9)):=(Ext.refl _).alloc _
   unfold Rh
   refine Qqh (Za h24).1 ?_
   refine VP x0 (b:=w4.heap.size) (hO.ext eA) (by rw [QN];rfl) (by have:=eA.size;omega) YJ ?_
   intro v' w' hO' hg
   have h2':w'.heap[w0.heap.size]?=some (.cells #[tv] 94 (0,0)):=(hg.block w0.heap.size (by have:=eA.size;omega) λ e=>by have:=hr _ e.symm;omega).trans (eA.obj h24)
   have ht1:v'.oneCell'=true:=Zd.oneCell (ZM.slice (E:=λ _ cs s=>cs=YQ s) hO' (λ _=>rfl) (λ _ _=>rfl))
   refine Qqb (Za h2').1 (Za h2').2 ?_
   have hE5:Ext w0 (w'.setCell ⟨w0.heap.size,0,none⟩ v'):=((e4.trans eA).grown hg λ g hb=>by have:=hr g hb;omega).setCell (p:=⟨w0.heap.size,0,none⟩) (Nat.le_refl _) _
   refine ⟨hF _ _ ((((KR6.refl _ w4).ext eA).grown hg λ g hb=>ZM.cellsAt (hO.ext eA) g hb).cell h2' 0 v') hR4,hE5,ss++[x0],v',by simp,by simp;omega,Zy (o:=0) h2' v',ZM.keep hO' λ g hb=>?_⟩
   have:=(World.ownsRow.lt hO' g hb).1
   rw [YA.setCell _ w0.heap.size _ _ g C1]
 · intro seen w1 hfin hI1 hmk
   obtain ⟨e1,ss,tv,rfl,_,h24,hO⟩:=hI1
   have hz:(w0.alloc (.cells #[.slice none 0 0] 94)).heap.size=w0.heap.size+1:=by simp
   rw [hz] at hmk ⊢
   show UG _ _ _
   rw [(Za h24).1]
   show Ul _ _ _ _ _
   refine WA hmk ?_
   simp (disch:=try exact DI) only [↓PR,QR,simprocAttr,WM,y1,XV]
   rw [← BV hfin]
   refine ⟨(ZM.keep hO λ g hb=>?_).base (Nat.le_succ _),e1.putObj (Nat.le_succ _) _⟩
   have Y7:g≠w0.heap.size+1:=by
    rintro rfl
    obtain ⟨cs,T,f,hc⟩:=ZM.cellsAt hO _ hb
    have:w1.heap[w0.heap.size+1]?=some (.deferred (some [])):=hmk
    rw [hc] at this
    cases this
   exact World.putObj_heap_other Y7
 · exact λ _ _ h=>h.elim
 · exact λ _ _ h=>h.elim
def xn:∀ (seen l:List BAr),(Z5 seen l).length≤l.length
 | _,[]=>Nat.le_refl _
 | seen,s::l=>by
  unfold Z5
  split
  · exact Nat.le_trans (xn _ l) (Nat.le_succ _)
  · simp only [List.length_cons]
    exact Nat.succ_le_succ (xn _ l)
def jR (w0:Wd) (pb:Nat) (sv:Vl) (l:List BAr) (hS:Qh w0 pb sv l) (hL:(Z5 [] l).length≤1048576) :
 Ret Pg 166 #[.func (.func 198) #[] #[Qq5 pb]] w0 λ r w'=>ZM w' w0.heap.size 9 1 YQ r (Z5 [] l)∧Ext w0 w':=by
 refine Zhk (R:=ZE _) ?_;unfold Zhj
 refine Zi (xb w0 pb sv l hS hL) ?_
 rintro v w1 ⟨h,e1⟩
 refine Qqv ?_
 exact ⟨h,e1⟩
def BG (w0:Wd) (v:Vl) (f:Zv) (hf:Z8 w0 v f) (hb:(YH f).length≤1048576):Ret Pg 141 #[v] w0 λ r w'=>Zd w' 1 zL r (Z5 [] (YH f))∧Ext w0 w':=by
 obtain ⟨tv,cv,rfl,hT,hC,t1,c1⟩:=hf.op
 have hr:Y9 [f]=YH f:=by unfold Y9;simp
 refine Zk0 (R:=ZE _) ?_;unfold n45
 rw [YO]
 have jw:=Yr.new (w:=w0) (Zw f tv cv) (123)
 have eW:Ext w0 (w0.alloc (Obj.cells (List.toArray (Zw f tv cv)) (123))):=(Ext.refl _).alloc _
 generalize (w0.alloc (Obj.cells (List.toArray (Zw f tv cv)) (123)))=W at jw eW ⊢
 refine Qqh (jw.c15 (Ext.refl W)) ?_
 have hA:Yr (W.alloc (.cells (Zw f tv cv).toArray 123)) W.heap.size 0 (Zw f tv cv):=Yr.new _ _
 have eV:Ext W (W.alloc (.cells (Zw f tv cv).toArray 123)):=(Ext.refl W).alloc _
 generalize (W.alloc (.cells (Zw f tv cv).toArray 123))=V at hA eV ⊢
 have hM:Wo V (.agg #[.string Qqk,.slice (some ⟨W.heap.size,0,none⟩) 1 1]) ⟨ByteArray.empty,[f]⟩:=by
  refine ⟨_,rfl,_,1,rfl,Nat.le_refl _,by decide,λ _=>⟨_,0,rfl,λ k x hx=>?_⟩⟩
  cases k with
  | zero=>
   simp only [List.getElem?_cons_zero,Option.some.injEq] at hx
   subst hx
   exact ⟨_,rfl,hA,tv,cv,rfl,hT.ext (eW.trans eV),hC.ext (eW.trans eV)⟩
  | succ k=>simp at hx
 refine Zi (j4 V _ ⟨ByteArray.empty,[f]⟩ hM (by rw [hr];exact hb)) ?_
 rintro _ w1 ⟨pb,sv,rfl,hS,hpb,e1⟩
 rw [hr] at hS
 refine Zi (jR w1 pb sv _ hS (Nat.le_trans (xn _ _) hb)) ?_
 rintro v w2 ⟨hO,e2⟩
 refine Qqv ?_
 exact ⟨hO.slice (λ _=>rfl) (λ _ _=>rfl),eW.trans (eV.trans (e1.trans e2))⟩
section
variable {a0 w:Wd} {cb:Nat} {m:Xn} {d e:QF} {ru fi:Int}
def BJ (last:Int) (x:Qd):Bool:=decide (last < x.low)&&(decide (x.low≤x.high)&&(WL x.high&&WL x.to))
def Ms (last:Int) (x:Qd) (l:List Qd):JU last (x::l)=(BJ last x&&JU x.high l):=by
 rw [JU];unfold BJ;simp only [Bool.and_assoc]
def Ze5 (h:CkM a0 w cb m d e ru fi) (v:Vl) (l:List Qd) (hs:Q9 w v l):Calls Pg 112 #[Qq5 cb,v] w (mR w (decide (Wa l=0)) ru fi (Wa l)):=by
 obtain ⟨A,c,rfl,hlc,hcm,hlm,Xj⟩:=Zd.open hs
 refine ZkP ?_;unfold n33
 have first:∀ b,b=decide (1≤l.length∧l.length≤40)→ZU Pg 33 #[Qq5 cb,.bool b,.int .i64 2] (Zc (mR w (decide (Wa l=0)) ru fi (Wa l))) w (λ _ w'=>qS (Qq5 cb) (.slice A l.length c) (mR w (decide (Wa l=0)) ru fi (Wa l)) w'):=by
  rintro b rfl
  refine YN (XF h _ 2) (λ w1 e1 hb=>?_) (λ w1 e1 hb=>?_)
  · simp only [decide_eq_true_eq] at hb
    have ht:Wa l=if JU (-1) l=true then 0 else 8:=by unfold Wa;rw [if_neg C1]
    unfold qS
    refine Qqv ?_
    refine Xu (λ a b w'=>∃ (k:Nat) (last:Int),a = .int .i64 last∧b = .int .i64 k∧k≤l.length∧Ext w w'∧JU (-1) l=JU last (l.drop k)) (λ _ b _=>l.length - (intOf b).toNat) ⟨0,-1,rfl,rfl,by omega,e1,rfl⟩ ?_
    rintro _ _ w2 ⟨k,last,rfl,rfl,hk,e2,hR⟩
    rcases ZY hk with ⟨x,hx,hdr,Yo,ZT⟩ | ⟨hk,hdr,ZT⟩
    · obtain ⟨bt,ot,cst,rfl,_,hAt,rfl⟩:=Xj k x hx
      rw [hdr,Ms] at hR
      refine Qqh ZT ?_
      unfold Bg
      refine Qqh (hAt.c3 e2) ?_
      have oV:=Zt w2 (ZW x).toArray 78
      have eV:Ext w2 (w2.alloc (.cells (ZW x).toArray 78)):=(Ext.refl w2).alloc _
      generalize (w2.alloc (.cells (ZW x).toArray 78))=V at oV eV ⊢
      have e3:=e2.trans eV
      have last3:∀ b,b=BJ last x→∀ k1:Vl→Wd→Prop,(∀ w4,Ext V w4→BJ last x=true→k1 (.tuple #[]) w4)→ZU Pg 33 #[Qq5 cb,.bool b,.int .i64 8] (Zc (mR w (decide (Wa l=0)) ru fi (Wa l))) V k1:=by
       rintro b rfl k1 hk1
       refine YN (XF (h.go e3) _ 8) (λ w4 e4 hb=>hk1 w4 e4 hb) (λ w4 e4 hb=>?_)
       rw [hb,Bool.false_and] at hR
       rw [hR,if_neg (by simp)] at ht
       exact xv (e3.trans e4) (by rw [ht];rfl) ht
      have q:=Za oV
      have goOn:∀ w4,Ext V w4→BJ last x=true→qR (Qq5 w2.heap.size) (.int .i64 k) (λ a b w'=>(∃ (k:Nat) (last:Int),a = .int .i64 last∧b = .int .i64 k∧k≤l.length∧Ext w w'∧JU (-1) l=JU last (l.drop k))∧l.length - (intOf b).toNat < l.length - (intOf (Value.int IntKind.i64 k)).toNat) (mR w (decide (Wa l=0)) ru fi (Wa l)) w4:=by
       intro w4 e4 hb
       rw [hb,Bool.true_and] at hR
       have q4:=Za (e4.obj oV)
       unfold qR
       refine Qqh q4.1 ?_
       exact ⟨⟨k+1,_,rfl,rfl,Yo,e3.trans e4,hR⟩,Yh (kd := .i64) Yo⟩
      by_cases h1:last < x.low
      · have d1:decide (x.low > last)=true:=by simpa using h1
        by_cases h2:x.low≤x.high
        · have d2:decide (x.low≤x.high)=true:=by simpa using h2
          have hB:BJ last x=(WL x.high&&WL x.to):=by unfold BJ;simp [h1,h2]
          simp (disch:=try exact DI) only [↓PR,QR,simprocAttr,q.1,d1,d2,↓qR,↓Dj,↓Dk,↓Bg,↓qS]
          refine Zi (QM V x.high) ?_
          rintro _ w' ⟨rfl,hw⟩
          rw [hw]
          generalize hn:WL x.high=nh at hB
          cases nh with
          | true=>
           simp (disch:=try exact DI) only [↓PR,QR,simprocAttr,q.1,↓qR,↓Dj,↓Dk,↓Bg,↓qS]
           refine Zi (QM V x.to) ?_
           rintro _ w' ⟨rfl,hw⟩
           rw [hw]
           refine Qqv ?_
           exact last3 _ (by rw [hB,Bool.true_and]) _ goOn
          | false=>
           simp (disch:=try exact DI) only [↓PR,QR,simprocAttr,q.1,↓qR,↓Dj,↓Dk,↓Bg,↓qS]
           exact last3 _ (by rw [hB,Bool.false_and]) _ goOn
        · have d2:decide (x.low≤x.high)=false:=by simpa using h2
          have hB:BJ last x=false:=by unfold BJ;simp [h2]
          simp (disch:=try exact DI) only [↓PR,QR,simprocAttr,q.1,d1,d2,↓qR,↓Dj,↓Dk,↓Bg,↓qS]
          exact last3 _ hB.symm _ goOn
      · have d1:decide (x.low > last)=false:=by simpa using h1
        have hB:BJ last x=false:=by unfold BJ;simp [h1]
        simp (disch:=try exact DI) only [↓PR,QR,simprocAttr,q.1,d1,↓qR,↓Dj,↓Dk,↓Bg,↓qS]
        exact last3 _ hB.symm _ goOn
    · subst hk
      rw [hdr,JU] at hR
      rw [hR,if_pos rfl] at ht
      refine Qqh ZT ?_
      exact Ev e2 (by rw [ht];rfl)
  · have ht:Wa l=2:=by
     unfold Wa
     rw [if_pos]
     simp only [decide_eq_false_iff_not] at hb
     omega
    exact xv e1 (by rw [ht];rfl) ht
 by_cases h1:1≤l.length
 · have d1:decide ((l.length:Int)≥1)=true:=by simp;omega
   by_cases h2:l.length≤40
   · have d2:decide ((l.length:Int)≤40)=true:=by simp;omega
     refine Qqb d1 d2 ?_
     exact first _ (by simp [h1,h2])
   · have d2:decide ((l.length:Int)≤40)=false:=by simp;omega
     refine Qqb d1 d2 ?_
     exact first _ (by simp [h2])
 · have d1:decide ((l.length:Int)≥1)=false:=by simp;omega
   refine Qqh d1 ?_
   exact first _ (by simp [h1])
end
section
variable {a0 w:Wd} {cb:Nat} {m:Xn} {d e:QF} {ru fi:Int}
def jg (m:Xn) (f t:Zv):Bool:=(Z5 [] (YH f)).all (okN m (Z5 [] (YH t)))
def Tc (h:CkM a0 w cb m d e ru fi) (u v:Vl) (f t:Zv) (hf:Z8 w u f) (ht:Z8 w v t) (bf:(YH f).length≤1048576) (bt:(YH t).length≤1048576):Calls Pg 113 #[Qq5 cb,u,v] w (mR w (jg m f t) ru fi 9):=by
 obtain ⟨tf,cf,rfl,hTf,hCf,o1,o2⟩:=hf.op
 obtain ⟨tt,ct,rfl,hTt,hCt,o3,o4⟩:=ht.op
 refine ZkM ?_;unfold n30
 rw [YO]
 have jw:=Yr.new (w:=w) (Zw f tf cf) (123)
 have eW:Ext w (w.alloc (Obj.cells (List.toArray (Zw f tf cf)) (123))):=(Ext.refl _).alloc _
 generalize (w.alloc (Obj.cells (List.toArray (Zw f tf cf)) (123)))=W at jw eW ⊢
 rw [YO]
 have hBX:=Yr.new (w:=W) (Zw t tt ct) (123)
 have eX:Ext W (W.alloc (Obj.cells (List.toArray (Zw t tt ct)) (123))):=(Ext.refl _).alloc _
 generalize (W.alloc (Obj.cells (List.toArray (Zw t tt ct)) (123)))=X at hBX eX ⊢
 refine Qqh (jw.c15 eX) ?_
 refine Zi (BG X _ f ⟨_,_,rfl,hTf.ext (eW.trans eX),hCf.ext (eW.trans eX)⟩ bf) ?_
 rintro v1 w1 ⟨hD,e1⟩
 have E1:=eW.trans (eX.trans e1)
 have hNB:jg m f t=(Z5 [] (YH f)).all (okN m (Z5 [] (YH t))):=rfl
 generalize Z5 [] (YH f)=D at hD hNB
 obtain ⟨A,c,rfl,hlc,hcm,hlm,Xj⟩:=Zd.open hD
 unfold Zce
 refine Qqv ?_
 refine ZL (λ b w'=>∃ k:Nat,b = .int .i64 k∧k≤D.length∧Ext w1 w'∧jg m f t=(D.drop k).all (okN m (Z5 [] (YH t)))) (λ b _=>D.length - (intOf b).toNat) ⟨0,rfl,by omega,Ext.refl _,hNB⟩ ?_
 rintro _ w2 ⟨k,rfl,hk,e2,hR⟩
 have E2:=E1.trans e2
 have hC:=h.go E2
 rcases ZY hk with ⟨s,hx,hdr,Yo,ZT⟩ | ⟨hk,hdr,ZT⟩
 · obtain ⟨bt',ot,cst,rfl,_,hAt,rfl⟩:=Xj k s hx
   rw [hdr,List.all_cons] at hR
   obtain ⟨rv,dv,ev,q,hRv,hdv,hev⟩:=hC.obj
   have rv1:=Zd.oneCell hRv
   refine Qqh ZT ?_
   unfold Zcd
   refine Qqm (hAt.c1 e2) (Za q).1 (Za q).2 ?_
   refine zcr (j5 w2 _ m s ⟨_,rfl,hRv.ext hC.ext⟩) λ w3 e3=>?_
   unfold Zcc
   have fin:∀ (b:Bool) w4,Ext w3 w4→EC w3.drew w4→b=okN m (Z5 [] (YH t)) s→ZU Pg 33 #[Qq5 cb,.bool b,.int .i64 9] (Zc (mR w (jg m f t) ru fi 9)) w4 (λ _ w5=>EC w3.drew w5∧(opV Pg (ZA .add 3 true (.int .i64 k) (.int .i64 1)) (Zc (mR w (jg m f t) ru fi 9)) w5 λ b w'=>(∃ k:Nat,b = .int .i64 k∧k≤D.length∧Ext w1 w'∧jg m f t=(D.drop k).all (okN m (Z5 [] (YH t))))∧D.length - (intOf b).toNat < D.length - (intOf (Value.int IntKind.i64 k)).toNat)):=by
    rintro b w4 e4 x4 rfl
    refine YN (XF (h.go (E2.trans (e3.trans e4))) _ 9) (λ w5 e5 hb=>?_) (λ w5 e5 hb=>?_)
    · rw [hb,Bool.true_and] at hR
      refine ⟨Ext.trans x4 e5,?_⟩
      refine Qqv ?_
      exact ⟨⟨k+1,rfl,Yo,e2.trans (e3.trans (e4.trans e5)),hR⟩,Yh (kd := .i64) Yo⟩
    · rw [hb,Bool.false_and] at hR
      exact xv (E2.trans (e3.trans (e4.trans e5))) hR rfl
   rcases Mx (λ r:MrD=>decide (r.fr=s)) m.rules with ⟨h1,h2,_,_,_⟩ | ⟨i,x,hxi,h1,h2,_,_,_⟩
   · have hp:GL m s=none:=h2
     have hk0:okN m (Z5 [] (YH t)) s=false:=by unfold okN;rw [h1]
     rw [hp,Option.getD_none,show (none:Option Nat).isSome=false from rfl]
     refine Qqv ?_
     refine ZB ?_
     refine Qqv ?_
     unfold RE
     exact fin false _ (Ext.refl w3).drew (Ext.refl _) hk0.symm
   · have hp:GL m s=some i:=h2
     rw [hp,Option.getD_some,show (some i).isSome=true from rfl]
     refine Qqv ?_
     refine ZB ?_
     obtain ⟨br,or',cr,rfl,_,_,_,hil,helr⟩:=HW hRv hxi
     obtain ⟨csr,_,hAr,hEr⟩:=helr i x hxi
     obtain ⟨fv,rfl,hFr⟩:=hEr
     have q3:=Za (e3.obj q)
     unfold Zcb
     refine Qqp q3.1 q3.2 (hBX.c15 (e1.trans (e2.trans e3))) (hAr.c3 (hC.ext.trans e3)) ?_
     have E3:=E2.trans e3.drew
     refine Zi (BG _ _ t ⟨_,_,rfl,hTt.ext E3,hCt.ext E3⟩ bt) ?_
     rintro v2 w4 ⟨hT2,e4⟩
     refine ⟨e4,?_⟩
     refine zcr (Q8 w4 _ _ x.to hT2) λ w5 e5=>?_
     refine ⟨e4.trans e5,?_⟩
     have hk1:okN m (Z5 [] (YH t)) s=(Z5 [] (YH t)).any λ y=>decide (x.to=y):=by unfold okN;rw [h1]
     unfold RE
     refine Qqv ?_
     exact fin _ w5 ((Ext.refl w3).drew.trans (e4.trans e5)) (e4.trans e5) hk1.symm
 · subst hk
   rw [hdr] at hR
   refine Qqh ZT ?_
   exact Ev E2 (by rw [hR];rfl)
end
def CU {s:BAr} {l:List BAr}:s∈Z5 [] l↔s∈l:=by rw [xx];simp
def Zaq {α:Type} {p:α→Bool} {a b:List α} (h:∀ x,x∈a↔x∈b):a.all p=b.all p:=by
 rw [Bool.eq_iff_iff,List.all_eq_true,List.all_eq_true]
 exact ⟨λ k x hx=>k x ((h x).2 hx),λ k x hx=>k x ((h x).1 hx)⟩
def Zas {α:Type} {p:α→Bool} {a b:List α} (h:∀ x,x∈a↔x∈b):a.any p=b.any p:=by
 rw [Bool.eq_iff_iff,List.any_eq_true,List.any_eq_true]
 exact ⟨λ ⟨x,hx,k⟩=>⟨x,(h x).1 hx,k⟩,λ ⟨x,hx,k⟩=>⟨x,(h x).2 hx,k⟩⟩
def IH {f:Zv} (h:4≤WG f):f.kind=7∨f.kind=8∨f.kind=12∨f.kind=9:=by
 unfold WG at h
 split at h
 · omega
 · split at h
   · omega
   · split at h
     · omega
     · split at h
       · omega
       · split at h
         · omega
         · split at h<;>omega
def Ag {f:Zv} (h:4≤WG f):YH f=Nw (some f):=by
 unfold Nw YH
 rcases IH h with k | k | k | k<;>simp [k]
def Za8 {m:Xn} {s:BAr} {a b:List BAr} (h:∀ x,x∈a↔x∈b):okN m a s=okN m b s:=by
 unfold okN
 cases m.rules.find? λ r=>decide (r.fr=s) with
 | none=>rfl
 | some r=>exact Zas h
def Za6 {m:Xn} {f t:Zv} (hf:4≤WG f) (ht:4≤WG t):No m (some f) (some t)=if jg m f t=true then 0 else 9:=by
 unfold No jg
 rw [← Ag hf,← Ag ht]
 have:((YH f).all (okN m (YH t)))=((Z5 [] (YH f)).all (okN m (Z5 [] (YH t)))):=by
  rw [Zaq (a:=Z5 [] (YH f)) (b:=YH f) λ _=>CU]
  congr 1
  funext s
  exact Za8 λ _=>CU.symm
 rw [this]
section
variable {a0 w w0:Wd} {cb p6 p10:Nat} {m:Xn} {d e:QF} {ru fi:Int}
def Ph {r:FrD} (h:inF r=true):WL (if IntKind.i64.wrap (0 - r.add) > r.add then IntKind.i64.wrap (0 - r.add) else r.add)=j8 r.add:=by
 unfold inF Xz at h
 simp only [Bool.and_eq_true,decide_eq_true_eq] at h
 obtain ⟨⟨h1,h2⟩,_⟩:=h
 generalize r.add=n at h1 h2
 by_cases hn:n = -9223372036854775808
 · subst hn;decide
 · rw [Z0 C1 C1]
   unfold WL j8
   rw [Bool.eq_iff_iff]
   simp only [Bool.and_eq_true,decide_eq_true_eq]
   split<;>omega
def Th (h:CkM a0 w cb m d e ru fi) (e0:Ext w0 w) (r:FrD) (bv tv:Vl) (o6:w.heap[p6]?=some (.cells (Zo r bv tv).toArray 43 (0,0))) (hT:Q9 w tv r.table) (hB:zJ w bv r.bytes)
 (fo to:Option Zv) (tt tc:Vl) (o10:w.heap[p10]?=some (.cells (Zw (to.getD VC) tt tc).toArray 123 (0,0))) (hTt:Z6 w tt (to.getD VC).terms) (hTc:Yu w tc (to.getD VC).cases) (u:Vl) (hu:Z8 w u (fo.getD VC))
 (bf:(YH (fo.getD VC)).length≤1048576) (bt:(YH (to.getD VC)).length≤1048576) (hk:1≤r.kind∧r.kind≤7) (hin:inF r=true) :
 Ki (Qq5 cb) (Qq5 p6) (Qq5 p10) (.int .i64 (Ej to)) (.tuple #[u,.int .i64 (Ej fo)]) (mR w0 (decide (Ww m r fo to=0)) ru fi (Ww m r fo to)) w:=by
 obtain ⟨tf,cf,rfl,hTf,hCf,f1,f2⟩:=hu.op
 obtain ⟨At,ct,rfl,_,_,_,_⟩:=Zd.open hT
 obtain ⟨Ab,cby,rfl,_,_,hbl,_⟩:=Zd.open hB
 unfold Ki
 refine Qqv ?_
 have oV:=Zt w (Zw (fo.getD VC) tf cf).toArray 123
 have eV:Ext w (w.alloc (.cells (Zw (fo.getD VC) tf cf).toArray 123)):=(Ext.refl w).alloc _
 generalize (w.alloc (.cells (Zw (fo.getD VC) tf cf).toArray 123))=V at oV eV ⊢
 generalize w.heap.size=p14 at oV ⊢
 have hC:=h.go eV
 have E:=e0.trans eV
 have q:=(Za (eV.obj o6)).1
 have fin:∀ w',Ext V w'→Ww m r fo to=0→mR w0 (decide (Ww m r fo to=0)) ru fi (Ww m r fo to) (.returned (.tuple #[])) w':=λ w' e' hc=>Ev (E.trans e') (by rw [hc];rfl)
 have pan:∀ w' c,Ext V w'→Ww m r fo to=c→c≠0→Zc (mR w0 (decide (Ww m r fo to=0)) ru fi (Ww m r fo to)) [Vw ru fi c] w':=λ w' c e' hc h0=>xv (E.trans e') (by rw [hc];simpa using h0) hc
 generalize hx:Ej fo=x
 generalize hy:Ej to=y
 have this:r.kind=1∨r.kind=2∨r.kind=3∨r.kind=4∨r.kind=5∨r.kind=6∨r.kind=7:=C1
 have hkc:Ww m r fo to=Ww m r fo to:=rfl
 conv at hkc=>rhs;unfold Ww;rw [hx,hy];simp only
 rcases this with hk | hk | hk | hk | hk | hk | hk
 all_goals rw [hk] at hkc
 all_goals simp (disch:=try exact DI) only [↓PR,QR,simprocAttr,q,hk,↓A7,↓A8,↓A9,↓Ba,↓Bb,↓Bc,↓Bd,↓Be,↓Bf,↓ze,↓zf,↓zg,↓zh,↓zi,↓Ki,↓Jv,↓Kj,↓Jw,↓Jy,↓Jz,↓JA,↓JB]
 · replace hkc:Ww m r fo to=if x≠y∨3 < y then 5 else 0:=hkc
   refine YN (XF hC _ 5) (λ w1 e1 hb=>?_) (λ w1 e1 hb=>?_)
   · simp only [Bool.and_eq_true,beq_iff_eq,decide_eq_true_eq] at hb
     exact fin _ e1 (by rw [hkc,if_neg C1])
   · simp only [Bool.and_eq_false_iff,beq_eq_false_iff_ne,decide_eq_false_iff_not] at hb
     exact pan _ _ e1 (by rw [hkc,if_pos C1]) K7
 · replace hkc:Ww m r fo to=if x≠1∨y≠1 then 5 else if j8 r.add=true then 0 else 8:=hkc
   refine YN (XF hC _ 5) (λ w1 e1 hb=>?_) (λ w1 e1 hb=>?_)
   · simp only [Bool.and_eq_true,beq_iff_eq] at hb
     rw [if_neg C1] at hkc
     have q1:=(Za ((eV.trans e1).obj o6)).1
     simp (disch:=try exact DI) only [↓PR,QR,simprocAttr,q1,↓A7,↓A8,↓A9,↓Ba,↓Bb,↓Bc,↓Bd,↓Be,↓Bf,↓ze,↓zf,↓zg,↓zh,↓zi,↓Ki,↓Jv,↓Kj,↓Jw,↓Jy,↓Jz,↓JA,↓JB]
     refine Zi (QM w1 _) ?_
     rintro _ w2 ⟨rfl,hw⟩
     rw [hw,Ph hin]
     refine YN (XF (hC.go e1) _ 8) (λ w3 e3 hb=>?_) (λ w3 e3 hb=>?_)
     · exact fin _ (e1.trans e3) (by rw [hkc,if_pos hb])
     · exact pan _ _ (e1.trans e3) (by rw [hkc,hb];rfl) K7
   · simp only [Bool.and_eq_false_iff,beq_eq_false_iff_ne] at hb
     exact pan _ _ e1 (by rw [hkc,if_pos C1]) K7
 · replace hkc:Ww m r fo to=if y≠1 then 5 else if WL r.value=true then 0 else 8:=hkc
   refine YN (XF hC _ 5) (λ w1 e1 hb=>?_) (λ w1 e1 hb=>?_)
   · simp only [beq_iff_eq] at hb
     rw [if_neg C1] at hkc
     have q1:=(Za ((eV.trans e1).obj o6)).1
     simp (disch:=try exact DI) only [↓PR,QR,simprocAttr,q1,↓A7,↓A8,↓A9,↓Ba,↓Bb,↓Bc,↓Bd,↓Be,↓Bf,↓ze,↓zf,↓zg,↓zh,↓zi,↓Ki,↓Jv,↓Kj,↓Jw,↓Jy,↓Jz,↓JA,↓JB]
     refine Zi (QM w1 _) ?_
     rintro _ w2 ⟨rfl,hw⟩
     rw [hw]
     refine YN (XF (hC.go e1) _ 8) (λ w3 e3 hb=>?_) (λ w3 e3 hb=>?_)
     · exact fin _ (e1.trans e3) (by rw [hkc,if_pos hb])
     · exact pan _ _ (e1.trans e3) (by rw [hkc,hb];rfl) K7
   · simp only [beq_eq_false_iff_ne] at hb
     exact pan _ _ e1 (by rw [hkc,if_pos C1]) K7
 · replace hkc:Ww m r fo to=if y≠2 then 5 else if 1000 < r.bytes.length then 2 else 0:=hkc
   refine YN (XF hC _ 5) (λ w1 e1 hb=>?_) (λ w1 e1 hb=>?_)
   · simp only [beq_iff_eq] at hb
     rw [if_neg C1] at hkc
     have q1:=(Za ((eV.trans e1).obj o6)).1
     simp (disch:=try exact DI) only [↓PR,QR,simprocAttr,q1,↓A7,↓A8,↓A9,↓Ba,↓Bb,↓Bc,↓Bd,↓Be,↓Bf,↓ze,↓zf,↓zg,↓zh,↓zi,↓Ki,↓Jv,↓Kj,↓Jw,↓Jy,↓Jz,↓JA,↓JB]
     refine YN (XF (hC.go e1) _ 2) (λ w3 e3 hb=>?_) (λ w3 e3 hb=>?_)
     · simp only [decide_eq_true_eq] at hb
       exact fin _ (e1.trans e3) (by rw [hkc,if_neg C1])
     · simp only [decide_eq_false_iff_not] at hb
       exact pan _ _ (e1.trans e3) (by rw [hkc,if_pos C1]) K7
   · simp only [beq_eq_false_iff_ne] at hb
     exact pan _ _ e1 (by rw [hkc,if_pos C1]) K7
 · replace hkc:Ww m r fo to=if x≠1∨y≠1 then 5 else Wa r.table:=hkc
   refine YN (XF hC _ 5) (λ w1 e1 hb=>?_) (λ w1 e1 hb=>?_)
   · simp only [Bool.and_eq_true,beq_iff_eq] at hb
     rw [if_neg C1] at hkc
     have q1:=(Za ((eV.trans e1).obj o6)).1
     simp (disch:=try exact DI) only [↓PR,QR,simprocAttr,q1,↓A7,↓A8,↓A9,↓Ba,↓Bb,↓Bc,↓Bd,↓Be,↓Bf,↓ze,↓zf,↓zg,↓zh,↓zi,↓Ki,↓Jv,↓Kj,↓Jw,↓Jy,↓Jz,↓JA,↓JB]
     refine YN (Ze5 (hC.go e1) _ _ (hT.ext (eV.trans e1))) (λ w3 e3 hb=>?_) (λ w3 e3 hb=>?_)
     · exact fin _ (e1.trans e3) (by rw [hkc];simpa using hb)
     · exact pan _ _ (e1.trans e3) hkc (by simpa using hb)
   · simp only [Bool.and_eq_false_iff,beq_eq_false_iff_ne] at hb
     exact pan _ _ e1 (by rw [hkc,if_pos C1]) K7
 · replace hkc:Ww m r fo to=if x≠y∨y < 4 then 5 else No m fo to:=hkc
   refine YN (XF hC _ 5) (λ w1 e1 hb=>?_) (λ w1 e1 hb=>?_)
   · simp only [Bool.and_eq_true,beq_iff_eq,decide_eq_true_eq] at hb
     rw [if_neg C1] at hkc
     cases fo with
     | none=>have:(0:Int)=x:=hx;omega
     | some f=>
     cases to with
     | none=>have:(0:Int)=y:=hy;omega
     | some t=>
     have c1:WG f=x:=hx
     have c2:WG t=y:=hy
     rw [Za6 C1 C1] at hkc
     have e01:=eV.trans e1
     have q2:=(Za (e1.obj oV)).1
     have q3:=(Za (e01.obj o10)).1
     simp (disch:=try exact DI) only [↓PR,QR,simprocAttr,q2,q3,↓A7,↓A8,↓A9,↓Ba,↓Bb,↓Bc,↓Bd,↓Be,↓Bf,↓ze,↓zf,↓zg,↓zh,↓zi,↓Ki,↓Jv,↓Kj,↓Jw,↓Jy,↓Jz,↓JA,↓JB]
     refine YN (Tc (hC.go e1) _ _ f t ⟨_,_,rfl,Z6.ext hTf e01,Yu.ext hCf e01⟩ ⟨_,_,rfl,Z6.ext hTt e01,Yu.ext hTc e01⟩ bf bt) (λ w3 e3 hb=>?_) (λ w3 e3 hb=>?_)
     · exact fin _ (e1.trans e3) (by rw [hkc,if_pos hb])
     · exact pan _ _ (e1.trans e3) (by rw [hkc,hb];rfl) K7
   · simp only [Bool.and_eq_false_iff,beq_eq_false_iff_ne,decide_eq_false_iff_not] at hb
     exact pan _ _ e1 (by rw [hkc,if_pos C1]) K7
 · replace hkc:Ww m r fo to=if y≠1 then 5 else 0:=hkc
   refine YN (XF hC _ 5) (λ w1 e1 hb=>?_) (λ w1 e1 hb=>?_)
   · simp only [beq_iff_eq] at hb
     exact fin _ e1 (by rw [hkc,if_neg C1])
   · simp only [beq_eq_false_iff_ne] at hb
     exact pan _ _ e1 (by rw [hkc,if_pos C1]) K7
end
def VK {k:Int} {u:jt} (h:Xg k=some u):1≤k∧k≤7:=by
 unfold Xg at h
 by_cases h7:1≤k∧k≤7
 · exact h7
 · rw [if_neg C1,if_neg C1,if_neg C1,if_neg C1,if_neg C1,if_neg C1,if_neg C1] at h
   cases h
def JN:jt:=⟨false,false,false,false,false⟩
section
variable {a0 w:Wd} {cb:Nat} {m:Xn} {d e:QF} {ru fi:Int}
def ZiS (h:CkM a0 w cb m d e ru fi) (rv av bv lv:Vl) (r:FrD) (a b:Xr) (l:List FrD) (hr:QI w rv r) (ha:Wo w av a) (hb:Wo w bv b) (hl:Ve w lv l) (hin:inF r=true)
 (ba:∀ f∈a.fields,(YH f).length≤1048576) (bb:∀ f∈b.fields,(YH f).length≤1048576) :
 Calls Pg 77 #[Qq5 cb,rv,av,bv,lv] w (mR w (decide (Cq m r a b l=0)) ru fi (Cq m r a b l)):=by
 obtain ⟨bv1,tv1,rfl,hB,hT,o1,o2⟩:=hr.op
 obtain ⟨fa,rfl,hFa⟩:=ha
 obtain ⟨fb,rfl,hFb⟩:=hb
 have p1:=Zd.oneCell hFa
 have p2:=Zd.oneCell hFb
 have refb:∀ (f:Option Zv),f=Qj b r.to→(YH (f.getD VC)).length≤1048576:=by
  rintro _ rfl
  cases hp:Qj b r.to with
  | none=>decide
  | some f=>exact bb f (List.mem_of_find?_eq_some hp)
 have refa:∀ (f:Option Zv),f=Qj a r.fr→(YH (f.getD VC)).length≤1048576:=by
  rintro _ rfl
  cases hp:Qj a r.fr with
  | none=>decide
  | some f=>exact ba f (List.mem_of_find?_eq_some hp)
 refine ZkN ?_;unfold n31
 rw [YO]
 have oW:=Zt w (Zo r bv1 tv1).toArray 43
 have eW:Ext w (w.alloc (.cells (Zo r bv1 tv1).toArray 43)):=(Ext.refl w).alloc _
 generalize (w.alloc (.cells (Zo r bv1 tv1).toArray 43))=W at oW eW ⊢
 generalize w.heap.size=p6 at oW ⊢
 rw [YO]
 have hBX:=Yr.new (w:=W) (Yj a fa) (74)
 have eX:Ext W (W.alloc (Obj.cells (List.toArray (Yj a fa)) (74))):=(Ext.refl _).alloc _
 generalize (W.alloc (Obj.cells (List.toArray (Yj a fa)) (74)))=X at hBX eX ⊢
 rw [YO]
 have hBY:=Yr.new (w:=X) (Yj b fb) (74)
 have eY:Ext X (X.alloc (Obj.cells (List.toArray (Yj b fb)) (74))):=(Ext.refl _).alloc _
 generalize (X.alloc (Obj.cells (List.toArray (Yj b fb)) (74)))=Y at hBY eY ⊢
 have EY:=eW.trans (eX.trans eY)
 generalize hCC:Cq m r a b l=C
 have pan:∀ w' c,Ext w w'→C=c→c≠0→Zc (mR w (decide (C=0)) ru fi C) [Vw ru fi c] w':=λ w' c e' hc h0=>xv e' (by rw [hc];simpa using h0) hc
 unfold Cq at hCC
 refine Qqb (hBY.c2 (Ext.refl Y)) (Za ((eX.trans eY).obj oW)).1 ?_
 refine Zi (CW Y _ b r.to ⟨_,rfl,hFb.ext EY⟩) ?_
 rintro _ w1 ⟨⟨u,rfl,hu⟩,e1⟩
 obtain ⟨tf,cf,rfl,hTf,hCf,f1,f2⟩:=hu.op
 unfold JB
 refine Qqv ?_
 have oV:=Zt w1 (Zw ((Qj b r.to).getD VC) tf cf).toArray 123
 have eV:Ext w1 (w1.alloc (.cells (Zw ((Qj b r.to).getD VC) tf cf).toArray 123)):=(Ext.refl w1).alloc _
 generalize (w1.alloc (.cells (Zw ((Qj b r.to).getD VC) tf cf).toArray 123))=V at oV eV ⊢
 generalize w1.heap.size=p10 at oV ⊢
 have EV:=EY.trans (e1.trans eV)
 refine YN (XF (h.go EV) _ 5) (λ w2 e2 hb=>?_) (λ w2 e2 hb=>?_)
 case refine_2=>
  simp only [bne_eq_false_iff_eq] at hb
  rw [if_pos hb] at hCC
  exact pan _ _ (EV.trans e2) hCC.symm K7
 simp only [bne_iff_ne,ne_eq] at hb
 rw [if_neg hb] at hCC
 refine Qqv ?_
 refine Zi (WD w2 _ l _ _ (λ x=>decide (x.to=r.to)) (hl.ext (EV.trans e2)) Zjq λ w' v x _ e' hv=>?_) ?_
 · exact Ov w' v x r hv _ bv1 tv1 (((eX.trans eY).trans (e1.trans (eV.trans (e2.trans e')))).obj oW)
 rintro _ w3 ⟨rfl,e3⟩
 have E3:=EV.trans (e2.trans e3)
 unfold JA
 refine Qqv ?_
 refine YN (XF (h.go E3) _ 4) (λ w4 e4 hq=>?_) (λ w4 e4 hq=>?_)
 case refine_2=>
  simp only [Bool.not_eq_false'] at hq
  rw [if_pos hq] at hCC
  exact pan _ _ (E3.trans e4) hCC.symm K7
 simp only [Bool.not_eq_true'] at hq
 rw [hq,if_neg (by simp)] at hCC
 have E4:=E3.trans e4
 have rest:∀ (w5:Wd) (p12:Nat) (us:Option jt),us=Xg r.kind→Ext w4 w5→w5.heap[p12]?=some (.cells #[.bool (us.getD JN).fr,.bool (us.getD JN).add,.bool (us.getD JN).value,.bool (us.getD JN).bytes,.bool (us.getD JN).table] 105 (0,0)) →
  ZU Pg 33 #[Qq5 cb,.bool us.isSome,.int .i64 6] (Zc (mR w (decide (C=0)) ru fi C)) w5 λ _ w6=>Kj (Qq5 cb) (Qq5 p6) (Qq5 W.heap.size) (Qq5 p10) (Qq5 p12) (.int .i64 (Ej (Qj b r.to))) (mR w (decide (C=0)) ru fi C) w6:=by
  intro w5 p12 us hus e5 o12
  have E5:=E4.trans e5
  rw [← hus] at hCC
  refine YN (XF (h.go E5) _ 6) (λ w6 e6 hq=>?_) (λ w6 e6 hq=>?_)
  case refine_2=>
   cases us with
   | some _=>cases hq
   | none=>exact pan _ _ (E5.trans e6) hCC.symm K7
  cases us with
  | none=>cases hq
  | some x=>
  have E6:=E5.trans e6
  have e46:=e5.trans e6
  have hk:=VK hus.symm
  have o6:w6.heap[p6]?=some (.cells (Zo r bv1 tv1).toArray 43 (0,0)):=((eX.trans eY).trans (e1.trans (eV.trans (e2.trans (e3.trans (e4.trans e46)))))).obj oW
  have q12:=(Za (e6.obj o12)).1
  unfold Kj
  refine Qqb (Za o6).1 q12 ?_
  refine zcr (CP w6 _ r ⟨_,_,rfl,hB.ext E6,hT.ext E6⟩ x) λ w7 e7=>?_
  replace hCC:(if Wq r x=false then 7 else Ww m r (Qj a r.fr) (Qj b r.to))=C:=hCC
  have E7:=E6.trans e7
  refine YN (XF (h.go E7) _ 7) (λ w8 e8 hq=>?_) (λ w8 e8 hq=>?_)
  case refine_2=>
   rw [if_pos hq] at hCC
   exact pan _ _ (E7.trans e8) hCC.symm K7
  rw [hq,if_neg K7] at hCC
  have E8:=E7.trans e8
  have e68:=e7.trans e8
  have e48:=e46.trans e68
  have eV8:Ext V w8:=e2.trans (e3.trans (e4.trans e48))
  unfold Jv
  refine Qqb (hBX.c2 (eY.trans (e1.trans (eV.trans eV8)))) (Za (e68.obj o6)).1 ?_
  refine Zi (CW w8 _ a r.fr ⟨_,rfl,hFa.ext E8⟩) ?_
  rintro _ w9 ⟨⟨u2,rfl,hu2⟩,e9⟩
  rw [← hCC]
  have E9:=E8.trans e9
  exact Th (h.go E9) E9 r bv1 tv1 ((e68.trans e9).obj o6) (hT.ext E9) (hB.ext E9) (Qj a r.fr) (Qj b r.to) tf cf ((eV8.trans e9).obj oV) (hTf.ext (eV.trans (eV8.trans e9))) (hCf.ext (eV.trans (eV8.trans e9))) u2 hu2 (refa _ rfl) (refb _ rfl) hk hin
 refine ZB ?_
 unfold Jz
 have eD:Ext w4 w4.drew:=(Ext.refl _).wdrew
 have o64:w4.heap[p6]?=some (.cells (Zo r bv1 tv1).toArray 43 (0,0)):=((eX.trans eY).trans (e1.trans (eV.trans (e2.trans (e3.trans e4))))).obj oW
 refine Qqh (Za o64).1 ?_
 have hget:((Xg r.kind).map CG).getD (.agg #[.bool false,.bool false,.bool false,.bool false,.bool false]) = .agg #[.bool ((Xg r.kind).getD JN).fr,.bool ((Xg r.kind).getD JN).add,.bool ((Xg r.kind).getD JN).value,.bool ((Xg r.kind).getD JN).bytes,.bool ((Xg r.kind).getD JN).table]:=by cases Xg r.kind<;>rfl
 refine ⟨?_,(Ext.refl _).alloc _,?_⟩
 · refine Zi (Kg _) ?_
   rintro _ w6 ⟨mm,L,c,rfl,hm,hM,hL,e6⟩
   refine V6 e6 hM ?_
   unfold Jw
   simp only [Ke]
   rw [Vm underlying106 (QJ.int underlying39) U8 ⟨w6,e6,hM⟩,hL r.kind,hget,Option.isSome_map]
   haveI:Yk (KM w4.drew mm XE L c):=⟨⟨w6,e6,hM⟩⟩
   refine Qqv ?_
   exact ⟨⟨e6.alloc _,hM.ext ((Ext.refl _).alloc _)⟩,⟨e6.alloc _,hM.ext ((Ext.refl _).alloc _)⟩,rest _ _ _ rfl (eD.trans (e6.alloc _)) (Zt _ _ _)⟩
 · refine Zi (Kg _) ?_
   rintro _ w6 ⟨mm,L,c,rfl,hm,hM,hL,e6⟩
   have e6':=((Ext.refl w4.drew).alloc (Obj.cells #[Value.bool false,Value.bool false,Value.bool false,Value.bool false,Value.bool false] 105)).trans e6
   refine V6 e6' hM ?_
   unfold Jy
   simp only [Ke]
   rw [Vm underlying106 (QJ.int underlying39) U8 ⟨w6,e6',hM⟩,hL r.kind,hget,Option.isSome_map]
   haveI:Yk (KM w4.drew mm XE L c):=⟨⟨w6,e6',hM⟩⟩
   have o12:w6.heap[w4.heap.size]?=some (.cells #[Value.bool false,Value.bool false,Value.bool false,Value.bool false,Value.bool false] 105 (0,0)):=e6.obj (Zt w4.drew #[Value.bool false,Value.bool false,Value.bool false,Value.bool false,Value.bool false] 105)
   refine Qqb (Za o12).1 (Za o12).2 ?_
   generalize hU:(Xg r.kind).getD JN=U at rest
   have z:=Zy (o:=4) (Zy (o:=3) (Zy (o:=2) (Zy (o:=1) (Zy (o:=0) o12 (.bool U.fr)) (.bool U.add)) (.bool U.value)) (.bool U.bytes)) (.bool U.table)
   have hz:w4.drew.heap.size≤w4.heap.size:=Nat.le_refl _
   have eZ:=((((e6'.setCell (p:=⟨w4.heap.size,0,none⟩) hz (.bool U.fr)).setCell (p:=⟨w4.heap.size,1,none⟩) hz (.bool U.add)).setCell (p:=⟨w4.heap.size,2,none⟩) hz (.bool U.value)).setCell (p:=⟨w4.heap.size,3,none⟩) hz (.bool U.bytes)).setCell (p:=⟨w4.heap.size,4,none⟩) hz (.bool U.table)
   exact ⟨⟨eZ,((((hM.setCell _ _).setCell _ _).setCell _ _).setCell _ _).setCell _ _⟩,rest _ _ _ rfl (eD.trans eZ) (by rw [hU];simpa using z)⟩
end
section
variable {a0 w:Wd} {cb:Nat} {m:Xn} {d e:QF} {ru fi:Int}
def msR (a0:Wd) (cb:Nat) (m:Xn) (d e:QF) (ru:Int) (q:Int×Int):Ending→Wd→Prop:=λ x w'=>Ext a0 w'∧(q.2=0∧x = .returned (.tuple #[])∧CkM a0 w' cb m d e ru (-1)∨q.2≠0∧x = .panicked [Vw ru q.1 q.2])
def jK {w':Wd} {q:Int×Int} {f c:Int} (x:Ext a0 w') (h:q=(f,c)) (h0:c≠0):Zc (msR a0 cb m d e ru q) [Vw ru f c] w':=⟨x,.inr ⟨by rw [h];exact h0,by rw [h]⟩⟩
def Zd.pre {α:Type} {w:Wd} {n:Nat} {E:Wd→List Vl→α→Prop} {A:Option Addr} {c:Nat} {l:List α} (h:Zd w n E (.slice A l.length c) l) (k:Nat) (hk:k≤l.length):Zd w n E (.slice A k c) (l.take k):=by
 obtain ⟨A',c',hv,h2,h3,h4⟩:=h
 injection hv with hA _ hc
 subst hA hc
 have hl:(l.take k).length=k:=by rw [List.length_take];omega
 refine ⟨_,_,by rw [hl],by rw [hl];omega,h3,λ Y7=>?_⟩
 obtain ⟨b,o,hA,Xj⟩:=h4 (by rintro rfl;simp at Y7)
 refine ⟨b,o,hA,λ i y hy=>Xj i y ?_⟩
 rw [List.getElem?_take] at hy
 split at hy
 · exact hy
 · cases hy
def Ol (h:CkM a0 w cb m d e ru fi) (l:List FrD) (fv:Vl) (hF:Ve a0 fv l) (b:Xr) (fb:Vl) (hFb:YR a0 fb b.fields) (p3 p6:Nat) (n3:p3≠cb) (n6:p6≠cb) (fr to:BAr) (o3:w.heap[p3]?=some (.cells #[.string fr,.string to,fv] 60 (0,0))) (o6:w.heap[p6]?=some (.cells (Yj b fb).toArray 74 (0,0)))
 (Q:Int×Int) (hq:Q=if (b.fields.any (GD l))=true then (-1,10) else (-1,0)) :
 Dh (Qq5 cb) (Qq5 p3) (Qq5 p6) (msR a0 cb m d e ru Q) w:=by
 obtain ⟨rv',dv,ev,q,hRv,hdv,hev⟩:=h.obj
 have p1:=Zd.oneCell hF
 obtain ⟨A,c,rfl,hlc,hcm,hlm,Xj⟩:=Zd.open hFb
 unfold Dh
 refine Qqm (Za q).1 (Za q).2 (Za o6).1 ?_
 have hC2:=h.setField (-1)
 have y3:=(YA.setCell w cb 9 (.int .i64 (-1)) p3 n3).trans o3
 have y6:=(YA.setCell w cb 9 (.int .i64 (-1)) p6 n6).trans o6
 generalize (w.setCell ⟨cb,9,none⟩ (.int .i64 (-1)))=X at hC2 y3 y6 ⊢
 refine ZL (λ i w'=>∃ k:Nat,i = .int .i64 k∧k≤b.fields.length∧Ext X w'∧b.fields.any (GD l)=(b.fields.drop k).any (GD l)) (λ i _=>b.fields.length - (intOf i).toNat) ⟨0,rfl,by omega,Ext.refl _,rfl⟩ ?_
 rintro _ w1 ⟨k,rfl,hk,e1,hR⟩
 have E1:=hC2.ext.trans e1
 rcases ZY hk with ⟨x,hx,hdr,Yo,ZT⟩ | ⟨hk,hdr,ZT⟩
 · obtain ⟨bt,ot,cst,rfl,_,hAt,hE⟩:=Xj k x hx
   obtain ⟨tv,cv,rfl,hT,hC,t1,c1⟩:=hE.op
   rw [hdr,List.any_cons] at hR
   refine Qqh ZT ?_
   unfold Hr
   refine Qqh (hAt.c15 E1) ?_
   have oV:=Zt w1 (Zw x tv cv).toArray 123
   have eV:Ext w1 (w1.alloc (.cells (Zw x tv cv).toArray 123)):=(Ext.refl w1).alloc _
   generalize (w1.alloc (.cells (Zw x tv cv).toArray 123))=V at oV eV ⊢
   generalize w1.heap.size=p13 at oV ⊢
   have e2:=e1.trans eV
   have E2:=hC2.ext.trans e2
   refine Qqh (Za (e2.obj y3)).1 ?_
   refine zcr (WD V _ l _ _ (λ y=>decide (y.to=x.name)) (hF.ext E2) c79 λ w' v y _ e' hv=>AG w' v y x hv _ tv cv (e'.obj oV)) λ w3 e3=>?_
   have e13:=e2.trans e3
   have fin:∀ (w4:Wd) (bb:Bool),Ext X w4→bb=!GD l x→ZU Pg 33 #[Qq5 cb,.bool bb,.int .i64 10] (Zc (msR a0 cb m d e ru Q)) w4 λ _ w5=>opV Pg (ZA .add 3 true (.int .i64 k) (.int .i64 1)) (Zc (msR a0 cb m d e ru Q)) w5 λ i w'=>(∃ k:Nat,i = .int .i64 k∧k≤b.fields.length∧Ext X w'∧b.fields.any (GD l)=(b.fields.drop k).any (GD l))∧b.fields.length - (intOf i).toNat < b.fields.length - (intOf (Value.int IntKind.i64 k)).toNat:=by
    rintro w4 bb e4 rfl
    refine YN (XF (hC2.go e4) _ 10) (λ w5 e5 hb=>?_) (λ w5 e5 hb=>?_)
    · simp only [Bool.not_eq_true'] at hb
      rw [hb,Bool.false_or] at hR
      refine Qqv ?_
      exact ⟨⟨k+1,rfl,Yo,e4.trans e5,hR⟩,Yh (kd := .i64) Yo⟩
    · simp only [Bool.not_eq_false'] at hb
      rw [hb,Bool.true_or] at hR
      exact jK (hC2.ext.trans (e4.trans e5)) (by rw [hq,if_pos hR]) K7
   unfold Hq
   unfold GD at fin
   generalize (l.any λ y=>decide (y.to=x.name))=g at fin
   cases g with
   | true=>
    simp (disch:=try exact DI) only [↓PR,QR,simprocAttr,↓Hp,↓M6,↓Hq,↓Hr,↓Dh,↓Hs,↓Di,↓Ht,↓Hu,↓xO,↓AZ,↓A3,↓xP,↓A4,↓A5,↓A6]
    exact fin w3 _ e13 (by simp)
   | false=>
    simp (disch:=try exact DI) only [↓PR,QR,simprocAttr,↓Hp,↓M6,↓Hq,↓Hr,↓Dh,↓Hs,↓Di,↓Ht,↓Hu,↓xO,↓AZ,↓A3,↓xP,↓A4,↓A5,↓A6,(Za (e3.obj oV)).1]
    refine zcr (qA w3 _ x ⟨_,_,rfl,hT.ext (E2.trans e3),hC.ext (E2.trans e3)⟩) λ w4 e4=>?_
    simp (disch:=try exact DI) only [↓PR,QR,simprocAttr,↓Hp,↓M6,↓Hq,↓Hr,↓Dh,↓Hs,↓Di,↓Ht,↓Hu,↓xO,↓AZ,↓A3,↓xP,↓A4,↓A5,↓A6]
    exact fin w4 _ (e13.trans e4) (by by_cases hz:WG x=0<;>simp [hz])
 · subst hk
   rw [hdr,List.any_nil] at hR
   rw [hR,if_neg (by simp)] at hq
   refine Qqh ZT ?_
   exact ⟨E1,.inl ⟨by rw [hq],rfl,hC2.go e1⟩⟩
def PB (h:CkM a0 w cb m d e ru (-1)) (r:MrD) (fv:Vl) (hF:Ve a0 fv r.fields) (a b:Xr) (fa fb:Vl) (hFa:YR a0 fa a.fields) (hFb:YR a0 fb b.fields) (hin:∀ x∈r.fields,inF x=true)
 (ba:∀ f∈a.fields,(YH f).length≤1048576) (bb:∀ f∈b.fields,(YH f).length≤1048576) (p3 p4 p6:Nat) (n3:p3≠cb) (n4:p4≠cb) (n6:p6≠cb) (o3:w.heap[p3]?=some (.cells (YZ r fv).toArray 60 (0,0))) (o4:w.heap[p4]?=some (.cells (Yj a fa).toArray 74 (0,0))) (o6:w.heap[p6]?=some (.cells (Yj b fb).toArray 74 (0,0)))
 (Q:Int×Int) (hq:Q=if (Wm m a b r.fields 0 r.fields).2≠0 then Wm m a b r.fields 0 r.fields else if (b.fields.any (GD r.fields))=true then (-1,10) else (-1,0)) :
 Di (Qq5 cb) (Qq5 p3) (Qq5 p4) (Qq5 p6) (msR a0 cb m d e ru Q) w:=by
 obtain ⟨A,c,rfl,hlc,hcm,hlm,Xj⟩:=Zd.open hF
 have p1:=Zd.oneCell hFa
 have p2:=Zd.oneCell hFb
 unfold Di
 refine Qqh (Za o3).1 ?_
 refine ZL (λ i w'=>∃ (k:Nat) (fl:Int),i = .int .i64 k∧k≤r.fields.length∧CkM a0 w' cb m d e ru fl∧w'.heap[p3]?=some (.cells (YZ r (.slice A r.fields.length c)).toArray 60 (0,0))∧w'.heap[p4]?=some (.cells (Yj a fa).toArray 74 (0,0))∧w'.heap[p6]?=some (.cells (Yj b fb).toArray 74 (0,0))∧Wm m a b r.fields 0 r.fields=Wm m a b r.fields k (r.fields.drop k)) (λ i _=>r.fields.length - (intOf i).toNat) ⟨0,-1,rfl,by omega,h,o3,o4,o6,rfl⟩ ?_
 rintro _ w1 ⟨k,fl,rfl,hk,hC,x3,x4,x6,hR⟩
 obtain ⟨rv',dv,ev,q,hRv,hdv,hev⟩:=hC.obj
 rcases ZY hk with ⟨x,hx,hdr,Yo,ZT⟩ | ⟨hk,hdr,ZT⟩
 · obtain ⟨bt,ot,cst,rfl,_,hAt,hE⟩:=Xj k x hx
   obtain ⟨bv1,tv1,rfl,hB,hT,z1,z2⟩:=hE.op
   refine Qqh ZT ?_
   unfold Hs
   have lcb:=(Qqj q).1
   refine Qqh (hAt.c7 hC.ext) ?_
   have oV:=Zt w1 (Zo x bv1 tv1).toArray 43
   have eV:Ext w1 (w1.alloc (.cells (Zo x bv1 tv1).toArray 43)):=(Ext.refl w1).alloc _
   generalize (w1.alloc (.cells (Zo x bv1 tv1).toArray 43))=V at oV eV ⊢
   have n11:w1.heap.size≠cb:=C1
   generalize w1.heap.size=p11 at oV n11 ⊢
   have qV:=Za (eV.obj q)
   refine Qqm (Za q).1 qV.1 qV.2 ?_
   have hC2:=(hC.go eV).setField (k:Int)
   have y3:=(YA.setCell V cb 9 (.int .i64 (k:Int)) p3 n3).trans (eV.obj x3)
   have y4:=(YA.setCell V cb 9 (.int .i64 (k:Int)) p4 n4).trans (eV.obj x4)
   have y6:=(YA.setCell V cb 9 (.int .i64 (k:Int)) p6 n6).trans (eV.obj x6)
   have y11:=(YA.setCell V cb 9 (.int .i64 (k:Int)) p11 n11).trans oV
   generalize (V.setCell ⟨cb,9,none⟩ (.int .i64 (k:Int)))=X at hC2 y3 y4 y6 y11 ⊢
   refine ZB ?_
   unfold Hp
   refine Qqp (Za y3).1 (Za y4).1 (Za y6).1 (Za y11).1 ?_
   rw [Yc λ QP w' k'=>Uf underlying58 Vr bt ot r.fields.length c .i64 k C1]
   refine Qqv ?_
   have eD:Ext X X.drew:=(Ext.refl X).wdrew
   have E:=hC2.ext.trans eD
   have YJ:(r.fields.take k).length=k:=by rw [List.length_take];omega
   have XY:Wm m a b r.fields 0 r.fields=if Cq m x a b (r.fields.take k)≠0 then ((k:Int),Cq m x a b (r.fields.take k)) else Wm m a b r.fields (k+1) (r.fields.drop (k+1)):=by rw [hR,hdr,Wm]
   refine YN (ZiS (hC2.go eD) _ _ _ _ x a b (r.fields.take k) ⟨_,_,rfl,hB.ext E,hT.ext E⟩ ⟨_,rfl,hFa.ext E⟩ ⟨_,rfl,hFb.ext E⟩ ((Zd.pre hF k C1).ext PY E) (hin x (List.mem_of_getElem? hx)) ba bb) (λ w5 e5 hb=>?_) (λ w5 e5 hb=>?_)
   · have h0:Cq m x a b (r.fields.take k)=0:=by simpa using hb
     rw [if_neg (by simpa using h0)] at XY
     refine ⟨e5,?_⟩
     have e':=eD.trans e5
     refine Qqv ?_
     exact ⟨⟨k+1,k,rfl,Yo,hC2.go e',e'.obj y3,e'.obj y4,e'.obj y6,XY⟩,Yh (kd := .i64) Yo⟩
   · have h0:Cq m x a b (r.fields.take k)≠0:=by simpa using hb
     rw [if_pos h0] at XY
     exact jK (E.trans e5) (by rw [hq,XY,if_pos h0]) h0
 · subst hk
   rw [hdr,Wm] at hR
   rw [hR,if_neg (by simp)] at hq
   refine Qqh ZT ?_
   exact Ol hC r.fields _ hF b fb hFb p3 p6 n3 n6 r.fr r.to x3 x6 Q hq
def I3 (h:CkM a0 w cb m d e ru (-1)) (i:Nat) (hru:ru=i) (rv:Vl) (r:MrD) (hr:zO a0 rv r) (hri:m.rules[i]?=some r) (hin:∀ x∈r.fields,inF x=true)
 (bd:∀ x∈d.msgs,∀ f∈x.fields,(YH f).length≤1048576) (be:∀ x∈e.msgs,∀ f∈x.fields,(YH f).length≤1048576) :
 Calls Pg 36 #[Qq5 cb,rv] w (msR a0 cb m d e ru (DN m d e i r)):=by
 obtain ⟨fv,rfl,hF,o1⟩:=hr.op
 have E0:=h.ext
 refine ZkJ ?_;unfold n27
 rw [YO]
 have oW:=Zt w (YZ r fv).toArray 60
 have eW:Ext w (w.alloc (.cells (YZ r fv).toArray 60)):=(Ext.refl w).alloc _
 generalize (w.alloc (.cells (YZ r fv).toArray 60))=W at oW eW ⊢
 have lcb0:cb < w.heap.size:=by obtain ⟨_,_,_,z,_⟩:=h.obj;exact (Qqj z).1
 generalize w.heap.size=p3 at oW lcb0 ⊢
 have hC:=h.go eW
 obtain ⟨rv',dv,ev,q,hRv,hdv,hev⟩:=hC.obj
 have d1:=Zd.oneCell hdv
 have d2:=Zd.oneCell hev
 generalize hq:DN m d e i r=Q
 refine ZB ?_
 unfold A6
 refine Qqb (Za q).1 (Za oW).1 ?_
 obtain ⟨A,hA⟩:∃ A,Hn d r.fr=A:=⟨_,rfl⟩
 obtain ⟨B,hB⟩:∃ B,Hn e r.to=B:=⟨_,rfl⟩
 have rest2:∀ (w5:Wd) (p4 p6:Nat) (fa fb:Vl),Ext W w5→p4≠cb→p6≠cb→w5.heap[p4]?=some (.cells (Yj (A.getD J8) fa).toArray 74 (0,0))→YR a0 fa (A.getD J8).fields→w5.heap[p6]?=some (.cells (Yj (B.getD J8) fb).toArray 74 (0,0))→YR a0 fb (B.getD J8).fields →
  xO (Qq5 cb) (Qq5 p3) (Qq5 p4) (.bool A.isSome) (Qq5 p6) (.bool B.isSome) (msR a0 cb m d e ru Q) w5:=by
  intro w5 p4 p6 fa fb e5 n4 n6 o4 hFa o6 hFb
  have hC5:=hC.go e5
  unfold xO
  refine Qqv ?_
  refine YN (XF hC5 _ 3) (λ w7 e7 hb=>?_) (λ w7 e7 hb=>?_)
  case refine_2=>
   refine jK (hC5.ext.trans e7) ?_ K7
   rw [← hq]
   unfold DN
   rw [hA,hB]
   cases A with
   | none=>rfl
   | some a=>cases B with
    | none=>rfl
    | some b=>cases hb
  cases A with
  | none=>cases hb
  | some a=>
  cases B with
  | none=>cases hb
  | some b=>
  replace hq:(if GL m r.fr≠some i then ((-1:Int),(4:Int)) else if (Wm m a b r.fields 0 r.fields).2≠0 then Wm m a b r.fields 0 r.fields else if (b.fields.any (GD r.fields))=true then (-1,10) else (-1,0))=Q:=by
   rw [← hq];unfold DN;rw [hA,hB]
  have ham:=List.mem_of_find?_eq_some hA
  have hbm:=List.mem_of_find?_eq_some hB
  have hC7:=hC5.go e7
  have q7:=Za ((e5.trans e7).obj q)
  have r7:=Za ((e5.trans e7).obj oW)
  have rv1:=Zd.oneCell hRv
  refine ZB ?_
  unfold Hu
  refine Qqm q7.1 q7.2 r7.1 ?_
  refine zcr (j5 _ _ m r.fr ⟨_,rfl,hRv.ext hC7.ext.wdrew⟩) λ w8 e8=>?_
  refine ⟨e8,?_⟩
  have e78:=(Ext.refl w7).wdrew.trans e8
  have q8:=Za (((e5.trans e7).trans e78).obj q)
  have r8:=Za (((e5.trans e7).trans e78).obj oW)
  have hC8:=hC7.go e78
  unfold Ht
  refine Qqm q8.1 q8.2 r8.1 ?_
  obtain ⟨j,hj⟩:∃ j,GL m r.fr=some j:=by
   rcases Mx (λ x:MrD=>decide (x.fr=r.fr)) m.rules with ⟨h1,_⟩ | ⟨k,x,_,_,h2,_⟩
   · have:=List.find?_eq_none.1 h1 r (List.mem_of_getElem? hri)
     simp at this
   · exact ⟨k,h2⟩
  rw [hj] at hq
  rw [hj,Option.getD_some]
  refine YN (XF hC8 _ 4) (λ w9 e9 hb=>?_) (λ w9 e9 hb=>?_)
  case refine_2=>
   refine jK (hC8.ext.trans e9) ?_ K7
   rw [← hq,if_pos]
   rintro h
   injection h with h
   rw [hru,h] at hb
   simp at hb
  rw [if_neg (by rw [hru] at hb;simp only [beq_iff_eq] at hb;intro h;apply h;congr 1;omega)] at hq
  exact PB (hC8.go e9) r fv hF a b fa fb hFa hFb hin (bd a ham) (be b hbm) p3 p4 p6 C1 n4 n6 ((e5.trans (e7.trans (e78.trans e9))).obj oW) ((e7.trans (e78.trans e9)).obj o4) ((e7.trans (e78.trans e9)).obj o6) Q hq.symm
 have rest1:∀ (w5:Wd) (p4:Nat) (fa:Vl),Ext W w5→p4≠cb→w5.heap[p4]?=some (.cells (Yj (A.getD J8) fa).toArray 74 (0,0))→YR a0 fa (A.getD J8).fields →
  Z4 w5 λ C3 w6=>xP (Qq5 cb) (Qq5 p3) (Qq5 p4) (.bool A.isSome) C3 (msR a0 cb m d e ru Q) w6:=by
  intro w5 p4 fa e5 n4 o4 h4
  refine ZB ?_
  unfold xP
  have q5:=Za (e5.obj q)
  have r5:=Za (e5.obj oW)
  have lcb:=(Qqj (e5.obj q)).1
  have E5:=hC.ext.trans e5
  refine Qqb q5.1 r5.1 ?_
  refine ⟨?_,(Ext.refl _).alloc _,?_⟩
  · refine Zi (Us a0 _ E5.wdrew _ e r.to ⟨_,rfl,hev⟩) ?_
    rintro _ w6 ⟨⟨u,rfl,fb,rfl,hFb⟩,e6⟩
    rw [hB] at hFb ⊢
    have g1:=Zd.oneCell hFb
    refine ⟨e6,?_⟩
    unfold AZ
    refine Qqv ?_
    have sz:=e6.size
    exact ⟨e6.alloc _,e6.alloc _,rest2 _ _ _ fa fb (e5.wdrew.trans (e6.alloc _)) n4 (by have:w5.drew.heap.size=w5.heap.size:=rfl;omega) ((((Ext.refl w5).wdrew.trans e6).alloc _).obj o4) h4 (Zt _ _ _) hFb⟩
  · refine Zi (Us a0 _ (E5.wdrew.alloc _) _ e r.to ⟨_,rfl,hev⟩) ?_
    rintro _ w6 ⟨⟨u,rfl,fb,rfl,hFb⟩,e6⟩
    rw [hB] at hFb ⊢
    have g1:=Zd.oneCell hFb
    have e6':=((Ext.refl w5.drew).alloc _).trans e6
    have o6:w6.heap[w5.heap.size]?=some (.cells #[.string Qqk,.slice none 0 0] 74 (0,0)):=e6.obj (Zt w5.drew _ _)
    unfold A3
    refine Qqb (Za o6).1 (Za o6).2 ?_
    have hz:w5.drew.heap.size≤w5.heap.size:=Nat.le_refl _
    have eZ:=(e6'.setCell (p:=⟨w5.heap.size,0,none⟩) hz (.string (B.getD J8).name)).setCell (p:=⟨w5.heap.size,1,none⟩) hz fb
    have z:=Zy (o:=1) (Zy (o:=0) o6 (.string (B.getD J8).name)) fb
    exact ⟨e6',eZ,rest2 _ _ _ fa fb (e5.wdrew.trans eZ) n4 C1 (((Ext.refl w5).wdrew.trans eZ).obj o4) h4 (by simpa using z) hFb⟩
 have lcb:=(Qqj q).1
 refine ⟨?_,(Ext.refl _).alloc _,?_⟩
 · refine Zi (Us a0 _ hC.ext.wdrew _ d r.fr ⟨_,rfl,hdv⟩) ?_
   rintro _ w6 ⟨⟨u,rfl,fb,rfl,hFb⟩,e6⟩
   rw [hA] at hFb ⊢
   have g1:=Zd.oneCell hFb
   refine ⟨e6,?_⟩
   unfold A4
   refine Qqv ?_
   have sz:=e6.size
   exact ⟨e6.alloc _,e6.alloc _,rest1 _ _ fb ((Ext.refl W).wdrew.trans (e6.alloc _)) (by have:W.drew.heap.size=W.heap.size:=rfl;omega) (Zt _ _ _) hFb⟩
 · refine Zi (Us a0 _ (hC.ext.wdrew.alloc _) _ d r.fr ⟨_,rfl,hdv⟩) ?_
   rintro _ w6 ⟨⟨u,rfl,fb,rfl,hFb⟩,e6⟩
   rw [hA] at hFb ⊢
   have g1:=Zd.oneCell hFb
   have e6':=((Ext.refl W.drew).alloc _).trans e6
   have o6:w6.heap[W.heap.size]?=some (.cells #[.string Qqk,.slice none 0 0] 74 (0,0)):=e6.obj (Zt W.drew _ _)
   unfold A5
   refine Qqb (Za o6).1 (Za o6).2 ?_
   have hz:W.drew.heap.size≤W.heap.size:=Nat.le_refl _
   have eZ:=(e6'.setCell (p:=⟨W.heap.size,0,none⟩) hz (.string (A.getD J8).name)).setCell (p:=⟨W.heap.size,1,none⟩) hz fb
   have z:=Zy (o:=1) (Zy (o:=0) o6 (.string (A.getD J8).name)) fb
   exact ⟨e6',eZ,rest1 _ W.heap.size fb ((Ext.refl W).wdrew.trans eZ) C1 (by simpa using z) hFb⟩
end
def zH (m:Xn) (d e:QF):Bool:=match m.rules.find? λ r=>decide (r.fr=d.start) with
 | none=>false
 | some r=>decide (r.to=e.start)
def IM (m:Xn) (d e:QF) (q:Int×Int×Int):Option (Int×Int×Int):=if q.2.2≠0 then some q else if zH m d e=true then none else some (-1,-1,11)
def Gv (m:Xn) (d e:QF):Option (Int×Int×Int):=
 if (!Qk d&&!Qk e)=false then some (-1,-1,0) else if Yq m.name=false then some (-1,-1,1) else if ¬ (1≤m.rules.length∧m.rules.length≤60) then some (-1,-1,2) else IM m d e (zE m d e 0 m.rules)
def Ew (o:Option (Int×Int×Int)):Vl := .tuple #[VF (o.getD (0,0,0)).1 (o.getD (0,0,0)).2.1 (o.getD (0,0,0)).2.2,.bool o.isSome]
def LR {P:Program} {QP:PEn} {w:Wd} {k:KV} {xt t:TypeId} {d:TypeDesc} (hu:P.underlying t=some d) (hn:(match d with | .interface _=>false | _=>true)=true) (v:Vl):opV P (Instr.typeAssert (.iface t v) xt t false) QP w k=k v w:=by
 refine ZV ?_
 unfold Instr.typeAssert
 simp only [Sem.run_bind,run_underlying hu,Result.andThen_ok]
 cases d<;>simp at hn<;>simp
abbrev Wp (p3 p4:Nat):Deferred:={ target := .fn (.func 32) #[Qq5 p3,Qq5 p4],args := #[] }
def IF {p3 p4:Nat} {w:Wd} {k:FrameMode→Wd→Prop} (h:k .returning w):jy Pg [Wp p3 p4] .returning w k:=by
 refine ⟨by simp,.inr ⟨.func 32,_,32,#[Qq5 p3,Qq5 p4],rfl,?_,?_⟩⟩
 · exact Qi c32 _ w
 · refine ZhL ?_
   unfold n15
   show opV _ (ZA .neq _ true .nilIface .nilIface) _ _ _
   rw [Ud underlying20]
   refine Qqv ?_
   exact h
def IE {p3 p4:Nat} {w:Wd} {k:FrameMode→Wd→Prop} {a f c:Int} {x0 x1 x2 y:Vl} (o3:w.heap[p3]?=some (.cells #[x0,x1,x2] 34 (0,0))) (o4:w.heap[p4]?=some (.cells #[y] 4 (0,0)))
 (h:k .returning ((((w.setCell ⟨p3,0,none⟩ (.int .i64 a)).setCell ⟨p3,1,none⟩ (.int .i64 f)).setCell ⟨p3,2,none⟩ (.int .i64 c)).setCell ⟨p4,0,none⟩ (.bool true))):jy Pg [Wp p3 p4] (.panicking [Vw a f c]) w k:=by
 have Y7:p3≠p4:=by rintro rfl;rw [o3] at o4;cases o4
 refine ⟨by simp,.inr ⟨.func 32,_,32,#[Qq5 p3,Qq5 p4],rfl,?_,?_⟩⟩
 · exact Qi c32 _ w
 · refine ZhL ?_
   rw [show recM (.panicking [Vw a f c])=(.iface 82 (VF a f c),.panicking [{ v := .iface 82 (VF a f c),recovered:=true }]) from rfl]
   unfold n15
   rw [Ue underlying20]
   refine Qqv ?_
   unfold ZbS
   rw [LR underlying82 rfl]
   refine Qqp (Za o3).1 (Za o3).2 (Za o4).1 (Za o4).2 ?_
   exact h
section
variable {w0:Wd}
abbrev Fj (p3 p4:Nat):List (Option TypeId×Vl):=[(some 34,Qq5 p3),(some 4,Qq5 p4)]
def xw (w0:Wd) (o:Option (Int×Int×Int)) (r:Vl) (w':Wd):Prop:=r=Ew o∧Ext w0 w'
def Za1 {w:Wd} {o:Option (Int×Int×Int)} {p3 p4:Nat} {a f c:Int} {x0 x1 x2 y:Vl} (e:Ext w0 w) (h3:w0.heap.size≤p3) (h4:w0.heap.size≤p4) (o3:w.heap[p3]?=some (.cells #[x0,x1,x2] 34 (0,0))) (o4:w.heap[p4]?=some (.cells #[y] 4 (0,0)))
 (h:o=some (a,f,c)):ZD Pg [Wp p3 p4] (Fj p3 p4) (ZE (xw w0 o)) [Vw a f c] w:=by
 have Y7:p3≠p4:=by rintro rfl;rw [o3] at o4;cases o4
 unfold ZD
 refine IE o3 o4 ?_
 have q3:=Zy (o:=2) (Zy (o:=1) (Zy (o:=0) o3 (.int .i64 a)) (.int .i64 f)) (.int .i64 c)
 have e1:Ext w0 ((((w.setCell ⟨p3,0,none⟩ (.int .i64 a)).setCell ⟨p3,1,none⟩ (.int .i64 f)).setCell ⟨p3,2,none⟩ (.int .i64 c)).setCell ⟨p4,0,none⟩ (.bool true)):=(((e.setCell h3 _).setCell h3 _).setCell h3 _).setCell h4 _
 have q4:=Zy (o:=0) ((YA.setCell ((w.setCell ⟨p3,0,none⟩ (.int .i64 a)).setCell ⟨p3,1,none⟩ (.int .i64 f)) p3 2 (.int .i64 c) p4 C1).trans ((YA.setCell (w.setCell ⟨p3,0,none⟩ (.int .i64 a)) p3 1 (.int .i64 f) p4 C1).trans ((YA.setCell w p3 0 (.int .i64 a) p4 C1).trans o4))) (.bool true)
 have q3':=(YA.setCell _ p4 0 (.bool true) p3 Y7).trans q3
 simp only [List.setIfInBounds_toArray,List.set_cons_zero,List.set_cons_succ] at q3' q4
 generalize ((((w.setCell ⟨p3,0,none⟩ (.int .i64 a)).setCell ⟨p3,1,none⟩ (.int .i64 f)).setCell ⟨p3,2,none⟩ (.int .i64 c)).setCell ⟨p4,0,none⟩ (.bool true))=W at e1 q3' q4 ⊢
 unfold Sw.endM y1 XV Fj
 simp only
 refine Qqb (Za q3').1 (Za q4).1 ?_
 exact ⟨by rw [h];rfl,e1⟩
end
def qO a b (ds:LDf) (R:RT) w:=
 opV Pg (build 34 #[]) (ZD Pg ds [(some 34,a),(some 4,b)] R) w λ c w=>
 opU Pg (storeAt 34 a c) (ZD Pg ds [(some 34,a),(some 4,b)] R) w λ w=>
 opU Pg (storeAt 4 b (.bool false)) (ZD Pg ds [(some 34,a),(some 4,b)] R) w λ w=>
 Ul Pg ds [(some 34,a),(some 4,b)] R w
def qP a b c d e (f:WPr) (ds:LDf) (R:RT) w:=
 Zx d e (.bool false) λ g=>
 ZU Pg 33 #[c,g,(QqQ 11)] (ZD Pg ds [(some 34,a),(some 4,b)] R) w λ h w=>
 f w∧(
 qO a b ds R w)
def AQ e f g h i j c (a:WPr) (ds:LDf) R w:=
 Zp (λ (b:Vl) (w:Wd)=>
 qP g h i c b a ds R w) λ d=>
 Zm c true (
 J0 24 e 1 a λ k=>
 I0 22 k a λ l=>
 M0 22 l j a λ m=>
 J0 60 m 1 a λ n=>
 I0 9 n a λ o=>
 J0 27 f 2 a λ p=>
 I0 9 p a λ q=>
 qV Pg a (ZA .eql 9 false o q) λ b=>
 d b w) (
 d undef w)
def AR d e a b f c (ds:LDf) (R:RT) w:=
 opV Pg (extract c 0) (ZD Pg ds [(some 34,a),(some 4,b)] R) w λ g w=>
 opV Pg (extract c 1) (ZD Pg ds [(some 34,a),(some 4,b)] R) w λ h w=>
 Z4 w λ i w=>
 AQ d e a b f g h i ds R w
def qQ c e f a b d (ds:LDf) (R:RT) w:=
 opN Pg (Y0 d) (ZD Pg ds [(some 34,a),(some 4,b)] R) w λ g w=>
 opV Pg (fieldAt 81 g 3) (ZD Pg ds [(some 34,a),(some 4,b)] R) w λ h w=>
 opU Pg (storeAt 3 h (.int .i64 (-1))) (ZD Pg ds [(some 34,a),(some 4,b)] R) w λ w=>
 opV Pg (loadAt 24 c) (ZD Pg ds [(some 34,a),(some 4,b)] R) w λ i w=>
 opV Pg (fieldAt 27 e 2) (ZD Pg ds [(some 34,a),(some 4,b)] R) w λ j w=>
 opV Pg (loadAt 9 j) (ZD Pg ds [(some 34,a),(some 4,b)] R) w λ k w=>
 ZU Pg 20 #[i,k] (ZD Pg ds [(some 34,a),(some 4,b)] R) w λ l w=>
 AR c f a b d l ds R w
def AS a b d f c (QV:KV) (ds:LDf) (R:RT) w:=
 opV Pg (indexAt 22 f c) (ZD Pg ds [(some 34,a),(some 4,b)] R) w λ g w=>
 opV Pg (loadAt 60 g) (ZD Pg ds [(some 34,a),(some 4,b)] R) w λ h w=>
 opV Pg (alloc 60 true (.tuple #[])) (ZD Pg ds [(some 34,a),(some 4,b)] R) w λ e w=>
 opU Pg (storeAt 60 e h) (ZD Pg ds [(some 34,a),(some 4,b)] R) w λ w=>
 opN Pg (Y0 d) (ZD Pg ds [(some 34,a),(some 4,b)] R) w λ i w=>
 opV Pg (fieldAt 81 i 3) (ZD Pg ds [(some 34,a),(some 4,b)] R) w λ j w=>
 opU Pg (storeAt 3 j c) (ZD Pg ds [(some 34,a),(some 4,b)] R) w λ w=>
 opV Pg (loadAt 60 e) (ZD Pg ds [(some 34,a),(some 4,b)] R) w λ k w=>
 ZU Pg 36 #[d,k] (ZD Pg ds [(some 34,a),(some 4,b)] R) w λ m w=>
 opV Pg (ZA .add 3 true c (QqQ 1)) (ZD Pg ds [(some 34,a),(some 4,b)] R) w λ l w=>
 QV l w
def AT e f g a b c h i d (QV:KV) (ds:LDf) (R:RT) w:=
 opV Pg (ZA .lss 3 false d i) (ZD Pg ds [(some 34,a),(some 4,b)] R) w λ j w=>
 Zr j (
 AS a b c h d QV ds R w) (
 qQ e f g a b c ds R w)
def yA c e f a b g (ds:LDf) (R:RT) w:=
 opV Pg (fieldAt 24 c 1) (ZD Pg ds [(some 34,a),(some 4,b)] R) w λ h w=>
 opV Pg (loadAt 22 h) (ZD Pg ds [(some 34,a),(some 4,b)] R) w λ d w=>
 opV Pg (Builtin.len_ #[22] 3 #[d]) (ZD Pg ds [(some 34,a),(some 4,b)] R) w λ i w=>
 YW (λ j w QV=>
 AT c e f a b g d i j QV ds R w) (QqQ 0) w
def Df d e f a b c g h (ds:LDf) (R:RT) w:=
 Zx g h (.bool false) λ i=>
 ZU Pg 33 #[c,i,(QqQ 2)] (ZD Pg ds [(some 34,a),(some 4,b)] R) w λ j w=>
 yA d e f a b c ds R w
def zc c g h a b i (ds:LDf) (R:RT) w:=
 opV Pg (fieldAt 24 c 1) (ZD Pg ds [(some 34,a),(some 4,b)] R) w λ j w=>
 opV Pg (loadAt 22 j) (ZD Pg ds [(some 34,a),(some 4,b)] R) w λ k w=>
 opV Pg (Builtin.len_ #[22] 3 #[k]) (ZD Pg ds [(some 34,a),(some 4,b)] R) w λ l w=>
 opV Pg (ZA .geq 3 true l (QqQ 1)) (ZD Pg ds [(some 34,a),(some 4,b)] R) w λ e w=>
 Zp (λ (d:Vl) (w:Wd)=>
 Df c g h a b i e d ds R w) λ f=>
 Zm e true (
 opV Pg (fieldAt 24 c 1) (ZD Pg ds [(some 34,a),(some 4,b)] R) w λ m w=>
 opV Pg (loadAt 22 m) (ZD Pg ds [(some 34,a),(some 4,b)] R) w λ n w=>
 opV Pg (Builtin.len_ #[22] 3 #[n]) (ZD Pg ds [(some 34,a),(some 4,b)] R) w λ o w=>
 opV Pg (ZA .leq 3 true o (QqQ 60)) (ZD Pg ds [(some 34,a),(some 4,b)] R) w λ d w=>
 f d w) (
 f undef w)
def Jo c e f a b d (ds:LDf) (R:RT) w:=
 opV Pg (fieldAt 24 c 0) (ZD Pg ds [(some 34,a),(some 4,b)] R) w λ g w=>
 opV Pg (loadAt 9 g) (ZD Pg ds [(some 34,a),(some 4,b)] R) w λ h w=>
 ZU Pg 35 #[h] (ZD Pg ds [(some 34,a),(some 4,b)] R) w λ i w=>
 ZU Pg 33 #[d,i,(QqQ 1)] (ZD Pg ds [(some 34,a),(some 4,b)] R) w λ j w=>
 zc c e f a b d ds R w
def xM d e f a b c g h (ds:LDf) (R:RT) w:=
 Zx g h (.bool false) λ i=>
 ZU Pg 33 #[c,i,(QqQ 0)] (ZD Pg ds [(some 34,a),(some 4,b)] R) w λ j w=>
 Jo d e f a b c ds R w
def Jq g h d a b i e (ds:LDf) R w:=
 Zp (λ (c:Vl) (w:Wd)=>
 xM g h d a b i e c ds R w) λ f=>
 Zm e true (
 opV Pg (loadAt 27 d) (ZD Pg ds [(some 34,a),(some 4,b)] R) w λ j w=>
 ZU Pg 34 #[j] (ZD Pg ds [(some 34,a),(some 4,b)] R) w λ c w=>
 f c w) (
 f undef w)
def n14 f g h (R:RT) w:=
 (λ (ds:LDf)=>
 opV Pg (box 24 f) (ZD Pg ds [(some 34,undef),(some 4,undef)] R) w λ d w=>
 opV Pg (box 27 g) (ZD Pg ds [(some 34,undef),(some 4,undef)] R) w λ c w=>
 opV Pg (box 27 h) (ZD Pg ds [(some 34,undef),(some 4,undef)] R) w λ e w=>
 opV Pg (alloc 34 true (.tuple #[])) (ZD Pg ds [(some 34,undef),(some 4,undef)] R) w λ a w=>
 opV Pg (alloc 4 true (.tuple #[])) (ZD Pg ds [(some 34,a),(some 4,undef)] R) w λ b w=>
 opV Pg (loadAt 24 d) (ZD Pg ds [(some 34,a),(some 4,b)] R) w λ i w=>
 opV Pg (loadAt 27 c) (ZD Pg ds [(some 34,a),(some 4,b)] R) w λ j w=>
 opV Pg (loadAt 27 e) (ZD Pg ds [(some 34,a),(some 4,b)] R) w λ k w=>
 opV Pg (build 81 #[(0,i),(1,j),(2,k),(3,(.int .i64 (-1))),(4,(.int .i64 (-1)))]) (ZD Pg ds [(some 34,a),(some 4,b)] R) w λ l w=>
 opV Pg (box 81 l) (ZD Pg ds [(some 34,a),(some 4,b)] R) w λ m w=>
 opV Pg (makeFunc (.func 32) #[] #[a,b]) (ZD Pg ds [(some 34,a),(some 4,b)] R) w λ n w=>
 Zep Pg n #[] ds w λ ds w=>
 opV Pg (loadAt 27 c) (ZD Pg ds [(some 34,a),(some 4,b)] R) w λ o w=>
 ZU Pg 34 #[o] (ZD Pg ds [(some 34,a),(some 4,b)] R) w λ p w=>
 Jq d c e a b m p ds R w) []
def ZkA:QqX3 14 n14:=λ h=>by
 refine yE func14 ?_
 unfold n14 at h
 dsimp only at h
 refine zs<|zr<|yv h λ h=>yv h λ h=>yv h λ h=>yv h λ h=>yv h λ h=>zn<|zk<|zs<|zr<|yv h λ h=>yv h λ h=>yv h λ h=>yB h λ h=>?_
 refine yv h λ h=>zm<|zn<|zk<|zs<|zr<|yF h λ h=>?_
 refine DR h rfl rfl ?_;intro ds w h
 refine zn<|zk<|zs<|Zq<|yG 4<|zm<|yv h λ h=>yc h c34 λ h=>zm<|zn<|yg1 2 3 true [23,24] 24 h (λ _ T hT h=>?_) λ σ w h=>?_
 · refine yv h λ h=>yc h c34 λ h=>zn ?_
   exact zt hT h
 refine yG 2<|yp h λ h=>yc h c33 λ h=>zn<|ZG<|zk<|zs<|zr<|zm<|yv h λ h=>yv h λ h=>yc h c35 λ h=>yc h c33 λ h=>zn<|zk ?_
 refine zs<|Zq<|yG 6<|zm<|yv h λ h=>yv h λ h=>yx h λ h=>yb h λ h=>zm<|zn<|yg1 4 5 true [38,39,40,41] 41 h (λ _ T hT h=>?_) λ σ w h=>?_
 · refine yv h λ h=>yv h λ h=>yx h λ h=>yb h λ h=>zn ?_
   exact zt hT h
 refine yG 2<|yp h λ h=>yc h c33 λ h=>zn<|ZG<|zk<|zs<|zs<|zr<|yv h λ h=>yv h λ h=>yx h λ h=>zm<|zn<|zk ?_
 refine Zl<|yl1 [9,10,47,48,49,50,51,52,53,54,55,56,57,58,59] 47 h λ σ w next h=>zs<|zr<|yb h λ h=>zn<|zk<|zs<|yC h (λ h=>?_) λ h=>?_
 · refine Zk<|zk<|zs<|Zl<|zs<|zr<|zm<|yv h λ h=>yv h λ h=>yv h λ h=>zm<|yu h λ h=>zn<|zk<|zs ?_
   refine zr<|zm<|zm<|yN h λ h=>yv h λ h=>yu h λ h=>zn<|zk<|zr<|zm<|yv h λ h=>yc h c36 λ h=>zn<|Zf<|zk ?_
   exact zr<|yb h λ h=>zm<|zn<|zk<|⟨rfl,h⟩
 refine ZN<|Ze<|Ze<|Zs<|zk<|zs<|zr<|zm<|yN h λ h=>yv h λ h=>yu h λ h=>zn<|zk<|zs<|zr ?_
 refine yv h λ h=>yv h λ h=>yv h λ h=>yc h c20 λ h=>zm<|yv h λ h=>yv h λ h=>zm<|zm<|zn<|zk<|zs<|yh [70,71,72,73,74,75,76,77,78,79,80,81,82,83] h λ C hC h=>yw 0 hC ?_
 refine yw 1 hC ?_
 refine yw 2 hC ?_
 refine yj1 2 [11,10,9,8,7,6,5,4,3,2,1,0] [73,74,75,76,77,78,79,80,81] 81 h (λ _ hT hb h=>?_) (λ _ hT hb h=>?_) λ σ w hC h=>?_
 · refine ye 3 hC h λ h=>?_
   refine ye 4 hC h λ h=>?_
   refine yw 5 hC ?_
   refine ye 6 hC h λ h=>?_
   refine ye 7 hC h λ h=>?_
   refine ye 8 hC h λ h=>?_
   refine ye 9 hC h λ h=>?_
   refine ye 10 hC h λ h=>?_
   refine ye 11 hC h λ h=>?_
   exact yt hT hC h
 · refine yi 3 hC ?_
   refine yi 4 hC ?_
   refine yi 5 hC ?_
   refine yi 6 hC ?_
   refine yi 7 hC ?_
   refine yi 8 hC ?_
   refine yi 9 hC ?_
   refine yi 10 hC ?_
   refine yi 11 hC ?_
   exact yt hT hC h
 refine yP 12 hC h λ _ h=>?_
 refine yo 13 ?_
 refine yc h c33 λ h=>zn ?_
 obtain ⟨hC,h⟩:=h
 refine ⟨hC,?_⟩
 exact yz<|zk<|zs<|zr<|yB h λ h=>yu h λ h=>yu h λ h=>zn<|zk<|Zg<|X8 rfl h
def B9 {d:QF} (h:(!Qk d)=true):∀ x∈d.msgs,∀ f∈x.fields,(YH f).length≤1048576:=by
 intro x hx f hf
 have h0:(Qz d).2.2=0:=by
  unfold Qk at h
  simpa using h
 obtain ⟨_,_,h3,_⟩:=IG h0
 obtain ⟨k,hk⟩:=List.getElem?_of_mem hx
 obtain ⟨_,_,h40,h4,_⟩:=LL (h3.next hk)
 have h1:=qi _ _ _ _ h4
 have h2:(YH f).length≤(Y9 x.fields).length:=by
  unfold Y9
  obtain ⟨l1,l2,hl⟩:=List.append_of_mem hf
  rw [hl,List.flatMap_append,List.flatMap_cons,List.length_append,List.length_append]
  omega
 omega
def P7 {w0 w:Wd} {o:Option (Int×Int×Int)} {p3 p4:Nat} (e:Ext w0 w) (o3:w.heap[p3]?=some (.cells #[.int .i64 0,.int .i64 0,.int .i64 0] 34 (0,0))) (o4:w.heap[p4]?=some (.cells #[.bool false] 4 (0,0)))
 (h:o=none):Ul Pg [Wp p3 p4] (Fj p3 p4) (ZE (xw w0 o)) w:=by
 unfold Ul
 refine IF ?_
 unfold Sw.endM y1 XV Fj
 simp only
 refine Qqb (Za o3).1 (Za o4).1 ?_
 exact ⟨by rw [h];rfl,e⟩
section
variable {w0 A0 w:Wd} {cb p1 p2 p5 p3 p4:Nat} {m:Xn} {d e:QF} {ru:Int} {rv dv ev:Vl} {O:Option (Int×Int×Int)}
structure jY (w0 A0:Wd) (p1 p2 p5 p3 p4:Nat) (m:Xn) (d e:QF) (rv dv ev:Vl):Prop where
 ea:Ext w0 A0
 o1:A0.heap[p1]?=some (.cells (Z2 m rv).toArray 24 (0,0))
 o2:A0.heap[p2]?=some (.cells (XB d dv).toArray 27 (0,0))
 o5:A0.heap[p5]?=some (.cells (XB e ev).toArray 27 (0,0))
 o3:A0.heap[p3]?=some (.cells #[.int .i64 0,.int .i64 0,.int .i64 0] 34 (0,0))
 o4:A0.heap[p4]?=some (.cells #[.bool false] 4 (0,0))
 l3:w0.heap.size≤p3
 l4:w0.heap.size≤p4
 hR:Gz A0 rv m.rules
def jY.pan (h:jY w0 A0 p1 p2 p5 p3 p4 m d e rv dv ev) {w':Wd} {a f c:Int} (x:Ext A0 w') (ho:O=some (a,f,c)):ZD Pg [Wp p3 p4] (Fj p3 p4) (ZE (xw w0 O)) [Vw a f c] w':=Za1 (h.ea.trans x) h.l3 h.l4 (x.obj h.o3) (x.obj h.o4) ho
def Zbz (h:jY w0 A0 p1 p2 p5 p3 p4 m d e rv dv ev) (hC:CkM A0 w cb m d e ru (-1)) (hO:(if zH m d e=true then none else some (-1,-1,11))=O) :
 qQ (Qq5 p1) (Qq5 p2) (Qq5 p5) (Qq5 p3) (Qq5 p4) (Qq5 cb) [Wp p3 p4] (ZE (xw w0 O)) w:=by
 obtain ⟨rv',dv',ev',q,_⟩:=hC.obj
 have t1:=Zd.oneCell h.hR
 unfold qQ
 refine Qqp (Za q).1 (Za q).2 (Za (hC.ext.obj h.o1)).1 (Za (hC.ext.obj h.o2)).1 ?_
 have hC2:=hC.setRule (-1)
 generalize (w.setCell ⟨cb,8,none⟩ (.int .i64 (-1)))=X at hC2 ⊢
 refine zcr (j5 X _ m d.start ⟨_,rfl,h.hR.ext hC2.ext⟩) λ w1 e1=>?_
 have hC3:=hC2.go e1
 unfold AR
 refine Qqv ?_
 refine ZB ?_
 have eD:Ext w1 (drew w1):=(Ext.refl w1).drew
 have hC4:=hC3.go eD
 generalize (drew w1)=D at hC4 ⊢
 have fin:∀ b,b=zH m d e→ZU Pg 33 #[Qq5 cb,.bool b,.int .i64 11] (ZD Pg [Wp p3 p4] (Fj p3 p4) (ZE (xw w0 O))) D λ _ w=>EC D w∧qO (Qq5 p3) (Qq5 p4) [Wp p3 p4] (ZE (xw w0 O)) w:=by
  rintro b rfl
  refine YN (XF hC4 _ 11) (λ w5 e5 hb=>?_) (λ w5 e5 hb=>?_)
  · refine ⟨e5,?_⟩
    rw [if_pos hb] at hO
    have E5:=hC4.ext.trans e5
    have q3:=E5.obj h.o3
    have q4:=E5.obj h.o4
    have Y7:p3≠p4:=by rintro rfl;rw [q3] at q4;cases q4
    have lA3:w0.heap.size≤p3:=h.l3
    have lA4:w0.heap.size≤p4:=h.l4
    unfold qO
    refine Qqp (Za q3).1 (Za q3).2 (Za q4).1 (Za q4).2 ?_
    have z3:=Zy (o:=2) (Zy (o:=1) (Zy (o:=0) q3 (.int .i64 0)) (.int .i64 0)) (.int .i64 0)
    have eZ:Ext w0 ((((w5.setCell ⟨p3,0,none⟩ (.int .i64 0)).setCell ⟨p3,1,none⟩ (.int .i64 0)).setCell ⟨p3,2,none⟩ (.int .i64 0)).setCell ⟨p4,0,none⟩ (.bool false)):=((((h.ea.trans E5).setCell lA3 _).setCell lA3 _).setCell lA3 _).setCell lA4 _
    have z4:=Zy (o:=0) ((YA.setCell ((w5.setCell ⟨p3,0,none⟩ (.int .i64 0)).setCell ⟨p3,1,none⟩ (.int .i64 0)) p3 2 (.int .i64 0) p4 C1).trans ((YA.setCell (w5.setCell ⟨p3,0,none⟩ (.int .i64 0)) p3 1 (.int .i64 0) p4 C1).trans ((YA.setCell w5 p3 0 (.int .i64 0) p4 C1).trans q4))) (.bool false)
    have z3':=(YA.setCell _ p4 0 (.bool false) p3 Y7).trans z3
    simp only [List.setIfInBounds_toArray,List.set_cons_zero,List.set_cons_succ] at z3' z4
    exact P7 eZ z3' z4 hO.symm
  · rw [if_neg (by rw [hb];simp)] at hO
    exact h.pan (hC4.ext.trans e5) hO.symm
 unfold AQ
 rcases Mx (λ r:MrD=>decide (r.fr=d.start)) m.rules with ⟨h1,h2,_,_,_⟩ | ⟨i,x,hxi,h1,h2,_,_,_⟩
 · have hp:GL m d.start=none:=h2
   have hs:zH m d e=false:=by unfold zH;rw [h1]
   rw [hp,Option.getD_none,show (none:Option Nat).isSome=false from rfl]
   refine Qqv ?_
   unfold qP
   refine Qqv ?_
   exact fin false hs.symm
 · have hp:GL m d.start=some i:=h2
   have hs:zH m d e=decide (x.to=e.start):=by unfold zH;rw [h1]
   rw [hp,Option.getD_some,show (some i).isSome=true from rfl]
   obtain ⟨br,or',cr,rfl,_,_,_,hil,helr⟩:=HW h.hR hxi
   obtain ⟨csr,_,hAr,hEr⟩:=helr i x hxi
   obtain ⟨fv,rfl,hFr⟩:=hEr
   refine Qqm (Za (hC4.ext.obj h.o1)).1 (Za (hC4.ext.obj h.o5)).1 (hAr.c3 hC4.ext) ?_
   unfold qP
   refine Qqv ?_
   exact fin _ hs.symm
def Zbu (h:jY w0 A0 p1 p2 p5 p3 p4 m d e rv dv ev) (hC:CkM A0 w cb m d e ru (-1)) (hin:∀ r∈m.rules,∀ x∈r.fields,inF x=true) (bd:∀ x∈d.msgs,∀ f∈x.fields,(YH f).length≤1048576) (be:∀ x∈e.msgs,∀ f∈x.fields,(YH f).length≤1048576)
 (hO:IM m d e (zE m d e 0 m.rules)=O) :
 yA (Qq5 p1) (Qq5 p2) (Qq5 p5) (Qq5 p3) (Qq5 p4) (Qq5 cb) [Wp p3 p4] (ZE (xw w0 O)) w:=by
 obtain ⟨A,c,rfl,hlc,hcm,hlm,Xj⟩:=Zd.open h.hR
 unfold yA
 refine Qqh (Za (hC.ext.obj h.o1)).1 ?_
 refine ZL (λ i w'=>∃ (k:Nat) (r:Int),i = .int .i64 k∧k≤m.rules.length∧CkM A0 w' cb m d e r (-1)∧zE m d e 0 m.rules=zE m d e k (m.rules.drop k)) (λ i _=>m.rules.length - (intOf i).toNat) ⟨0,_,rfl,by omega,hC,rfl⟩ ?_
 rintro _ w1 ⟨k,r0,rfl,hk,hC1,hR⟩
 unfold AT
 rcases ZY hk with ⟨x,hx,hdr,Yo,ZT⟩ | ⟨hk,hdr,ZT⟩
 · obtain ⟨bt,ot,cst,rfl,_,hAt,hE⟩:=Xj k x hx
   obtain ⟨fv,rfl,hF,o1⟩:=hE.op
   obtain ⟨rv',dv',ev',q,_⟩:=hC1.obj
   rw [hdr,zE] at hR
   refine Qqh ZT ?_
   unfold AS
   have lcb:=(Qqj q).1
   have qV:=Za q
   refine Qqm (hAt.c3 hC1.ext) qV.1 qV.2 ?_
   have hC2:=(hC1.setRule (k:Int)).go ((Ext.refl _).alloc (.cells #[.string x.fr,.string x.to,fv] 60))
   refine Uo (I3 hC2 k rfl _ x ⟨_,rfl,hF⟩ hx (hin x (List.mem_of_getElem? hx)) bd be) (λ v w5 hq=>?_) (λ ch w5 hq=>?_) (λ w5 hq=>?_)
   · rcases hq with ⟨E5,⟨h0,hv,hC5⟩ | ⟨_,hv⟩⟩
     · rw [if_neg (by rw [h0];simp)] at hR
       refine Qqv ?_
       exact ⟨⟨k+1,_,rfl,Yo,hC5,hR⟩,Yh (kd := .i64) Yo⟩
     · cases hv
   · rcases hq with ⟨E5,⟨_,hv,_⟩ | ⟨h0,hv⟩⟩
     · cases hv
     · injection hv with hv
       subst hv
       rw [if_pos h0] at hR
       refine h.pan E5 ?_
       rw [← hO,hR]
       unfold IM
       rw [if_pos h0]
   · rcases hq with ⟨_,⟨_,hv,_⟩ | ⟨_,hv⟩⟩<;>cases hv
 · subst hk
   rw [hdr,zE] at hR
   refine Qqh ZT ?_
   refine Zbz h hC1 ?_
   rw [← hO,hR]
   rfl
end
def Qm (w0:Wd) (v1 v2 v3:Vl) (m:Xn) (d e:QF) (hm:Xx w0 v1 m) (hd:Qg w0 v2 d) (he:Qg w0 v3 e) (hin:∀ r∈m.rules,∀ x∈r.fields,inF x=true):Ret Pg 14 #[v1,v2,v3] w0 (xw w0 (Gv m d e)):=by
 obtain ⟨rv,rfl,hR⟩:=hm
 obtain ⟨dv,rfl,hD⟩:=hd
 obtain ⟨ev,rfl,hE⟩:=he
 have t1:=Zd.oneCell hR
 have t2:=Zd.oneCell hD
 have t3:=Zd.oneCell hE
 refine ZkA (R:=ZE _) ?_;unfold n14
 refine Qqv ?_
 refine ⟨Wp (w0.heap.size+1+1+1) (w0.heap.size+1+1+1+1),_,rfl,?_⟩
 simp only [World.size_alloc]
 generalize hA0:((((w0.alloc (Obj.cells (Z2 m rv).toArray 24)).alloc (Obj.cells (XB d dv).toArray 27)).alloc (Obj.cells (XB e ev).toArray 27)).alloc (Obj.cells #[.int .i64 0,.int .i64 0,.int .i64 0] 34)).alloc (Obj.cells #[.bool false] 4)=A0
 have ea:Ext w0 A0:=by rw [← hA0];exact ee
 have o1:A0.heap[w0.heap.size]?=some (.cells (Z2 m rv).toArray 24 (0,0)):=by rw [← hA0];exact Qqf
 have o2:A0.heap[w0.heap.size+1]?=some (.cells (XB d dv).toArray 27 (0,0)):=by rw [← hA0];exact Qqf
 have o5:A0.heap[w0.heap.size+1+1]?=some (.cells (XB e ev).toArray 27 (0,0)):=by rw [← hA0];exact Qqf
 have o3:A0.heap[w0.heap.size+1+1+1]?=some (.cells #[.int .i64 0,.int .i64 0,.int .i64 0] 34 (0,0)):=by rw [← hA0];exact Qqf
 have o4:A0.heap[w0.heap.size+1+1+1+1]?=some (.cells #[.bool false] 4 (0,0)):=by rw [← hA0];exact Qqf
 have Vs:A0.heap.size=w0.heap.size+1+1+1+1+1:=by rw [← hA0];simp only [World.size_alloc]
 clear hA0
 have hC:CkM A0 (A0.alloc (Obj.cells #[.string m.name,rv,.string d.name,dv,.string d.start,.string e.name,ev,.string e.start,.int .i64 (-1),.int .i64 (-1)] 81)) A0.heap.size m d e (-1) (-1):=⟨(Ext.refl _).alloc _,Nat.le_refl _,rv,dv,ev,Zt _ _ _,hR.ext ea,hD.ext ea,hE.ext ea⟩
 generalize (A0.alloc (Obj.cells #[.string m.name,rv,.string d.name,dv,.string d.start,.string e.name,ev,.string e.start,.int .i64 (-1),.int .i64 (-1)] 81))=W at hC ⊢
 generalize hcb:w0.heap.size+1+1+1+1+1=cb at Vs ⊢
 rw [Vs] at hC
 generalize hp4:w0.heap.size+1+1+1+1=p4 at o4 hcb ⊢
 generalize hp3:w0.heap.size+1+1+1=p3 at o3 hp4 ⊢
 generalize hp5:w0.heap.size+1+1=p5 at o5 hp3 ⊢
 generalize hp2:w0.heap.size+1=p2 at o2 hp5 ⊢
 generalize hp1:w0.heap.size=p1 at o1 hp2 ⊢
 refine Qqh (Za (hC.ext.obj o2)).1 ?_
 have l3:w0.heap.size≤p3:=C1
 have l4:w0.heap.size≤p4:=C1
 generalize hO:Gv m d e=O
 have hEnv:jY w0 A0 p1 p2 p5 p3 p4 m d e rv dv ev:=⟨ea,o1,o2,o5,o3,o4,l3,l4,hR.ext ea⟩
 have pan:∀ w' a f c,Ext A0 w'→O=some (a,f,c)→ZD Pg [Wp p3 p4] (Fj p3 p4) (ZE (xw w0 O)) [Vw a f c] w':=λ w' a f c x h=>hEnv.pan x h
 unfold Gv at hO
 refine zcr (CL _ d ⟨_,rfl,hD.ext (ea.trans hC.ext)⟩) λ w1 e1=>?_
 have hC1:=hC.go e1
 have rest:∀ (w2:Wd) (bb:Bool),CkM A0 w2 cb m d e (-1) (-1)→bb=(!Qk d&&!Qk e)→ZU Pg 33 #[Qq5 cb,.bool bb,.int .i64 0] (ZD Pg [Wp p3 p4] (Fj p3 p4) (ZE (xw w0 O))) w2 λ _ w3=>Jo (Qq5 p1) (Qq5 p2) (Qq5 p5) (Qq5 p3) (Qq5 p4) (Qq5 cb) [Wp p3 p4] (ZE (xw w0 O)) w3:=by
  rintro w2 bb hC2 hbb
  refine YN (XF hC2 _ 0) (λ w3 e3 hb=>?_) (λ w3 e3 hb=>?_)
  case refine_2=>
   rw [← hbb,if_pos hb] at hO
   exact pan _ _ _ _ (hC2.ext.trans e3) hO.symm
  have hvv:(!Qk d&&!Qk e)=true:=hbb.symm.trans hb
  rw [hvv,if_neg (by simp)] at hO
  have hvd:(!Qk d)=true:=by cases h:(!Qk d)<;>simp_all
  have hve:(!Qk e)=true:=by cases h:(!Qk e)<;>simp_all
  have hC3:=hC2.go e3
  have x3:=Za (hC3.ext.obj o1)
  unfold Jo
  refine Qqh x3.1 ?_
  refine zcr (UP _ m.name) λ w4 e4=>?_
  have hC4:=hC3.go e4
  refine YN (XF hC4 _ 1) (λ w5 e5 hb=>?_) (λ w5 e5 hb=>?_)
  case refine_2=>
   rw [if_pos hb] at hO
   exact pan _ _ _ _ (hC4.ext.trans e5) hO.symm
  rw [hb,if_neg (by simp)] at hO
  have hC5:=hC4.go e5
  have x5:=Za (hC5.ext.obj o1)
  obtain ⟨A,c,hrv,hlc,hcm,hlm,Xj⟩:=Zd.open hR
  rw [hrv] at x5
  have last:∀ b,b=decide (1≤m.rules.length∧m.rules.length≤60)→ZU Pg 33 #[Qq5 cb,.bool b,.int .i64 2] (ZD Pg [Wp p3 p4] (Fj p3 p4) (ZE (xw w0 O))) w5 λ _ w=>yA (Qq5 p1) (Qq5 p2) (Qq5 p5) (Qq5 p3) (Qq5 p4) (Qq5 cb) [Wp p3 p4] (ZE (xw w0 O)) w:=by
   rintro b rfl
   refine YN (XF hC5 _ 2) (λ w6 e6 hb=>?_) (λ w6 e6 hb=>?_)
   · rw [if_neg (by simpa using hb)] at hO
     exact Zbu hEnv (hC5.go e6) hin (B9 hvd) (B9 hve) hO
   · rw [if_pos (by simpa using hb)] at hO
     exact pan _ _ _ _ (hC5.ext.trans e6) hO.symm
  unfold zc
  by_cases h1:1≤m.rules.length
  · have d1:decide ((m.rules.length:Int)≥1)=true:=by simp;omega
    by_cases h2:m.rules.length≤60
    · have d2:decide ((m.rules.length:Int)≤60)=true:=by simp;omega
      simp (disch:=try exact DI) only [↓PR,QR,simprocAttr,x5.1,d1,d2,↓qO,↓qP,↓AQ,↓AR,↓qQ,↓AS,↓AT,↓yA,↓Df,↓zc,↓Jo,↓xM,↓Jq]
      exact last _ (by simp [h1,h2])
    · have d2:decide ((m.rules.length:Int)≤60)=false:=by simp;omega
      simp (disch:=try exact DI) only [↓PR,QR,simprocAttr,x5.1,d1,d2,↓qO,↓qP,↓AQ,↓AR,↓qQ,↓AS,↓AT,↓yA,↓Df,↓zc,↓Jo,↓xM,↓Jq]
      exact last _ (by simp [h2])
  · have d1:decide ((m.rules.length:Int)≥1)=false:=by simp;omega
    simp (disch:=try exact DI) only [↓PR,QR,simprocAttr,x5.1,d1,↓qO,↓qP,↓AQ,↓AR,↓qQ,↓AS,↓AT,↓yA,↓Df,↓zc,↓Jo,↓xM,↓Jq]
    exact last _ (by simp [h1])
 obtain ⟨vb,hv⟩:∃ vb,(!Qk d)=vb:=⟨_,rfl⟩
 rw [hv] at rest ⊢
 cases vb with
 | false=>
  rw [Bool.false_and] at rest
  unfold Jq
  rw [joinK_eq]
  simp (disch:=try exact DI) only [↓PR,QR,simprocAttr,↓qO,↓qP,↓AQ,↓AR,↓qQ,↓AS,↓AT,↓yA,↓Df,↓zc,↓Jo,↓xM,↓Jq]
  exact rest w1 _ hC1 rfl
 | true=>
  rw [Bool.true_and] at rest
  unfold Jq
  simp (disch:=try exact DI) only [↓PR,QR,simprocAttr,↓qO,↓qP,↓AQ,↓AR,↓qQ,↓AS,↓AT,↓yA,↓Df,↓zc,↓Jo,↓xM,↓Jq,(Za (hC1.ext.obj o5)).1]
  refine zcr (CL _ e ⟨_,rfl,hE.ext (ea.trans hC1.ext)⟩) λ w2 e2=>?_
  exact rest w2 _ (hC1.go e2) rfl
def Zca a R w:=
 E0q a 0 R w λ b w=>
 E0q a 1 R w λ c w=>
 opV Pg (alloc 34 true (.tuple #[])) (Zc R) w λ d w=>
 S0 34 d b R w λ w=>
 N0 c R w λ e w=>
 R (.returned e) w
def n24 a b c R w:=
 opV Pg (box 24 a) (Zc R) w λ d w=>
 opV Pg (box 27 b) (Zc R) w λ e w=>
 opV Pg (box 27 c) (Zc R) w λ f w=>
 L0 24 d R w λ g w=>
 L0 27 e R w λ h w=>
 L0 27 f R w λ i w=>
 C0 14 #[g,h,i] R w λ j w=>
 Zca j R w
def ZkH:QqX3 16 n24:=λ h=>by
 refine yD func16 ?_
 refine zs<|zr<|yv h λ h=>yv h λ h=>yv h λ h=>zm<|zn<|zk<|zs<|zr<|yv h λ h=>yv h λ h=>yv h λ h=>yc h c14 λ h=>zm ?_
 refine yv h λ h=>yv h λ h=>yv h λ h=>yu h λ h=>zm<|zn<|zk<|zs<|zr<|zm<|yv h λ h=>zm<|zn<|zk<|Zg ?_
 exact Zj rfl rfl h
def Zdh b c (a:WPr) (Qu:KV) (R:RT) w:=
 a w∧(
 qV Pg a (Op.unary .not c) λ d=>
 Zr d (
 R (.returned (.bool false)) w) (
 B0 .add 3 true b (QqQ 1) R w λ e w=>
 Qu e w))
def Zdi c d b (a:WPr) (Qu:KV) (R:RT) w:=
 J0 60 c 2 a λ e=>
 I0 58 e a λ f=>
 M0 58 f b a λ g=>
 I0 43 g a λ h=>
 J0 60 d 2 a λ i=>
 I0 58 i a λ j=>
 M0 58 j b a λ k=>
 I0 43 k a λ l=>
 C0 41 #[h,l] R w λ m w=>
 Zdh b m a Qu R w
def Zdj c a d b (Ys Qu:KV) R w:=
 F0 60 a 2 R w λ e w=>
 L0 58 e R w λ f w=>
 G0 58 3 f R w λ g w=>
 B0 .lss 3 false b g R w λ h w=>
 Zr h (
 Z4 w λ i w=>
 Zdi a d b i Qu R w) (
 B0 .add 3 true c (QqQ 1) R w λ j w=>
 Ys j w)
def Zdk f b c g h (Ys:KV) (R:RT) w:=
 Zx g (.bool true) h λ d=>
 Zp (λ (a:Vl) (w:Wd)=>
 Zx d (.bool true) a λ i=>
 Zr i (
 R (.returned (.bool false)) w) (
 YW (λ j w Qu=>
 Zdj f b c j Ys Qu R w) (QqQ 0) w)) λ e=>
 Zm d false (
 F0 60 b 2 R w λ k w=>
 L0 58 k R w λ l w=>
 G0 58 3 l R w λ m w=>
 F0 60 c 2 R w λ n w=>
 L0 58 n R w λ o w=>
 G0 58 3 o R w λ p w=>
 B0 .neq 3 false m p R w λ a w=>
 e a w) (
 e undef w)
def Nd f a b (Ys:KV) R w:=
 F0 60 a 0 R w λ g w=>
 L0 9 g R w λ h w=>
 F0 60 b 0 R w λ i w=>
 L0 9 i R w λ j w=>
 B0 .neq 9 false h j R w λ d w=>
 Zp (λ (c:Vl) (w:Wd)=>
 Zdk f a b d c Ys R w) λ e=>
 Zm d false (
 F0 60 a 1 R w λ k w=>
 L0 9 k R w λ l w=>
 F0 60 b 1 R w λ m w=>
 L0 9 m R w λ n w=>
 B0 .neq 9 false l n R w λ c w=>
 e c w) (
 e undef w)
def Zdl a d e (b:WPr) (f:KW) R w:=
 opV Pg (alloc 60 true (.tuple #[])) (Zc R) w λ c w=>
 b w∧(
 S0 60 a d R w λ w=>
 b w∧(
 S0 60 c e R w λ w=>
 WB w λ g w=>
 f a c w))
def Zdm a d e (b:WPr) (f:KW) R w:=
 opV Pg (alloc 60 true (.tuple #[])) (Zc R) w λ c w=>
 b w∧(
 S0 60 c d R w λ w=>
 b w∧(
 S0 60 a e R w λ w=>
 WB w λ g w=>
 f c a w))
def Zdn h i b (a:WPr) (Ys:KV) R w:=
 J0 24 h 1 a λ j=>
 I0 22 j a λ k=>
 M0 22 k b a λ l=>
 I0 60 l a λ e=>
 J0 24 i 1 a λ m=>
 I0 22 m a λ n=>
 M0 22 n b a λ o=>
 I0 60 o a λ f=>
 Zp (λ (c:Vl) (d:Vl) (w:Wd)=>
 Nd b c d Ys R w) λ g=>
 (
 opV Pg (alloc 60 true (.tuple #[])) (Zc R) w λ c w=>
 a w∧(
 Zdl c e f a g R w))∧(
 opV Pg (alloc 60 true (.tuple #[])) (Zc R) w λ d w=>
 a w∧(
 Zdm d e f a g R w))
def Zdo a c b (Ys:KV) R w:=
 F0 24 a 1 R w λ d w=>
 L0 22 d R w λ e w=>
 G0 22 3 e R w λ f w=>
 B0 .lss 3 false b f R w λ g w=>
 Zr g (
 Z4 w λ h w=>
 Zdn a c b h Ys R w) (
 R (.returned (.bool true)) w)
def n60 f g R w:=
 opV Pg (box 24 f) (Zc R) w λ a w=>
 opV Pg (box 24 g) (Zc R) w λ b w=>
 F0 24 a 0 R w λ h w=>
 L0 9 h R w λ i w=>
 F0 24 b 0 R w λ j w=>
 L0 9 j R w λ k w=>
 B0 .neq 9 false i k R w λ d w=>
 Zp (λ (c:Vl) (w:Wd)=>
 Zx d (.bool true) c λ l=>
 Zr l (
 R (.returned (.bool false)) w) (
 YW (λ m w Ys=>
 Zdo a b m Ys R w) (QqQ 0) w)) λ e=>
 Zm d false (
 F0 24 a 1 R w λ n w=>
 L0 22 n R w λ o w=>
 G0 22 3 o R w λ p w=>
 F0 24 b 1 R w λ q w=>
 L0 22 q R w λ r w=>
 G0 22 3 r R w λ s w=>
 B0 .neq 3 false p s R w λ c w=>
 e c w) (
 e undef w)
def Zlf:QqX2 17 n60:=λ h=>by
 refine yD func17 ?_
 refine zs<|zr<|yv h λ h=>yv h λ h=>zm<|zn<|zk<|zs<|zs<|Zq<|yG 6<|yv h λ h=>yv h λ h=>yv h λ h=>yv h λ h=>?_
 refine yb h λ h=>zm<|zn<|yg1 7 5 false [15,16,17,18,19,20,21] 21 h (λ _ T hT h=>?_) λ σ w h=>?_
 · refine yv h λ h=>yv h λ h=>yx h λ h=>yv h λ h=>yv h λ h=>yx h λ h=>yb h λ h=>zn ?_
   exact zt hT h
 refine yG 1<|yp h λ h=>zn<|ZG<|zk<|yC h (λ h=>zs<|zr<|zm<|zn<|zk<|Zg<|Zb<|Zj rfl rfl h) λ h=>Zk<|zk<|zs<|zs<|zr<|zm<|zn<|zk ?_
 refine Zl<|yl1 [4,5,6,7,8,23,24,25,26,27,28,29,30,31,32,33,34,35,36,37,38,39,40,41,42,43,44,45,46,47,48,49,50,51,52,53,54,55,56,57,58,59,60,61,62,63,64,65,66,67,68,69,70,71,72,73,74,75,76,77,78,79] 5 h λ σ w next h=>zs<|zs<|zr<|zm<|yv h λ h=>yv h λ h=>yx h λ h=>yb h λ h=>zn<|zk<|yC h (λ h=>?_) λ h=>?_
 · refine Zk<|zk<|zs<|Zl<|zs<|yh [6,7,30,31,32,33,34,35,36,37,38,39] h λ C hC h=>ye 0 hC h λ h=>?_
   refine ye 1 hC h λ h=>?_
   refine yw 2 hC ?_
   refine ye 3 hC h λ h=>?_
   refine ye 4 hC h λ h=>?_
   refine ye 5 hC h λ h=>?_
   refine ye 6 hC h λ h=>?_
   refine yw 7 hC ?_
   refine ye 8 hC h λ h=>?_
   refine ye 9 hC h λ h=>?_
   refine X1 h (λ K4 hK h=>?_)
   refine Qx [6,7] (λ ρ w=>K4 (ρ 6) (ρ 7) w) (λ T hT=>?_) (λ σ w h=>?_)
   · obtain ⟨h0,h1⟩:=h
     refine Y5 10 11 rfl rfl K5 (λ _ _=>rfl) (λ _ _=>rfl) ?_ ?_
     · have h:=h0
       refine yv h λ h=>zn ?_
       obtain ⟨hC,h⟩:=h
       refine ⟨_,λ _ h=>h,hC,?_⟩
       refine yo 11 ?_
       refine yv h λ h=>zn ?_
       obtain ⟨hC,h⟩:=h
       refine ⟨hC,?_⟩
       refine yo 12 ?_
       refine yu h λ h=>zn ?_
       obtain ⟨hC,h⟩:=h
       refine ⟨hC,?_⟩
       refine yq 13 1 ?_
       refine yu h λ h=>zn ?_
       obtain ⟨C9,hC,h⟩:=h
       refine ⟨C9,hC,?_⟩
       refine yz ?_
       exact zt hT h
     have h:=h1
     refine yv h λ h=>zn ?_
     obtain ⟨hC,h⟩:=h
     refine ⟨_,λ _ h=>h,hC,?_⟩
     refine yo 10 ?_
     refine yv h λ h=>zn ?_
     obtain ⟨hC,h⟩:=h
     refine ⟨hC,?_⟩
     refine yo 12 ?_
     refine yu h λ h=>zn ?_
     obtain ⟨hC,h⟩:=h
     refine ⟨hC,?_⟩
     refine yq 13 1 ?_
     refine yu h λ h=>zn ?_
     obtain ⟨C10,hC,h⟩:=h
     refine ⟨C10,hC,?_⟩
     refine yz ?_
     exact zt hT h
   subst hK
   refine zk<|zs<|zs<|Zq<|yG 6<|yv h λ h=>yv h λ h=>yv h λ h=>yv h λ h=>yb h λ h=>zm<|zn<|yg1 5 5 false [46,47,48,49,50] 50 h (λ _ T hT h=>?_) λ σ w h=>?_
   · refine yv h λ h=>yv h λ h=>yv h λ h=>yv h λ h=>yb h λ h=>zn ?_
     exact zt hT h
   refine yG 2<|yp h λ h=>zm<|zn<|yg1 7 12 false [53,54,55,56,57,58,59] 59 h (λ _ T hT h=>?_) λ σ w h=>?_
   · refine yv h λ h=>yv h λ h=>yx h λ h=>yv h λ h=>yv h λ h=>yx h λ h=>yb h λ h=>zn ?_
     exact zt hT h
   refine yG 1<|yp h λ h=>zn<|ZG<|zk<|yC h (λ h=>zs<|zr<|zm<|zn<|zk<|Zg<|Zb<|Zh<|Zb<|Zb<|Zh<|Zb<|Zj rfl rfl h) λ h=>Zk<|zk<|zs<|zr<|zm<|zn<|zk<|Zl ?_
   refine yl1 [4,8,61,62,63,64,65,66,67,68,69,70,71,72,73,74,75,76,77,78,79] 8 h λ σ w next h=>zs<|zs<|zr<|zm<|yv h λ h=>yv h λ h=>yx h λ h=>yb h λ h=>zn<|zk<|yC h (λ h=>?_) λ h=>?_
   · refine Zk<|zk<|zs<|Zl<|zs<|yh [68,69,70,71,72,73,74,75,76,77,78,79] h λ C hC h=>ye 0 hC h λ h=>?_
     refine ye 1 hC h λ h=>?_
     refine yw 2 hC ?_
     refine ye 3 hC h λ h=>?_
     refine ye 4 hC h λ h=>?_
     refine ye 5 hC h λ h=>?_
     refine ye 6 hC h λ h=>?_
     refine yw 7 hC ?_
     refine ye 8 hC h λ h=>?_
     refine ye 9 hC h λ h=>?_
     refine yo 10 ?_
     refine yc h c41 λ h=>zn ?_
     obtain ⟨hC,h⟩:=h
     refine ⟨hC,?_⟩
     refine ye 11 hC h λ h=>?_
     refine yz<|zk<|yC h (λ h=>?_) λ h=>?_
     · refine zs<|zr<|zm<|zn<|zk<|Zg<|Zh<|Zb<|Zb<|Zh<|Zh<|Zb<|Zb<|Zh<|Zb ?_
       exact Zj rfl rfl h
     exact Zk<|Zf<|zk<|zr<|zm<|yb h λ h=>zm<|zn<|zk<|⟨rfl,h⟩
   exact ZN<|Ze<|Ze<|Zs<|Zf<|zk<|zr<|zm<|yb h λ h=>zm<|zn<|zk<|⟨rfl,h⟩
 exact ZN<|Ze<|Ze<|Zs<|zk<|zs<|zr<|zm<|zn<|zk<|Zg<|Zj rfl rfl h
end Go.Proofs.YtgalpdihjbinjaaGreatDoor
