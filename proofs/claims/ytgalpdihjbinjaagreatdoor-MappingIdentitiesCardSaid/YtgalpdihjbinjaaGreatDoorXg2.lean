/-
  Lemmas for the claim.
-/
import Derived.Test.YtgalpdihjbinjaaGreatDoorXg1
set_option linter.all false
set_option maxHeartbeats 40000000
set_option maxRecDepth 100000
open Go.Instr (loadAt storeAt fieldAt indexAt buildSlice mapUpdate makeFunc alloc build box extract fill sliceAt lookup makeInterface)
open Go.Proofs.Tryz
namespace Go.Proofs.YtgalpdihjbinjaaGreatDoor
open Sw
noncomputable abbrev Pg:=Tryz.prog
def L0 (T:TypeId) (a:Vl) (R:RT) (w:Wd) (k:KV):Prop:=opV Pg (loadAt T a) (Zj R) w k
def Ze9 (T:TypeId) (a:Vl) (R:RT) (w:Wd) (k:KV):L0 T a R w k=opV Pg (loadAt T a) (Zj R) w k:=rfl
def F0 (T:TypeId) (a:Vl) (i:Nat) (R:RT) (w:Wd) (k:KV):Prop:=opV Pg (fieldAt T a i) (Zj R) w k
def Ze4 (T:TypeId) (a:Vl) (i:Nat) (R:RT) (w:Wd) (k:KV):F0 T a i R w k=opV Pg (fieldAt T a i) (Zj R) w k:=rfl
def X0 (T:TypeId) (a i:Vl) (R:RT) (w:Wd) (k:KV):Prop:=opV Pg (indexAt T a i) (Zj R) w k
def Zfd (T:TypeId) (a i:Vl) (R:RT) (w:Wd) (k:KV):X0 T a i R w k=opV Pg (indexAt T a i) (Zj R) w k:=rfl
def B0 (o:BinOp) (T:TypeId) (c:Bool) (a b:Vl) (R:RT) (w:Wd) (k:KV):Prop:=opV Pg (ZP o T c a b) (Zj R) w k
def Ze1 (o:BinOp) (T:TypeId) (c:Bool) (a b:Vl) (R:RT) (w:Wd) (k:KV):B0 o T c a b R w k=opV Pg (ZP o T c a b) (Zj R) w k:=rfl
def C0 (f:FuncId) (a:AVl) (R:RT) (w:Wd) (k:KV):Prop:=Yb Pg f a (Zj R) w k
def Ze2 (f:FuncId) (a:AVl) (R:RT) (w:Wd) (k:KV):C0 f a R w k=Yb Pg f a (Zj R) w k:=rfl
def G0 (T U:TypeId) (a:Vl) (R:RT) (w:Wd) (k:KV):Prop:=opV Pg (Builtin.len_ #[T] U #[a]) (Zj R) w k
def Ze6 (T U:TypeId) (a:Vl) (R:RT) (w:Wd) (k:KV):G0 T U a R w k=opV Pg (Builtin.len_ #[T] U #[a]) (Zj R) w k:=rfl
def E0q (a:Vl) (i:Nat) (R:RT) (w:Wd) (k:KV):Prop:=opV Pg (extract a i) (Zj R) w k
def ZdN (a:Vl) (i:Nat) (R:RT) (w:Wd) (k:KV):E0q a i R w k=opV Pg (extract a i) (Zj R) w k:=rfl
def N0 (a:Vl) (R:RT) (w:Wd) (k:KV):Prop:=opV Pg (Op.unary .not a) (Zj R) w k
def Zfb (a:Vl) (R:RT) (w:Wd) (k:KV):N0 a R w k=opV Pg (Op.unary .not a) (Zj R) w k:=rfl
def S0 (T:TypeId) (a b:Vl) (R:RT) (w:Wd) (k:WPr):Prop:=opU Pg (storeAt T a b) (Zj R) w k
def Zfc (T:TypeId) (a b:Vl) (R:RT) (w:Wd) (k:WPr):S0 T a b R w k=opU Pg (storeAt T a b) (Zj R) w k:=rfl
def I0 (T:TypeId) (a:Vl) (C:WPr) (k:Vl→Prop):Prop:=qV Pg C (loadAt T a) k
def Ze7 (T:TypeId) (a:Vl) (C:WPr) (k:Vl→Prop):I0 T a C k=qV Pg C (loadAt T a) k:=rfl
def J0 (T:TypeId) (a:Vl) (i:Nat) (C:WPr) (k:Vl→Prop):Prop:=qV Pg C (fieldAt T a i) k
def Ze8 (T:TypeId) (a:Vl) (i:Nat) (C:WPr) (k:Vl→Prop):J0 T a i C k=qV Pg C (fieldAt T a i) k:=rfl
def M0 (T:TypeId) (a i:Vl) (C:WPr) (k:Vl→Prop):Prop:=qV Pg C (indexAt T a i) k
def Zfa (T:TypeId) (a i:Vl) (C:WPr) (k:Vl→Prop):M0 T a i C k=qV Pg C (indexAt T a i) k:=rfl
abbrev OQ0 (ds:LDf) (T:TypeId) (a:Vl) (R:RT):List PanicEntry→Wd→Prop:=ZI Pg ds [(some T,a)] R
def Zd6 (d:TypeDesc):Bool:=match d with | .struct _ | .array _ _=>true | _=>false
def YR {P:Program} {T:TypeId} {agg:Bool} {n:Nat} {z:Vl} {d:TypeDesc} (h:(P.info? T).map (λ i=>(i.size,i.zero))=some (n,some z)) (hu:P.underlying T=some d) (ha:Zd6 d=agg):ZJ P T agg n (P.bytesOf T) z:=by
 obtain ⟨i,hi,he⟩:=Option.map_eq_some_iff.1 h
 simp only [Prod.mk.injEq] at he
 exact ⟨⟨i,hi,he.1,by simp [Program.bytesOf,hi],he.2⟩,d,hu,ha⟩
def ty3:ZJ Pg 3 false 1 (Pg.bytesOf 3) (.int .i64 0):=YR K5 underlying3 rfl
def by3:Pg.bytesOf 3≤4096:=Nat.le_of_ble_eq_true K5
def ty4:ZJ Pg 4 false 1 (Pg.bytesOf 4) (.bool false):=YR K5 underlying4 rfl
def by4:Pg.bytesOf 4≤4096:=Nat.le_of_ble_eq_true K5
def ty5:ZJ Pg 5 false 1 (Pg.bytesOf 5) (.int .u8 0):=YR K5 underlying5 rfl
def by5:Pg.bytesOf 5≤4096:=Nat.le_of_ble_eq_true K5
def ty9:ZJ Pg 9 false 1 (Pg.bytesOf 9) (.string Qqz):=YR K5 underlying9 rfl
def by9:Pg.bytesOf 9≤4096:=Nat.le_of_ble_eq_true K5
def HP:ZJ Pg 22 false 1 (Pg.bytesOf 22) (.slice none 0 0):=YR K5 underlying22 rfl
def Cl:ZJ Pg 24 true 2 (Pg.bytesOf 24) (.agg #[.string Qqz,.slice none 0 0]):=YR K5 underlying24 rfl
def Zbg:ZJ Pg 25 false 1 (Pg.bytesOf 25) (.slice none 0 0):=YR K5 underlying25 rfl
def Cm:ZJ Pg 27 true 3 (Pg.bytesOf 27) (.agg #[.string Qqz,.slice none 0 0,.string Qqz]):=YR K5 underlying27 rfl
def HR:ZJ Pg 32 false 1 (Pg.bytesOf 32) (.int .i64 0):=YR K5 underlying32 rfl
def LZ:ZJ Pg 34 true 3 (Pg.bytesOf 34) (.agg #[.int .i64 0,.int .i64 0,.int .i64 0]):=YR K5 underlying34 rfl
def HS:ZJ Pg 39 false 1 (Pg.bytesOf 39) (.int .i64 0):=YR K5 underlying39 rfl
def Cn:ZJ Pg 40 false 1 (Pg.bytesOf 40) (.slice none 0 0):=YR K5 underlying40 rfl
def HU:ZJ Pg 41 false 1 (Pg.bytesOf 41) (.slice none 0 0):=YR K5 underlying41 rfl
def KE:ZJ Pg 43 true 7 (Pg.bytesOf 43) (.agg #[.string Qqz,.int .i64 0,.string Qqz,.int .i64 0,.int .i64 0,.slice none 0 0,.slice none 0 0]):=YR K5 underlying43 rfl
def Zfg:Pg.bytesOf 43≤4096:=Nat.le_of_ble_eq_true K5
def ZeU:ZJ Pg 49 false 1 (Pg.bytesOf 49) (.int .i64 0):=YR K5 underlying49 rfl
def Ma:ZJ Pg 58 false 1 (Pg.bytesOf 58) (.slice none 0 0):=YR K5 underlying58 rfl
def qe:ZJ Pg 60 true 3 (Pg.bytesOf 60) (.agg #[.string Qqz,.string Qqz,.slice none 0 0]):=YR K5 underlying60 rfl
def Zjy:Pg.bytesOf 60≤4096:=Nat.le_of_ble_eq_true K5
def Oy:ZJ Pg 72 false 1 (Pg.bytesOf 72) (.slice none 0 0):=YR K5 underlying72 rfl
def qf:ZJ Pg 74 true 2 (Pg.bytesOf 74) (.agg #[.string Qqz,.slice none 0 0]):=YR K5 underlying74 rfl
def Ff:ZJ Pg 78 true 3 (Pg.bytesOf 78) (.agg #[.int .i64 0,.int .i64 0,.int .i64 0]):=YR K5 underlying78 rfl
def Zjz:Pg.bytesOf 78≤4096:=Nat.le_of_ble_eq_true K5
def Zn6:ZJ Pg 81 true 10 (Pg.bytesOf 81) (.agg #[.string Qqz,.slice none 0 0,.string Qqz,.slice none 0 0,.string Qqz,.string Qqz,.slice none 0 0,.string Qqz,.int .i64 0,.int .i64 0]):=YR K5 underlying81 rfl
def Zn7:ZJ Pg 82 true 3 (Pg.bytesOf 82) (.agg #[.int .i64 0,.int .i64 0,.int .i64 0]):=YR K5 underlying82 rfl
def ZeV:ZJ Pg 88 false 1 (Pg.bytesOf 88) (.nilFunc):=YR K5 underlying88 rfl
def Zbh:ZJ Pg 94 false 1 (Pg.bytesOf 94) (.slice none 0 0):=YR K5 underlying94 rfl
def Ka:ZJ Pg 105 true 5 (Pg.bytesOf 105) (.agg #[.bool false,.bool false,.bool false,.bool false,.bool false]):=YR K5 underlying105 rfl
def GQ:ZJ Pg 117 false 1 (Pg.bytesOf 117) (.int .i64 0):=YR K5 underlying117 rfl
def BV:ZJ Pg 118 false 1 (Pg.bytesOf 118) (.slice none 0 0):=YR K5 underlying118 rfl
def Gg:ZJ Pg 120 true 2 (Pg.bytesOf 120) (.agg #[.int .i64 0,.slice none 0 0]):=YR K5 underlying120 rfl
def jl:ZJ Pg 121 false 1 (Pg.bytesOf 121) (.slice none 0 0):=YR K5 underlying121 rfl
def VR:ZJ Pg 123 true 15 (Pg.bytesOf 123) (.agg #[.string Qqz,.int .i64 0,.int .i64 0,.bool false,.bool false,.int .i64 0,.int .i64 0,.int .i64 0,.slice none 0 0,.string Qqz,.string Qqz,.string Qqz,.slice none 0 0,.int .i64 0,.int .i64 0]):=YR K5 underlying123 rfl
def GR:ZJ Pg 128 true 2 (Pg.bytesOf 128) (.agg #[.string Qqz,.int .i64 0]):=YR K5 underlying128 rfl
def Zfe:Pg.bytesOf 128≤4096:=Nat.le_of_ble_eq_true K5
def ZdK:ZJ Pg 129 false 1 (Pg.bytesOf 129) (.int .i64 0):=YR K5 underlying129 rfl
def Dt:ZJ Pg 131 true 3 (Pg.bytesOf 131) (.agg #[.int .i64 0,.int .i64 0,.int .i64 0]):=YR K5 underlying131 rfl
def Zjj:ZJ Pg 159 true 2 (Pg.bytesOf 159) (.agg #[.pointer none,.slice none 0 0]):=YR K5 underlying159 rfl
def TS:ZJ Pg 167 false 1 (Pg.bytesOf 167) (.pointer none):=YR K5 underlying167 rfl
def HN:ZJ Pg 198 false 1 (Pg.bytesOf 198) (.map none):=YR K5 underlying198 rfl
def BW:ZJ Pg 199 false 1 (Pg.bytesOf 199) (.map none):=YR K5 underlying199 rfl
def Zjk:ZJ Pg 201 true 9 (Pg.bytesOf 201) (.agg #[.string Qqz,.slice none 0 0,.string Qqz,.map none,.map none,.int .i64 0,.int .i64 0,.string Qqz,.slice none 0 0]):=YR K5 underlying201 rfl
def HO:ZJ Pg 213 true 3 (Pg.bytesOf 213) (.agg #[.int .i64 0,.int .i64 0,.string Qqz]):=YR K5 underlying213 rfl
def TT:ZJ Pg 252 false 1 (Pg.bytesOf 252) (.nilFunc):=YR K5 underlying252 rfl
def TU:ZJ Pg 253 false 1 (Pg.bytesOf 253) (.nilFunc):=YR K5 underlying253 rfl
def HQ:ZJ Pg 255 true 2 (Pg.bytesOf 255) (.agg #[.nilFunc,.nilFunc]):=YR K5 underlying255 rfl
def BX:ZJ Pg 266 true 3 (Pg.bytesOf 266) (.agg #[.string Qqz,.int .i64 0,.int .i64 0]):=YR K5 underlying266 rfl
def Zff:Pg.bytesOf 266≤4096:=Nat.le_of_ble_eq_true K5
def Nd:ZJ Pg 287 true 13 (Pg.bytesOf 287) (.agg #[.string Qqz,.string Qqz,.string Qqz,.string Qqz,.int .i64 0,.int .i64 0,.int .i64 0,.int .i64 0,.int .i64 0,.int .i64 0,.int .i64 0,.bool false,.bool false]):=YR K5 underlying287 rfl
def TV:ZJ Pg 296 false 1 (Pg.bytesOf 296) (.map none):=YR K5 underlying296 rfl
def UK:ZJ Pg 300 true 2 (Pg.bytesOf 300) (.agg #[.int .i64 0,.int .i64 0]):=YR K5 underlying300 rfl
def Zjl:ZJ Pg 311 false 1 (Pg.bytesOf 311) (.nilFunc):=YR K5 underlying311 rfl
def ZfH {w:Wd} (a0 b0:Int) (a1 b1:Int) (a2 b2:Int):(Op.equalIn (9999+1) 34 (.agg #[.int .i64 a0,.int .i64 a1,.int .i64 a2]) (.agg #[.int .i64 b0,.int .i64 b1,.int .i64 b2])).run Pg w = .ok (decide (a0=b0)&&(decide (a1=b1)&&(decide (a2=b2)&&true))) w:=
 Wc underlying34 K5 (Z5 rfl (YK ty3 rfl) (YK ty3 rfl) (VW underlying3) (Z5 rfl (YK ty3 rfl) (YK ty3 rfl) (VW underlying3) (Z5 rfl (YK HR rfl) (YK HR rfl) (VW underlying32) Vf)))
def ZkI {w:Wd} (a0 b0:Int) (a1 b1:Int) (a2 b2:Int):(Op.equalIn (9999+1) 78 (.agg #[.int .i64 a0,.int .i64 a1,.int .i64 a2]) (.agg #[.int .i64 b0,.int .i64 b1,.int .i64 b2])).run Pg w = .ok (decide (a0=b0)&&(decide (a1=b1)&&(decide (a2=b2)&&true))) w:=
 Wc underlying78 K5 (Z5 rfl (YK ty3 rfl) (YK ty3 rfl) (VW underlying3) (Z5 rfl (YK ty3 rfl) (YK ty3 rfl) (VW underlying3) (Z5 rfl (YK ty3 rfl) (YK ty3 rfl) (VW underlying3) Vf)))
def ZfE {w:Wd} (a0 b0:BAr) (a1 b1:Int):(Op.equalIn (9999+1) 128 (.agg #[.string a0,.int .i64 a1]) (.agg #[.string b0,.int .i64 b1])).run Pg w = .ok (decide (a0=b0)&&(decide (a1=b1)&&true)) w:=
 Wc underlying128 K5 (Z5 rfl (YK ty9 rfl) (YK ty9 rfl) (UZ underlying9) (Z5 rfl (YK ty3 rfl) (YK ty3 rfl) (VW underlying3) Vf))
def ZfF {w:Wd} (a0 b0:Int) (a1 b1:Int) (a2 b2:BAr):(Op.equalIn (9999+1) 213 (.agg #[.int .i64 a0,.int .i64 a1,.string a2]) (.agg #[.int .i64 b0,.int .i64 b1,.string b2])).run Pg w = .ok (decide (a0=b0)&&(decide (a1=b1)&&(decide (a2=b2)&&true))) w:=
 Wc underlying213 K5 (Z5 rfl (YK ty3 rfl) (YK ty3 rfl) (VW underlying3) (Z5 rfl (YK ty3 rfl) (YK ty3 rfl) (VW underlying3) (Z5 rfl (YK ty9 rfl) (YK ty9 rfl) (UZ underlying9) Vf)))
def ZfG {w:Wd} (a0 b0:BAr) (a1 b1:BAr) (a2 b2:BAr) (a3 b3:BAr) (a4 b4:Int) (a5 b5:Int) (a6 b6:Int) (a7 b7:Int) (a8 b8:Int) (a9 b9:Int) (a10 b10:Int) (a11 b11:Bool) (a12 b12:Bool):(Op.equalIn (9999+1) 287 (.agg #[.string a0,.string a1,.string a2,.string a3,.int .i64 a4,.int .i64 a5,.int .i64 a6,.int .i64 a7,.int .i64 a8,.int .i64 a9,.int .i64 a10,.bool a11,.bool a12]) (.agg #[.string b0,.string b1,.string b2,.string b3,.int .i64 b4,.int .i64 b5,.int .i64 b6,.int .i64 b7,.int .i64 b8,.int .i64 b9,.int .i64 b10,.bool b11,.bool b12])).run Pg w = .ok (decide (a0=b0)&&(decide (a1=b1)&&(decide (a2=b2)&&(decide (a3=b3)&&(decide (a4=b4)&&(decide (a5=b5)&&(decide (a6=b6)&&(decide (a7=b7)&&(decide (a8=b8)&&(decide (a9=b9)&&(decide (a10=b10)&&(decide (a11=b11)&&(decide (a12=b12)&&true))))))))))))) w:=
 Wc underlying287 K5 (Z5 rfl (YK ty9 rfl) (YK ty9 rfl) (UZ underlying9) (Z5 rfl (YK ty9 rfl) (YK ty9 rfl) (UZ underlying9) (Z5 rfl (YK ty9 rfl) (YK ty9 rfl) (UZ underlying9) (Z5 rfl (YK ty9 rfl) (YK ty9 rfl) (UZ underlying9) (Z5 rfl (YK GQ rfl) (YK GQ rfl) (VW underlying117) (Z5 rfl (YK ty3 rfl) (YK ty3 rfl) (VW underlying3) (Z5 rfl (YK ty3 rfl) (YK ty3 rfl) (VW underlying3) (Z5 rfl (YK ty3 rfl) (YK ty3 rfl) (VW underlying3) (Z5 rfl (YK ty3 rfl) (YK ty3 rfl) (VW underlying3) (Z5 rfl (YK ty3 rfl) (YK ty3 rfl) (VW underlying3) (Z5 rfl (YK ty3 rfl) (YK ty3 rfl) (VW underlying3) (Z5 rfl (YK ty4 rfl) (YK ty4 rfl) (O8 underlying4) (Z5 rfl (YK ty4 rfl) (YK ty4 rfl) (O8 underlying4) Vf)))))))))))))
section
variable {QP:PEn} {w:Wd} {k:KV}
def o0:=YJ (QP:=QP) (w:=w) (k:=k) ty3
def o1:(∀ u,opV Pg (alloc 3 true u) QP w k=k (Qq4 w.heap.size) (w.alloc (.cells ((.int .i64 0):Vl).cells 3))):=(YB ty3)
def o2:=YJ (QP:=QP) (w:=w) (k:=k) ty4
def o3:(∀ c a b,opV Pg (ZP .eql 4 c (.bool a) (.bool b)) QP w k=k (.bool (a == b)) w):=(ZaZ underlying4)
def o4:(∀ c a b,opV Pg (ZP .neq 4 c (.bool a) (.bool b)) QP w k=k (.bool (a != b)) w):=(Za0 underlying4)
def o5:(∀ u,opV Pg (alloc 4 true u) QP w k=k (Qq4 w.heap.size) (w.alloc (.cells ((.bool false):Vl).cells 4))):=(YB ty4)
def o6:=YJ (QP:=QP) (w:=w) (k:=k) ty5
def o7:=YJ (QP:=QP) (w:=w) (k:=k) ty9
def o8:(∀ r s,opV Pg (Builtin.len_ #[9] r #[.string s]) QP w k=k (.int .i64 (s.size:Int)) w):=(λ r=>Ca (r:=r) underlying9)
def o9:=YJ (QP:=QP) (w:=w) (k:=k) HP
def o10:(∀ r a n c,opV Pg (Builtin.len_ #[22] r #[.slice a n c]) QP w k=k (.int .i64 (n:Int)) w):=(λ r=>Y7 (r:=r) underlying22)
def o11:(∀ b o len cap ik (i:Nat),i < len→opV Pg (indexAt 22 (.slice (some ⟨b,o,none⟩) len cap) (.int ik (i:Int))) QP w k=k (.pointer (some ⟨b,o+i*3,none⟩)) w):=(XN underlying22 qe)
def o12:=Xq (QP:=QP) (w:=w) (k:=k) (i:=0) (ft:=9) (n:=1) underlying24 rfl ty9 rfl
def o13:=ZN (QP:=QP) (w:=w) (k:=k) (i:=1) (ft:=22) (off:=1) (n:=1) underlying24 rfl HP rfl
def o14:(∀ b o,opV Pg (loadAt 24 (.pointer (some ⟨b,o,none⟩))) QP w k=ZW [w.cell? ⟨b,o,none⟩,w.cell? ⟨b,o+1,none⟩] (λ vs=>k (.agg vs.toArray) w) (Kx Pg (loadAt 24 (.pointer (some ⟨b,o,none⟩))) QP w k)):=(by intro b o;exact XT Cl b o _ rfl)
def o15:(∀ u,opV Pg (alloc 24 true u) QP w k=k (Qq4 w.heap.size) (w.alloc (.cells ((.agg #[.string Qqz,.slice none 0 0]):Vl).cells 24))):=(YB Cl)
def o16:=YJ (QP:=QP) (w:=w) (k:=k) Zbg
def o17:(∀ r a n c,opV Pg (Builtin.len_ #[25] r #[.slice a n c]) QP w k=k (.int .i64 (n:Int)) w):=(λ r=>Y7 (r:=r) underlying25)
def o18:(∀ b o len cap ik (i:Nat),i < len→opV Pg (indexAt 25 (.slice (some ⟨b,o,none⟩) len cap) (.int ik (i:Int))) QP w k=k (.pointer (some ⟨b,o+i*2,none⟩)) w):=(XN underlying25 qf)
def o19:=Xq (QP:=QP) (w:=w) (k:=k) (i:=0) (ft:=9) (n:=1) underlying27 rfl ty9 rfl
def o20:=ZN (QP:=QP) (w:=w) (k:=k) (i:=1) (ft:=25) (off:=1) (n:=1) underlying27 rfl Zbg rfl
def o21:=ZN (QP:=QP) (w:=w) (k:=k) (i:=2) (ft:=9) (off:=2) (n:=1) underlying27 rfl ty9 rfl
def o22:(∀ b o,opV Pg (loadAt 27 (.pointer (some ⟨b,o,none⟩))) QP w k=ZW [w.cell? ⟨b,o,none⟩,w.cell? ⟨b,o+1,none⟩,w.cell? ⟨b,o+2,none⟩] (λ vs=>k (.agg vs.toArray) w) (Kx Pg (loadAt 27 (.pointer (some ⟨b,o,none⟩))) QP w k)):=(by intro b o;exact XT Cm b o _ rfl)
def o23:(∀ u,opV Pg (alloc 27 true u) QP w k=k (Qq4 w.heap.size) (w.alloc (.cells ((.agg #[.string Qqz,.slice none 0 0,.string Qqz]):Vl).cells 27))):=(YB Cm)
def o24:=YJ (QP:=QP) (w:=w) (k:=k) HR
def o25:=ZN (QP:=QP) (w:=w) (k:=k) (i:=2) (ft:=32) (off:=2) (n:=1) underlying34 rfl HR rfl
def o26:(∀ b o,opV Pg (loadAt 34 (.pointer (some ⟨b,o,none⟩))) QP w k=ZW [w.cell? ⟨b,o,none⟩,w.cell? ⟨b,o+1,none⟩,w.cell? ⟨b,o+2,none⟩] (λ vs=>k (.agg vs.toArray) w) (Kx Pg (loadAt 34 (.pointer (some ⟨b,o,none⟩))) QP w k)):=(by intro b o;exact XT LZ b o _ rfl)
def o27:(∀ u,opV Pg (alloc 34 true u) QP w k=k (Qq4 w.heap.size) (w.alloc (.cells ((.agg #[.int .i64 0,.int .i64 0,.int .i64 0]):Vl).cells 34))):=(YB LZ)
def o28:=YJ (QP:=QP) (w:=w) (k:=k) HS
def o29:=YJ (QP:=QP) (w:=w) (k:=k) Cn
def o30:(∀ r a n c,opV Pg (Builtin.len_ #[40] r #[.slice a n c]) QP w k=k (.int .i64 (n:Int)) w):=(λ r=>Y7 (r:=r) underlying40)
def o31:(∀ b o len cap ik (i:Nat),i < len→opV Pg (indexAt 40 (.slice (some ⟨b,o,none⟩) len cap) (.int ik (i:Int))) QP w k=k (.pointer (some ⟨b,o+i*1,none⟩)) w):=(XN underlying40 ty5)
def o32:(∀ u,opV Pg (alloc 40 true u) QP w k=k (Qq4 w.heap.size) (w.alloc (.cells ((.slice none 0 0):Vl).cells 40))):=(YB Cn)
def o33:=YJ (QP:=QP) (w:=w) (k:=k) HU
def o34:(∀ r a n c,opV Pg (Builtin.len_ #[41] r #[.slice a n c]) QP w k=k (.int .i64 (n:Int)) w):=(λ r=>Y7 (r:=r) underlying41)
def o35:(∀ b o len cap ik (i:Nat),i < len→opV Pg (indexAt 41 (.slice (some ⟨b,o,none⟩) len cap) (.int ik (i:Int))) QP w k=k (.pointer (some ⟨b,o+i*3,none⟩)) w):=(XN underlying41 Ff)
def o36:=Xq (QP:=QP) (w:=w) (k:=k) (i:=0) (ft:=9) (n:=1) underlying43 rfl ty9 rfl
def o37:=ZN (QP:=QP) (w:=w) (k:=k) (i:=1) (ft:=39) (off:=1) (n:=1) underlying43 rfl HS rfl
def o38:=ZN (QP:=QP) (w:=w) (k:=k) (i:=2) (ft:=9) (off:=2) (n:=1) underlying43 rfl ty9 rfl
def o39:=ZN (QP:=QP) (w:=w) (k:=k) (i:=3) (ft:=3) (off:=3) (n:=1) underlying43 rfl ty3 rfl
def o40:=ZN (QP:=QP) (w:=w) (k:=k) (i:=4) (ft:=3) (off:=4) (n:=1) underlying43 rfl ty3 rfl
def o41:=ZN (QP:=QP) (w:=w) (k:=k) (i:=5) (ft:=40) (off:=5) (n:=1) underlying43 rfl Cn rfl
def o42:=ZN (QP:=QP) (w:=w) (k:=k) (i:=6) (ft:=41) (off:=6) (n:=1) underlying43 rfl HU rfl
def o43:(∀ b o,opV Pg (loadAt 43 (.pointer (some ⟨b,o,none⟩))) QP w k=ZW [w.cell? ⟨b,o,none⟩,w.cell? ⟨b,o+1,none⟩,w.cell? ⟨b,o+2,none⟩,w.cell? ⟨b,o+3,none⟩,w.cell? ⟨b,o+4,none⟩,w.cell? ⟨b,o+5,none⟩,w.cell? ⟨b,o+6,none⟩] (λ vs=>k (.agg vs.toArray) w) (Kx Pg (loadAt 43 (.pointer (some ⟨b,o,none⟩))) QP w k)):=(by intro b o;exact XT KE b o _ rfl)
def o44:(∀ u,opV Pg (alloc 43 true u) QP w k=k (Qq4 w.heap.size) (w.alloc (.cells ((.agg #[.string Qqz,.int .i64 0,.string Qqz,.int .i64 0,.int .i64 0,.slice none 0 0,.slice none 0 0]):Vl).cells 43))):=(YB KE)
def o45:(∀ u,opV Pg (alloc 49 true u) QP w k=k (Qq4 w.heap.size) (w.alloc (.cells ((.int .i64 0):Vl).cells 49))):=(YB ZeU)
def o46:=YJ (QP:=QP) (w:=w) (k:=k) Ma
def o47:(∀ r a n c,opV Pg (Builtin.len_ #[58] r #[.slice a n c]) QP w k=k (.int .i64 (n:Int)) w):=(λ r=>Y7 (r:=r) underlying58)
def o48:(∀ b o len cap ik (i:Nat),i < len→opV Pg (indexAt 58 (.slice (some ⟨b,o,none⟩) len cap) (.int ik (i:Int))) QP w k=k (.pointer (some ⟨b,o+i*7,none⟩)) w):=(XN underlying58 KE)
def o50:=Xq (QP:=QP) (w:=w) (k:=k) (i:=0) (ft:=9) (n:=1) underlying60 rfl ty9 rfl
def o51:=ZN (QP:=QP) (w:=w) (k:=k) (i:=1) (ft:=9) (off:=1) (n:=1) underlying60 rfl ty9 rfl
def o52:=ZN (QP:=QP) (w:=w) (k:=k) (i:=2) (ft:=58) (off:=2) (n:=1) underlying60 rfl Ma rfl
def o53:(∀ b o,opV Pg (loadAt 60 (.pointer (some ⟨b,o,none⟩))) QP w k=ZW [w.cell? ⟨b,o,none⟩,w.cell? ⟨b,o+1,none⟩,w.cell? ⟨b,o+2,none⟩] (λ vs=>k (.agg vs.toArray) w) (Kx Pg (loadAt 60 (.pointer (some ⟨b,o,none⟩))) QP w k)):=(by intro b o;exact XT qe b o _ rfl)
def o54:(∀ u,opV Pg (alloc 60 true u) QP w k=k (Qq4 w.heap.size) (w.alloc (.cells ((.agg #[.string Qqz,.string Qqz,.slice none 0 0]):Vl).cells 60))):=(YB qe)
def o56:(∀ r a n c,opV Pg (Builtin.len_ #[61] r #[.slice a n c]) QP w k=k (.int .i64 (n:Int)) w):=(λ r=>Y7 (r:=r) underlying61)
def o57:(∀ b o len cap ik (i:Nat),i < len→opV Pg (indexAt 61 (.slice (some ⟨b,o,none⟩) len cap) (.int ik (i:Int))) QP w k=k (.pointer (some ⟨b,o+i*1,none⟩)) w):=(XN underlying61 ty3)
def o59:=YJ (QP:=QP) (w:=w) (k:=k) Oy
def o60:(∀ r a n c,opV Pg (Builtin.len_ #[72] r #[.slice a n c]) QP w k=k (.int .i64 (n:Int)) w):=(λ r=>Y7 (r:=r) underlying72)
def o61:(∀ b o len cap ik (i:Nat),i < len→opV Pg (indexAt 72 (.slice (some ⟨b,o,none⟩) len cap) (.int ik (i:Int))) QP w k=k (.pointer (some ⟨b,o+i*15,none⟩)) w):=(XN underlying72 VR)
def o62:=Xq (QP:=QP) (w:=w) (k:=k) (i:=0) (ft:=9) (n:=1) underlying74 rfl ty9 rfl
def o63:=ZN (QP:=QP) (w:=w) (k:=k) (i:=1) (ft:=72) (off:=1) (n:=1) underlying74 rfl Oy rfl
def o64:(∀ b o,opV Pg (loadAt 74 (.pointer (some ⟨b,o,none⟩))) QP w k=ZW [w.cell? ⟨b,o,none⟩,w.cell? ⟨b,o+1,none⟩] (λ vs=>k (.agg vs.toArray) w) (Kx Pg (loadAt 74 (.pointer (some ⟨b,o,none⟩))) QP w k)):=(by intro b o;exact XT qf b o _ rfl)
def o65:(∀ u,opV Pg (alloc 74 true u) QP w k=k (Qq4 w.heap.size) (w.alloc (.cells ((.agg #[.string Qqz,.slice none 0 0]):Vl).cells 74))):=(YB qf)
def o66:=Xq (QP:=QP) (w:=w) (k:=k) (i:=0) (ft:=3) (n:=1) underlying78 rfl ty3 rfl
def o67:=ZN (QP:=QP) (w:=w) (k:=k) (i:=1) (ft:=3) (off:=1) (n:=1) underlying78 rfl ty3 rfl
def o68:=ZN (QP:=QP) (w:=w) (k:=k) (i:=2) (ft:=3) (off:=2) (n:=1) underlying78 rfl ty3 rfl
def o69:(∀ b o,opV Pg (loadAt 78 (.pointer (some ⟨b,o,none⟩))) QP w k=ZW [w.cell? ⟨b,o,none⟩,w.cell? ⟨b,o+1,none⟩,w.cell? ⟨b,o+2,none⟩] (λ vs=>k (.agg vs.toArray) w) (Kx Pg (loadAt 78 (.pointer (some ⟨b,o,none⟩))) QP w k)):=(by intro b o;exact XT Ff b o _ rfl)
def o70:(∀ u,opV Pg (alloc 78 true u) QP w k=k (Qq4 w.heap.size) (w.alloc (.cells ((.agg #[.int .i64 0,.int .i64 0,.int .i64 0]):Vl).cells 78))):=(YB Ff)
def o71:=Xq (QP:=QP) (w:=w) (k:=k) (i:=0) (ft:=24) (n:=2) underlying81 rfl Cl rfl
def o72:=ZN (QP:=QP) (w:=w) (k:=k) (i:=1) (ft:=27) (off:=2) (n:=3) underlying81 rfl Cm rfl
def o73:=ZN (QP:=QP) (w:=w) (k:=k) (i:=2) (ft:=27) (off:=5) (n:=3) underlying81 rfl Cm rfl
def o74:=ZN (QP:=QP) (w:=w) (k:=k) (i:=3) (ft:=3) (off:=8) (n:=1) underlying81 rfl ty3 rfl
def o75:=ZN (QP:=QP) (w:=w) (k:=k) (i:=4) (ft:=3) (off:=9) (n:=1) underlying81 rfl ty3 rfl
def o76:=YJ (QP:=QP) (w:=w) (k:=k) ZeV
def o77:(∀ u,opV Pg (alloc 88 true u) QP w k=k (Qq4 w.heap.size) (w.alloc (.cells ((.nilFunc):Vl).cells 88))):=(YB ZeV)
def o78:=YJ (QP:=QP) (w:=w) (k:=k) Zbh
def o79:(∀ r a n c,opV Pg (Builtin.len_ #[94] r #[.slice a n c]) QP w k=k (.int .i64 (n:Int)) w):=(λ r=>Y7 (r:=r) underlying94)
def o80:(∀ b o len cap ik (i:Nat),i < len→opV Pg (indexAt 94 (.slice (some ⟨b,o,none⟩) len cap) (.int ik (i:Int))) QP w k=k (.pointer (some ⟨b,o+i*1,none⟩)) w):=(XN underlying94 ty9)
def o81:(∀ u,opV Pg (alloc 94 true u) QP w k=k (Qq4 w.heap.size) (w.alloc (.cells ((.slice none 0 0):Vl).cells 94))):=(YB Zbh)
def o82:=Xq (QP:=QP) (w:=w) (k:=k) (i:=0) (ft:=4) (n:=1) underlying105 rfl ty4 rfl
def o83:=ZN (QP:=QP) (w:=w) (k:=k) (i:=1) (ft:=4) (off:=1) (n:=1) underlying105 rfl ty4 rfl
def o84:=ZN (QP:=QP) (w:=w) (k:=k) (i:=2) (ft:=4) (off:=2) (n:=1) underlying105 rfl ty4 rfl
def o85:=ZN (QP:=QP) (w:=w) (k:=k) (i:=3) (ft:=4) (off:=3) (n:=1) underlying105 rfl ty4 rfl
def o86:=ZN (QP:=QP) (w:=w) (k:=k) (i:=4) (ft:=4) (off:=4) (n:=1) underlying105 rfl ty4 rfl
def o88:(∀ b o,opV Pg (loadAt 105 (.pointer (some ⟨b,o,none⟩))) QP w k=ZW [w.cell? ⟨b,o,none⟩,w.cell? ⟨b,o+1,none⟩,w.cell? ⟨b,o+2,none⟩,w.cell? ⟨b,o+3,none⟩,w.cell? ⟨b,o+4,none⟩] (λ vs=>k (.agg vs.toArray) w) (Kx Pg (loadAt 105 (.pointer (some ⟨b,o,none⟩))) QP w k)):=(by intro b o;exact XT Ka b o _ rfl)
def o89:(∀ u,opV Pg (alloc 105 true u) QP w k=k (Qq4 w.heap.size) (w.alloc (.cells ((.agg #[.bool false,.bool false,.bool false,.bool false,.bool false]):Vl).cells 105))):=(YB Ka)
def o90:=YJ (QP:=QP) (w:=w) (k:=k) GQ
def o91:=YJ (QP:=QP) (w:=w) (k:=k) BV
def o92:(∀ r a n c,opV Pg (Builtin.len_ #[118] r #[.slice a n c]) QP w k=k (.int .i64 (n:Int)) w):=(λ r=>Y7 (r:=r) underlying118)
def o93:(∀ b o len cap ik (i:Nat),i < len→opV Pg (indexAt 118 (.slice (some ⟨b,o,none⟩) len cap) (.int ik (i:Int))) QP w k=k (.pointer (some ⟨b,o+i*2,none⟩)) w):=(XN underlying118 GR)
def o94:(∀ u,opV Pg (alloc 118 true u) QP w k=k (Qq4 w.heap.size) (w.alloc (.cells ((.slice none 0 0):Vl).cells 118))):=(YB BV)
def o95:=Xq (QP:=QP) (w:=w) (k:=k) (i:=0) (ft:=3) (n:=1) underlying120 rfl ty3 rfl
def o96:=ZN (QP:=QP) (w:=w) (k:=k) (i:=1) (ft:=118) (off:=1) (n:=1) underlying120 rfl BV rfl
def o97:(∀ b o,opV Pg (loadAt 120 (.pointer (some ⟨b,o,none⟩))) QP w k=ZW [w.cell? ⟨b,o,none⟩,w.cell? ⟨b,o+1,none⟩] (λ vs=>k (.agg vs.toArray) w) (Kx Pg (loadAt 120 (.pointer (some ⟨b,o,none⟩))) QP w k)):=(by intro b o;exact XT Gg b o _ rfl)
def o98:(∀ u,opV Pg (alloc 120 true u) QP w k=k (Qq4 w.heap.size) (w.alloc (.cells ((.agg #[.int .i64 0,.slice none 0 0]):Vl).cells 120))):=(YB Gg)
def o99:=YJ (QP:=QP) (w:=w) (k:=k) jl
def Zmb:(∀ r a n c,opV Pg (Builtin.len_ #[121] r #[.slice a n c]) QP w k=k (.int .i64 (n:Int)) w):=(λ r=>Y7 (r:=r) underlying121)
def ZiL:(∀ b o len cap ik (i:Nat),i < len→opV Pg (indexAt 121 (.slice (some ⟨b,o,none⟩) len cap) (.int ik (i:Int))) QP w k=k (.pointer (some ⟨b,o+i*3,none⟩)) w):=(XN underlying121 HO)
def ZiM:=Xq (QP:=QP) (w:=w) (k:=k) (i:=0) (ft:=9) (n:=1) underlying123 rfl ty9 rfl
def ZiN:=ZN (QP:=QP) (w:=w) (k:=k) (i:=1) (ft:=117) (off:=1) (n:=1) underlying123 rfl GQ rfl
def ZiO:=ZN (QP:=QP) (w:=w) (k:=k) (i:=2) (ft:=3) (off:=2) (n:=1) underlying123 rfl ty3 rfl
def Zmc:=ZN (QP:=QP) (w:=w) (k:=k) (i:=3) (ft:=4) (off:=3) (n:=1) underlying123 rfl ty4 rfl
def Zmd:=ZN (QP:=QP) (w:=w) (k:=k) (i:=4) (ft:=4) (off:=4) (n:=1) underlying123 rfl ty4 rfl
def ZiP:=ZN (QP:=QP) (w:=w) (k:=k) (i:=5) (ft:=3) (off:=5) (n:=1) underlying123 rfl ty3 rfl
def ZiQ:=ZN (QP:=QP) (w:=w) (k:=k) (i:=6) (ft:=3) (off:=6) (n:=1) underlying123 rfl ty3 rfl
def ZiR:=ZN (QP:=QP) (w:=w) (k:=k) (i:=7) (ft:=120) (off:=7) (n:=2) underlying123 rfl Gg rfl
def ZiS:=ZN (QP:=QP) (w:=w) (k:=k) (i:=8) (ft:=9) (off:=9) (n:=1) underlying123 rfl ty9 rfl
def ZiT:=ZN (QP:=QP) (w:=w) (k:=k) (i:=9) (ft:=9) (off:=10) (n:=1) underlying123 rfl ty9 rfl
def ZiU:=ZN (QP:=QP) (w:=w) (k:=k) (i:=10) (ft:=9) (off:=11) (n:=1) underlying123 rfl ty9 rfl
def ZiV:=ZN (QP:=QP) (w:=w) (k:=k) (i:=11) (ft:=121) (off:=12) (n:=1) underlying123 rfl jl rfl
def Zme:=ZN (QP:=QP) (w:=w) (k:=k) (i:=12) (ft:=3) (off:=13) (n:=1) underlying123 rfl ty3 rfl
def Zmf:=ZN (QP:=QP) (w:=w) (k:=k) (i:=13) (ft:=3) (off:=14) (n:=1) underlying123 rfl ty3 rfl
def Zmg:(∀ b o,opV Pg (loadAt 123 (.pointer (some ⟨b,o,none⟩))) QP w k=ZW [w.cell? ⟨b,o,none⟩,w.cell? ⟨b,o+1,none⟩,w.cell? ⟨b,o+2,none⟩,w.cell? ⟨b,o+3,none⟩,w.cell? ⟨b,o+4,none⟩,w.cell? ⟨b,o+5,none⟩,w.cell? ⟨b,o+6,none⟩,w.cell? ⟨b,o+7,none⟩,w.cell? ⟨b,o+8,none⟩,w.cell? ⟨b,o+9,none⟩,w.cell? ⟨b,o+10,none⟩,w.cell? ⟨b,o+11,none⟩,w.cell? ⟨b,o+12,none⟩,w.cell? ⟨b,o+13,none⟩,w.cell? ⟨b,o+14,none⟩] (λ vs=>k (.agg vs.toArray) w) (Kx Pg (loadAt 123 (.pointer (some ⟨b,o,none⟩))) QP w k)):=(by intro b o;exact XT VR b o _ rfl)
def Zmh:(∀ u,opV Pg (alloc 123 true u) QP w k=k (Qq4 w.heap.size) (w.alloc (.cells ((.agg #[.string Qqz,.int .i64 0,.int .i64 0,.bool false,.bool false,.int .i64 0,.int .i64 0,.int .i64 0,.slice none 0 0,.string Qqz,.string Qqz,.string Qqz,.slice none 0 0,.int .i64 0,.int .i64 0]):Vl).cells 123))):=(YB VR)
def ZiW:=Xq (QP:=QP) (w:=w) (k:=k) (i:=0) (ft:=9) (n:=1) underlying128 rfl ty9 rfl
def ZiX:=ZN (QP:=QP) (w:=w) (k:=k) (i:=1) (ft:=3) (off:=1) (n:=1) underlying128 rfl ty3 rfl
def Zmi:(∀ b o,opV Pg (loadAt 128 (.pointer (some ⟨b,o,none⟩))) QP w k=ZW [w.cell? ⟨b,o,none⟩,w.cell? ⟨b,o+1,none⟩] (λ vs=>k (.agg vs.toArray) w) (Kx Pg (loadAt 128 (.pointer (some ⟨b,o,none⟩))) QP w k)):=(by intro b o;exact XT GR b o _ rfl)
def Zmj:(∀ u,opV Pg (alloc 128 true u) QP w k=k (Qq4 w.heap.size) (w.alloc (.cells ((.agg #[.string Qqz,.int .i64 0]):Vl).cells 128))):=(YB GR)
def Zmk:(∀ b o,opV Pg (loadAt 131 (.pointer (some ⟨b,o,none⟩))) QP w k=ZW [w.cell? ⟨b,o,none⟩,w.cell? ⟨b,o+1,none⟩,w.cell? ⟨b,o+2,none⟩] (λ vs=>k (.agg vs.toArray) w) (Kx Pg (loadAt 131 (.pointer (some ⟨b,o,none⟩))) QP w k)):=(by intro b o;exact XT Dt b o _ rfl)
def Zml:(∀ u,opV Pg (alloc 131 true u) QP w k=k (Qq4 w.heap.size) (w.alloc (.cells ((.agg #[.int .i64 0,.int .i64 0,.int .i64 0]):Vl).cells 131))):=(YB Dt)
def Zmm:(∀ u,opV Pg (alloc 159 true u) QP w k=k (Qq4 w.heap.size) (w.alloc (.cells ((.agg #[.pointer none,.slice none 0 0]):Vl).cells 159))):=(YB Zjj)
def Zmn:=YJ (QP:=QP) (w:=w) (k:=k) TS
def Zmo:(∀ r a n c,opV Pg (Builtin.len_ #[170] r #[.slice a n c]) QP w k=k (.int .i64 (n:Int)) w):=(λ r=>Y7 (r:=r) underlying170)
def ZiY:(∀ b o len cap ik (i:Nat),i < len→opV Pg (indexAt 170 (.slice (some ⟨b,o,none⟩) len cap) (.int ik (i:Int))) QP w k=k (.pointer (some ⟨b,o+i*1,none⟩)) w):=(XN underlying170 ty4)
def Zmp:=YJ (QP:=QP) (w:=w) (k:=k) HN
def Zmq:=YJ (QP:=QP) (w:=w) (k:=k) BW
def Zmr:(∀ u,opV Pg (alloc 199 true u) QP w k=k (Qq4 w.heap.size) (w.alloc (.cells ((.map none):Vl).cells 199))):=(YB BW)
def ZiZ:=ZN (QP:=QP) (w:=w) (k:=k) (i:=1) (ft:=198) (off:=3) (n:=1) underlying201 rfl HN rfl
def Zi0:=ZN (QP:=QP) (w:=w) (k:=k) (i:=2) (ft:=199) (off:=4) (n:=1) underlying201 rfl BW rfl
def Zi1:=ZN (QP:=QP) (w:=w) (k:=k) (i:=3) (ft:=3) (off:=5) (n:=1) underlying201 rfl ty3 rfl
def Zi2:=ZN (QP:=QP) (w:=w) (k:=k) (i:=4) (ft:=3) (off:=6) (n:=1) underlying201 rfl ty3 rfl
def Zms:=ZN (QP:=QP) (w:=w) (k:=k) (i:=5) (ft:=74) (off:=7) (n:=2) underlying201 rfl qf rfl
def Zi3:=Xq (QP:=QP) (w:=w) (k:=k) (i:=0) (ft:=3) (n:=1) underlying213 rfl ty3 rfl
def Zi4:=ZN (QP:=QP) (w:=w) (k:=k) (i:=1) (ft:=3) (off:=1) (n:=1) underlying213 rfl ty3 rfl
def Zmt:=ZN (QP:=QP) (w:=w) (k:=k) (i:=2) (ft:=9) (off:=2) (n:=1) underlying213 rfl ty9 rfl
def Zmu:(∀ b o,opV Pg (loadAt 213 (.pointer (some ⟨b,o,none⟩))) QP w k=ZW [w.cell? ⟨b,o,none⟩,w.cell? ⟨b,o+1,none⟩,w.cell? ⟨b,o+2,none⟩] (λ vs=>k (.agg vs.toArray) w) (Kx Pg (loadAt 213 (.pointer (some ⟨b,o,none⟩))) QP w k)):=(by intro b o;exact XT HO b o _ rfl)
def Zmv:(∀ u,opV Pg (alloc 213 true u) QP w k=k (Qq4 w.heap.size) (w.alloc (.cells ((.agg #[.int .i64 0,.int .i64 0,.string Qqz]):Vl).cells 213))):=(YB HO)
def Zmw:=YJ (QP:=QP) (w:=w) (k:=k) TT
def Zmx:=YJ (QP:=QP) (w:=w) (k:=k) TU
def Zmy:=Xq (QP:=QP) (w:=w) (k:=k) (i:=0) (ft:=252) (n:=1) underlying255 rfl TT rfl
def Zmz:=ZN (QP:=QP) (w:=w) (k:=k) (i:=1) (ft:=253) (off:=1) (n:=1) underlying255 rfl TU rfl
def ZmA:(∀ u,opV Pg (alloc 255 true u) QP w k=k (Qq4 w.heap.size) (w.alloc (.cells ((.agg #[.nilFunc,.nilFunc]):Vl).cells 255))):=(YB HQ)
def ZmB:(∀ r a n c,opV Pg (Builtin.len_ #[264] r #[.slice a n c]) QP w k=k (.int .i64 (n:Int)) w):=(λ r=>Y7 (r:=r) underlying264)
def Zi5:(∀ b o len cap ik (i:Nat),i < len→opV Pg (indexAt 264 (.slice (some ⟨b,o,none⟩) len cap) (.int ik (i:Int))) QP w k=k (.pointer (some ⟨b,o+i*3,none⟩)) w):=(XN underlying264 BX)
def ZmC:=Xq (QP:=QP) (w:=w) (k:=k) (i:=0) (ft:=9) (n:=1) underlying266 rfl ty9 rfl
def Zi6:=ZN (QP:=QP) (w:=w) (k:=k) (i:=1) (ft:=3) (off:=1) (n:=1) underlying266 rfl ty3 rfl
def Zi7:=ZN (QP:=QP) (w:=w) (k:=k) (i:=2) (ft:=3) (off:=2) (n:=1) underlying266 rfl ty3 rfl
def ZmD:(∀ b o,opV Pg (loadAt 266 (.pointer (some ⟨b,o,none⟩))) QP w k=ZW [w.cell? ⟨b,o,none⟩,w.cell? ⟨b,o+1,none⟩,w.cell? ⟨b,o+2,none⟩] (λ vs=>k (.agg vs.toArray) w) (Kx Pg (loadAt 266 (.pointer (some ⟨b,o,none⟩))) QP w k)):=(by intro b o;exact XT BX b o _ rfl)
def ZmE:(∀ u,opV Pg (alloc 266 true u) QP w k=k (Qq4 w.heap.size) (w.alloc (.cells ((.agg #[.string Qqz,.int .i64 0,.int .i64 0]):Vl).cells 266))):=(YB BX)
def ZmF:(∀ u,opV Pg (alloc 287 true u) QP w k=k (Qq4 w.heap.size) (w.alloc (.cells ((.agg #[.string Qqz,.string Qqz,.string Qqz,.string Qqz,.int .i64 0,.int .i64 0,.int .i64 0,.int .i64 0,.int .i64 0,.int .i64 0,.int .i64 0,.bool false,.bool false]):Vl).cells 287))):=(YB Nd)
def ZmG:=YJ (QP:=QP) (w:=w) (k:=k) TV
def ZmH:(∀ u,opV Pg (alloc 296 true u) QP w k=k (Qq4 w.heap.size) (w.alloc (.cells ((.map none):Vl).cells 296))):=(YB TV)
def ZmI:=Xq (QP:=QP) (w:=w) (k:=k) (i:=0) (ft:=3) (n:=1) underlying300 rfl ty3 rfl
def ZmJ:=ZN (QP:=QP) (w:=w) (k:=k) (i:=1) (ft:=3) (off:=1) (n:=1) underlying300 rfl ty3 rfl
def ZmK:(∀ v0 v1,opV Pg (Instr.field 300 (.agg #[v0,v1]) 1) QP w k=k v1 w):=(by intro v0 v1;exact Lt underlying300 rfl ty3 rfl)
def ZmL:(∀ b o,opV Pg (loadAt 300 (.pointer (some ⟨b,o,none⟩))) QP w k=ZW [w.cell? ⟨b,o,none⟩,w.cell? ⟨b,o+1,none⟩] (λ vs=>k (.agg vs.toArray) w) (Kx Pg (loadAt 300 (.pointer (some ⟨b,o,none⟩))) QP w k)):=(by intro b o;exact XT UK b o _ rfl)
def ZmM:(∀ u,opV Pg (alloc 300 true u) QP w k=k (Qq4 w.heap.size) (w.alloc (.cells ((.agg #[.int .i64 0,.int .i64 0]):Vl).cells 300))):=(YB UK)
def ZmN:=YJ (QP:=QP) (w:=w) (k:=k) Zjl
def ZmO:(opV Pg (build 24 #[]) QP w k=k (.agg #[.string Qqz,.slice none 0 0]) w):=(by exact Yd (places := #[(0,1),(1,1)]) underlying24 Cl (by intro w;simp [List.mapM_cons,Sem.run_bind,Sw.run_sizeOf HP,Sw.run_sizeOf ty9]) (by simp [fill,ZA]))
def ZmP:(∀ v0:Vl,v0.oneCell'=true→opV Pg (build 24 #[(0,v0)]) QP w k=k (.agg #[v0,.slice none 0 0]) w):=(by intro v0 hv0;exact Yd (places := #[(0,1),(1,1)]) underlying24 Cl (by intro w;simp [List.mapM_cons,Sem.run_bind,Sw.run_sizeOf HP,Sw.run_sizeOf ty9]) (by simp [fill,ZA,Zn hv0]))
def ZmQ:(∀ v0 v1:Vl,v0.oneCell'=true→v1.oneCell'=true→opV Pg (build 24 #[(0,v0),(1,v1)]) QP w k=k (.agg #[v0,v1]) w):=(by intro v0 v1 hv0 hv1;exact Yd (places := #[(0,1),(1,1)]) underlying24 Cl (by intro w;simp [List.mapM_cons,Sem.run_bind,Sw.run_sizeOf HP,Sw.run_sizeOf ty9]) (by simp [fill,ZA,Zn hv0,Zn hv1]))
def ZmR:(∀ v0 v1 v2:Vl,v0.oneCell'=true→v1.oneCell'=true→v2.oneCell'=true→opV Pg (build 27 #[(0,v0),(1,v1),(2,v2)]) QP w k=k (.agg #[v0,v1,v2]) w):=(by intro v0 v1 v2 hv0 hv1 hv2;exact Yd (places := #[(0,1),(1,1),(2,1)]) underlying27 Cm (by intro w;simp [List.mapM_cons,Sem.run_bind,Sw.run_sizeOf Zbg,Sw.run_sizeOf ty9]) (by simp [fill,ZA,Zn hv0,Zn hv1,Zn hv2]))
def ZmS:(opV Pg (build 34 #[]) QP w k=k (.agg #[.int .i64 0,.int .i64 0,.int .i64 0]) w):=(by exact Yd (places := #[(0,1),(1,1),(2,1)]) underlying34 LZ (by intro w;simp [List.mapM_cons,Sem.run_bind,Sw.run_sizeOf ty3,Sw.run_sizeOf HR]) (by simp [fill,ZA]))
def ZmT:(∀ v0 v1 v2:Vl,v0.oneCell'=true→v1.oneCell'=true→v2.oneCell'=true→opV Pg (build 34 #[(0,v0),(1,v1),(2,v2)]) QP w k=k (.agg #[v0,v1,v2]) w):=(by intro v0 v1 v2 hv0 hv1 hv2;exact Yd (places := #[(0,1),(1,1),(2,1)]) underlying34 LZ (by intro w;simp [List.mapM_cons,Sem.run_bind,Sw.run_sizeOf ty3,Sw.run_sizeOf HR]) (by simp [fill,ZA,Zn hv0,Zn hv1,Zn hv2]))
def ZmU:(∀ v2:Vl,v2.oneCell'=true→opV Pg (build 34 #[(2,v2)]) QP w k=k (.agg #[.int .i64 0,.int .i64 0,v2]) w):=(by intro v2 hv2;exact Yd (places := #[(0,1),(1,1),(2,1)]) underlying34 LZ (by intro w;simp [List.mapM_cons,Sem.run_bind,Sw.run_sizeOf ty3,Sw.run_sizeOf HR]) (by simp [fill,ZA,Zn hv2]))
def ZmV:(∀ v0 v1:Vl,v0.oneCell'=true→v1.oneCell'=true→opV Pg (build 43 #[(0,v0),(1,v1)]) QP w k=k (.agg #[v0,v1,.string Qqz,.int .i64 0,.int .i64 0,.slice none 0 0,.slice none 0 0]) w):=(by intro v0 v1 hv0 hv1;exact Yd (places := #[(0,1),(1,1),(2,1),(3,1),(4,1),(5,1),(6,1)]) underlying43 KE (by intro w;simp [List.mapM_cons,Sem.run_bind,Sw.run_sizeOf ty3,Sw.run_sizeOf HS,Sw.run_sizeOf Cn,Sw.run_sizeOf HU,Sw.run_sizeOf ty9]) (by simp [fill,ZA,Zn hv0,Zn hv1]))
def ZmW:(∀ v0 v1 v2:Vl,v0.oneCell'=true→v1.oneCell'=true→v2.oneCell'=true→opV Pg (build 43 #[(0,v0),(1,v1),(2,v2)]) QP w k=k (.agg #[v0,v1,v2,.int .i64 0,.int .i64 0,.slice none 0 0,.slice none 0 0]) w):=(by intro v0 v1 v2 hv0 hv1 hv2;exact Yd (places := #[(0,1),(1,1),(2,1),(3,1),(4,1),(5,1),(6,1)]) underlying43 KE (by intro w;simp [List.mapM_cons,Sem.run_bind,Sw.run_sizeOf ty3,Sw.run_sizeOf HS,Sw.run_sizeOf Cn,Sw.run_sizeOf HU,Sw.run_sizeOf ty9]) (by simp [fill,ZA,Zn hv0,Zn hv1,Zn hv2]))
def ZmX:(∀ v1 v3:Vl,v1.oneCell'=true→v3.oneCell'=true→opV Pg (build 43 #[(1,v1),(3,v3)]) QP w k=k (.agg #[.string Qqz,v1,.string Qqz,v3,.int .i64 0,.slice none 0 0,.slice none 0 0]) w):=(by intro v1 v3 hv1 hv3;exact Yd (places := #[(0,1),(1,1),(2,1),(3,1),(4,1),(5,1),(6,1)]) underlying43 KE (by intro w;simp [List.mapM_cons,Sem.run_bind,Sw.run_sizeOf ty3,Sw.run_sizeOf HS,Sw.run_sizeOf Cn,Sw.run_sizeOf HU,Sw.run_sizeOf ty9]) (by simp [fill,ZA,Zn hv1,Zn hv3]))
def ZmY:(∀ v1 v6:Vl,v1.oneCell'=true→v6.oneCell'=true→opV Pg (build 43 #[(1,v1),(6,v6)]) QP w k=k (.agg #[.string Qqz,v1,.string Qqz,.int .i64 0,.int .i64 0,.slice none 0 0,v6]) w):=(by intro v1 v6 hv1 hv6;exact Yd (places := #[(0,1),(1,1),(2,1),(3,1),(4,1),(5,1),(6,1)]) underlying43 KE (by intro w;simp [List.mapM_cons,Sem.run_bind,Sw.run_sizeOf ty3,Sw.run_sizeOf HS,Sw.run_sizeOf Cn,Sw.run_sizeOf HU,Sw.run_sizeOf ty9]) (by simp [fill,ZA,Zn hv1,Zn hv6]))
def Zi8:(∀ v0 v1:Vl,v0.oneCell'=true→v1.oneCell'=true→opV Pg (build 60 #[(0,v0),(1,v1)]) QP w k=k (.agg #[v0,v1,.slice none 0 0]) w):=(by intro v0 v1 hv0 hv1;exact Yd (places := #[(0,1),(1,1),(2,1)]) underlying60 qe (by intro w;simp [List.mapM_cons,Sem.run_bind,Sw.run_sizeOf Ma,Sw.run_sizeOf ty9]) (by simp [fill,ZA,Zn hv0,Zn hv1]))
def ZmZ:(∀ v0 v1 v2:Vl,v0.oneCell'=true→v1.oneCell'=true→v2.oneCell'=true→opV Pg (build 60 #[(0,v0),(1,v1),(2,v2)]) QP w k=k (.agg #[v0,v1,v2]) w):=(by intro v0 v1 v2 hv0 hv1 hv2;exact Yd (places := #[(0,1),(1,1),(2,1)]) underlying60 qe (by intro w;simp [List.mapM_cons,Sem.run_bind,Sw.run_sizeOf Ma,Sw.run_sizeOf ty9]) (by simp [fill,ZA,Zn hv0,Zn hv1,Zn hv2]))
def Zm0:(opV Pg (build 74 #[]) QP w k=k (.agg #[.string Qqz,.slice none 0 0]) w):=(by exact Yd (places := #[(0,1),(1,1)]) underlying74 qf (by intro w;simp [List.mapM_cons,Sem.run_bind,Sw.run_sizeOf Oy,Sw.run_sizeOf ty9]) (by simp [fill,ZA]))
def Zm1:(∀ v0 v1:Vl,v0.oneCell'=true→v1.oneCell'=true→opV Pg (build 74 #[(0,v0),(1,v1)]) QP w k=k (.agg #[v0,v1]) w):=(by intro v0 v1 hv0 hv1;exact Yd (places := #[(0,1),(1,1)]) underlying74 qf (by intro w;simp [List.mapM_cons,Sem.run_bind,Sw.run_sizeOf Oy,Sw.run_sizeOf ty9]) (by simp [fill,ZA,Zn hv0,Zn hv1]))
def Zi9:(∀ v1:Vl,v1.oneCell'=true→opV Pg (build 74 #[(1,v1)]) QP w k=k (.agg #[.string Qqz,v1]) w):=(by intro v1 hv1;exact Yd (places := #[(0,1),(1,1)]) underlying74 qf (by intro w;simp [List.mapM_cons,Sem.run_bind,Sw.run_sizeOf Oy,Sw.run_sizeOf ty9]) (by simp [fill,ZA,Zn hv1]))
def Zm2:(∀ v0 v1 v2:Vl,v0.oneCell'=true→v1.oneCell'=true→v2.oneCell'=true→opV Pg (build 78 #[(0,v0),(1,v1),(2,v2)]) QP w k=k (.agg #[v0,v1,v2]) w):=(by intro v0 v1 v2 hv0 hv1 hv2;exact Yd (places := #[(0,1),(1,1),(2,1)]) underlying78 Ff (by intro w;simp [List.mapM_cons,Sem.run_bind,Sw.run_sizeOf ty3]) (by simp [fill,ZA,Zn hv0,Zn hv1,Zn hv2]))
def Zm3:(∀ v0_0 v0_1 v1_0 v1_1 v1_2 v2_0 v2_1 v2_2 v3 v4:Vl,v3.oneCell'=true→v4.oneCell'=true→opV Pg (build 81 #[(0,(.agg #[v0_0,v0_1])),(1,(.agg #[v1_0,v1_1,v1_2])),(2,(.agg #[v2_0,v2_1,v2_2])),(3,v3),(4,v4)]) QP w k=k (.agg #[v0_0,v0_1,v1_0,v1_1,v1_2,v2_0,v2_1,v2_2,v3,v4]) w):=(by intro v0_0 v0_1 v1_0 v1_1 v1_2 v2_0 v2_1 v2_2 v3 v4 hv3 hv4;exact Yd (places := #[(0,2),(2,3),(5,3),(8,1),(9,1)]) underlying81 Zn6 (by intro w;simp [List.mapM_cons,Sem.run_bind,Sw.run_sizeOf Cl,Sw.run_sizeOf Cm,Sw.run_sizeOf ty3]) (by simp [fill,ZA,Zn hv3,Zn hv4]))
def Zm4:(∀ v0 v1 v2:Vl,v0.oneCell'=true→v1.oneCell'=true→v2.oneCell'=true→opV Pg (build 82 #[(0,v0),(1,v1),(2,v2)]) QP w k=k (.agg #[v0,v1,v2]) w):=(by intro v0 v1 v2 hv0 hv1 hv2;exact Yd (places := #[(0,1),(1,1),(2,1)]) underlying82 Zn7 (by intro w;simp [List.mapM_cons,Sem.run_bind,Sw.run_sizeOf ty3,Sw.run_sizeOf HR]) (by simp [fill,ZA,Zn hv0,Zn hv1,Zn hv2]))
def Zm5:(opV Pg (build 105 #[]) QP w k=k (.agg #[.bool false,.bool false,.bool false,.bool false,.bool false]) w):=(by exact Yd (places := #[(0,1),(1,1),(2,1),(3,1),(4,1)]) underlying105 Ka (by intro w;simp [List.mapM_cons,Sem.run_bind,Sw.run_sizeOf ty4]) (by simp [fill,ZA]))
def Zm6:(∀ v0:Vl,v0.oneCell'=true→opV Pg (build 105 #[(0,v0)]) QP w k=k (.agg #[v0,.bool false,.bool false,.bool false,.bool false]) w):=(by intro v0 hv0;exact Yd (places := #[(0,1),(1,1),(2,1),(3,1),(4,1)]) underlying105 Ka (by intro w;simp [List.mapM_cons,Sem.run_bind,Sw.run_sizeOf ty4]) (by simp [fill,ZA,Zn hv0]))
def Zm7:(∀ v0 v1:Vl,v0.oneCell'=true→v1.oneCell'=true→opV Pg (build 105 #[(0,v0),(1,v1)]) QP w k=k (.agg #[v0,v1,.bool false,.bool false,.bool false]) w):=(by intro v0 v1 hv0 hv1;exact Yd (places := #[(0,1),(1,1),(2,1),(3,1),(4,1)]) underlying105 Ka (by intro w;simp [List.mapM_cons,Sem.run_bind,Sw.run_sizeOf ty4]) (by simp [fill,ZA,Zn hv0,Zn hv1]))
def Zm8:(∀ v0 v4:Vl,v0.oneCell'=true→v4.oneCell'=true→opV Pg (build 105 #[(0,v0),(4,v4)]) QP w k=k (.agg #[v0,.bool false,.bool false,.bool false,v4]) w):=(by intro v0 v4 hv0 hv4;exact Yd (places := #[(0,1),(1,1),(2,1),(3,1),(4,1)]) underlying105 Ka (by intro w;simp [List.mapM_cons,Sem.run_bind,Sw.run_sizeOf ty4]) (by simp [fill,ZA,Zn hv0,Zn hv4]))
def Zm9:(∀ v2:Vl,v2.oneCell'=true→opV Pg (build 105 #[(2,v2)]) QP w k=k (.agg #[.bool false,.bool false,v2,.bool false,.bool false]) w):=(by intro v2 hv2;exact Yd (places := #[(0,1),(1,1),(2,1),(3,1),(4,1)]) underlying105 Ka (by intro w;simp [List.mapM_cons,Sem.run_bind,Sw.run_sizeOf ty4]) (by simp [fill,ZA,Zn hv2]))
def Zna:(∀ v3:Vl,v3.oneCell'=true→opV Pg (build 105 #[(3,v3)]) QP w k=k (.agg #[.bool false,.bool false,.bool false,v3,.bool false]) w):=(by intro v3 hv3;exact Yd (places := #[(0,1),(1,1),(2,1),(3,1),(4,1)]) underlying105 Ka (by intro w;simp [List.mapM_cons,Sem.run_bind,Sw.run_sizeOf ty4]) (by simp [fill,ZA,Zn hv3]))
def Znb:(opV Pg (build 120 #[]) QP w k=k (.agg #[.int .i64 0,.slice none 0 0]) w):=(by exact Yd (places := #[(0,1),(1,1)]) underlying120 Gg (by intro w;simp [List.mapM_cons,Sem.run_bind,Sw.run_sizeOf BV,Sw.run_sizeOf ty3]) (by simp [fill,ZA]))
def Znc:(∀ v1:Vl,v1.oneCell'=true→opV Pg (build 120 #[(1,v1)]) QP w k=k (.agg #[.int .i64 0,v1]) w):=(by intro v1 hv1;exact Yd (places := #[(0,1),(1,1)]) underlying120 Gg (by intro w;simp [List.mapM_cons,Sem.run_bind,Sw.run_sizeOf BV,Sw.run_sizeOf ty3]) (by simp [fill,ZA,Zn hv1]))
def Znd:(opV Pg (build 123 #[]) QP w k=k (.agg #[.string Qqz,.int .i64 0,.int .i64 0,.bool false,.bool false,.int .i64 0,.int .i64 0,.int .i64 0,.slice none 0 0,.string Qqz,.string Qqz,.string Qqz,.slice none 0 0,.int .i64 0,.int .i64 0]) w):=(by exact Yd (places := #[(0,1),(1,1),(2,1),(3,1),(4,1),(5,1),(6,1),(7,2),(9,1),(10,1),(11,1),(12,1),(13,1),(14,1)]) underlying123 VR (by intro w;simp [List.mapM_cons,Sem.run_bind,Sw.run_sizeOf GQ,Sw.run_sizeOf Gg,Sw.run_sizeOf jl,Sw.run_sizeOf ty3,Sw.run_sizeOf ty4,Sw.run_sizeOf ty9]) (by simp [fill,ZA]))
def Zne:(∀ v0 v1:Vl,v0.oneCell'=true→v1.oneCell'=true→opV Pg (build 123 #[(0,v0),(1,v1)]) QP w k=k (.agg #[v0,v1,.int .i64 0,.bool false,.bool false,.int .i64 0,.int .i64 0,.int .i64 0,.slice none 0 0,.string Qqz,.string Qqz,.string Qqz,.slice none 0 0,.int .i64 0,.int .i64 0]) w):=(by intro v0 v1 hv0 hv1;exact Yd (places := #[(0,1),(1,1),(2,1),(3,1),(4,1),(5,1),(6,1),(7,2),(9,1),(10,1),(11,1),(12,1),(13,1),(14,1)]) underlying123 VR (by intro w;simp [List.mapM_cons,Sem.run_bind,Sw.run_sizeOf GQ,Sw.run_sizeOf Gg,Sw.run_sizeOf jl,Sw.run_sizeOf ty3,Sw.run_sizeOf ty4,Sw.run_sizeOf ty9]) (by simp [fill,ZA,Zn hv0,Zn hv1]))
def Znf:(∀ v0 v1 v2 v6:Vl,v0.oneCell'=true→v1.oneCell'=true→v2.oneCell'=true→v6.oneCell'=true→opV Pg (build 123 #[(0,v0),(1,v1),(2,v2),(6,v6)]) QP w k=k (.agg #[v0,v1,v2,.bool false,.bool false,.int .i64 0,v6,.int .i64 0,.slice none 0 0,.string Qqz,.string Qqz,.string Qqz,.slice none 0 0,.int .i64 0,.int .i64 0]) w):=(by intro v0 v1 v2 v6 hv0 hv1 hv2 hv6;exact Yd (places := #[(0,1),(1,1),(2,1),(3,1),(4,1),(5,1),(6,1),(7,2),(9,1),(10,1),(11,1),(12,1),(13,1),(14,1)]) underlying123 VR (by intro w;simp [List.mapM_cons,Sem.run_bind,Sw.run_sizeOf GQ,Sw.run_sizeOf Gg,Sw.run_sizeOf jl,Sw.run_sizeOf ty3,Sw.run_sizeOf ty4,Sw.run_sizeOf ty9]) (by simp [fill,ZA,Zn hv0,Zn hv1,Zn hv2,Zn hv6]))
def Zng:(∀ v0 v1 v7_0 v7_1:Vl,v0.oneCell'=true→v1.oneCell'=true→opV Pg (build 123 #[(0,v0),(1,v1),(7,(.agg #[v7_0,v7_1]))]) QP w k=k (.agg #[v0,v1,.int .i64 0,.bool false,.bool false,.int .i64 0,.int .i64 0,v7_0,v7_1,.string Qqz,.string Qqz,.string Qqz,.slice none 0 0,.int .i64 0,.int .i64 0]) w):=(by intro v0 v1 v7_0 v7_1 hv0 hv1;exact Yd (places := #[(0,1),(1,1),(2,1),(3,1),(4,1),(5,1),(6,1),(7,2),(9,1),(10,1),(11,1),(12,1),(13,1),(14,1)]) underlying123 VR (by intro w;simp [List.mapM_cons,Sem.run_bind,Sw.run_sizeOf GQ,Sw.run_sizeOf Gg,Sw.run_sizeOf jl,Sw.run_sizeOf ty3,Sw.run_sizeOf ty4,Sw.run_sizeOf ty9]) (by simp [fill,ZA,Zn hv0,Zn hv1]))
def Znh:(∀ v0 v1:Vl,v0.oneCell'=true→v1.oneCell'=true→opV Pg (build 128 #[(0,v0),(1,v1)]) QP w k=k (.agg #[v0,v1]) w):=(by intro v0 v1 hv0 hv1;exact Yd (places := #[(0,1),(1,1)]) underlying128 GR (by intro w;simp [List.mapM_cons,Sem.run_bind,Sw.run_sizeOf ty3,Sw.run_sizeOf ty9]) (by simp [fill,ZA,Zn hv0,Zn hv1]))
def Zni:(opV Pg (build 131 #[]) QP w k=k (.agg #[.int .i64 0,.int .i64 0,.int .i64 0]) w):=(by exact Yd (places := #[(0,1),(1,1),(2,1)]) underlying131 Dt (by intro w;simp [List.mapM_cons,Sem.run_bind,Sw.run_sizeOf ZdK,Sw.run_sizeOf ty3]) (by simp [fill,ZA]))
def Zja:(∀ v0 v1 v2:Vl,v0.oneCell'=true→v1.oneCell'=true→v2.oneCell'=true→opV Pg (build 131 #[(0,v0),(1,v1),(2,v2)]) QP w k=k (.agg #[v0,v1,v2]) w):=(by intro v0 v1 v2 hv0 hv1 hv2;exact Yd (places := #[(0,1),(1,1),(2,1)]) underlying131 Dt (by intro w;simp [List.mapM_cons,Sem.run_bind,Sw.run_sizeOf ZdK,Sw.run_sizeOf ty3]) (by simp [fill,ZA,Zn hv0,Zn hv1,Zn hv2]))
def Znj:(∀ v0_0 v0_1 v0_2 v1 v2 v3 v4:Vl,v1.oneCell'=true→v2.oneCell'=true→v3.oneCell'=true→v4.oneCell'=true→opV Pg (build 201 #[(0,(.agg #[v0_0,v0_1,v0_2])),(1,v1),(2,v2),(3,v3),(4,v4)]) QP w k=k (.agg #[v0_0,v0_1,v0_2,v1,v2,v3,v4,.string Qqz,.slice none 0 0]) w):=(by intro v0_0 v0_1 v0_2 v1 v2 v3 v4 hv1 hv2 hv3 hv4;exact Yd (places := #[(0,3),(3,1),(4,1),(5,1),(6,1),(7,2)]) underlying201 Zjk (by intro w;simp [List.mapM_cons,Sem.run_bind,Sw.run_sizeOf HN,Sw.run_sizeOf BW,Sw.run_sizeOf Cm,Sw.run_sizeOf ty3,Sw.run_sizeOf qf]) (by simp [fill,ZA,Zn hv1,Zn hv2,Zn hv3,Zn hv4]))
def Znk:(∀ v0 v1:Vl,v0.oneCell'=true→v1.oneCell'=true→opV Pg (build 255 #[(0,v0),(1,v1)]) QP w k=k (.agg #[v0,v1]) w):=(by intro v0 v1 hv0 hv1;exact Yd (places := #[(0,1),(1,1)]) underlying255 HQ (by intro w;simp [List.mapM_cons,Sem.run_bind,Sw.run_sizeOf TT,Sw.run_sizeOf TU]) (by simp [fill,ZA,Zn hv0,Zn hv1]))
def Znl:(∀ v0 v1 v2:Vl,v0.oneCell'=true→v1.oneCell'=true→v2.oneCell'=true→opV Pg (build 266 #[(0,v0),(1,v1),(2,v2)]) QP w k=k (.agg #[v0,v1,v2]) w):=(by intro v0 v1 v2 hv0 hv1 hv2;exact Yd (places := #[(0,1),(1,1),(2,1)]) underlying266 BX (by intro w;simp [List.mapM_cons,Sem.run_bind,Sw.run_sizeOf ty3,Sw.run_sizeOf ty9]) (by simp [fill,ZA,Zn hv0,Zn hv1,Zn hv2]))
def Znm:(∀ v0 v1 v2 v3 v4 v5 v6 v7 v8 v9 v10 v11 v12:Vl,v0.oneCell'=true→v1.oneCell'=true→v2.oneCell'=true→v3.oneCell'=true→v4.oneCell'=true→v5.oneCell'=true→v6.oneCell'=true→v7.oneCell'=true→v8.oneCell'=true→v9.oneCell'=true→v10.oneCell'=true→v11.oneCell'=true→v12.oneCell'=true→opV Pg (build 287 #[(0,v0),(1,v1),(2,v2),(3,v3),(4,v4),(5,v5),(6,v6),(7,v7),(8,v8),(9,v9),(10,v10),(11,v11),(12,v12)]) QP w k=k (.agg #[v0,v1,v2,v3,v4,v5,v6,v7,v8,v9,v10,v11,v12]) w):=(by intro v0 v1 v2 v3 v4 v5 v6 v7 v8 v9 v10 v11 v12 hv0 hv1 hv2 hv3 hv4 hv5 hv6 hv7 hv8 hv9 hv10 hv11 hv12;exact Yd (places := #[(0,1),(1,1),(2,1),(3,1),(4,1),(5,1),(6,1),(7,1),(8,1),(9,1),(10,1),(11,1),(12,1)]) underlying287 Nd (by intro w;simp [List.mapM_cons,Sem.run_bind,Sw.run_sizeOf GQ,Sw.run_sizeOf ty3,Sw.run_sizeOf ty4,Sw.run_sizeOf ty9]) (by simp [fill,ZA,Zn hv0,Zn hv1,Zn hv2,Zn hv3,Zn hv4,Zn hv5,Zn hv6,Zn hv7,Zn hv8,Zn hv9,Zn hv10,Zn hv11,Zn hv12]))
def Znn:(opV Pg (build 300 #[]) QP w k=k (.agg #[.int .i64 0,.int .i64 0]) w):=(by exact Yd (places := #[(0,1),(1,1)]) underlying300 UK (by intro w;simp [List.mapM_cons,Sem.run_bind,Sw.run_sizeOf ty3]) (by simp [fill,ZA]))
def Zno:(∀ v0 v1:Vl,v0.oneCell'=true→v1.oneCell'=true→opV Pg (build 300 #[(0,v0),(1,v1)]) QP w k=k (.agg #[v0,v1]) w):=(by intro v0 v1 hv0 hv1;exact Yd (places := #[(0,1),(1,1)]) underlying300 UK (by intro w;simp [List.mapM_cons,Sem.run_bind,Sw.run_sizeOf ty3]) (by simp [fill,ZA,Zn hv0,Zn hv1]))
def Znp:(∀ v0_0 v0_1 v0_2:Vl,opV Pg (buildSlice 22 1 #[(0,(.agg #[v0_0,v0_1,v0_2]))]) QP w k=k (.slice (some ⟨w.heap.size,0,none⟩) 1 1) (w.alloc (.cells #[v0_0,v0_1,v0_2] 60))):=(by intro v0_0 v0_1 v0_2;exact Ya underlying22 qe K7 (base := #[.string Qqz,.string Qqz,.slice none 0 0]) K5 (by simp [fill,ZA]))
def Znq:(∀ v0_0 v0_1:Vl,opV Pg (buildSlice 25 1 #[(0,(.agg #[v0_0,v0_1]))]) QP w k=k (.slice (some ⟨w.heap.size,0,none⟩) 1 1) (w.alloc (.cells #[v0_0,v0_1] 74))):=(by intro v0_0 v0_1;exact Ya underlying25 qf K7 (base := #[.string Qqz,.slice none 0 0]) K5 (by simp [fill,ZA]))
def Znr:(∀ v0:Vl,v0.oneCell'=true→opV Pg (buildSlice 40 1 #[(0,v0)]) QP w k=k (.slice (some ⟨w.heap.size,0,none⟩) 1 1) (w.alloc (.cells #[v0] 5))):=(by intro v0 hv0;exact Ya underlying40 ty5 K7 (base := #[.int .u8 0]) K5 (by simp [fill,ZA,Zn hv0]))
def Zns:(∀ v0_0 v0_1 v0_2:Vl,opV Pg (buildSlice 41 1 #[(0,(.agg #[v0_0,v0_1,v0_2]))]) QP w k=k (.slice (some ⟨w.heap.size,0,none⟩) 1 1) (w.alloc (.cells #[v0_0,v0_1,v0_2] 78))):=(by intro v0_0 v0_1 v0_2;exact Ya underlying41 Ff K7 (base := #[.int .i64 0,.int .i64 0,.int .i64 0]) K5 (by simp [fill,ZA]))
def Znt:(∀ v0_0 v0_1 v0_2 v0_3 v0_4 v0_5 v0_6:Vl,opV Pg (buildSlice 58 1 #[(0,(.agg #[v0_0,v0_1,v0_2,v0_3,v0_4,v0_5,v0_6]))]) QP w k=k (.slice (some ⟨w.heap.size,0,none⟩) 1 1) (w.alloc (.cells #[v0_0,v0_1,v0_2,v0_3,v0_4,v0_5,v0_6] 43))):=(by intro v0_0 v0_1 v0_2 v0_3 v0_4 v0_5 v0_6;exact Ya underlying58 KE K7 (base := #[.string Qqz,.int .i64 0,.string Qqz,.int .i64 0,.int .i64 0,.slice none 0 0,.slice none 0 0]) K5 (by simp [fill,ZA]))
def Znu:(∀ v0_0 v0_1 v0_2 v0_3 v0_4 v0_5 v0_6 v1_0 v1_1 v1_2 v1_3 v1_4 v1_5 v1_6:Vl,opV Pg (buildSlice 58 2 #[(0,(.agg #[v0_0,v0_1,v0_2,v0_3,v0_4,v0_5,v0_6])),(1,(.agg #[v1_0,v1_1,v1_2,v1_3,v1_4,v1_5,v1_6]))]) QP w k=k (.slice (some ⟨w.heap.size,0,none⟩) 2 2) (w.alloc (.cells #[v0_0,v0_1,v0_2,v0_3,v0_4,v0_5,v0_6,v1_0,v1_1,v1_2,v1_3,v1_4,v1_5,v1_6] 43))):=(by intro v0_0 v0_1 v0_2 v0_3 v0_4 v0_5 v0_6 v1_0 v1_1 v1_2 v1_3 v1_4 v1_5 v1_6;exact Ya underlying58 KE K7 (base := #[.string Qqz,.int .i64 0,.string Qqz,.int .i64 0,.int .i64 0,.slice none 0 0,.slice none 0 0,.string Qqz,.int .i64 0,.string Qqz,.int .i64 0,.int .i64 0,.slice none 0 0,.slice none 0 0]) K5 (by simp [fill,ZA]))
def Znv:(∀ v0:Vl,v0.oneCell'=true→opV Pg (buildSlice 61 1 #[(0,v0)]) QP w k=k (.slice (some ⟨w.heap.size,0,none⟩) 1 1) (w.alloc (.cells #[v0] 3))):=(by intro v0 hv0;exact Ya underlying61 ty3 K7 (base := #[.int .i64 0]) K5 (by simp [fill,ZA,Zn hv0]))
def Znw:(∀ v0 v1:Vl,v0.oneCell'=true→v1.oneCell'=true→opV Pg (buildSlice 61 2 #[(0,v0),(1,v1)]) QP w k=k (.slice (some ⟨w.heap.size,0,none⟩) 2 2) (w.alloc (.cells #[v0,v1] 3))):=(by intro v0 v1 hv0 hv1;exact Ya underlying61 ty3 K7 (base := #[.int .i64 0,.int .i64 0]) K5 (by simp [fill,ZA,Zn hv0,Zn hv1]))
def Znx:(∀ v0_0 v0_1 v0_2 v0_3 v0_4 v0_5 v0_6 v0_7 v0_8 v0_9 v0_10 v0_11 v0_12 v0_13 v0_14:Vl,opV Pg (buildSlice 72 1 #[(0,(.agg #[v0_0,v0_1,v0_2,v0_3,v0_4,v0_5,v0_6,v0_7,v0_8,v0_9,v0_10,v0_11,v0_12,v0_13,v0_14]))]) QP w k=k (.slice (some ⟨w.heap.size,0,none⟩) 1 1) (w.alloc (.cells #[v0_0,v0_1,v0_2,v0_3,v0_4,v0_5,v0_6,v0_7,v0_8,v0_9,v0_10,v0_11,v0_12,v0_13,v0_14] 123))):=(by intro v0_0 v0_1 v0_2 v0_3 v0_4 v0_5 v0_6 v0_7 v0_8 v0_9 v0_10 v0_11 v0_12 v0_13 v0_14;exact Ya underlying72 VR K7 (base := #[.string Qqz,.int .i64 0,.int .i64 0,.bool false,.bool false,.int .i64 0,.int .i64 0,.int .i64 0,.slice none 0 0,.string Qqz,.string Qqz,.string Qqz,.slice none 0 0,.int .i64 0,.int .i64 0]) K5 (by simp [fill,ZA]))
def Zny:(∀ v0_0 v0_1 v0_2 v0_3 v0_4 v0_5 v0_6 v0_7 v0_8 v0_9 v0_10 v0_11 v0_12 v0_13 v0_14 v1_0 v1_1 v1_2 v1_3 v1_4 v1_5 v1_6 v1_7 v1_8 v1_9 v1_10 v1_11 v1_12 v1_13 v1_14:Vl,opV Pg (buildSlice 72 2 #[(0,(.agg #[v0_0,v0_1,v0_2,v0_3,v0_4,v0_5,v0_6,v0_7,v0_8,v0_9,v0_10,v0_11,v0_12,v0_13,v0_14])),(1,(.agg #[v1_0,v1_1,v1_2,v1_3,v1_4,v1_5,v1_6,v1_7,v1_8,v1_9,v1_10,v1_11,v1_12,v1_13,v1_14]))]) QP w k=k (.slice (some ⟨w.heap.size,0,none⟩) 2 2) (w.alloc (.cells #[v0_0,v0_1,v0_2,v0_3,v0_4,v0_5,v0_6,v0_7,v0_8,v0_9,v0_10,v0_11,v0_12,v0_13,v0_14,v1_0,v1_1,v1_2,v1_3,v1_4,v1_5,v1_6,v1_7,v1_8,v1_9,v1_10,v1_11,v1_12,v1_13,v1_14] 123))):=(by intro v0_0 v0_1 v0_2 v0_3 v0_4 v0_5 v0_6 v0_7 v0_8 v0_9 v0_10 v0_11 v0_12 v0_13 v0_14 v1_0 v1_1 v1_2 v1_3 v1_4 v1_5 v1_6 v1_7 v1_8 v1_9 v1_10 v1_11 v1_12 v1_13 v1_14;exact Ya underlying72 VR K7 (base := #[.string Qqz,.int .i64 0,.int .i64 0,.bool false,.bool false,.int .i64 0,.int .i64 0,.int .i64 0,.slice none 0 0,.string Qqz,.string Qqz,.string Qqz,.slice none 0 0,.int .i64 0,.int .i64 0,.string Qqz,.int .i64 0,.int .i64 0,.bool false,.bool false,.int .i64 0,.int .i64 0,.int .i64 0,.slice none 0 0,.string Qqz,.string Qqz,.string Qqz,.slice none 0 0,.int .i64 0,.int .i64 0]) K5 (by simp [fill,ZA]))
def Znz:(∀ v0:Vl,v0.oneCell'=true→opV Pg (buildSlice 94 1 #[(0,v0)]) QP w k=k (.slice (some ⟨w.heap.size,0,none⟩) 1 1) (w.alloc (.cells #[v0] 9))):=(by intro v0 hv0;exact Ya underlying94 ty9 K7 (base := #[.string Qqz]) K5 (by simp [fill,ZA,Zn hv0]))
def ZnA:(∀ v0 v1:Vl,v0.oneCell'=true→v1.oneCell'=true→opV Pg (buildSlice 94 2 #[(0,v0),(1,v1)]) QP w k=k (.slice (some ⟨w.heap.size,0,none⟩) 2 2) (w.alloc (.cells #[v0,v1] 9))):=(by intro v0 v1 hv0 hv1;exact Ya underlying94 ty9 K7 (base := #[.string Qqz,.string Qqz]) K5 (by simp [fill,ZA,Zn hv0,Zn hv1]))
def ZnB:(∀ v0 v1 v2:Vl,v0.oneCell'=true→v1.oneCell'=true→v2.oneCell'=true→opV Pg (buildSlice 94 3 #[(0,v0),(1,v1),(2,v2)]) QP w k=k (.slice (some ⟨w.heap.size,0,none⟩) 3 3) (w.alloc (.cells #[v0,v1,v2] 9))):=(by intro v0 v1 v2 hv0 hv1 hv2;exact Ya underlying94 ty9 K7 (base := #[.string Qqz,.string Qqz,.string Qqz]) K5 (by simp [fill,ZA,Zn hv0,Zn hv1,Zn hv2]))
def ZnC:(∀ v0 v1 v2 v3:Vl,v0.oneCell'=true→v1.oneCell'=true→v2.oneCell'=true→v3.oneCell'=true→opV Pg (buildSlice 94 4 #[(0,v0),(1,v1),(2,v2),(3,v3)]) QP w k=k (.slice (some ⟨w.heap.size,0,none⟩) 4 4) (w.alloc (.cells #[v0,v1,v2,v3] 9))):=(by intro v0 v1 v2 v3 hv0 hv1 hv2 hv3;exact Ya underlying94 ty9 K7 (base := #[.string Qqz,.string Qqz,.string Qqz,.string Qqz]) K5 (by simp [fill,ZA,Zn hv0,Zn hv1,Zn hv2,Zn hv3]))
def ZnD:(∀ v0 v1 v2 v3 v4 v5 v6 v7:Vl,v0.oneCell'=true→v1.oneCell'=true→v2.oneCell'=true→v3.oneCell'=true→v4.oneCell'=true→v5.oneCell'=true→v6.oneCell'=true→v7.oneCell'=true→opV Pg (buildSlice 94 8 #[(0,v0),(1,v1),(2,v2),(3,v3),(4,v4),(5,v5),(6,v6),(7,v7)]) QP w k=k (.slice (some ⟨w.heap.size,0,none⟩) 8 8) (w.alloc (.cells #[v0,v1,v2,v3,v4,v5,v6,v7] 9))):=(by intro v0 v1 v2 v3 v4 v5 v6 v7 hv0 hv1 hv2 hv3 hv4 hv5 hv6 hv7;exact Ya underlying94 ty9 K7 (base := #[.string Qqz,.string Qqz,.string Qqz,.string Qqz,.string Qqz,.string Qqz,.string Qqz,.string Qqz]) K5 (by simp [fill,ZA,Zn hv0,Zn hv1,Zn hv2,Zn hv3,Zn hv4,Zn hv5,Zn hv6,Zn hv7]))
def ZnE:(∀ v0 v1 v2 v3 v4 v5 v6 v7 v8 v9 v10 v11 v12:Vl,v0.oneCell'=true→v1.oneCell'=true→v2.oneCell'=true→v3.oneCell'=true→v4.oneCell'=true→v5.oneCell'=true→v6.oneCell'=true→v7.oneCell'=true→v8.oneCell'=true→v9.oneCell'=true→v10.oneCell'=true→v11.oneCell'=true→v12.oneCell'=true→opV Pg (buildSlice 94 13 #[(0,v0),(1,v1),(2,v2),(3,v3),(4,v4),(5,v5),(6,v6),(7,v7),(8,v8),(9,v9),(10,v10),(11,v11),(12,v12)]) QP w k=k (.slice (some ⟨w.heap.size,0,none⟩) 13 13) (w.alloc (.cells #[v0,v1,v2,v3,v4,v5,v6,v7,v8,v9,v10,v11,v12] 9))):=(by intro v0 v1 v2 v3 v4 v5 v6 v7 v8 v9 v10 v11 v12 hv0 hv1 hv2 hv3 hv4 hv5 hv6 hv7 hv8 hv9 hv10 hv11 hv12;exact Ya underlying94 ty9 K7 (base := #[.string Qqz,.string Qqz,.string Qqz,.string Qqz,.string Qqz,.string Qqz,.string Qqz,.string Qqz,.string Qqz,.string Qqz,.string Qqz,.string Qqz,.string Qqz]) K5 (by simp [fill,ZA,Zn hv0,Zn hv1,Zn hv2,Zn hv3,Zn hv4,Zn hv5,Zn hv6,Zn hv7,Zn hv8,Zn hv9,Zn hv10,Zn hv11,Zn hv12]))
def ZnF:(opV Pg (buildSlice 118 0 #[]) QP w k=k (.slice (some ⟨w.heap.size,0,none⟩) 0 0) (w.alloc (.cells #[] 128))):=(by exact Ya underlying118 GR K7 (base := #[]) K5 (by simp [fill,ZA]))
def ZnG:(∀ v0_0 v0_1:Vl,opV Pg (buildSlice 118 1 #[(0,(.agg #[v0_0,v0_1]))]) QP w k=k (.slice (some ⟨w.heap.size,0,none⟩) 1 1) (w.alloc (.cells #[v0_0,v0_1] 128))):=(by intro v0_0 v0_1;exact Ya underlying118 GR K7 (base := #[.string Qqz,.int .i64 0]) K5 (by simp [fill,ZA]))
def ZnH:(∀ v0:Vl,v0.oneCell'=true→opV Pg (buildSlice 170 1 #[(0,v0)]) QP w k=k (.slice (some ⟨w.heap.size,0,none⟩) 1 1) (w.alloc (.cells #[v0] 4))):=(by intro v0 hv0;exact Ya underlying170 ty4 K7 (base := #[.bool false]) K5 (by simp [fill,ZA,Zn hv0]))
def ZnI:(∀ v0 v1:Vl,v0.oneCell'=true→v1.oneCell'=true→opV Pg (buildSlice 170 2 #[(0,v0),(1,v1)]) QP w k=k (.slice (some ⟨w.heap.size,0,none⟩) 2 2) (w.alloc (.cells #[v0,v1] 4))):=(by intro v0 v1 hv0 hv1;exact Ya underlying170 ty4 K7 (base := #[.bool false,.bool false]) K5 (by simp [fill,ZA,Zn hv0,Zn hv1]))
def ZnJ:(∀ v0 v1 v2:Vl,v0.oneCell'=true→v1.oneCell'=true→v2.oneCell'=true→opV Pg (buildSlice 170 3 #[(0,v0),(1,v1),(2,v2)]) QP w k=k (.slice (some ⟨w.heap.size,0,none⟩) 3 3) (w.alloc (.cells #[v0,v1,v2] 4))):=(by intro v0 v1 v2 hv0 hv1 hv2;exact Ya underlying170 ty4 K7 (base := #[.bool false,.bool false,.bool false]) K5 (by simp [fill,ZA,Zn hv0,Zn hv1,Zn hv2]))
def ZnK:(∀ v0_0 v0_1 v0_2:Vl,opV Pg (buildSlice 264 1 #[(0,(.agg #[v0_0,v0_1,v0_2]))]) QP w k=k (.slice (some ⟨w.heap.size,0,none⟩) 1 1) (w.alloc (.cells #[v0_0,v0_1,v0_2] 266))):=(by intro v0_0 v0_1 v0_2;exact Ya underlying264 BX K7 (base := #[.string Qqz,.int .i64 0,.int .i64 0]) K5 (by simp [fill,ZA]))
def ZnL:(∀ q n,opV Pg (Go.convert 3 5 (.int q n)) QP w k=k (.int .u8 (IntKind.u8.wrap n)) w):=(VB (by rw [underlying3];rfl) underlying5)
def ZnM:(∀ q n,opV Pg (Go.convert 3 191 (.int q n)) QP w k=k (.int .u64 (IntKind.u64.wrap n)) w):=(VB (by rw [underlying3];rfl) underlying191)
def ZnN:(∀ q n,opV Pg (Go.convert 3 197 (.int q n)) QP w k=k (.int .u64 (IntKind.u64.wrap n)) w):=(VB (by rw [underlying3];rfl) underlying197)
def ZnO:(∀ q n,opV Pg (Go.convert 5 3 (.int q n)) QP w k=k (.int .i64 (IntKind.i64.wrap n)) w):=(VB (by rw [underlying5];rfl) underlying3)
def ZnP:(∀ q n,opV Pg (Go.convert 5 191 (.int q n)) QP w k=k (.int .u64 (IntKind.u64.wrap n)) w):=(VB (by rw [underlying5];rfl) underlying191)
def ZnQ:(∀ q n,opV Pg (Go.convert 191 5 (.int q n)) QP w k=k (.int .u8 (IntKind.u8.wrap n)) w):=(VB (by rw [underlying191];rfl) underlying5)
def ZnR:(∀ v,opV Pg (makeInterface 82 v) QP w k=k (.iface 82 v) w):=(Br underlying82 rfl)
def ZnS:(∀ v,opV Pg (makeInterface 131 v) QP w k=k (.iface 131 v) w):=(Br underlying131 rfl)
def ZnT:(∀ v,opV Pg (makeInterface 239 v) QP w k=k (.iface 239 v) w):=(Br underlying239 rfl)
def ZnU:(∀ c (a0 b0:Int) (a1 b1:Int) (a2 b2:Int),opV Pg (ZP .eql 34 c (.agg #[.int .i64 a0,.int .i64 a1,.int .i64 a2]) (.agg #[.int .i64 b0,.int .i64 b1,.int .i64 b2])) QP w k=k (.bool (decide (a0=b0)&&(decide (a1=b1)&&(decide (a2=b2)&&true)))) w):=(by intro c a0 b0 a1 b1 a2 b2;exact Hp K5 (λ w=>ZfH a0 b0 a1 b1 a2 b2) c)
def ZnV:(∀ c (a0 b0:Int) (a1 b1:Int) (a2 b2:Int),opV Pg (ZP .neq 34 c (.agg #[.int .i64 a0,.int .i64 a1,.int .i64 a2]) (.agg #[.int .i64 b0,.int .i64 b1,.int .i64 b2])) QP w k=k (.bool (!(decide (a0=b0)&&(decide (a1=b1)&&(decide (a2=b2)&&true))))) w):=(by intro c a0 b0 a1 b1 a2 b2;exact yQ K5 (λ w=>ZfH a0 b0 a1 b1 a2 b2) c)
def ZnW:(∀ c (a0 b0:Int) (a1 b1:Int) (a2 b2:Int),opV Pg (ZP .neq 78 c (.agg #[.int .i64 a0,.int .i64 a1,.int .i64 a2]) (.agg #[.int .i64 b0,.int .i64 b1,.int .i64 b2])) QP w k=k (.bool (!(decide (a0=b0)&&(decide (a1=b1)&&(decide (a2=b2)&&true))))) w):=(by intro c a0 b0 a1 b1 a2 b2;exact yQ K5 (λ w=>ZkI a0 b0 a1 b1 a2 b2) c)
def ZnX:(∀ c A n m,opV Pg (ZP .eql 118 c (.slice A n m) (.slice none 0 0)) QP w k=k (.bool A.isNone) w):=(N7 underlying118)
def ZnY:(∀ c (a0 b0:BAr) (a1 b1:Int),opV Pg (ZP .neq 128 c (.agg #[.string a0,.int .i64 a1]) (.agg #[.string b0,.int .i64 b1])) QP w k=k (.bool (!(decide (a0=b0)&&(decide (a1=b1)&&true)))) w):=(by intro c a0 b0 a1 b1;exact yQ K5 (λ w=>ZfE a0 b0 a1 b1) c)
def ZnZ:(∀ d v,opV Pg (ZP .neq 162 true (.iface d v) .nilIface) QP w k=k (.bool true) w):=(Uj underlying162)
def Zn0:(opV Pg (ZP .neq 162 true .nilIface .nilIface) QP w k=k (.bool false) w):=(Ui underlying162)
def Zn1:(∀ c (a0 b0:Int) (a1 b1:Int) (a2 b2:BAr),opV Pg (ZP .neq 213 c (.agg #[.int .i64 a0,.int .i64 a1,.string a2]) (.agg #[.int .i64 b0,.int .i64 b1,.string b2])) QP w k=k (.bool (!(decide (a0=b0)&&(decide (a1=b1)&&(decide (a2=b2)&&true))))) w):=(by intro c a0 b0 a1 b1 a2 b2;exact yQ K5 (λ w=>ZfF a0 b0 a1 b1 a2 b2) c)
def Zn2:(∀ c (a0 b0:BAr) (a1 b1:BAr) (a2 b2:BAr) (a3 b3:BAr) (a4 b4:Int) (a5 b5:Int) (a6 b6:Int) (a7 b7:Int) (a8 b8:Int) (a9 b9:Int) (a10 b10:Int) (a11 b11:Bool) (a12 b12:Bool),opV Pg (ZP .eql 287 c (.agg #[.string a0,.string a1,.string a2,.string a3,.int .i64 a4,.int .i64 a5,.int .i64 a6,.int .i64 a7,.int .i64 a8,.int .i64 a9,.int .i64 a10,.bool a11,.bool a12]) (.agg #[.string b0,.string b1,.string b2,.string b3,.int .i64 b4,.int .i64 b5,.int .i64 b6,.int .i64 b7,.int .i64 b8,.int .i64 b9,.int .i64 b10,.bool b11,.bool b12])) QP w k=k (.bool (decide (a0=b0)&&(decide (a1=b1)&&(decide (a2=b2)&&(decide (a3=b3)&&(decide (a4=b4)&&(decide (a5=b5)&&(decide (a6=b6)&&(decide (a7=b7)&&(decide (a8=b8)&&(decide (a9=b9)&&(decide (a10=b10)&&(decide (a11=b11)&&(decide (a12=b12)&&true)))))))))))))) w):=(by intro c a0 b0 a1 b1 a2 b2 a3 b3 a4 b4 a5 b5 a6 b6 a7 b7 a8 b8 a9 b9 a10 b10 a11 b11 a12 b12;exact Hp K5 (λ w=>ZfG a0 b0 a1 b1 a2 b2 a3 b3 a4 b4 a5 b5 a6 b6 a7 b7 a8 b8 a9 b9 a10 b10 a11 b11 a12 b12) c)
end
def Yx {P:Program} {C:WPr} [Xb C] {k:Vl→Prop} {s:Nat→Nat→Sem Vl} {v:Nat→Nat→Vl} (h:∀ QP w k b o,opV P (s b o) QP w k=k (v b o) w) (b o:Nat):qV P C (s b o) k=k (v b o):=YG λ QP w k=>h QP w k b o
def Zjt {QP:PEn} {w:Wd} {ku:WPr}:=Qqx (Xk (QP:=QP) (w:=w) (ku:=ku) ty3)<|Qqx (Xk (QP:=QP) (w:=w) (ku:=ku) ty4)<|Qqx (Xk (QP:=QP) (w:=w) (ku:=ku) ty5)<|Qqx (Xk (QP:=QP) (w:=w) (ku:=ku) ty9)<|Qqx (Xk (QP:=QP) (w:=w) (ku:=ku) HP)<|Qqx (Xk (QP:=QP) (w:=w) (ku:=ku) HS)<|Qqx (Xk (QP:=QP) (w:=w) (ku:=ku) Cn)<|Qqx (Xk (QP:=QP) (w:=w) (ku:=ku) HU)<|Qqx ((by intro b T' u0 u1 u2 u3 u4 u5 u6 v0 v1 v2 v3 v4 v5 v6 hb h0 h1 h2 h3 h4 h5 h6;exact xV KE b hb _ T' _ rfl rfl (by intro v hv;simp only [List.mem_cons,List.not_mem_nil,or_false] at hv;rcases hv with rfl | rfl | rfl | rfl | rfl | rfl | rfl<;>assumption)):(∀ (b:Nat) (T':TypeId) u0 u1 u2 u3 u4 u5 u6 v0 v1 v2 v3 v4 v5 v6,b=w.heap.size→v0.oneCell'=true→v1.oneCell'=true→v2.oneCell'=true→v3.oneCell'=true→v4.oneCell'=true→v5.oneCell'=true→v6.oneCell'=true→opU Pg (storeAt 43 (Qq4 b) (.agg #[v0,v1,v2,v3,v4,v5,v6])) QP (w.alloc (.cells #[u0,u1,u2,u3,u4,u5,u6] T')) ku=ku (w.alloc (.cells #[v0,v1,v2,v3,v4,v5,v6] T'))))<|Qqx (Xk (QP:=QP) (w:=w) (ku:=ku) ZeU)<|Qqx (Xk (QP:=QP) (w:=w) (ku:=ku) Ma)<|Qqx (Xk (QP:=QP) (w:=w) (ku:=ku) ZeV)<|Qqx (Xk (QP:=QP) (w:=w) (ku:=ku) Zbh)<|Qqx (Xk (QP:=QP) (w:=w) (ku:=ku) BV)<|Qqx (Xk (QP:=QP) (w:=w) (ku:=ku) jl)<|Qqx ((by intro b T' u0 u1 u2 u3 u4 u5 u6 u7 u8 u9 u10 u11 u12 u13 u14 v0 v1 v2 v3 v4 v5 v6 v7 v8 v9 v10 v11 v12 v13 v14 hb h0 h1 h2 h3 h4 h5 h6 h7 h8 h9 h10 h11 h12 h13 h14;exact xV VR b hb _ T' _ rfl rfl (by intro v hv;simp only [List.mem_cons,List.not_mem_nil,or_false] at hv;rcases hv with rfl | rfl | rfl | rfl | rfl | rfl | rfl | rfl | rfl | rfl | rfl | rfl | rfl | rfl | rfl<;>assumption)):(∀ (b:Nat) (T':TypeId) u0 u1 u2 u3 u4 u5 u6 u7 u8 u9 u10 u11 u12 u13 u14 v0 v1 v2 v3 v4 v5 v6 v7 v8 v9 v10 v11 v12 v13 v14,b=w.heap.size→v0.oneCell'=true→v1.oneCell'=true→v2.oneCell'=true→v3.oneCell'=true→v4.oneCell'=true→v5.oneCell'=true→v6.oneCell'=true→v7.oneCell'=true→v8.oneCell'=true→v9.oneCell'=true→v10.oneCell'=true→v11.oneCell'=true→v12.oneCell'=true→v13.oneCell'=true→v14.oneCell'=true→opU Pg (storeAt 123 (Qq4 b) (.agg #[v0,v1,v2,v3,v4,v5,v6,v7,v8,v9,v10,v11,v12,v13,v14])) QP (w.alloc (.cells #[u0,u1,u2,u3,u4,u5,u6,u7,u8,u9,u10,u11,u12,u13,u14] T')) ku=ku (w.alloc (.cells #[v0,v1,v2,v3,v4,v5,v6,v7,v8,v9,v10,v11,v12,v13,v14] T'))))<|Qqx (Xk (QP:=QP) (w:=w) (ku:=ku) BW)<|Qqx ((by intro b T' u0 u1 u2 u3 u4 u5 u6 u7 u8 u9 u10 u11 u12 v0 v1 v2 v3 v4 v5 v6 v7 v8 v9 v10 v11 v12 hb h0 h1 h2 h3 h4 h5 h6 h7 h8 h9 h10 h11 h12;exact xV Nd b hb _ T' _ rfl rfl (by intro v hv;simp only [List.mem_cons,List.not_mem_nil,or_false] at hv;rcases hv with rfl | rfl | rfl | rfl | rfl | rfl | rfl | rfl | rfl | rfl | rfl | rfl | rfl<;>assumption)):(∀ (b:Nat) (T':TypeId) u0 u1 u2 u3 u4 u5 u6 u7 u8 u9 u10 u11 u12 v0 v1 v2 v3 v4 v5 v6 v7 v8 v9 v10 v11 v12,b=w.heap.size→v0.oneCell'=true→v1.oneCell'=true→v2.oneCell'=true→v3.oneCell'=true→v4.oneCell'=true→v5.oneCell'=true→v6.oneCell'=true→v7.oneCell'=true→v8.oneCell'=true→v9.oneCell'=true→v10.oneCell'=true→v11.oneCell'=true→v12.oneCell'=true→opU Pg (storeAt 287 (Qq4 b) (.agg #[v0,v1,v2,v3,v4,v5,v6,v7,v8,v9,v10,v11,v12])) QP (w.alloc (.cells #[u0,u1,u2,u3,u4,u5,u6,u7,u8,u9,u10,u11,u12] T')) ku=ku (w.alloc (.cells #[v0,v1,v2,v3,v4,v5,v6,v7,v8,v9,v10,v11,v12] T'))))<|(Xk (QP:=QP) (w:=w) (ku:=ku) TV)
def Zjn {QP:PEn} {w:Wd} {ku:WPr}:=Qqx ((by intro b o v0 v1 h0 h1;exact Xy Cl b o _ rfl (by intro v hv;simp only [List.mem_cons,List.not_mem_nil,or_false] at hv;rcases hv with rfl | rfl<;>assumption) _ rfl _ rfl):(∀ b o v0 v1,v0.oneCell'=true→v1.oneCell'=true→opU Pg (storeAt 24 (.pointer (some ⟨b,o,none⟩)) (.agg #[v0,v1])) QP w ku=ZW [w.cell? ⟨b,o,none⟩,w.cell? ⟨b,o+1,none⟩] (λ _=>XR [w.frozen? ⟨b,o,none⟩,w.frozen? ⟨b,o+1,none⟩] (ku ((w.setCell ⟨b,o,none⟩ v0).setCell ⟨b,o+1,none⟩ v1)) (Wo Pg (storeAt 24 (.pointer (some ⟨b,o,none⟩)) (.agg #[v0,v1])) QP w ku)) (Wo Pg (storeAt 24 (.pointer (some ⟨b,o,none⟩)) (.agg #[v0,v1])) QP w ku)))<|Qqx ((by intro b o v0 v1 v2 h0 h1 h2;exact Xy Cm b o _ rfl (by intro v hv;simp only [List.mem_cons,List.not_mem_nil,or_false] at hv;rcases hv with rfl | rfl | rfl<;>assumption) _ rfl _ rfl):(∀ b o v0 v1 v2,v0.oneCell'=true→v1.oneCell'=true→v2.oneCell'=true→opU Pg (storeAt 27 (.pointer (some ⟨b,o,none⟩)) (.agg #[v0,v1,v2])) QP w ku=ZW [w.cell? ⟨b,o,none⟩,w.cell? ⟨b,o+1,none⟩,w.cell? ⟨b,o+2,none⟩] (λ _=>XR [w.frozen? ⟨b,o,none⟩,w.frozen? ⟨b,o+1,none⟩,w.frozen? ⟨b,o+2,none⟩] (ku (((w.setCell ⟨b,o,none⟩ v0).setCell ⟨b,o+1,none⟩ v1).setCell ⟨b,o+2,none⟩ v2)) (Wo Pg (storeAt 27 (.pointer (some ⟨b,o,none⟩)) (.agg #[v0,v1,v2])) QP w ku)) (Wo Pg (storeAt 27 (.pointer (some ⟨b,o,none⟩)) (.agg #[v0,v1,v2])) QP w ku)))<|Qqx ((by intro b o v0 v1 v2 h0 h1 h2;exact Xy LZ b o _ rfl (by intro v hv;simp only [List.mem_cons,List.not_mem_nil,or_false] at hv;rcases hv with rfl | rfl | rfl<;>assumption) _ rfl _ rfl):(∀ b o v0 v1 v2,v0.oneCell'=true→v1.oneCell'=true→v2.oneCell'=true→opU Pg (storeAt 34 (.pointer (some ⟨b,o,none⟩)) (.agg #[v0,v1,v2])) QP w ku=ZW [w.cell? ⟨b,o,none⟩,w.cell? ⟨b,o+1,none⟩,w.cell? ⟨b,o+2,none⟩] (λ _=>XR [w.frozen? ⟨b,o,none⟩,w.frozen? ⟨b,o+1,none⟩,w.frozen? ⟨b,o+2,none⟩] (ku (((w.setCell ⟨b,o,none⟩ v0).setCell ⟨b,o+1,none⟩ v1).setCell ⟨b,o+2,none⟩ v2)) (Wo Pg (storeAt 34 (.pointer (some ⟨b,o,none⟩)) (.agg #[v0,v1,v2])) QP w ku)) (Wo Pg (storeAt 34 (.pointer (some ⟨b,o,none⟩)) (.agg #[v0,v1,v2])) QP w ku)))<|Qqx ((by intro b o v0 v1 v2 h0 h1 h2;exact Xy qe b o _ rfl (by intro v hv;simp only [List.mem_cons,List.not_mem_nil,or_false] at hv;rcases hv with rfl | rfl | rfl<;>assumption) _ rfl _ rfl):(∀ b o v0 v1 v2,v0.oneCell'=true→v1.oneCell'=true→v2.oneCell'=true→opU Pg (storeAt 60 (.pointer (some ⟨b,o,none⟩)) (.agg #[v0,v1,v2])) QP w ku=ZW [w.cell? ⟨b,o,none⟩,w.cell? ⟨b,o+1,none⟩,w.cell? ⟨b,o+2,none⟩] (λ _=>XR [w.frozen? ⟨b,o,none⟩,w.frozen? ⟨b,o+1,none⟩,w.frozen? ⟨b,o+2,none⟩] (ku (((w.setCell ⟨b,o,none⟩ v0).setCell ⟨b,o+1,none⟩ v1).setCell ⟨b,o+2,none⟩ v2)) (Wo Pg (storeAt 60 (.pointer (some ⟨b,o,none⟩)) (.agg #[v0,v1,v2])) QP w ku)) (Wo Pg (storeAt 60 (.pointer (some ⟨b,o,none⟩)) (.agg #[v0,v1,v2])) QP w ku)))<|Qqx ((by intro b o v0 v1 h0 h1;exact Xy qf b o _ rfl (by intro v hv;simp only [List.mem_cons,List.not_mem_nil,or_false] at hv;rcases hv with rfl | rfl<;>assumption) _ rfl _ rfl):(∀ b o v0 v1,v0.oneCell'=true→v1.oneCell'=true→opU Pg (storeAt 74 (.pointer (some ⟨b,o,none⟩)) (.agg #[v0,v1])) QP w ku=ZW [w.cell? ⟨b,o,none⟩,w.cell? ⟨b,o+1,none⟩] (λ _=>XR [w.frozen? ⟨b,o,none⟩,w.frozen? ⟨b,o+1,none⟩] (ku ((w.setCell ⟨b,o,none⟩ v0).setCell ⟨b,o+1,none⟩ v1)) (Wo Pg (storeAt 74 (.pointer (some ⟨b,o,none⟩)) (.agg #[v0,v1])) QP w ku)) (Wo Pg (storeAt 74 (.pointer (some ⟨b,o,none⟩)) (.agg #[v0,v1])) QP w ku)))<|Qqx ((by intro b o v0 v1 v2 h0 h1 h2;exact Xy Ff b o _ rfl (by intro v hv;simp only [List.mem_cons,List.not_mem_nil,or_false] at hv;rcases hv with rfl | rfl | rfl<;>assumption) _ rfl _ rfl):(∀ b o v0 v1 v2,v0.oneCell'=true→v1.oneCell'=true→v2.oneCell'=true→opU Pg (storeAt 78 (.pointer (some ⟨b,o,none⟩)) (.agg #[v0,v1,v2])) QP w ku=ZW [w.cell? ⟨b,o,none⟩,w.cell? ⟨b,o+1,none⟩,w.cell? ⟨b,o+2,none⟩] (λ _=>XR [w.frozen? ⟨b,o,none⟩,w.frozen? ⟨b,o+1,none⟩,w.frozen? ⟨b,o+2,none⟩] (ku (((w.setCell ⟨b,o,none⟩ v0).setCell ⟨b,o+1,none⟩ v1).setCell ⟨b,o+2,none⟩ v2)) (Wo Pg (storeAt 78 (.pointer (some ⟨b,o,none⟩)) (.agg #[v0,v1,v2])) QP w ku)) (Wo Pg (storeAt 78 (.pointer (some ⟨b,o,none⟩)) (.agg #[v0,v1,v2])) QP w ku)))<|Qqx ((by intro b o v0 v1 v2 v3 v4 h0 h1 h2 h3 h4;exact Xy Ka b o _ rfl (by intro v hv;simp only [List.mem_cons,List.not_mem_nil,or_false] at hv;rcases hv with rfl | rfl | rfl | rfl | rfl<;>assumption) _ rfl _ rfl):(∀ b o v0 v1 v2 v3 v4,v0.oneCell'=true→v1.oneCell'=true→v2.oneCell'=true→v3.oneCell'=true→v4.oneCell'=true→opU Pg (storeAt 105 (.pointer (some ⟨b,o,none⟩)) (.agg #[v0,v1,v2,v3,v4])) QP w ku=ZW [w.cell? ⟨b,o,none⟩,w.cell? ⟨b,o+1,none⟩,w.cell? ⟨b,o+2,none⟩,w.cell? ⟨b,o+3,none⟩,w.cell? ⟨b,o+4,none⟩] (λ _=>XR [w.frozen? ⟨b,o,none⟩,w.frozen? ⟨b,o+1,none⟩,w.frozen? ⟨b,o+2,none⟩,w.frozen? ⟨b,o+3,none⟩,w.frozen? ⟨b,o+4,none⟩] (ku (((((w.setCell ⟨b,o,none⟩ v0).setCell ⟨b,o+1,none⟩ v1).setCell ⟨b,o+2,none⟩ v2).setCell ⟨b,o+3,none⟩ v3).setCell ⟨b,o+4,none⟩ v4)) (Wo Pg (storeAt 105 (.pointer (some ⟨b,o,none⟩)) (.agg #[v0,v1,v2,v3,v4])) QP w ku)) (Wo Pg (storeAt 105 (.pointer (some ⟨b,o,none⟩)) (.agg #[v0,v1,v2,v3,v4])) QP w ku)))<|Qqx ((by intro b o v0 v1 h0 h1;exact Xy Gg b o _ rfl (by intro v hv;simp only [List.mem_cons,List.not_mem_nil,or_false] at hv;rcases hv with rfl | rfl<;>assumption) _ rfl _ rfl):(∀ b o v0 v1,v0.oneCell'=true→v1.oneCell'=true→opU Pg (storeAt 120 (.pointer (some ⟨b,o,none⟩)) (.agg #[v0,v1])) QP w ku=ZW [w.cell? ⟨b,o,none⟩,w.cell? ⟨b,o+1,none⟩] (λ _=>XR [w.frozen? ⟨b,o,none⟩,w.frozen? ⟨b,o+1,none⟩] (ku ((w.setCell ⟨b,o,none⟩ v0).setCell ⟨b,o+1,none⟩ v1)) (Wo Pg (storeAt 120 (.pointer (some ⟨b,o,none⟩)) (.agg #[v0,v1])) QP w ku)) (Wo Pg (storeAt 120 (.pointer (some ⟨b,o,none⟩)) (.agg #[v0,v1])) QP w ku)))<|Qqx ((by intro b o v0 v1 h0 h1;exact Xy GR b o _ rfl (by intro v hv;simp only [List.mem_cons,List.not_mem_nil,or_false] at hv;rcases hv with rfl | rfl<;>assumption) _ rfl _ rfl):(∀ b o v0 v1,v0.oneCell'=true→v1.oneCell'=true→opU Pg (storeAt 128 (.pointer (some ⟨b,o,none⟩)) (.agg #[v0,v1])) QP w ku=ZW [w.cell? ⟨b,o,none⟩,w.cell? ⟨b,o+1,none⟩] (λ _=>XR [w.frozen? ⟨b,o,none⟩,w.frozen? ⟨b,o+1,none⟩] (ku ((w.setCell ⟨b,o,none⟩ v0).setCell ⟨b,o+1,none⟩ v1)) (Wo Pg (storeAt 128 (.pointer (some ⟨b,o,none⟩)) (.agg #[v0,v1])) QP w ku)) (Wo Pg (storeAt 128 (.pointer (some ⟨b,o,none⟩)) (.agg #[v0,v1])) QP w ku)))<|Qqx ((by intro b o v0 v1 v2 h0 h1 h2;exact Xy Dt b o _ rfl (by intro v hv;simp only [List.mem_cons,List.not_mem_nil,or_false] at hv;rcases hv with rfl | rfl | rfl<;>assumption) _ rfl _ rfl):(∀ b o v0 v1 v2,v0.oneCell'=true→v1.oneCell'=true→v2.oneCell'=true→opU Pg (storeAt 131 (.pointer (some ⟨b,o,none⟩)) (.agg #[v0,v1,v2])) QP w ku=ZW [w.cell? ⟨b,o,none⟩,w.cell? ⟨b,o+1,none⟩,w.cell? ⟨b,o+2,none⟩] (λ _=>XR [w.frozen? ⟨b,o,none⟩,w.frozen? ⟨b,o+1,none⟩,w.frozen? ⟨b,o+2,none⟩] (ku (((w.setCell ⟨b,o,none⟩ v0).setCell ⟨b,o+1,none⟩ v1).setCell ⟨b,o+2,none⟩ v2)) (Wo Pg (storeAt 131 (.pointer (some ⟨b,o,none⟩)) (.agg #[v0,v1,v2])) QP w ku)) (Wo Pg (storeAt 131 (.pointer (some ⟨b,o,none⟩)) (.agg #[v0,v1,v2])) QP w ku)))<|Qqx ((by intro b o v0 v1 v2 h0 h1 h2;exact Xy HO b o _ rfl (by intro v hv;simp only [List.mem_cons,List.not_mem_nil,or_false] at hv;rcases hv with rfl | rfl | rfl<;>assumption) _ rfl _ rfl):(∀ b o v0 v1 v2,v0.oneCell'=true→v1.oneCell'=true→v2.oneCell'=true→opU Pg (storeAt 213 (.pointer (some ⟨b,o,none⟩)) (.agg #[v0,v1,v2])) QP w ku=ZW [w.cell? ⟨b,o,none⟩,w.cell? ⟨b,o+1,none⟩,w.cell? ⟨b,o+2,none⟩] (λ _=>XR [w.frozen? ⟨b,o,none⟩,w.frozen? ⟨b,o+1,none⟩,w.frozen? ⟨b,o+2,none⟩] (ku (((w.setCell ⟨b,o,none⟩ v0).setCell ⟨b,o+1,none⟩ v1).setCell ⟨b,o+2,none⟩ v2)) (Wo Pg (storeAt 213 (.pointer (some ⟨b,o,none⟩)) (.agg #[v0,v1,v2])) QP w ku)) (Wo Pg (storeAt 213 (.pointer (some ⟨b,o,none⟩)) (.agg #[v0,v1,v2])) QP w ku)))<|Qqx ((by intro b o v0 v1 h0 h1;exact Xy HQ b o _ rfl (by intro v hv;simp only [List.mem_cons,List.not_mem_nil,or_false] at hv;rcases hv with rfl | rfl<;>assumption) _ rfl _ rfl):(∀ b o v0 v1,v0.oneCell'=true→v1.oneCell'=true→opU Pg (storeAt 255 (.pointer (some ⟨b,o,none⟩)) (.agg #[v0,v1])) QP w ku=ZW [w.cell? ⟨b,o,none⟩,w.cell? ⟨b,o+1,none⟩] (λ _=>XR [w.frozen? ⟨b,o,none⟩,w.frozen? ⟨b,o+1,none⟩] (ku ((w.setCell ⟨b,o,none⟩ v0).setCell ⟨b,o+1,none⟩ v1)) (Wo Pg (storeAt 255 (.pointer (some ⟨b,o,none⟩)) (.agg #[v0,v1])) QP w ku)) (Wo Pg (storeAt 255 (.pointer (some ⟨b,o,none⟩)) (.agg #[v0,v1])) QP w ku)))<|Qqx ((by intro b o v0 v1 v2 h0 h1 h2;exact Xy BX b o _ rfl (by intro v hv;simp only [List.mem_cons,List.not_mem_nil,or_false] at hv;rcases hv with rfl | rfl | rfl<;>assumption) _ rfl _ rfl):(∀ b o v0 v1 v2,v0.oneCell'=true→v1.oneCell'=true→v2.oneCell'=true→opU Pg (storeAt 266 (.pointer (some ⟨b,o,none⟩)) (.agg #[v0,v1,v2])) QP w ku=ZW [w.cell? ⟨b,o,none⟩,w.cell? ⟨b,o+1,none⟩,w.cell? ⟨b,o+2,none⟩] (λ _=>XR [w.frozen? ⟨b,o,none⟩,w.frozen? ⟨b,o+1,none⟩,w.frozen? ⟨b,o+2,none⟩] (ku (((w.setCell ⟨b,o,none⟩ v0).setCell ⟨b,o+1,none⟩ v1).setCell ⟨b,o+2,none⟩ v2)) (Wo Pg (storeAt 266 (.pointer (some ⟨b,o,none⟩)) (.agg #[v0,v1,v2])) QP w ku)) (Wo Pg (storeAt 266 (.pointer (some ⟨b,o,none⟩)) (.agg #[v0,v1,v2])) QP w ku)))<|((by intro b o v0 v1 h0 h1;exact Xy UK b o _ rfl (by intro v hv;simp only [List.mem_cons,List.not_mem_nil,or_false] at hv;rcases hv with rfl | rfl<;>assumption) _ rfl _ rfl):(∀ b o v0 v1,v0.oneCell'=true→v1.oneCell'=true→opU Pg (storeAt 300 (.pointer (some ⟨b,o,none⟩)) (.agg #[v0,v1])) QP w ku=ZW [w.cell? ⟨b,o,none⟩,w.cell? ⟨b,o+1,none⟩] (λ _=>XR [w.frozen? ⟨b,o,none⟩,w.frozen? ⟨b,o+1,none⟩] (ku ((w.setCell ⟨b,o,none⟩ v0).setCell ⟨b,o+1,none⟩ v1)) (Wo Pg (storeAt 300 (.pointer (some ⟨b,o,none⟩)) (.agg #[v0,v1])) QP w ku)) (Wo Pg (storeAt 300 (.pointer (some ⟨b,o,none⟩)) (.agg #[v0,v1])) QP w ku)))
section
def Zju {w:Wd} {k:Vl→Prop}:=Qqx (Xv (w:=w) (k:=k) ty3)<|Qqx (W4 (w:=w) (k:=k) ty3)<|Qqx (Xv (w:=w) (k:=k) ty4)<|Qqx (W4 (w:=w) (k:=k) ty4)<|Qqx (Xv (w:=w) (k:=k) ty5)<|Qqx (Xv (w:=w) (k:=k) ty9)<|Qqx (W4 (w:=w) (k:=k) ty9)<|Qqx (Xv (w:=w) (k:=k) HP)<|Qqx (W4 (w:=w) (k:=k) HP)<|Qqx ((by intro b o;exact WO Cl b o _ rfl):(∀ b o,qV Pg (EC w) (loadAt 24 (.pointer (some ⟨b,o,none⟩))) k=ZW [w.cell? ⟨b,o,none⟩,w.cell? ⟨b,o+1,none⟩] (λ vs=>k (.agg vs.toArray)) (qVx Pg (EC w) (loadAt 24 (.pointer (some ⟨b,o,none⟩))) k)))<|Qqx (Xv (w:=w) (k:=k) Zbg)<|Qqx ((by intro b o;exact WO Cm b o _ rfl):(∀ b o,qV Pg (EC w) (loadAt 27 (.pointer (some ⟨b,o,none⟩))) k=ZW [w.cell? ⟨b,o,none⟩,w.cell? ⟨b,o+1,none⟩,w.cell? ⟨b,o+2,none⟩] (λ vs=>k (.agg vs.toArray)) (qVx Pg (EC w) (loadAt 27 (.pointer (some ⟨b,o,none⟩))) k)))<|Qqx (Xv (w:=w) (k:=k) HS)<|Qqx (Xv (w:=w) (k:=k) Cn)<|Qqx (Xv (w:=w) (k:=k) HU)<|Qqx ((by intro b o;exact WO KE b o _ rfl):(∀ b o,qV Pg (EC w) (loadAt 43 (.pointer (some ⟨b,o,none⟩))) k=ZW [w.cell? ⟨b,o,none⟩,w.cell? ⟨b,o+1,none⟩,w.cell? ⟨b,o+2,none⟩,w.cell? ⟨b,o+3,none⟩,w.cell? ⟨b,o+4,none⟩,w.cell? ⟨b,o+5,none⟩,w.cell? ⟨b,o+6,none⟩] (λ vs=>k (.agg vs.toArray)) (qVx Pg (EC w) (loadAt 43 (.pointer (some ⟨b,o,none⟩))) k)))<|Qqx (Xv (w:=w) (k:=k) Ma)<|Qqx (W4 (w:=w) (k:=k) Ma)<|Qqx ((by intro b o;exact WO qe b o _ rfl):(∀ b o,qV Pg (EC w) (loadAt 60 (.pointer (some ⟨b,o,none⟩))) k=ZW [w.cell? ⟨b,o,none⟩,w.cell? ⟨b,o+1,none⟩,w.cell? ⟨b,o+2,none⟩] (λ vs=>k (.agg vs.toArray)) (qVx Pg (EC w) (loadAt 60 (.pointer (some ⟨b,o,none⟩))) k)))<|Qqx (Xv (w:=w) (k:=k) Oy)<|Qqx ((by intro b o;exact WO qf b o _ rfl):(∀ b o,qV Pg (EC w) (loadAt 74 (.pointer (some ⟨b,o,none⟩))) k=ZW [w.cell? ⟨b,o,none⟩,w.cell? ⟨b,o+1,none⟩] (λ vs=>k (.agg vs.toArray)) (qVx Pg (EC w) (loadAt 74 (.pointer (some ⟨b,o,none⟩))) k)))<|Qqx ((by intro b o;exact WO Ff b o _ rfl):(∀ b o,qV Pg (EC w) (loadAt 78 (.pointer (some ⟨b,o,none⟩))) k=ZW [w.cell? ⟨b,o,none⟩,w.cell? ⟨b,o+1,none⟩,w.cell? ⟨b,o+2,none⟩] (λ vs=>k (.agg vs.toArray)) (qVx Pg (EC w) (loadAt 78 (.pointer (some ⟨b,o,none⟩))) k)))<|(Xv (w:=w) (k:=k) GQ)
def Zjv {w:Wd} {k:Vl→Prop}:=Qqx (Xv (w:=w) (k:=k) BV)<|Qqx ((by intro b o;exact WO Gg b o _ rfl):(∀ b o,qV Pg (EC w) (loadAt 120 (.pointer (some ⟨b,o,none⟩))) k=ZW [w.cell? ⟨b,o,none⟩,w.cell? ⟨b,o+1,none⟩] (λ vs=>k (.agg vs.toArray)) (qVx Pg (EC w) (loadAt 120 (.pointer (some ⟨b,o,none⟩))) k)))<|Qqx (Xv (w:=w) (k:=k) jl)<|Qqx ((by intro b o;exact WO VR b o _ rfl):(∀ b o,qV Pg (EC w) (loadAt 123 (.pointer (some ⟨b,o,none⟩))) k=ZW [w.cell? ⟨b,o,none⟩,w.cell? ⟨b,o+1,none⟩,w.cell? ⟨b,o+2,none⟩,w.cell? ⟨b,o+3,none⟩,w.cell? ⟨b,o+4,none⟩,w.cell? ⟨b,o+5,none⟩,w.cell? ⟨b,o+6,none⟩,w.cell? ⟨b,o+7,none⟩,w.cell? ⟨b,o+8,none⟩,w.cell? ⟨b,o+9,none⟩,w.cell? ⟨b,o+10,none⟩,w.cell? ⟨b,o+11,none⟩,w.cell? ⟨b,o+12,none⟩,w.cell? ⟨b,o+13,none⟩,w.cell? ⟨b,o+14,none⟩] (λ vs=>k (.agg vs.toArray)) (qVx Pg (EC w) (loadAt 123 (.pointer (some ⟨b,o,none⟩))) k)))<|Qqx ((by intro b o;exact WO GR b o _ rfl):(∀ b o,qV Pg (EC w) (loadAt 128 (.pointer (some ⟨b,o,none⟩))) k=ZW [w.cell? ⟨b,o,none⟩,w.cell? ⟨b,o+1,none⟩] (λ vs=>k (.agg vs.toArray)) (qVx Pg (EC w) (loadAt 128 (.pointer (some ⟨b,o,none⟩))) k)))<|Qqx (Xv (w:=w) (k:=k) TS)<|Qqx (W4 (w:=w) (k:=k) TS)<|Qqx (Xv (w:=w) (k:=k) HN)<|Qqx (W4 (w:=w) (k:=k) HN)<|Qqx (Xv (w:=w) (k:=k) BW)<|Qqx (W4 (w:=w) (k:=k) BW)<|Qqx ((by intro b o;exact WO HO b o _ rfl):(∀ b o,qV Pg (EC w) (loadAt 213 (.pointer (some ⟨b,o,none⟩))) k=ZW [w.cell? ⟨b,o,none⟩,w.cell? ⟨b,o+1,none⟩,w.cell? ⟨b,o+2,none⟩] (λ vs=>k (.agg vs.toArray)) (qVx Pg (EC w) (loadAt 213 (.pointer (some ⟨b,o,none⟩))) k)))<|Qqx (BA (w:=w) (k:=k) ty4)<|Qqx ((by intro b o;exact WQ Cl b o _ rfl):(∀ b o,qW Pg 24 (.pointer (some ⟨b,o,none⟩)) w k=ZW [w.cell? ⟨b,o,none⟩,w.cell? ⟨b,o+1,none⟩] (λ vs=>k (.agg vs.toArray)) (qWx Pg 24 (.pointer (some ⟨b,o,none⟩)) w k)))<|Qqx ((by intro b o;exact WQ Cm b o _ rfl):(∀ b o,qW Pg 27 (.pointer (some ⟨b,o,none⟩)) w k=ZW [w.cell? ⟨b,o,none⟩,w.cell? ⟨b,o+1,none⟩,w.cell? ⟨b,o+2,none⟩] (λ vs=>k (.agg vs.toArray)) (qWx Pg 27 (.pointer (some ⟨b,o,none⟩)) w k)))<|Qqx ((by intro b o;exact WQ LZ b o _ rfl):(∀ b o,qW Pg 34 (.pointer (some ⟨b,o,none⟩)) w k=ZW [w.cell? ⟨b,o,none⟩,w.cell? ⟨b,o+1,none⟩,w.cell? ⟨b,o+2,none⟩] (λ vs=>k (.agg vs.toArray)) (qWx Pg 34 (.pointer (some ⟨b,o,none⟩)) w k)))<|Qqx (BA (w:=w) (k:=k) Cn)<|((by intro b o;exact WQ KE b o _ rfl):(∀ b o,qW Pg 43 (.pointer (some ⟨b,o,none⟩)) w k=ZW [w.cell? ⟨b,o,none⟩,w.cell? ⟨b,o+1,none⟩,w.cell? ⟨b,o+2,none⟩,w.cell? ⟨b,o+3,none⟩,w.cell? ⟨b,o+4,none⟩,w.cell? ⟨b,o+5,none⟩,w.cell? ⟨b,o+6,none⟩] (λ vs=>k (.agg vs.toArray)) (qWx Pg 43 (.pointer (some ⟨b,o,none⟩)) w k)))
def Zjw {w:Wd} {k:Vl→Prop}:=Qqx (BA (w:=w) (k:=k) ZeU)<|Qqx ((by intro b o;exact WQ qf b o _ rfl):(∀ b o,qW Pg 74 (.pointer (some ⟨b,o,none⟩)) w k=ZW [w.cell? ⟨b,o,none⟩,w.cell? ⟨b,o+1,none⟩] (λ vs=>k (.agg vs.toArray)) (qWx Pg 74 (.pointer (some ⟨b,o,none⟩)) w k)))<|Qqx ((by intro b o;exact WQ Ff b o _ rfl):(∀ b o,qW Pg 78 (.pointer (some ⟨b,o,none⟩)) w k=ZW [w.cell? ⟨b,o,none⟩,w.cell? ⟨b,o+1,none⟩,w.cell? ⟨b,o+2,none⟩] (λ vs=>k (.agg vs.toArray)) (qWx Pg 78 (.pointer (some ⟨b,o,none⟩)) w k)))<|Qqx ((by intro b o;exact WQ VR b o _ rfl):(∀ b o,qW Pg 123 (.pointer (some ⟨b,o,none⟩)) w k=ZW [w.cell? ⟨b,o,none⟩,w.cell? ⟨b,o+1,none⟩,w.cell? ⟨b,o+2,none⟩,w.cell? ⟨b,o+3,none⟩,w.cell? ⟨b,o+4,none⟩,w.cell? ⟨b,o+5,none⟩,w.cell? ⟨b,o+6,none⟩,w.cell? ⟨b,o+7,none⟩,w.cell? ⟨b,o+8,none⟩,w.cell? ⟨b,o+9,none⟩,w.cell? ⟨b,o+10,none⟩,w.cell? ⟨b,o+11,none⟩,w.cell? ⟨b,o+12,none⟩,w.cell? ⟨b,o+13,none⟩,w.cell? ⟨b,o+14,none⟩] (λ vs=>k (.agg vs.toArray)) (qWx Pg 123 (.pointer (some ⟨b,o,none⟩)) w k)))<|Qqx ((by intro b o;exact WQ Dt b o _ rfl):(∀ b o,qW Pg 131 (.pointer (some ⟨b,o,none⟩)) w k=ZW [w.cell? ⟨b,o,none⟩,w.cell? ⟨b,o+1,none⟩,w.cell? ⟨b,o+2,none⟩] (λ vs=>k (.agg vs.toArray)) (qWx Pg 131 (.pointer (some ⟨b,o,none⟩)) w k)))<|Qqx ((by intro b o;exact WQ Nd b o _ rfl):(∀ b o,qW Pg 287 (.pointer (some ⟨b,o,none⟩)) w k=ZW [w.cell? ⟨b,o,none⟩,w.cell? ⟨b,o+1,none⟩,w.cell? ⟨b,o+2,none⟩,w.cell? ⟨b,o+3,none⟩,w.cell? ⟨b,o+4,none⟩,w.cell? ⟨b,o+5,none⟩,w.cell? ⟨b,o+6,none⟩,w.cell? ⟨b,o+7,none⟩,w.cell? ⟨b,o+8,none⟩,w.cell? ⟨b,o+9,none⟩,w.cell? ⟨b,o+10,none⟩,w.cell? ⟨b,o+11,none⟩,w.cell? ⟨b,o+12,none⟩] (λ vs=>k (.agg vs.toArray)) (qWx Pg 287 (.pointer (some ⟨b,o,none⟩)) w k)))<|((by intro b o;exact WQ UK b o _ rfl):(∀ b o,qW Pg 300 (.pointer (some ⟨b,o,none⟩)) w k=ZW [w.cell? ⟨b,o,none⟩,w.cell? ⟨b,o+1,none⟩] (λ vs=>k (.agg vs.toArray)) (qWx Pg 300 (.pointer (some ⟨b,o,none⟩)) w k)))
def Zjo {C:WPr} [Xb C] {k:Vl→Prop}:=Qqx ((by intros;apply YG;intros;apply o4<;>assumption):(∀ c a b,qV Pg C (ZP .neq 4 c (.bool a) (.bool b)) k=k (.bool (a != b))))<|Qqx ((by intros;apply YG;intros;apply o11<;>assumption):(∀ b o len cap ik (i:Nat),i < len→qV Pg C (indexAt 22 (.slice (some ⟨b,o,none⟩) len cap) (.int ik (i:Int))) k=k (.pointer (some ⟨b,o+i*3,none⟩))))<|Qqx (Yx (C:=C) (k:=k) λ QP w k => @o13 QP w k)<|Qqx ((by intros;apply YG;intros;apply o18<;>assumption):(∀ b o len cap ik (i:Nat),i < len→qV Pg C (indexAt 25 (.slice (some ⟨b,o,none⟩) len cap) (.int ik (i:Int))) k=k (.pointer (some ⟨b,o+i*2,none⟩))))<|Qqx (Yx (C:=C) (k:=k) λ QP w k => @o20 QP w k)<|Qqx (Yx (C:=C) (k:=k) λ QP w k => @o21 QP w k)<|Qqx ((by intros;apply YG;intros;apply o30<;>assumption):(∀ r a n c,qV Pg C (Builtin.len_ #[40] r #[.slice a n c]) k=k (.int .i64 (n:Int))))<|Qqx ((by intros;apply YG;intros;apply o31<;>assumption):(∀ b o len cap ik (i:Nat),i < len→qV Pg C (indexAt 40 (.slice (some ⟨b,o,none⟩) len cap) (.int ik (i:Int))) k=k (.pointer (some ⟨b,o+i*1,none⟩))))<|Qqx ((by intros;apply YG;intros;apply o35<;>assumption):(∀ b o len cap ik (i:Nat),i < len→qV Pg C (indexAt 41 (.slice (some ⟨b,o,none⟩) len cap) (.int ik (i:Int))) k=k (.pointer (some ⟨b,o+i*3,none⟩))))<|Qqx (Yx (C:=C) (k:=k) λ QP w k => @o36 QP w k)<|Qqx (Yx (C:=C) (k:=k) λ QP w k => @o37 QP w k)<|Qqx (Yx (C:=C) (k:=k) λ QP w k => @o38 QP w k)<|Qqx (Yx (C:=C) (k:=k) λ QP w k => @o39 QP w k)<|Qqx (Yx (C:=C) (k:=k) λ QP w k => @o40 QP w k)<|Qqx (Yx (C:=C) (k:=k) λ QP w k => @o41 QP w k)<|Qqx (Yx (C:=C) (k:=k) λ QP w k => @o42 QP w k)<|Qqx ((by intros;apply YG;intros;apply o48<;>assumption):(∀ b o len cap ik (i:Nat),i < len→qV Pg C (indexAt 58 (.slice (some ⟨b,o,none⟩) len cap) (.int ik (i:Int))) k=k (.pointer (some ⟨b,o+i*7,none⟩))))<|Qqx (Yx (C:=C) (k:=k) λ QP w k => @o50 QP w k)<|Qqx (Yx (C:=C) (k:=k) λ QP w k => @o51 QP w k)<|Qqx (Yx (C:=C) (k:=k) λ QP w k => @o52 QP w k)<|Qqx ((by intros;apply YG;intros;apply o57<;>assumption):(∀ b o len cap ik (i:Nat),i < len→qV Pg C (indexAt 61 (.slice (some ⟨b,o,none⟩) len cap) (.int ik (i:Int))) k=k (.pointer (some ⟨b,o+i*1,none⟩))))<|Qqx ((by intros;apply YG;intros;apply o61<;>assumption):(∀ b o len cap ik (i:Nat),i < len→qV Pg C (indexAt 72 (.slice (some ⟨b,o,none⟩) len cap) (.int ik (i:Int))) k=k (.pointer (some ⟨b,o+i*15,none⟩))))<|Qqx (Yx (C:=C) (k:=k) λ QP w k => @o62 QP w k)<|Qqx (Yx (C:=C) (k:=k) λ QP w k => @o63 QP w k)<|Qqx (Yx (C:=C) (k:=k) λ QP w k => @o66 QP w k)<|Qqx (Yx (C:=C) (k:=k) λ QP w k => @o67 QP w k)<|Qqx (Yx (C:=C) (k:=k) λ QP w k => @o68 QP w k)<|Qqx (Yx (C:=C) (k:=k) λ QP w k => @o71 QP w k)<|(Yx (C:=C) (k:=k) λ QP w k => @o72 QP w k)
def Zjp {C:WPr} [Xb C] {k:Vl→Prop}:=Qqx (Yx (C:=C) (k:=k) λ QP w k => @o73 QP w k)<|Qqx (Yx (C:=C) (k:=k) λ QP w k => @o74 QP w k)<|Qqx (Yx (C:=C) (k:=k) λ QP w k => @o75 QP w k)<|Qqx ((by intros;apply YG;intros;apply o80<;>assumption):(∀ b o len cap ik (i:Nat),i < len→qV Pg C (indexAt 94 (.slice (some ⟨b,o,none⟩) len cap) (.int ik (i:Int))) k=k (.pointer (some ⟨b,o+i*1,none⟩))))<|Qqx ((by intros;apply YG;intros;apply o92<;>assumption):(∀ r a n c,qV Pg C (Builtin.len_ #[118] r #[.slice a n c]) k=k (.int .i64 (n:Int))))<|Qqx ((by intros;apply YG;intros;apply o93<;>assumption):(∀ b o len cap ik (i:Nat),i < len→qV Pg C (indexAt 118 (.slice (some ⟨b,o,none⟩) len cap) (.int ik (i:Int))) k=k (.pointer (some ⟨b,o+i*2,none⟩))))<|Qqx (Yx (C:=C) (k:=k) λ QP w k => @o95 QP w k)<|Qqx (Yx (C:=C) (k:=k) λ QP w k => @o96 QP w k)<|Qqx ((by intros;apply YG;intros;apply ZiL<;>assumption):(∀ b o len cap ik (i:Nat),i < len→qV Pg C (indexAt 121 (.slice (some ⟨b,o,none⟩) len cap) (.int ik (i:Int))) k=k (.pointer (some ⟨b,o+i*3,none⟩))))<|Qqx (Yx (C:=C) (k:=k) λ QP w k => @ZiM QP w k)<|Qqx (Yx (C:=C) (k:=k) λ QP w k => @ZiN QP w k)<|Qqx (Yx (C:=C) (k:=k) λ QP w k => @ZiO QP w k)<|Qqx (Yx (C:=C) (k:=k) λ QP w k => @ZiP QP w k)<|Qqx (Yx (C:=C) (k:=k) λ QP w k => @ZiQ QP w k)<|Qqx (Yx (C:=C) (k:=k) λ QP w k => @ZiR QP w k)<|Qqx (Yx (C:=C) (k:=k) λ QP w k => @ZiS QP w k)<|Qqx (Yx (C:=C) (k:=k) λ QP w k => @ZiT QP w k)<|Qqx (Yx (C:=C) (k:=k) λ QP w k => @ZiU QP w k)<|Qqx (Yx (C:=C) (k:=k) λ QP w k => @ZiV QP w k)<|Qqx (Yx (C:=C) (k:=k) λ QP w k => @ZiW QP w k)<|Qqx (Yx (C:=C) (k:=k) λ QP w k => @ZiX QP w k)<|Qqx ((by intros;apply YG;intros;apply ZiY<;>assumption):(∀ b o len cap ik (i:Nat),i < len→qV Pg C (indexAt 170 (.slice (some ⟨b,o,none⟩) len cap) (.int ik (i:Int))) k=k (.pointer (some ⟨b,o+i*1,none⟩))))<|Qqx (Yx (C:=C) (k:=k) λ QP w k => @ZiZ QP w k)<|Qqx (Yx (C:=C) (k:=k) λ QP w k => @Zi0 QP w k)<|(Yx (C:=C) (k:=k) λ QP w k => @Zi1 QP w k)
def Zjq {C:WPr} [Xb C] {k:Vl→Prop}:=Qqx (Yx (C:=C) (k:=k) λ QP w k => @Zi2 QP w k)<|Qqx (Yx (C:=C) (k:=k) λ QP w k => @Zms QP w k)<|Qqx (Yx (C:=C) (k:=k) λ QP w k => @Zi3 QP w k)<|Qqx (Yx (C:=C) (k:=k) λ QP w k => @Zi4 QP w k)<|Qqx ((by intros;apply YG;intros;apply Zi5<;>assumption):(∀ b o len cap ik (i:Nat),i < len→qV Pg C (indexAt 264 (.slice (some ⟨b,o,none⟩) len cap) (.int ik (i:Int))) k=k (.pointer (some ⟨b,o+i*3,none⟩))))<|Qqx (Yx (C:=C) (k:=k) λ QP w k => @Zi6 QP w k)<|Qqx (Yx (C:=C) (k:=k) λ QP w k => @Zi7 QP w k)<|Qqx ((by intros;apply YG;intros;apply Zi8<;>assumption):(∀ v0 v1:Vl,v0.oneCell'=true→v1.oneCell'=true→qV Pg C (build 60 #[(0,v0),(1,v1)]) k=k (.agg #[v0,v1,.slice none 0 0])))<|Qqx ((by intros;apply YG;intros;apply Zi9<;>assumption):(∀ v1:Vl,v1.oneCell'=true→qV Pg C (build 74 #[(1,v1)]) k=k (.agg #[.string Qqz,v1])))<|((by intros;apply YG;intros;apply Zm4<;>assumption):(∀ v0 v1 v2:Vl,v0.oneCell'=true→v1.oneCell'=true→v2.oneCell'=true→qV Pg C (build 82 #[(0,v0),(1,v1),(2,v2)]) k=k (.agg #[v0,v1,v2])))
def Zjr {C:WPr} [Xb C] {k:Vl→Prop}:=Qqx ((by intros;apply YG;intros;apply Zja<;>assumption):(∀ v0 v1 v2:Vl,v0.oneCell'=true→v1.oneCell'=true→v2.oneCell'=true→qV Pg C (build 131 #[(0,v0),(1,v1),(2,v2)]) k=k (.agg #[v0,v1,v2])))<|Qqx ((by intros;apply YG;intros;apply ZnR<;>assumption):(∀ v,qV Pg C (makeInterface 82 v) k=k (.iface 82 v)))<|((by intros;apply YG;intros;apply ZnS<;>assumption):(∀ v,qV Pg C (makeInterface 131 v) k=k (.iface 131 v)))
def Zjs {C:WPr} [Xb C] {k:Vl→Prop}:=Qqx ((by intros;apply YG;intros;apply ZnW<;>assumption):(∀ c (a0 b0:Int) (a1 b1:Int) (a2 b2:Int),qV Pg C (ZP .neq 78 c (.agg #[.int .i64 a0,.int .i64 a1,.int .i64 a2]) (.agg #[.int .i64 b0,.int .i64 b1,.int .i64 b2])) k=k (.bool (!(decide (a0=b0)&&(decide (a1=b1)&&(decide (a2=b2)&&true)))))))<|Qqx ((by intros;apply YG;intros;apply ZnY<;>assumption):(∀ c (a0 b0:BAr) (a1 b1:Int),qV Pg C (ZP .neq 128 c (.agg #[.string a0,.int .i64 a1]) (.agg #[.string b0,.int .i64 b1])) k=k (.bool (!(decide (a0=b0)&&(decide (a1=b1)&&true))))))<|Qqx ((by intros;apply YG;intros;apply Zn1<;>assumption):(∀ c (a0 b0:Int) (a1 b1:Int) (a2 b2:BAr),qV Pg C (ZP .neq 213 c (.agg #[.int .i64 a0,.int .i64 a1,.string a2]) (.agg #[.int .i64 b0,.int .i64 b1,.string b2])) k=k (.bool (!(decide (a0=b0)&&(decide (a1=b1)&&(decide (a2=b2)&&true)))))))<|((by intros;apply YG;intros;apply Zn2<;>assumption):(∀ c (a0 b0:BAr) (a1 b1:BAr) (a2 b2:BAr) (a3 b3:BAr) (a4 b4:Int) (a5 b5:Int) (a6 b6:Int) (a7 b7:Int) (a8 b8:Int) (a9 b9:Int) (a10 b10:Int) (a11 b11:Bool) (a12 b12:Bool),qV Pg C (ZP .eql 287 c (.agg #[.string a0,.string a1,.string a2,.string a3,.int .i64 a4,.int .i64 a5,.int .i64 a6,.int .i64 a7,.int .i64 a8,.int .i64 a9,.int .i64 a10,.bool a11,.bool a12]) (.agg #[.string b0,.string b1,.string b2,.string b3,.int .i64 b4,.int .i64 b5,.int .i64 b6,.int .i64 b7,.int .i64 b8,.int .i64 b9,.int .i64 b10,.bool b11,.bool b12])) k=k (.bool (decide (a0=b0)&&(decide (a1=b1)&&(decide (a2=b2)&&(decide (a3=b3)&&(decide (a4=b4)&&(decide (a5=b5)&&(decide (a6=b6)&&(decide (a7=b7)&&(decide (a8=b8)&&(decide (a9=b9)&&(decide (a10=b10)&&(decide (a11=b11)&&(decide (a12=b12)&&true))))))))))))))))
end
def PR:=Qqx @Ze9<|Qqx @Ze4<|Qqx @Zfd<|Qqx @Ze1<|Qqx @Ze2<|Qqx @Ze6<|Qqx @ZdN<|Qqx @Zfb<|Qqx @Zfc<|Qqx @Ze7<|Qqx @Ze8<|Qqx @Zfa<|Qqx @GEN<|Qqx @Lw<|Qqx @CTL<|Qqx @GENQ<|Qqx @o0<|Qqx @o1<|Qqx @o2<|Qqx @o3<|Qqx @o5<|Qqx @o6<|Qqx @o7<|Qqx @o8<|Qqx @o9<|Qqx @o10<|Qqx @o11<|Qqx @o12<|Qqx @o13<|Qqx @o14<|Qqx @o15<|Qqx @o16<|Qqx @o17<|Qqx @o18<|Qqx @o19<|Qqx @o20<|Qqx @o21<|Qqx @o22<|Qqx @o23<|Qqx @o24<|Qqx @o25<|Qqx @o26<|Qqx @o27<|Qqx @o28<|Qqx @o29<|Qqx @o30<|Qqx @o31<|Qqx @o32<|Qqx @o33<|Qqx @o34<|Qqx @o35<|Qqx @o36<|Qqx @o37<|Qqx @o38<|Qqx @o39<|Qqx @o40<|Qqx @o41<|Qqx @o42<|Qqx @o43<|Qqx @o44<|Qqx @o45<|Qqx @o46<|Qqx @o47<|Qqx @o48<|Qqx @o50<|Qqx @o51<|Qqx @o52<|Qqx @o53<|Qqx @o54<|Qqx @o56<|Qqx @o57<|Qqx @o59<|Qqx @o60<|Qqx @o61<|Qqx @o62<|Qqx @o63<|Qqx @o64<|Qqx @o65<|Qqx @o66<|Qqx @o67<|Qqx @o68<|Qqx @o69<|Qqx @o70<|Qqx @o71<|Qqx @o74<|Qqx @o75<|Qqx @o76<|Qqx @o77<|Qqx @o78<|Qqx @o79<|Qqx @o80<|Qqx @o81<|Qqx @o82<|Qqx @o83<|Qqx @o84<|Qqx @o85<|Qqx @o86<|Qqx @o88<|Qqx @o89<|Qqx @o90<|Qqx @o91<|Qqx @o92<|Qqx @o93<|Qqx @o94<|Qqx @o95<|Qqx @o96<|Qqx @o97<|Qqx @o98<|Qqx @o99<|Qqx @Zmb<|Qqx @ZiL<|Qqx @ZiM<|Qqx @ZiN<|Qqx @ZiO<|Qqx @Zmc<|Qqx @Zmd<|Qqx @ZiP<|Qqx @ZiQ<|Qqx @ZiR<|Qqx @ZiS<|Qqx @ZiT<|Qqx @ZiU<|Qqx @ZiV<|Qqx @Zme<|Qqx @Zmf<|Qqx @Zmg<|Qqx @Zmh<|Qqx @ZiW<|Qqx @ZiX<|Qqx @Zmi<|Qqx @Zmj<|Qqx @Zmk<|Qqx @Zml<|Qqx @Zmm<|Qqx @Zmn<|Qqx @Zmo<|Qqx @ZiY<|Qqx @Zmp<|Qqx @Zmq<|Qqx @Zmr<|Qqx @ZiZ<|Qqx @Zi0<|Qqx @Zi1<|Qqx @Zi2<|Qqx @Zi3<|Qqx @Zi4<|Qqx @Zmt<|Qqx @Zmu<|Qqx @Zmv<|Qqx @Zmw<|Qqx @Zmx<|Qqx @Zmy<|Qqx @Zmz<|Qqx @ZmA<|Qqx @ZmB<|Qqx @Zi5<|Qqx @ZmC<|Qqx @Zi6<|Qqx @Zi7<|Qqx @ZmD<|Qqx @ZmE<|Qqx @ZmF<|Qqx @ZmG<|Qqx @ZmH<|Qqx @ZmI<|Qqx @ZmJ<|Qqx @ZmK<|Qqx @ZmL<|Qqx @ZmM<|Qqx @ZmN<|Qqx @ZmO<|Qqx @ZmP<|Qqx @ZmQ<|Qqx @ZmR<|Qqx @ZmS<|Qqx @ZmT<|Qqx @ZmU<|Qqx @ZmV<|Qqx @ZmW<|Qqx @ZmX<|Qqx @ZmY<|Qqx @Zi8<|Qqx @ZmZ<|Qqx @Zm0<|Qqx @Zm1<|Qqx @Zi9<|Qqx @Zm2<|Qqx @Zm3<|Qqx @Zm5<|Qqx @Zm6<|Qqx @Zm7<|Qqx @Zm8<|Qqx @Zm9<|Qqx @Zna<|Qqx @Znb<|Qqx @Znc<|Qqx @Znd<|Qqx @Zne<|Qqx @Znf<|Qqx @Zng<|Qqx @Znh<|Qqx @Zni<|Qqx @Zja<|Qqx @Znj<|Qqx @Znk<|Qqx @Znl<|Qqx @Znm<|Qqx @Znn<|Qqx @Zno<|Qqx @Znp<|Qqx @Znq<|Qqx @Znr<|Qqx @Zns<|Qqx @Znt<|Qqx @Znu<|Qqx @Znv<|Qqx @Znw<|Qqx @Znx<|Qqx @Zny<|Qqx @Znz<|Qqx @ZnA<|Qqx @ZnB<|Qqx @ZnC<|Qqx @ZnD<|Qqx @ZnE<|Qqx @ZnF<|Qqx @ZnG<|Qqx @ZnH<|Qqx @ZnI<|Qqx @ZnJ<|Qqx @ZnK<|Qqx @ZnL<|Qqx @ZnM<|Qqx @ZnN<|Qqx @ZnO<|Qqx @ZnP<|Qqx @ZnQ<|Qqx @ZnT<|Qqx @ZnU<|Qqx @ZnV<|Qqx @ZnX<|Qqx @ZnZ<|Qqx @Zn0<|Qqx @Zjt<|Qqx @Zju<|Qqx @Zjv<|Qqx @Zjw<|Qqx @Zjo<|Qqx @Zjp<|Qqx @Zjq<|Qqx @Zjr<|Qqx @Zjs<|Qqx @joinK_eq<|Qqx @ZeK<|Qqx @ZeR<|Qqx @FJ <| @Tl
abbrev QqJ (n:Int):Vl:=.int .i64 n
def QqX (n:Int):QqJ n=.int .i64 n:=rfl
def QR:=And.intro @QqX<|Qqx @Zjn<|Qqx @O6<|Qqx @Ho<|Qqx @EE<|Qqx @Lp<|Qqx @EG<|Qqx @Pj<|Qqx @NK<|Qqx @STD<|Qqx @NM<|Qqx @NN<|Qqx @CD<|Qqx @Nw<|Qqx @FG<|Qqx @TF<|Qqx @OW<|Qqx @Io<|Qqx @Za9<|Qqx @OE<|Qqx @List.setIfInBounds_toArray.{0}<|Qqx @List.set_cons_zero.{0}<|Qqx @List.set_cons_succ.{0}<|Qqx @decide_true<|Qqx @decide_false<|Qqx @Bool.false_eq_true<|Qqx @Option.isSome_some.{0}<|Qqx @Option.isSome_none.{0}<|Qqx @Option.getD_some.{0}<|Qqx @Option.getD_none.{0}<|Qqx @DN<|Qqx @Xs<|Qqx @Option.map_some.{0,0}<|Qqx @List.getElem?_toArray.{0}<|Qqx @List.getElem?_cons_succ.{0}<|Qqx @List.getElem?_cons_zero.{0}<|Qqx @Nat.zero_add<|Qqx @World.size_alloc<|Qqx @World.size_setCell<|Qqx @World.size_drew<|Qqx @Bool.not_true<|Qqx @Bool.not_false<|Qqx @Bool.and_true<|Qqx @Bool.true_and<|Qqx @Bool.and_false<|Qqx @Bool.false_and<|Qqx @Bool.or_true<|Qqx @Bool.true_or<|Qqx @Bool.or_false<|Qqx @Bool.false_or <| @Bool.not_not
def Qqg {A p q:Prop} (a:A) (x:q) (h:A→(p=q):=by intro E1;simp (disch:=try exact DI) only [↓PR,QR,simprocAttr,E1];exact rfl):p:=h a ▸ x
def QqV {A p:Prop} (a:A) (h:A→p:=by intro E1;simp (disch:=try exact DI) only [↓PR,QR,simprocAttr,E1]):p:=h a
def Qqh {A B p q:Prop} (a:A) (b:B) (x:q) (h:A→B→(p=q):=by intro E1 E2;simp (disch:=try exact DI) only [↓PR,QR,simprocAttr,E1,E2];exact rfl):p:=h a b ▸ x
def QqW {A B p:Prop} (a:A) (b:B) (h:A→B→p:=by intro E1 E2;simp (disch:=try exact DI) only [↓PR,QR,simprocAttr,E1,E2]):p:=h a b
def Qqb {A B C p q:Prop} (a:A) (b:B) (c:C) (x:q) (h:A→B→C→(p=q):=by intro E1 E2 E3;simp (disch:=try exact DI) only [↓PR,QR,simprocAttr,E1,E2,E3];exact rfl):p:=h a b c ▸ x
def QqY {A B C p:Prop} (a:A) (b:B) (c:C) (h:A→B→C→p:=by intro E1 E2 E3;simp (disch:=try exact DI) only [↓PR,QR,simprocAttr,E1,E2,E3]):p:=h a b c
def Qqm {A B C D p q:Prop} (a:A) (b:B) (c:C) (d:D) (x:q) (h:A→B→C→D→(p=q):=by intro E1 E2 E3 E4;simp (disch:=try exact DI) only [↓PR,QR,simprocAttr,E1,E2,E3,E4];exact rfl):p:=h a b c d ▸ x
def Qq0 {A B C D p:Prop} (a:A) (b:B) (c:C) (d:D) (h:A→B→C→D→p:=by intro E1 E2 E3 E4;simp (disch:=try exact DI) only [↓PR,QR,simprocAttr,E1,E2,E3,E4]):p:=h a b c d
def QqZ {A B C D E p q:Prop} (a:A) (b:B) (c:C) (d:D) (e:E) (x:q) (h:A→B→C→D→E→(p=q):=by intro E1 E2 E3 E4 E5;simp (disch:=try exact DI) only [↓PR,QR,simprocAttr,E1,E2,E3,E4,E5];exact rfl):p:=h a b c d e ▸ x
def Qq1 {A B C D E p:Prop} (a:A) (b:B) (c:C) (d:D) (e:E) (h:A→B→C→D→E→p:=by intro E1 E2 E3 E4 E5;simp (disch:=try exact DI) only [↓PR,QR,simprocAttr,E1,E2,E3,E4,E5]):p:=h a b c d e
def QqK {A B C D E F p q:Prop} (a:A) (b:B) (c:C) (d:D) (e:E) (f:F) (x:q) (h:A→B→C→D→E→F→(p=q):=by intro E1 E2 E3 E4 E5 E6;simp (disch:=try exact DI) only [↓PR,QR,simprocAttr,E1,E2,E3,E4,E5,E6];exact rfl):p:=h a b c d e f ▸ x
def Qq2 {A B C D E F p:Prop} (a:A) (b:B) (c:C) (d:D) (e:E) (f:F) (h:A→B→C→D→E→F→p:=by intro E1 E2 E3 E4 E5 E6;simp (disch:=try exact DI) only [↓PR,QR,simprocAttr,E1,E2,E3,E4,E5,E6]):p:=h a b c d e f
def Qqk {p q:Prop} (a:q) (h:p=q:=by simp (disch:=try exact DI) only [↓PR,QR,simprocAttr];exact rfl):p:=h ▸ a
def Qqv {p q:Prop} (a:q) (h:p=q:=by simp (disch:=try exact DI) only [↓PR,QR,simprocAttr,joinK_eq];exact rfl):p:=h ▸ a
def Qqy {p:Prop} (h:p:=by simp (disch:=try exact DI) only [↓PR,QR,simprocAttr]):p:=h
def Qqf {p:Prop} (h:p:=by simp (disch:=try exact DI) only [↓PR,QR,simprocAttr,joinK_eq]):p:=h
def SZ:type_of% (And.intro @World.size_alloc<|And.intro @World.size_setCell<|And.intro @World.size_drew<|And.intro @World.putObj_size <| @putW_size):=(And.intro @World.size_alloc<|And.intro @World.size_setCell<|And.intro @World.size_drew<|And.intro @World.putObj_size <| @putW_size)
def DI {p:Prop} (h:p:=by first | assumption | (simp only [ONE];done) | rfl | (simp only [SZ];done) | omega | (simp only [SZ] at *;omega)):p:=h
def ee {a b:Wd} (h:Ext a b:=by repeat' first | exact Ext.refl _ | assumption | apply Ext.alloc | apply Ext.wdrew | apply Ext.drew | (refine Ext.setCell ?_ (by first | omega | (simp only [SZ] at *;omega)) _) | (refine Ext.putObj ?_ (by first | omega | (simp only [SZ] at *;omega)) _) | (refine Ext.trans ?_ (by assumption))):Ext a b:=h
structure Ye where
 field:BAr
 factor:Int
 deriving DecidableEq
structure zK where
 low:Int
 high:Int
 of:BAr
 deriving DecidableEq
structure Zt where
 name:BAr
 kind:Int
 bits:Int
 little:Bool
 loose:Bool
 low:Int
 high:Int
 base:Int
 terms:List Ye
 of:BAr
 tag:BAr
 fr:BAr
 cases:List zK
 check:Int
 key:Int
 deriving DecidableEq
structure Yh where
 name:BAr
 fields:List Zt
 deriving DecidableEq
structure Xc where
 name:BAr
 msgs:List Yh
 start:BAr
 deriving DecidableEq
abbrev qd (t:Ye):List Vl:=[.string t.field,.int .i64 t.factor]
abbrev Gl (c:zK):List Vl:=[.int .i64 c.low,.int .i64 c.high,.string c.of]
abbrev Zq (f:Zt) (tv cv:Vl):List Vl:=[.string f.name,.int .i64 f.kind,.int .i64 f.bits,.bool f.little,.bool f.loose,.int .i64 f.low,.int .i64 f.high,.int .i64 f.base,tv,.string f.of,.string f.tag,.string f.fr,cv,.int .i64 f.check,.int .i64 f.key]
abbrev ZZ (m:Yh) (fv:Vl):List Vl:=[.string m.name,fv]
abbrev ZO (d:Xc) (mv:Vl):List Vl:=[.string d.name,mv,.string d.start]
def qh (_:Wd) (cs:List Vl) (t:Ye):Prop:=cs=qd t
def Md (_:Wd) (cs:List Vl) (c:zK):Prop:=cs=Gl c
def Z8 (w:Wd) (v:Vl) (l:List Ye):Prop:=Ze w 2 qh v l
def Yu (w:Wd) (v:Vl) (l:List zK):Prop:=Ze w 3 Md v l
def GU (w:Wd) (cs:List Vl) (f:Zt):Prop:=∃ tv cv,cs=Zq f tv cv∧Z8 w tv f.terms∧Yu w cv f.cases
def YX (w:Wd) (v:Vl) (l:List Zt):Prop:=Ze w 15 GU v l
def H1 (w:Wd) (cs:List Vl) (m:Yh):Prop:=∃ fv,cs=ZZ m fv∧YX w fv m.fields
def Va (w:Wd) (v:Vl) (l:List Yh):Prop:=Ze w 2 H1 v l
def Cp (_:Wd) (cs:List Vl) (b:UInt8):Prop:=cs=[.int .u8 b.toNat]
def OG (_:Wd) (cs:List Vl) (b:Bool):Prop:=cs=[.bool b]
def KN (_:Wd) (cs:List Vl) (s:BAr):Prop:=cs=[.string s]
def ZdO (_:Wd) (cs:List Vl) (n:Int):Prop:=cs=[.int .i64 n]
def FR:jn qh:=λ _ _ _ _ _ h=>h
def FQ:jn Md:=λ _ _ _ _ _ h=>h
def Px:jn Cp:=λ _ _ _ _ _ h=>h
def Mp:jn KN:=λ _ _ _ _ _ h=>h
def xw:jn GU:=λ _ _ _ _ e ⟨tv,cv,h,h1,h2⟩=>⟨tv,cv,h,h1.ext FR e,h2.ext FQ e⟩
def ZaH:jn H1:=λ _ _ _ _ e ⟨fv,h,h1⟩=>⟨fv,h,h1.ext xw e⟩
def Z8.ext {w w':Wd} {v:Vl} {l:List Ye} (h:Z8 w v l) (e:Ext w w'):Z8 w' v l:=Ze.ext FR h e
def Yu.ext {w w':Wd} {v:Vl} {l:List zK} (h:Yu w v l) (e:Ext w w'):Yu w' v l:=Ze.ext FQ h e
def YX.ext {w w':Wd} {v:Vl} {l:List Zt} (h:YX w v l) (e:Ext w w'):YX w' v l:=Ze.ext xw h e
def Va.ext {w w':Wd} {v:Vl} {l:List Yh} (h:Va w v l) (e:Ext w w'):Va w' v l:=Ze.ext ZaH h e
def GU.op {w:Wd} {cs:List Vl} {f:Zt} (h:GU w cs f):∃ tv cv,cs=Zq f tv cv∧Z8 w tv f.terms∧Yu w cv f.cases∧tv.oneCell'=true∧cv.oneCell'=true:=by
 obtain ⟨tv,cv,h1,h2,h3⟩:=h;exact ⟨tv,cv,h1,h2,h3,Ze.oneCell h2,Ze.oneCell h3⟩
def Z0 (w:Wd) (v:Vl) (f:Zt):Prop:=∃ tv cv,v = .agg (Zq f tv cv).toArray∧Z8 w tv f.terms∧Yu w cv f.cases
def Qt (w:Wd) (v:Vl) (m:Yh):Prop:=∃ fv,v = .agg (ZZ m fv).toArray∧YX w fv m.fields
def YM (w:Wd) (v:Vl) (d:Xc):Prop:=∃ mv,v = .agg (ZO d mv).toArray∧Va w mv d.msgs
def Ke (w:Wd) (v:Vl) (base:Int) (ts:List Ye):Prop:=∃ tv,v = .agg #[.int .i64 base,tv]∧Z8 w tv ts
def UI (t:Ye):Vl := .agg (qd t).toArray
def Z0.ext {w w':Wd} {v:Vl} {f:Zt} (h:Z0 w v f) (e:Ext w w'):Z0 w' v f:=by obtain ⟨tv,cv,h,h1,h2⟩:=h;exact ⟨tv,cv,h,h1.ext e,h2.ext e⟩
def Z0.op {w:Wd} {v:Vl} {f:Zt} (h:Z0 w v f):∃ tv cv,v = .agg (Zq f tv cv).toArray∧Z8 w tv f.terms∧Yu w cv f.cases∧tv.oneCell'=true∧cv.oneCell'=true:=by
 obtain ⟨tv,cv,h1,h2,h3⟩:=h;exact ⟨tv,cv,h1,h2,h3,Ze.oneCell h2,Ze.oneCell h3⟩
def Qt.ext {w w':Wd} {v:Vl} {m:Yh} (h:Qt w v m) (e:Ext w w'):Qt w' v m:=by obtain ⟨fv,h,h1⟩:=h;exact ⟨fv,h,h1.ext e⟩
def YM.ext {w w':Wd} {v:Vl} {d:Xc} (h:YM w v d) (e:Ext w w'):YM w' v d:=by obtain ⟨fv,h,h1⟩:=h;exact ⟨fv,h,h1.ext e⟩
def UV {α:Type} (w0:Wd) (V:Wd→Vl→α→Prop) (g:FuncId) (caps:AVl) (p:α→Bool) (l:List α):Prop:=
 ∀ w v x,x∈l→Ext w0 w→V w v x→Ret Pg g (#[v]++caps) w λ r w'=>r = .bool (p x)∧Ext w w'
structure UL where
 low:Int
 high:Int
 to:Int
 deriving DecidableEq
structure FrD where
 to:BAr
 kind:Int
 fr:BAr
 add:Int
 value:Int
 bytes:List UInt8
 table:List UL
 deriving DecidableEq
structure MrD where
 fr:BAr
 to:BAr
 fields:List FrD
 deriving DecidableEq
structure Xd where
 name:BAr
 rules:List MrD
 deriving DecidableEq
abbrev Xh (x:UL):List Vl:=[.int .i64 x.low,.int .i64 x.high,.int .i64 x.to]
abbrev ZC (x:FrD) (bv tv:Vl):List Vl:=[.string x.to,.int .i64 x.kind,.string x.fr,.int .i64 x.add,.int .i64 x.value,bv,tv]
abbrev ZT (x:MrD) (fv:Vl):List Vl:=[.string x.fr,.string x.to,fv]
abbrev ZL (m:Xd) (rv:Vl):List Vl:=[.string m.name,rv]
def T2 (_:Wd) (cs:List Vl) (x:UL):Prop:=cs=Xh x
def ZaK:jn T2:=λ _ _ _ _ _ h=>h
def GT (w:Wd) (v:Vl) (l:List UInt8):Prop:=Ze w 1 Cp v l
def Q0 (w:Wd) (v:Vl) (l:List UL):Prop:=Ze w 3 T2 v l
section
variable {w w':Wd} {v:Vl}
def GT.ext {l:List UInt8} (h:GT w v l) (e:Ext w w'):GT w' v l:=Ze.ext Px h e
def Q0.ext {l:List UL} (h:Q0 w v l) (e:Ext w w'):Q0 w' v l:=Ze.ext ZaK h e
end
def EFr (w:Wd) (cs:List Vl) (x:FrD):Prop:=∃ bv tv,cs=ZC x bv tv∧GT w bv x.bytes∧Q0 w tv x.table
def Py:jn EFr:=λ _ _ _ _ e ⟨bv,tv,h,h1,h2⟩=>⟨bv,tv,h,h1.ext e,h2.ext e⟩
def WK (w:Wd) (v:Vl) (l:List FrD):Prop:=Ze w 7 EFr v l
def WK.ext {w w':Wd} {v:Vl} {l:List FrD} (h:WK w v l) (e:Ext w w'):WK w' v l:=Ze.ext Py h e
def EMr (w:Wd) (cs:List Vl) (x:MrD):Prop:=∃ fv,cs=ZT x fv∧WK w fv x.fields
def Zd8:jn EMr:=λ _ _ _ _ e ⟨fv,h,h1⟩=>⟨fv,h,h1.ext e⟩
def VG (w:Wd) (v:Vl) (l:List MrD):Prop:=Ze w 3 EMr v l
def VG.ext {w w':Wd} {v:Vl} {l:List MrD} (h:VG w v l) (e:Ext w w'):VG w' v l:=Ze.ext Zd8 h e
def Ws (w:Wd) (v:Vl) (x:FrD):Prop:=∃ bv tv,v = .agg (ZC x bv tv).toArray∧GT w bv x.bytes∧Q0 w tv x.table
def UT (w:Wd) (v:Vl) (x:MrD):Prop:=∃ fv,v = .agg (ZT x fv).toArray∧WK w fv x.fields
def YN (w:Wd) (v:Vl) (m:Xd):Prop:=∃ rv,v = .agg (ZL m rv).toArray∧VG w rv m.rules
section
variable {w w':Wd} {v:Vl}
def Ws.ext {x:FrD} (h:Ws w v x) (e:Ext w w'):Ws w' v x:=by obtain ⟨bv,tv,h,h1,h2⟩:=h;exact ⟨bv,tv,h,h1.ext e,h2.ext e⟩
def UT.ext {x:MrD} (h:UT w v x) (e:Ext w w'):UT w' v x:=by obtain ⟨fv,h,h1⟩:=h;exact ⟨fv,h,h1.ext e⟩
def YN.ext {x:Xd} (h:YN w v x) (e:Ext w w'):YN w' v x:=by obtain ⟨fv,h,h1⟩:=h;exact ⟨fv,h,h1.ext e⟩
def Ws.op {x:FrD} (h:Ws w v x):∃ bv tv,v = .agg (ZC x bv tv).toArray∧GT w bv x.bytes∧Q0 w tv x.table∧bv.oneCell'=true∧tv.oneCell'=true:=by
 obtain ⟨bv,tv,h,h1,h2⟩:=h;exact ⟨bv,tv,h,h1,h2,Ze.oneCell h1,Ze.oneCell h2⟩
def UT.op {x:MrD} (h:UT w v x):∃ fv,v = .agg (ZT x fv).toArray∧WK w fv x.fields∧fv.oneCell'=true:=by
 obtain ⟨fv,h,h1⟩:=h;exact ⟨fv,h,h1,Ze.oneCell h1⟩
def YN.op {x:Xd} (h:YN w v x):∃ rv,v = .agg (ZL x rv).toArray∧VG w rv x.rules∧rv.oneCell'=true:=by
 obtain ⟨fv,h,h1⟩:=h;exact ⟨fv,h,h1,Ze.oneCell h1⟩
def EFr.op {cs:List Vl} {x:FrD} (h:EFr w cs x):∃ bv tv,cs=ZC x bv tv∧GT w bv x.bytes∧Q0 w tv x.table∧bv.oneCell'=true∧tv.oneCell'=true:=by
 obtain ⟨bv,tv,h,h1,h2⟩:=h;exact ⟨bv,tv,h,h1,h2,Ze.oneCell h1,Ze.oneCell h2⟩
def EMr.op {cs:List Vl} {x:MrD} (h:EMr w cs x):∃ fv,cs=ZT x fv∧WK w fv x.fields∧fv.oneCell'=true:=by
 obtain ⟨fv,h,h1⟩:=h;exact ⟨fv,h,h1,Ze.oneCell h1⟩
end
def YV (f:Zt):Int:=if f.kind=1∨f.kind=3 then 1 else if f.kind=4∨f.kind=5 then 2 else if f.kind=6 then 3 else if f.kind=7 then 4 else if f.kind=8∨f.kind=12 then 5 else if f.kind=9 then 6 else 0
def Vj (n:Int):Bool:=decide (0≤n)&&decide (n < 34359738368)
def jT (n:Int):Bool:=decide (-34359738368 < n)&&decide (n < 34359738368)
structure DD where
 fr:Bool
 add:Bool
 value:Bool
 bytes:Bool
 table:Bool
def WE (k:Int):Option DD:=if k=1 then some ⟨true,false,false,false,false⟩ else if k=2 then some ⟨true,true,false,false,false⟩ else if k=3 then some ⟨false,false,true,false,false⟩ else if k=4 then some ⟨false,false,false,true,false⟩ else if k=5 then some ⟨true,false,false,false,true⟩ else if k=6 then some ⟨true,false,false,false,false⟩ else if k=7 then some ⟨false,false,false,false,false⟩ else none
def Jj (r:FrD) (u:DD):Bool:=(u.fr||decide (r.fr=⟨#[]⟩))&&((u.add||decide (r.add=0))&&((u.value||decide (r.value=0))&&((u.bytes||decide (r.bytes.length=0))&&(u.table||decide (r.table.length=0)))))
def QF (m:Yh) (s:BAr):Option Zt:=m.fields.find? λ f=>decide (f.name=s)
def DO (o:Option Zt):Int:=match o with
 | none=>0
 | some f=>YV f
def J8 (last:Int):List UL→Bool
 | []=>true
 | x::l=>decide (last < x.low)&&(decide (x.low≤x.high)&&(Vj x.high&&(Vj x.to&&J8 x.high l)))
def WJ (l:List UL):Int:=if l.length < 1∨40 < l.length then 2 else if J8 (-1) l=true then 0 else 8
def M5 (o:Option Zt):List BAr:=match o with
 | none=>[]
 | some f=>if f.kind=9 then f.cases.map (·.of) else [f.of]
def GN (m:Xd) (s:BAr):Option Nat:=m.rules.findIdx? λ r=>decide (r.fr=s)
def okN (m:Xd) (T:List BAr) (s:BAr):Bool:=match m.rules.find? λ r=>decide (r.fr=s) with
 | none=>false
 | some r=>T.any λ y=>decide (r.to=y)
def MY (m:Xd) (f t:Option Zt):Int:=if (M5 f).all (okN m (M5 t))=true then 0 else 9
def W0 (m:Xd) (r:FrD) (f t:Option Zt):Int:=
 let x:=DO f
 let y:=DO t
 if r.kind=1 then (if x≠y∨3 < y then 5 else 0)
 else if r.kind=2 then (if x≠1∨y≠1 then 5 else if jT r.add=true then 0 else 8)
 else if r.kind=3 then (if y≠1 then 5 else if Vj r.value=true then 0 else 8)
 else if r.kind=4 then (if y≠2 then 5 else if 1000 < r.bytes.length then 2 else 0)
 else if r.kind=5 then (if x≠1∨y≠1 then 5 else WJ r.table)
 else if r.kind=6 then (if x≠y∨y < 4 then 5 else MY m f t)
 else (if y≠1 then 5 else 0)
def B9 (m:Xd) (r:FrD) (a b:Yh) (before:List FrD):Int:=
 if DO (QF b r.to)=0 then 5
 else if (before.any λ x=>decide (x.to=r.to))=true then 4
 else match WE r.kind with
  | none=>6
  | some u=>if Jj r u=false then 7 else W0 m r (QF a r.fr) (QF b r.to)
def WR (m:Xd) (a b:Yh) (all:List FrD):Nat→List FrD→Int×Int
 | _,[]=>(-1,0)
 | k,r::l=>if B9 m r a b (all.take k)≠0 then ((k:Int),B9 m r a b (all.take k)) else WR m a b all (k+1) l
def FY (d:Xc) (s:BAr):Option Yh:=d.msgs.find? λ x=>decide (x.name=s)
def GG (fs:List FrD) (f:Zt):Bool:=!(fs.any λ x=>decide (x.to=f.name))&&decide (YV f≠0)
def Dn (m:Xd) (d e:Xc) (i:Nat) (r:MrD):Int×Int:=match FY d r.fr,FY e r.to with
 | some a,some b=>if GN m r.fr≠some i then (-1,4) else
  let q:=WR m a b r.fields 0 r.fields
  if q.2≠0 then q else if (b.fields.any (GG r.fields))=true then (-1,10) else (-1,0)
 | _,_=>(-1,3)
def zI (m:Xd) (d e:Xc):Nat→List MrD→Int×Int×Int
 | _,[]=>(-1,-1,0)
 | i,r::l=>if (Dn m d e i r).2≠0 then ((i:Int),Dn m d e i r) else zI m d e (i+1) l
end Go.Proofs.YtgalpdihjbinjaaGreatDoor
namespace Go.Sw
section
variable {P:Program} {N:Nat} {ro:Option Nat} {QP:KP} {T:Env→LDf→Wd→Prop} {o:Oper} {rest:List Oper} {ρ:Env} {ds:LDf} {w:Wd}
def zm {v:Vl} (h:ZX P N ro QP T rest (put N ρ o.dst v) ds w) (hs:execOp (ev ρ) o=Sem.pure (.value v):=by exact rfl) (hd:XF o.op=false:=by exact rfl):ZX P N ro QP T (o::rest) ρ ds w:=TL hd hs h
def zt {S:List Nat} {J G:Env→Wd→Prop} (hT:∀ ρ' w,Fr S ρ ρ'→J ρ' w→G ρ' w) {ρ':Env} {w:Wd} (h:J ρ' w) (hf:Fr S ρ ρ':=by repeat (first | exact Fr.refl _ _ | refine Fr.put rfl ?_ | refine Fr.put_none ?_ | refine Fr.mix rfl ?_ | refine Fr.skipAll rfl ?_)):G ρ' w:=hT ρ' w hf h
end
def zr {P:Program} {N:Nat} {ro:Option Nat} {id:Nat} {l:List Oper} {Q:K} {QP:KP} {ρ:Env} {ds:LDf} {w:Wd} (h:ZX P N ro QP (λ ρ ds w=>Q .normal ρ ds w) l ρ ds w) (hu:VC l=true:=by exact rfl):den P N ro (.region id l.toArray false) Q QP ρ ds w:=LX hu h
def zn:type_of% @Na := @Na
def zk:type_of% @HK := @HK
def zs:type_of% @Nb := @Nb
end Go.Sw
namespace Go.Sw
open Go.RowKit (Below)
structure LW (B:Nat) (w w':Wd):Prop where
 os:w'.os=w.os
 tape:w'.tape=w.tape
 output:w'.output=w.output
 size:w.heap.size≤w'.heap.size
 block:∀ b,b < w.heap.size→w'.heap[b]?=w.heap[b]?∨(B≤b∧((∃ r,w.heap[b]?=some (.loop r))∨∃ d,w.heap[b]?=some (.deferred d)))
def KR (B:Nat) (w w':Wd):Prop:=w.heap.size≤w'.heap.size∧(∀ (b:Nat) (r:Loop),w.heap[b]?=some (.loop r)→∃ st p,w'.heap[b]?=some (.loop { r with state:=st,pending:=p })) ∧
 (∀ (b:Nat),w.heap[b]?=some (.deferred (some []))→w'.heap[b]?=some (.deferred (some [])))∧∀ (b:Nat),B≤b→b < w.heap.size→(∀ r,w.heap[b]?≠some (.loop r))→w'.heap[b]?=w.heap[b]?
section
variable {B:Nat} {w w1 w2:Wd}
def KR.refl (B:Nat) (w:Wd):KR B w w:=⟨Nat.le_refl _,λ b r h=>⟨r.state,r.pending,h⟩,λ _ h=>h,λ _ _ _ _=>rfl⟩
def KR.of (e:Ext w w1):KR B w w1:=⟨e.size,λ b r h=>⟨r.state,r.pending,e.obj h⟩,λ _ h=>e.obj h,λ b _ hl _=>e.block b hl⟩
def KR.turn {l:Nat} {r:Loop} (hl:w.heap[l]?=some (.loop r)) (st:LoopState) (p:Option Code):KR B w (w.putObj l (.loop { r with state:=st,pending:=p })):=⟨by simp,λ b r' hb=>by
 by_cases e:b=l
 · subst e
   rw [hl] at hb;injection hb with hb;injection hb with hb;subst hb
   exact ⟨st,p,World.putObj_heap_same (Qqq hl).1⟩
 · rw [World.putObj_heap_other e];exact ⟨r'.state,r'.pending,hb⟩,λ b hb=>by
 by_cases e:b=l
 · subst e;rw [hl] at hb;cases hb
 · rw [World.putObj_heap_other e];exact hb,λ b _ _ hr=>by
 by_cases e:b=l
 · subst e;exact absurd hl (hr _)
 · rw [World.putObj_heap_other e]⟩
end
def VJ {b want:Bool} {p q:Prop} (h1:b=true→Zl (.bool true) want p q) (h2:b=false→Zl (.bool false) want p q):Zl (.bool b) want p q:=by
 cases b
 · exact h2 rfl
 · exact h1 rfl
def Wa {b:Bool} {p q:Prop} (h1:b=true→p) (h2:b=false→q):Zo (.bool b) p q:=by
 cases b
 · exact h2 rfl
 · exact h1 rfl
section
variable {P:Program} {fn:Func} {R:RT} {ρ:Env} {w:Wd}
def BH {t u x:Tmp} {c:TypeId} {v:Vl} (hf:fn.results = #[.cell t c,.tmp u,.tmp x]) (tmps:AVl) (h:(do loadVar c (← asAddr (tmps.getD t undef)):Sem Vl).run P w = .ok v w):(results fn tmps).run P w = .ok (.tuple #[v,tmps.getD u undef,tmps.getD x undef]) w:=by
 rw [Sem.run_bind] at h
 simp [results,hf,Sem.run_bind]
 cases hr:(asAddr (tmps.getD t undef)).run P w with
 | ok a w'=>rw [← Array.getD_eq_getD_getElem?,hr];rw [hr] at h;simp [Result.andThen] at h ⊢;rw [h]
 | halt x w'=>rw [hr] at h;simp [Result.andThen] at h
def ql {t u x:Tmp} {c:TypeId} {a b d:Vl} (hf:fn.results = #[.cell t c,.tmp u,.tmp x]) (h1:ρ t=a) (h2:ρ u=b) (h3:ρ x=d) (h:qW P c a w λ v=>R (.returned (.tuple #[v,b,d])) w):Uu P fn R .ret ρ [] w:=by
 obtain ⟨v,hv,h⟩:=h
 exact ⟨rfl,λ tmps ht=>⟨_,BH hf tmps (by rw [ht,h1];exact hv),by rw [ht,ht,h2,h3];exact h⟩⟩
end
end Go.Sw
namespace Go.Sw
section
variable {P:Program} {N:Nat} {ro:Option Nat} {QP:KP} {T:Env→LDf→Wd→Prop} {o:Oper} {rest:List Oper} {ρ:Env} {ds:LDf} {w:Wd} {ty:TypeId} {dst:Option Nat} {d:Nat} {pos:String} {after:Array Edge} {g:Option (Nat×Bool)} {QP':PEn} {k:KV}
def Qqp {p:Prop} (h:p:=by first | exact λ _ _ h=>⟨rfl,h⟩ | exact λ _ _ h=>QM rfl h | exact λ _ _ h _ _=>⟨rfl,h⟩ | exact λ _ _ h=>WN rfl rfl h | exact λ _ _ h=>h):p:=h
def yv {s:Sem Vl} (h:opV P s QP' w k) (hk:∀ {v w},k v w→ZX P N ro QP T rest (put N ρ o.dst v) ds w) (hs:execOp (ev ρ) o=(do pure (.value (← s))):=by exact rfl) (hd:XF o.op=false:=by exact rfl) (hp:∀ ch w,QP' ch w→QP ch ρ ds w:=by exact Qqp):ZX P N ro QP T (o::rest) ρ ds w:=Gt h hd hs hp λ _ _=>hk
def yu {s:Sem Unit} {k:WPr} (h:opU P s QP' w k) (hk:∀ {w},k w→ZX P N ro QP T rest (put N ρ o.dst undef) ds w) (hs:execOp (ev ρ) o=(do s;pure .skip):=by exact rfl) (hd:XF o.op=false:=by exact rfl) (hp:∀ ch w,QP' ch w→QP ch ρ ds w:=by exact Qqp):ZX P N ro QP T (o::rest) ρ ds w:=TO h hd hs hp λ _=>hk
def yN {s:Sem Next} (h:opN P s QP' w k) (hk:∀ {v w},k v w→ZX P N ro QP T rest (put N ρ o.dst v) ds w) (hs:execOp (ev ρ) o=s:=by exact rfl) (hd:XF o.op=false:=by exact rfl) (hp:∀ ch w,QP' ch w→QP ch ρ ds w:=by exact Qqp):ZX P N ro QP T (o::rest) ρ ds w:=TM h hd hs hp λ _ _=>hk
def yb {op:BinOp} {t:TypeId} {x y:Operand} {t2:TypeId} {c:Bool} {a b:Vl} (h:opV P (ZP op t c a b) QP' w k) (hk:∀ {v w'},k v w'→ZX P N ro QP T rest (put N ρ (some d) v) ds w') (hc:(Ux x||Ux y)=c:=by exact rfl) (h1:ev ρ x=a:=by exact rfl) (h2:ev ρ y=b:=by exact rfl) (hp:∀ ch w,QP' ch w→QP ch ρ ds w:=by exact Qqp) :
 ZX P N ro QP T (⟨some d,.binOp op t x y t2,ty,pos,after,g⟩::rest) ρ ds w:=Zba h hc h1 h2 hp λ _ _=>hk
def yc {f:FuncId} {l:List Operand} {ats:Array TypeId} {args:List Vl} (h:Yb P f args.toArray QP' w k) (hf:Callable P f) (hk:∀ {v w'},k v w'→ZX P N ro QP T rest (put N ρ dst v) ds w') (h2:l.map (ev ρ)=args:=by exact rfl) (hp:∀ ch w,QP' ch w→QP ch ρ ds w:=by exact Qqp) :
 ZX P N ro QP T (⟨dst,.call ⟨.value (.func f),l.toArray,ats⟩,ty,pos,after,g⟩::rest) ρ ds w:=TG h hf h2 hp λ _ _=>hk
def yV {fo:Operand} {l:List Operand} {ats:Array TypeId} {fv:Vl} {args:List Vl} (h:Qp P fv args.toArray QP' w k) (hk:∀ {v w'},k v w'→ZX P N ro QP T rest (put N ρ dst v) ds w') (h1:ev ρ fo=fv:=by exact rfl) (h2:l.map (ev ρ)=args:=by exact rfl) (hp:∀ ch w,QP' ch w→QP ch ρ ds w:=by exact Qqp) :
 ZX P N ro QP T (⟨dst,.call ⟨.value fo,l.toArray,ats⟩,ty,pos,after,g⟩::rest) ρ ds w:=Dp h h1 h2 hp λ _ _=>hk
def yx {b:Builtin} {l:List Operand} {ats:Array TypeId} {s:Sem Vl} (h:opV P s QP' w k) (hk:∀ {v w'},k v w'→ZX P N ro QP T rest (put N ρ (some d) v) ds w') (hs:builtin b ats ty ((l.map λ | .const _=>true | _=>false).toArray) (l.map (ev ρ)).toArray=(do pure (.value (← s))):=by exact rfl) (hp:∀ ch w,QP' ch w→QP ch ρ ds w:=by exact Qqp) :
 ZX P N ro QP T (⟨some d,.call ⟨.builtin b,l.toArray,ats⟩,ty,pos,after,g⟩::rest) ρ ds w:=HI h hs hp λ _ _=>hk
def yB {t:TypeId} {ps:List (Nat×Operand)} {vs:List (Nat×Vl)} (h:opV P (build t vs.toArray) QP' w k) (hk:∀ {v w'},k v w'→ZX P N ro QP T rest (put N ρ (some d) v) ds w') (h2:(ps.map λ (i,x)=>(i,ev ρ x))=vs:=by exact rfl) (hp:∀ ch w,QP' ch w→QP ch ρ ds w:=by exact Qqp) :
 ZX P N ro QP T (⟨some d,.build t ps.toArray,ty,pos,after,g⟩::rest) ρ ds w:=Oh h h2 hp λ _ _=>hk
def yS {t:TypeId} {n:Nat} {ps:List (Nat×Operand)} {vs:List (Nat×Vl)} (h:opV P (buildSlice t n vs.toArray) QP' w k) (hk:∀ {v w'},k v w'→ZX P N ro QP T rest (put N ρ (some d) v) ds w') (h2:(ps.map λ (i,x)=>(i,ev ρ x))=vs:=by exact rfl) (hp:∀ ch w,QP' ch w→QP ch ρ ds w:=by exact Qqp) :
 ZX P N ro QP T (⟨some d,.buildSlice t n ps.toArray,ty,pos,after,g⟩::rest) ρ ds w:=BP h h2 hp λ _ _=>hk
def yF {fn:Fn} {fs cs:List Operand} {vf vs:List Vl} (h:opV P (makeFunc fn vf.toArray vs.toArray) QP' w k) (hk:∀ {v w'},k v w'→ZX P N ro QP T rest (put N ρ (some d) v) ds w') (h1:fs.map (ev ρ)=vf:=by exact rfl) (h2:cs.map (ev ρ)=vs:=by exact rfl) (hp:∀ ch w,QP' ch w→QP ch ρ ds w:=by exact Qqp) :
 ZX P N ro QP T (⟨some d,.makeFunc fn fs.toArray cs.toArray,ty,pos,after,g⟩::rest) ρ ds w:=Fb h h1 h2 hp λ _ _=>hk
def yp {c a b:Operand} {vc va vb:Vl} {k:Vl→Prop} (h:Zw vc va vb k) (hk:∀ {v},k v→ZX P N ro QP T rest (put N ρ (some d) v) ds w) (h1:ev ρ c=vc:=by exact rfl) (h2:ev ρ a=va:=by exact rfl) (h3:ev ρ b=vb:=by exact rfl):ZX P N ro QP T (⟨some d,.pick c a b,ty,pos,after,g⟩::rest) ρ ds w:=TN h h1 h2 h3 λ _=>hk
def yt {S:List Nat} {J G:Env→Wd→Prop} {C:WPr} (hT:∀ ρ' w,Fr S ρ ρ'→C w→J ρ' w→G ρ' w) {ρ':Env} {w:Wd} (hC:C w) (h:J ρ' w) (hf:Fr S ρ ρ':=by repeat (first | exact Fr.refl _ _ | refine Fr.put rfl ?_ | refine Fr.put_none ?_ | refine Fr.mix rfl ?_ | refine Fr.skipAll rfl ?_)):G ρ' w:=hT ρ' w hf hC h
end
section
variable {P:Program} {N:Nat} {ro:Option Nat} {ops:Array Oper} {Q:Env→LDf→Wd→Prop} {QP0:List PanicEntry→LDf→Wd→Prop} {QP:KP} {C:WPr} {fuel:Nat} {done:List Nat} {o:Oper} {ρ:Env} {ds:LDf} {w:Wd}
def ye (i:Nat) {k:Vl→Prop} (hC:C w) {s:Sem Vl} (h:qV P C s k) (hk:∀ {v},k v→XX P N ro ops Q (λ ch _ ds w=>QP0 ch ds w) C fuel (i::done) (put N ρ o.dst v) ds w) (hi:ops[i]?=some o:=by exact rfl) (hr:(YQ ops done).contains i=true:=by kernel_rfl) (hf:yf ops done i=true:=by kernel_rfl) (hg:∀ p q,Xm ops o ρ p q=p:=by first | exact λ _ _=>rfl | exact λ _ _=>Xl (by assumption)) (hd:XF o.op=false:=by exact rfl) (hs:∀ v,(∀ w,C w→s.run P w = .ok v w)→∀ w,C w→(execOp (ev ρ) o).run P w = .ok (.value v) w:=by first | exact λ _ h=>Bz rfl h | exact λ _ h=>ZeQ rfl rfl rfl h | exact λ _ h=>LC rfl h | exact λ _ h=>Tr rfl h | exact λ _ h=>Hy rfl rfl h) :
 XX P N ro ops Q (λ ch _ ds w=>QP0 ch ds w) C (fuel+1) done ρ ds w:=let ⟨v,hv,hkv⟩:=h;UG i hC hi hr hf hg hd (hs v hv) (hk hkv)
def yn (i:Nat) {k:Vl→Prop} (hC:C w) {s:Sem Next} (h:qN P C s k) (hk:∀ {v},k v→XX P N ro ops Q (λ ch _ ds w=>QP0 ch ds w) C fuel (i::done) (put N ρ o.dst v) ds w) (hi:ops[i]?=some o:=by exact rfl) (hr:(YQ ops done).contains i=true:=by kernel_rfl) (hf:yf ops done i=true:=by kernel_rfl) (hg:∀ p q,Xm ops o ρ p q=p:=by first | exact λ _ _=>rfl | exact λ _ _=>Xl (by assumption)) (hd:XF o.op=false:=by exact rfl) (hs:execOp (ev ρ) o=s:=by exact rfl) :
 XX P N ro ops Q (λ ch _ ds w=>QP0 ch ds w) C (fuel+1) done ρ ds w:=let ⟨v,hv,hkv⟩:=h;UG i hC hi hr hf hg hd (ZeP hs hv) (hk hkv)
def yw (i:Nat) {v:Vl} (hC:C w) (h:XX P N ro ops Q (λ ch _ ds w=>QP0 ch ds w) C fuel (i::done) (put N ρ o.dst v) ds w) (hi:ops[i]?=some o:=by exact rfl) (hr:(YQ ops done).contains i=true:=by kernel_rfl) (hf:yf ops done i=true:=by kernel_rfl) (hg:∀ p q,Xm ops o ρ p q=p:=by first | exact λ _ _=>rfl | exact λ _ _=>Xl (by assumption)) (hd:XF o.op=false:=by exact rfl) (hs:execOp (ev ρ) o=Sem.pure (.value v):=by exact rfl) :
 XX P N ro ops Q (λ ch _ ds w=>QP0 ch ds w) C (fuel+1) done ρ ds w:=UG i hC hi hr hf hg hd (PI hs) h
def yi (i:Nat) (hC:C w) (h:XX P N ro ops Q (λ ch _ ds w=>QP0 ch ds w) C fuel (i::done) (put N ρ o.dst undef) ds w) (hi:ops[i]?=some o:=by exact rfl) (hr:(YQ ops done).contains i=true:=by kernel_rfl) (hf:yf ops done i=true:=by kernel_rfl) (hg:∀ p q,Xm ops o ρ p q=q:=by exact λ _ _=>Wk (by assumption)) :
 XX P N ro ops Q (λ ch _ ds w=>QP0 ch ds w) C (fuel+1) done ρ ds w:=Ok i hC hi hr hf hg h
def yP (i:Nat) {c a b:Operand} {d:Nat} {ty:TypeId} {pos:String} {after:Array Edge} {g:Option (Nat×Bool)} {vc va vb:Vl} {k:Vl→Prop} (hC:C w) (h:Zw vc va vb k) (hk:∀ v,k v→XX P N ro ops Q (λ ch _ ds w=>QP0 ch ds w) C fuel (i::done) (put N ρ (some d) v) ds w) (hi:ops[i]?=some ⟨some d,.pick c a b,ty,pos,after,g⟩:=by exact rfl) (hr:(YQ ops done).contains i=true:=by kernel_rfl) (hf:yf ops done i=true:=by kernel_rfl) (hg:∀ p q,Xm ops ⟨some d,.pick c a b,ty,pos,after,g⟩ ρ p q=p:=by first | exact λ _ _=>rfl | exact λ _ _=>Xl (by assumption)) (h1:ev ρ c=vc:=by exact rfl) (h2:ev ρ a=va:=by exact rfl) (h3:ev ρ b=vb:=by exact rfl) :
 XX P N ro ops Q (λ ch _ ds w=>QP0 ch ds w) C (fuel+1) done ρ ds w:=by
 obtain ⟨t,ht,h⟩:=LA h
 exact UG i hC hi hr hf hg rfl (Tq (h1.trans ht) h2 h3) (hk _ h)
def yo (i:Nat) (h:ZX P N ro QP (λ ρ ds w=>C w∧XX P N ro ops Q QP C fuel (i::done) ρ ds w) [o] ρ ds w) (hi:ops[i]?=some o:=by exact rfl) (hr:YQ ops done=[i]:=by kernel_rfl) (hg:∀ p q,Xm ops o ρ p q=p:=by first | exact λ _ _=>rfl | exact λ _ _=>Xl (by assumption)):XX P N ro ops Q QP C (fuel+1) done ρ ds w:=Oj i hi hr hg h
def yr (i:Nat) (h:ZX P N ro QP (λ ρ ds w=>∃ C':Wd→Prop,(∀ x,C' x→C x)∧C' w∧XX P N ro ops Q QP C' fuel (i::done) ρ ds w) [o] ρ ds w) (hi:ops[i]?=some o:=by exact rfl) (hr:YQ ops done=[i]:=by kernel_rfl) (hg:∀ p q,Xm ops o ρ p q=p:=by first | exact λ _ _=>rfl | exact λ _ _=>Xl (by assumption)):XX P N ro ops Q QP C (fuel+1) done ρ ds w:=HJ i hi hr hg h
def yq (i n:Nat) (h:ZX P N ro QP (λ ρ ds w=>∃ C':Wd→Prop,C' w∧XX P N ro ops Q QP C' fuel (i::done) ρ ds w) [o] ρ ds w) (hi:ops[i]?=some o:=by exact rfl) (hr:YQ ops done=[i]:=by kernel_rfl) (hm:V2 ops n done i=true:=by kernel_rfl) (hg:∀ p q,Xm ops o ρ p q=p:=by first | exact λ _ _=>rfl | exact λ _ _=>Xl (by assumption)):XX P N ro ops Q QP C (fuel+1) done ρ ds w:=Ol i n hi hr hm hg h
def yz (h:Q ρ ds w) (hr:YQ ops done=[]:=by kernel_rfl):XX P N ro ops Q QP C fuel done ρ ds w:=TI hr h
def yh (S:List Nat) {id:Nat} {l:List Oper} {Q:K} {f:(Wd→Prop)→Wd→Prop} (h:Yg w f) (hk:∀ C:Wd→Prop,C (drew w)→f C (drew w)→XX P N ro l.toArray (Q .normal) (λ ch _ ds w=>∀ ρ',Fr S ρ ρ'→QP ch ρ' ds w) C l.length [] ρ ds (drew w)) (hm:P.follows .mixedOrders=true:=by kernel_rfl) (hS:l.all (λ o=>match o.dst with | some d=>S.contains d | none=>true)=true:=by kernel_rfl):den P N ro (.region id l.toArray true) Q QP ρ ds w:=let ⟨C,hC,hf⟩:=h;TJ S hm hS C (hk C hC hf)
def yj1 (fuel':Nat) (done' S:List Nat) (x0:Nat) {K0:KV} {A B:(Vl→Wd→Prop)→Prop} {v:Vl} {want:Bool} (h:Zm K0 λ K=>Zl v want (A K) (B K))
 (h1:∀ K:Vl→Wd→Prop,(∀ ρ' w,Fr S ρ ρ'→C w→K (ρ' x0) w→XX P N ro ops Q QP C fuel' done' ρ' ds w)→XP v=some want→A K→XX P N ro ops Q QP C fuel done ρ ds w) (h2:∀ K:Vl→Wd→Prop,(∀ ρ' w,Fr S ρ ρ'→C w→K (ρ' x0) w→XX P N ro ops Q QP C fuel' done' ρ' ds w)→XP v≠some want→B K→XX P N ro ops Q QP C fuel done ρ ds w)
 (hJ:∀ σ w,C w→K0 (σ x0) w→XX P N ro ops Q QP C fuel' done' (mix S ρ σ) ds w):XX P N ro ops Q QP C fuel done ρ ds w:=
 Oi fuel' done' S (λ ρ w=>K0 (ρ x0) w) (λ _ hT=>(DY h).elim (λ h=>h1 K0 hT h.1 h.2) (λ h=>h2 K0 hT h.1 h.2)) hJ
end
section
variable {P:Program} {N:Nat} {ro:Option Nat} {c:Code} {Q:K} {QP:KP} {ρ:Env} {ds:LDf} {w:Wd}
def yl1 (W:List Nat) (x0:Nat) {body:Vl→Wd→(Vl→Wd→Prop)→Prop} {a0:Vl} (h:Yz body a0 w) (hr:∀ σ w (k:KV),body (σ x0) w k→den P N ro c (Wh (λ ρ' ds' w'=>ds'=ds∧k (ρ' x0) w') Q) QP (mix W ρ σ) ds w) (hW:((QQ c).all (W.contains ·)&&W.all ((QQ c).contains ·))=true:=by kernel_rfl) (h0:ρ x0=a0:=by exact rfl):den P N ro (.loop c) Q QP ρ ds w:=by
 obtain ⟨I,μ,hi,hb⟩:=h
 subst h0
 exact BQ W hW (λ ρ w=>I (ρ x0) w) (λ ρ w=>μ (ρ x0) w) hi λ σ w hI=>hr σ w _ (hb _ _ hI)
def yl2 (W:List Nat) (x0 x1:Nat) {body:Vl→Vl→Wd→(Vl→Vl→Wd→Prop)→Prop} {a0 a1:Vl} (h:Qq body a0 a1 w) (hr:∀ σ w (k:KW),body (σ x0) (σ x1) w k→den P N ro c (Wh (λ ρ' ds' w'=>ds'=ds∧k (ρ' x0) (ρ' x1) w') Q) QP (mix W ρ σ) ds w) (hW:((QQ c).all (W.contains ·)&&W.all ((QQ c).contains ·))=true:=by kernel_rfl) (h0:ρ x0=a0:=by exact rfl) (h1:ρ x1=a1:=by exact rfl):den P N ro (.loop c) Q QP ρ ds w:=by
 obtain ⟨I,μ,hi,hb⟩:=h
 subst h0 h1
 exact BQ W hW (λ ρ w=>I (ρ x0) (ρ x1) w) (λ ρ w=>μ (ρ x0) (ρ x1) w) hi λ σ w hI=>hr σ w _ (hb _ _ _ hI)
def yl3 (W:List Nat) (x0 x1 x2:Nat) {body:Vl→Vl→Vl→Wd→(Vl→Vl→Vl→Wd→Prop)→Prop} {a0 a1 a2:Vl} (h:GF body a0 a1 a2 w) (hr:∀ σ w (k:Vl→Vl→Vl→Wd→Prop),body (σ x0) (σ x1) (σ x2) w k→den P N ro c (Wh (λ ρ' ds' w'=>ds'=ds∧k (ρ' x0) (ρ' x1) (ρ' x2) w') Q) QP (mix W ρ σ) ds w) (hW:((QQ c).all (W.contains ·)&&W.all ((QQ c).contains ·))=true:=by kernel_rfl) (h0:ρ x0=a0:=by exact rfl) (h1:ρ x1=a1:=by exact rfl) (h2:ρ x2=a2:=by exact rfl):den P N ro (.loop c) Q QP ρ ds w:=by
 obtain ⟨I,μ,hi,hb⟩:=h
 subst h0 h1 h2
 exact BQ W hW (λ ρ w=>I (ρ x0) (ρ x1) (ρ x2) w) (λ ρ w=>μ (ρ x0) (ρ x1) (ρ x2) w) hi λ σ w hI=>hr σ w _ (hb _ _ _ _ hI)
def yJ0 (S:List Nat) {K0:WPr} {f:(Wd→Prop)→Prop} (h:Zm K0 f) (hc:∀ (K:WPr) (k':Env→LDf→Wd→Prop),(∀ ρ' w,Fr S ρ ρ'→K w→k' ρ' ds w)→f K→den P N ro c (Wh k' Q) QP ρ ds w) (hJ:∀ σ w,K0 w→Q .normal (mix S ρ σ) ds w):den P N ro c Q QP ρ ds w:=
 qa S (λ ρ w=>K0 w) (λ k' hk=>hc K0 k' hk h) hJ
def yJ1 (S:List Nat) (x0:Nat) {K0:KV} {f:(Vl→Wd→Prop)→Prop} (h:Zm K0 f) (hc:∀ (K:KV) (k':Env→LDf→Wd→Prop),(∀ ρ' w,Fr S ρ ρ'→K (ρ' x0) w→k' ρ' ds w)→f K→den P N ro c (Wh k' Q) QP ρ ds w) (hJ:∀ σ w,K0 (σ x0) w→Q .normal (mix S ρ σ) ds w):den P N ro c Q QP ρ ds w:=
 qa S (λ ρ w=>K0 (ρ x0) w) (λ k' hk=>hc K0 k' hk h) hJ
def yJ2 (S:List Nat) (x0 x1:Nat) {K0:KW} {f:(Vl→Vl→Wd→Prop)→Prop} (h:Zm K0 f) (hc:∀ (K:KW) (k':Env→LDf→Wd→Prop),(∀ ρ' w,Fr S ρ ρ'→K (ρ' x0) (ρ' x1) w→k' ρ' ds w)→f K→den P N ro c (Wh k' Q) QP ρ ds w) (hJ:∀ σ w,K0 (σ x0) (σ x1) w→Q .normal (mix S ρ σ) ds w):den P N ro c Q QP ρ ds w:=
 qa S (λ ρ w=>K0 (ρ x0) (ρ x1) w) (λ k' hk=>hc K0 k' hk h) hJ
def yC {x:Operand} {A B:Code} {v:Vl} {p q:Prop} (h:Zo v p q) (hp:p→den P N ro A Q QP ρ ds w) (hq:q→den P N ro B Q QP ρ ds w) (hv:ev ρ x=v:=by exact rfl):den P N ro (.cond x A B) Q QP ρ ds w:=TH h hv hp hq
def yG (n:Nat) {ops:Array Oper} {l:List Oper} (h:ZX P N ro QP (λ ρ ds w=>Yp P N ro ops Q QP (l.drop n) none ρ ds w) (l.take n) ρ ds w) (hu:VC (l.take n)=true:=by exact rfl):Yp P N ro ops Q QP l none ρ ds w:=Zbb n hu h
def yg1 (n j:Nat) (want:Bool) (S:List Nat) (x0:Nat) {ops:Array Oper} {l:List Oper} {K0:KV} {A:(Vl→Wd→Prop)→Prop} {v:Vl} {u0:Vl} (h:Zm K0 λ K=>Zl v want (A K) (K u0 w))
 (hc:∀ (K:KV) (T:Env→LDf→Wd→Prop),(∀ ρ' w,Fr S ρ ρ'→K (ρ' x0) w→T ρ' ds w)→A K→ZX P N ro QP T (l.take n) ρ ds w) (hJ:∀ σ w,K0 (σ x0) w→Yp P N ro ops Q QP (l.drop n) none (mix S ρ σ) ds w) (hok:FI ops j want (l.take n) (l.drop n)=true:=by exact rfl) (hv:QB ops ρ j=v:=by exact rfl) (hf:Fr S ρ (skipAll N (l.take n) ρ):=by exact Fr.skipAll rfl (Fr.refl _ _)) (hu0:skipAll N (l.take n) ρ x0=u0:=by exact rfl):Yp P N ro ops Q QP l none ρ ds w:=by
 subst hu0;exact LU n j want S (λ ρ w=>K0 (ρ x0) w) hok hv (λ T hT=>Uw h (hc K0 T hT) λ h=>hT _ _ hf h) hJ
end
section
variable {P:Program} {f:FuncId} {fn:Func} {c:Code} {args:List Vl} {w:Wd} {R:RT}
def yD (hf:P.funcs[f]?=some fn) (h:den P fn.ntmps none c (Uu P fn R) (xp R) (Ai args) [] w) (hb:fn.body=some c:=by exact rfl) (hn:args.length≤fn.ntmps:=by exact Nat.le_of_ble_eq_true rfl):Calls P f args.toArray w R:=DM hf hb hn h
def yE (hf:P.funcs[f]?=some fn) (h:den P fn.ntmps none c (jW P fn R) (jA P fn R) (Ai args) [] w) (hb:fn.body=some c:=by exact rfl) (hn:args.length≤fn.ntmps:=by exact Nat.le_of_ble_eq_true rfl):Calls P f args.toArray w R:=B4 hf hb hn h
end
end Go.Sw
namespace Go.Proofs.YtgalpdihjbinjaaGreatDoor
open Sw
def c3:=Qqw func3
def c4:=Qqw func4
def c5:=Qqw func5
def c6:=Qqw func6
def c7:=Qqw func7
def c8:=Qqw func8
def c9:=Qqw func9
def c10:=Qqw func10
def c11:=Qqw func11
def c12:=Qqw func12
def c13:=Qqw func13
def c14:=Qqw func14
def c15:=Qqw func15
def c16:=Qqw func16
def c17:=Qqw func17
def c18:=Qqw func18
def c20:=Qqw func20
def c21:=Qqw func21
def c22:=Qqw func22
def c25:=Qqw func25
def c27:=Qqw func27
def c28:=Qqw func28
def c29:=Qqw func29
def c30:=Qqw func30
def c31:=Qqw func31
def c32:=Qqw func32
def c33:=Qqw func33
def c34:=Qqw func34
def c35:=Qqw func35
def c36:=Qqw func36
def c37:=Qqw func37
def c38:=Qqw func38
def c39:=Qqw func39
def c40:=Qqw func40
def c41:=Qqw func41
def c42:=Qqw func42
def c43:=Qqw func43
def c44:=Qqw func44
def c46:=Qqw func46
def c47:=Qqw func47
def c48:=Qqw func48
def c49:=Qqw func49
def c50:=Qqw func50
def c51:=Qqw func51
def c52:=Qqw func52
def c57:=Qqw func57
def c58:=Qqw func58
def c59:=Qqw func59
def c60:=Qqw func60
def c62:=Qqw func62
def c63:=Qqw func63
def c64:=Qqw func64
def c65:=Qqw func65
def c66:=Qqw func66
def c67:=Qqw func67
def c68:=Qqw func68
def c69:=Qqw func69
def c70:=Qqw func70
def c71:=Qqw func71
def c72:=Qqw func72
def c73:=Qqw func73
def c74:=Qqw func74
def c75:=Qqw func75
def c76:=Qqw func76
def c77:=Qqw func77
def c78:=Qqw func78
def c79:=Qqw func79
def c80:=Qqw func80
def c81:=Qqw func81
def c82:=Qqw func82
def c85:=Qqw func85
def c87:=Qqw func87
def c88:=Qqw func88
def c89:=Qqw func89
def c90:=Qqw func90
def c91:=Qqw func91
def c97:=Qqw func97
def OV:=Qqw func101
def ZjA:=Qqw func102
def ZjB:=Qqw func106
def ZjC:=Qqw func107
def ZjD:=Qqw func108
def ZjE:=Qqw func109
def Zfh:=Qqw func110
def ZjF:=Qqw func111
def ZjG:=Qqw func112
def ZjH:=Qqw func113
def ZjI:=Qqw func114
def Fv:=Qqw func115
def ZjJ:=Qqw func116
def Zfi:=Qqw func117
def ZjK:=Qqw func129
def Zfj:=Qqw func134
def Us:=Qqw func135
def ZjL:=Qqw func136
def ZjM:=Qqw func137
def ZjN:=Qqw func138
def ZjO:=Qqw func139
def ZdS:=Qqw func140
def Zfk:=Qqw func141
def Zfl:=Qqw func142
def Zac:=Qqw func143
def ZjP:=Qqw func144
def ZjQ:=Qqw func145
def ZjR:=Qqw func161
def Zfm:=Qqw func162
def ZjS:=Qqw func163
def ZjT:=Qqw func164
def ZjU:=Qqw func165
def ZjV:=Qqw func166
def ZjW:=Qqw func167
def ZjX:=Qqw func168
def jo:=Qqw func169
def ZjY:=Qqw func170
def ZjZ:=Qqw func171
def ZdT:=Qqw func172
def Zfn:=Qqw func173
def Zj0:=Qqw func174
def Zfo:=Qqw func175
def Zj1:=Qqw func176
def Zj2:=Qqw func177
def Np:=Qqw func195
def Zfp:=Qqw func196
def Zj3:=Qqw func197
def Zfq:=Qqw func198
def Zfr:=Qqw func199
def Zj4:=Qqw func200
def Zfs:=Qqw func201
def Zj5:=Qqw func202
def Zj6:=Qqw func212
def Zj7:=Qqw func213
def Zft:=Qqw func214
def DL:=Qqw func215
def Zj8:=Qqw func216
def Zj9:=Qqw func217
def Zka:=Qqw func218
def Zkb:=Qqw func219
def Zkc:=Qqw func220
def ZdU:=Qqw func221
def Zkd:=Qqw func222
def Zke:=Qqw func223
def Zkf:=Qqw func224
def Zkg:=Qqw func225
def Zkh:=Qqw func226
def Zki:=Qqw func227
def ZdV:=Qqw func228
def Zkj:=Qqw func229
def Zkk:=Qqw func230
def Zkl:=Qqw func231
def Zkm:=Qqw func232
def Zkn:=Qqw func233
def Zko:=Qqw func234
def Zkp:=Qqw func235
def Zkq:=Qqw func236
def Zkr:=Qqw func237
def Zks:=Qqw func238
def Zfu:=Qqw func239
def Zkt:=Qqw func240
def Zku:=Qqw func241
def Zfv:=Qqw func242
def Zfw:=Qqw func243
def ZdW:=Qqw func246
def Zad:=Qqw func247
def Zfx:=Qqw func248
def Zkv:=Qqw func249
def Zkw:=Qqw func250
def Zkx:=Qqw func251
def Zky:=Qqw func252
def Zfy:=Qqw func253
def Zkz:=Qqw func254
def ZkA:=Qqw func255
def ZkB:=Qqw func256
def Zfz:=Qqw func257
def ZkC:=Qqw func258
def ZkD:=Qqw func259
def ZfA:=Qqw func260
def ZkE:=Qqw func261
def ZkF:=Qqw func262
def ZkG:=Qqw func263
def ZkH:=Qqw func264
def AH a b c (ds:LDf) (R:RT) w:=
 opV Pg (build 131 #[]) (ZI Pg ds [(none,c),(some 131,a),(some 4,b)] R) w λ d w=>
 opU Pg (storeAt 131 a d) (ZI Pg ds [(none,c),(some 131,a),(some 4,b)] R) w λ w=>
 opU Pg (storeAt 4 b (.bool false)) (ZI Pg ds [(none,c),(some 131,a),(some 4,b)] R) w λ w=>
 Kz Pg ds [(none,c),(some 131,a),(some 4,b)] R w
def AI f c d b (a:WPr) (ds:LDf) (R:RT) w:=
 qN Pg a (Y6 b) λ g=>
 J0 201 g 1 a λ h=>
 I0 198 h a λ i=>
 J0 27 f 2 a λ j=>
 I0 9 j a λ k=>
 qV Pg a (lookup 198 i k true) λ e=>
 qV Pg a (extract e 0) λ m=>
 qV Pg a (extract e 1) λ l=>
 Yb Pg 135 #[b,l,(QqJ 11)] (ZI Pg ds [(none,b),(some 131,c),(some 4,d)] R) w λ n w=>
 AH c d b ds R w
def AJ d b c a (ds:LDf) (R:RT) w:=
 opN Pg (Y6 a) (ZI Pg ds [(none,a),(some 131,b),(some 4,c)] R) w λ e w=>
 opV Pg (fieldAt 201 e 3) (ZI Pg ds [(none,a),(some 131,b),(some 4,c)] R) w λ f w=>
 opU Pg (storeAt 3 f (.int .i64 (-1))) (ZI Pg ds [(none,a),(some 131,b),(some 4,c)] R) w λ w=>
 Yg w λ g w=>
 AI d b c a g ds R w
def AK b c a f d (Zx:KV) (ds:LDf) (R:RT) w:=
 opV Pg (indexAt 25 f d) (ZI Pg ds [(none,a),(some 131,b),(some 4,c)] R) w λ g w=>
 opV Pg (loadAt 74 g) (ZI Pg ds [(none,a),(some 131,b),(some 4,c)] R) w λ h w=>
 opV Pg (alloc 74 true (.tuple #[])) (ZI Pg ds [(none,a),(some 131,b),(some 4,c)] R) w λ e w=>
 opU Pg (storeAt 74 e h) (ZI Pg ds [(none,a),(some 131,b),(some 4,c)] R) w λ w=>
 opN Pg (Y6 a) (ZI Pg ds [(none,a),(some 131,b),(some 4,c)] R) w λ i w=>
 opV Pg (fieldAt 201 i 3) (ZI Pg ds [(none,a),(some 131,b),(some 4,c)] R) w λ j w=>
 opU Pg (storeAt 3 j d) (ZI Pg ds [(none,a),(some 131,b),(some 4,c)] R) w λ w=>
 opV Pg (loadAt 74 e) (ZI Pg ds [(none,a),(some 131,b),(some 4,c)] R) w λ k w=>
 Yb Pg 136 #[a,k] (ZI Pg ds [(none,a),(some 131,b),(some 4,c)] R) w λ m w=>
 opV Pg (ZP .add 3 true d (QqJ 1)) (ZI Pg ds [(none,a),(some 131,b),(some 4,c)] R) w λ l w=>
 Zx l w
def xB e a b c f g d (Zx:KV) (ds:LDf) (R:RT) w:=
 opV Pg (ZP .lss 3 false d g) (ZI Pg ds [(none,c),(some 131,a),(some 4,b)] R) w λ h w=>
 Zo h (
 AK a b c f d Zx ds R w) (
 AJ e a b c ds R w)
def zd d a b c (ds:LDf) (R:RT) w:=
 opV Pg (fieldAt 27 d 1) (ZI Pg ds [(none,c),(some 131,a),(some 4,b)] R) w λ f w=>
 opV Pg (loadAt 25 f) (ZI Pg ds [(none,c),(some 131,a),(some 4,b)] R) w λ e w=>
 opV Pg (Builtin.len_ #[25] 3 #[e]) (ZI Pg ds [(none,c),(some 131,a),(some 4,b)] R) w λ g w=>
 Yz (λ h w Zx=>
 xB d a b c e g h Zx ds R w) (QqJ 0) w
def D9 d b c a e f (ds:LDf) (R:RT) w:=
 Zw e f (.bool false) λ g=>
 Yb Pg 135 #[a,g,(QqJ 3)] (ZI Pg ds [(none,a),(some 131,b),(some 4,c)] R) w λ h w=>
 zd d b c a ds R w
def Ea d a b c (e:KV) (ds:LDf) (R:RT) w:=
 opV Pg (fieldAt 27 d 1) (ZI Pg ds [(none,c),(some 131,a),(some 4,b)] R) w λ f w=>
 opV Pg (loadAt 25 f) (ZI Pg ds [(none,c),(some 131,a),(some 4,b)] R) w λ g w=>
 opV Pg (Builtin.len_ #[25] 3 #[g]) (ZI Pg ds [(none,c),(some 131,a),(some 4,b)] R) w λ h w=>
 opV Pg (ZP .leq 3 true h (QqJ 60)) (ZI Pg ds [(none,c),(some 131,a),(some 4,b)] R) w λ i w=>
 e i w
def AL d a b c (ds:LDf) (R:RT) w:=
 opV Pg (fieldAt 27 d 1) (ZI Pg ds [(none,c),(some 131,a),(some 4,b)] R) w λ g w=>
 opV Pg (loadAt 25 g) (ZI Pg ds [(none,c),(some 131,a),(some 4,b)] R) w λ h w=>
 opV Pg (Builtin.len_ #[25] 3 #[h]) (ZI Pg ds [(none,c),(some 131,a),(some 4,b)] R) w λ i w=>
 opV Pg (ZP .geq 3 true i (QqJ 1)) (ZI Pg ds [(none,c),(some 131,a),(some 4,b)] R) w λ e w=>
 Zm (λ (j:Vl) (w:Wd)=>
 D9 d a b c e j ds R w) λ f=>
 Zl e true (
 Ea d a b c f ds R w) (
 f undef w)
abbrev QqQ0 (f:FuncId) (n:RT→Wd→Prop):Prop:=∀ {R:RT} {w:Wd},n R w→Calls Pg f #[] w R
abbrev QqQ1 (f:FuncId) (n:Vl→RT→Wd→Prop):Prop:=∀ {t0:Vl} {R:RT} {w:Wd},n t0 R w→Calls Pg f #[t0] w R
abbrev QqQ2 (f:FuncId) (n:Vl→Vl→RT→Wd→Prop):Prop:=∀ {t0 t1:Vl} {R:RT} {w:Wd},n t0 t1 R w→Calls Pg f #[t0,t1] w R
abbrev QqQ3 (f:FuncId) (n:Vl→Vl→Vl→RT→Wd→Prop):Prop:=∀ {t0 t1 t2:Vl} {R:RT} {w:Wd},n t0 t1 t2 R w→Calls Pg f #[t0,t1,t2] w R
abbrev QqQ4 (f:FuncId) (n:Vl→Vl→Vl→Vl→RT→Wd→Prop):Prop:=∀ {t0 t1 t2 t3:Vl} {R:RT} {w:Wd},n t0 t1 t2 t3 R w→Calls Pg f #[t0,t1,t2,t3] w R
abbrev QqQ5 (f:FuncId) (n:Vl→Vl→Vl→Vl→Vl→RT→Wd→Prop):Prop:=∀ {t0 t1 t2 t3 t4:Vl} {R:RT} {w:Wd},n t0 t1 t2 t3 t4 R w→Calls Pg f #[t0,t1,t2,t3,t4] w R
def Zei e (R:RT) w:=
 (λ (ds:LDf)=>
 opV Pg (box 27 e) (ZI Pg ds [(none,undef),(some 131,undef),(some 4,undef)] R) w λ d w=>
 opV Pg (alloc 131 true (.tuple #[])) (ZI Pg ds [(none,(Value.pointer none)),(some 131,undef),(some 4,undef)] R) w λ a w=>
 opV Pg (alloc 4 true (.tuple #[])) (ZI Pg ds [(none,(Value.pointer none)),(some 131,a),(some 4,undef)] R) w λ b w=>
 opV Pg (loadAt 27 d) (ZI Pg ds [(none,(Value.pointer none)),(some 131,a),(some 4,b)] R) w λ f w=>
 opV Pg (Instr.makeMap 198 none) (ZI Pg ds [(none,(Value.pointer none)),(some 131,a),(some 4,b)] R) w λ g w=>
 opV Pg (Instr.makeMap 199 none) (ZI Pg ds [(none,(Value.pointer none)),(some 131,a),(some 4,b)] R) w λ h w=>
 opV Pg (build 201 #[(0,f),(1,g),(2,h),(3,(.int .i64 (-1))),(4,(.int .i64 (-1)))]) (ZI Pg ds [(none,(Value.pointer none)),(some 131,a),(some 4,b)] R) w λ i w=>
 opV Pg (box 201 i) (ZI Pg ds [(none,(Value.pointer none)),(some 131,a),(some 4,b)] R) w λ c w=>
 opV Pg (makeFunc (.func 134) #[] #[a,b]) (ZI Pg ds [(none,c),(some 131,a),(some 4,b)] R) w λ j w=>
 ZdY Pg j #[] ds w λ ds w=>
 opV Pg (fieldAt 27 d 0) (ZI Pg ds [(none,c),(some 131,a),(some 4,b)] R) w λ k w=>
 opV Pg (loadAt 9 k) (ZI Pg ds [(none,c),(some 131,a),(some 4,b)] R) w λ l w=>
 Yb Pg 35 #[l] (ZI Pg ds [(none,c),(some 131,a),(some 4,b)] R) w λ m w=>
 Yb Pg 135 #[c,m,(QqJ 1)] (ZI Pg ds [(none,c),(some 131,a),(some 4,b)] R) w λ n w=>
 AL d a b c ds R w) []
def ZfU:QqQ1 106 Zei:=λ h=>by
 refine yE func106 ?_
 unfold Zei at h
 dsimp only at h
 refine zs<|zr<|yv h λ h=>zm<|yv h λ h=>yv h λ h=>zn<|zk<|zs<|zr<|yv h λ h=>yv h λ h=>yv h λ h=>yB h λ h=>yv h λ h=>?_
 refine zm<|zn<|zk<|zs<|zr<|yF h λ h=>?_
 refine Dq h rfl rfl ?_;intro ds w h
 refine zn<|zk<|zs<|zr<|zm<|yv h λ h=>yv h λ h=>yc h c35 λ h=>yc h Us λ h=>zn<|zk<|zs<|Zr<|yG 6<|zm ?_
 refine yv h λ h=>yv h λ h=>yx h λ h=>yb h λ h=>zm<|zn<|yg1 4 5 true [26,27,28,29] 29 h (λ _ T hT h=>?_) λ σ w h=>?_
 · refine yv h λ h=>yv h λ h=>yx h λ h=>yb h λ h=>zn ?_
   exact zt hT h
 refine yG 2<|yp h λ h=>yc h Us λ h=>zn<|ZG<|zk<|zs<|zs<|zr<|yv h λ h=>yv h λ h=>yx h λ h=>zm<|zn<|zk ?_
 refine Zk<|yl1 [5,6,35,36,37,38,39,40,41,42,43,44,45,46,47] 35 h λ σ w next h=>zs<|zr<|yb h λ h=>zn<|zk<|zs<|yC h (λ h=>?_) λ h=>?_
 · refine Zi<|zk<|zs<|Zk<|zs<|zr<|zm<|yv h λ h=>yv h λ h=>yv h λ h=>zm<|yu h λ h=>zn<|zk<|zs ?_
   refine zr<|zm<|zm<|yN h λ h=>yv h λ h=>yu h λ h=>zn<|zk<|zr<|zm<|yv h λ h=>yc h ZjL λ h=>zn<|Zg<|zk ?_
   exact zr<|yb h λ h=>zm<|zn<|zk<|⟨rfl,h⟩
 refine ZD<|Zc<|Zc<|Zp<|zk<|zs<|zr<|zm<|yN h λ h=>yv h λ h=>yu h λ h=>zn<|zk<|zs<|yh [7,8,51,52,53,54,55,56,57,58,59,60] h λ C hC h=>?_
 refine yw 0 hC ?_
 refine yn 1 hC h λ h=>?_
 refine ye 2 hC h λ h=>?_
 refine ye 3 hC h λ h=>?_
 refine ye 4 hC h λ h=>?_
 refine ye 5 hC h λ h=>?_
 refine ye 6 hC h λ h=>?_
 refine yw 7 hC ?_
 refine ye 8 hC h λ h=>?_
 refine ye 9 hC h λ h=>?_
 refine yw 10 hC ?_
 refine yw 11 hC ?_
 refine yz<|zk<|zs<|zr<|zm<|zm<|yc h Us λ h=>zn<|zk<|zs<|zr<|zm<|yB h λ h=>zm<|yu h λ h=>?_
 exact yu h λ h=>zn<|zk<|Zh<|Wi rfl h
def Zhz a b (R:RT) w:=
 C0 137 #[a,b] R w λ c w=>
 B0 .geq 3 true c (QqJ 0) R w λ d w=>
 R (.returned d) w
def ZhA:QqQ2 107 Zhz:=λ h=>by
 refine yD func107 ?_
 refine zs<|zr<|zm<|zn<|zk<|zs<|zr<|zm<|zm<|yc h ZjM λ h=>yb h λ h=>zm<|zn<|zk<|Zh ?_
 exact Zf rfl rfl h
def P4 b c a (Zu:KV) R w:=
 X0 40 b a R w λ d w=>
 L0 5 d R w λ e w=>
 Qp Pg c #[e] (Zj R) w λ f w=>
 Zo f (
 R (.returned a) w) (
 B0 .add 3 true a (QqJ 1) R w λ g w=>
 Zu g w)
def Zh1 a c R w:=
 G0 40 3 a R w λ d w=>
 Yz (λ b w Zu=>
 B0 .lss 3 false b d R w λ e w=>
 Zo e (
 P4 a c b Zu R w) (
 R (.returned (.int .i64 (-1))) w)) (QqJ 0) w
def Zh2:QqQ2 108 Zh1:=λ h=>by
 refine yD func108 ?_
 refine zs<|zr<|zm<|zn<|zk<|zs<|zs<|zr<|zm<|yx h λ h=>zm<|zn<|zk<|Zk<|yl1 [4,5,8,9,10,11,12,13,14,15,16,17,18] 8 h λ σ w next h=>?_
 refine zs<|zr<|yb h λ h=>zn<|zk<|zs<|yC h (λ h=>?_) λ h=>?_
 · refine Zi<|zk<|zs<|Zk<|zs<|zr<|zm<|zm<|zn<|zk<|zs<|zr<|zm<|zm<|zm ?_
   refine yv h λ h=>yv h λ h=>yV h λ h=>zn<|zk<|yC h (λ h=>zs<|zr<|zm<|zm<|zn<|zk<|Zh<|Zd<|Zb<|Zb<|Zd<|Zb<|Zf rfl rfl h) λ h=>Zi<|Zg<|zk<|zr<|yb h λ h=>zm<|zn<|zk ?_
   exact ⟨rfl,h⟩
 exact ZD<|Zc<|Zc<|Zp<|zk<|zs<|zr<|zm<|zn<|zk<|Zh<|Zf rfl rfl h
def n84 b c R w:=
 opV Pg (box 27 b) (Zj R) w λ d w=>
 opV Pg (box 9 c) (Zj R) w λ e w=>
 F0 27 d 1 R w λ f w=>
 L0 25 f R w λ g w=>
 opV Pg (makeFunc (.func 139) #[] #[e]) (Zj R) w λ h w=>
 C0 138 #[g,h] R w λ a w=>
 E0q a 0 R w λ i w=>
 E0q a 1 R w λ j w=>
 R (.returned (.tuple #[i,j])) w
def ZlW:QqQ2 109 n84:=λ h=>by
 refine yD func109 ?_
 refine zs<|zr<|yv h λ h=>yv h λ h=>zm<|zm<|zn<|zk<|zs<|zr<|yv h λ h=>yv h λ h=>yF h λ h=>yc h ZjN λ h=>yv h λ h=>?_
 exact yv h λ h=>zm<|zm<|zn<|zk<|Zh<|Xp rfl rfl rfl h
def Zb2 b c d (a:WPr) (R:RT) w:=
 J0 74 b 1 a λ e=>
 I0 72 e a λ f=>
 M0 72 f d a λ g=>
 I0 123 g a λ h=>
 J0 74 b 1 a λ i=>
 I0 72 i a λ j=>
 M0 72 j d a λ k=>
 I0 123 k a λ l=>
 C0 68 #[l] R w λ m w=>
 a w∧(
 S0 123 c h R w λ w=>
 Vp w λ n w=>
 qW Pg 123 c w λ r0=>
 R (.returned (.tuple #[r0,m])) w)
def Zb3 a R w:=
 opV Pg (build 123 #[]) (Zj R) w λ b w=>
 S0 123 a b R w λ w=>
 qW Pg 123 a w λ r0=>
 R (.returned (.tuple #[r0,(QqJ 0)])) w
def Zb4 c a b R w:=
 E0q b 0 R w λ d w=>
 E0q b 1 R w λ e w=>
 N0 e R w λ f w=>
 Zo f (
 Zb3 a R w) (
 Yg w λ g w=>
 Zb2 c a d g R w)
def n34 b c R w:=
 opV Pg (box 74 b) (Zj R) w λ a w=>
 opV Pg (alloc 123 true (.tuple #[])) (Zj R) w λ d w=>
 L0 74 a R w λ e w=>
 C0 140 #[e,c] R w λ f w=>
 Zb4 a d f R w
def Zk8:QqQ2 110 n34:=λ h=>by
 refine yD func110 ?_
 refine zs<|zr<|yv h λ h=>yv h λ h=>zm<|zn<|zk<|zs<|zr<|yv h λ h=>zm<|yc h ZdS λ h=>zm<|yv h λ h=>yv h λ h=>?_
 refine zm<|zm<|zn<|zk<|zs<|zs<|zr<|zm<|yv h λ h=>zn<|zk<|yC h (λ h=>zs<|zr<|yB h λ h=>yu h λ h=>zm<|zn<|zk<|Zh<|Zb<|Z7 rfl rfl rfl h) λ h=>Zi<|zk ?_
 refine zs<|yh [5,17,18,19,20,21,22,23,24,25,26,27] h λ C hC h=>ye 0 hC h λ h=>?_
 refine ye 1 hC h λ h=>?_
 refine yw 2 hC ?_
 refine ye 3 hC h λ h=>?_
 refine ye 4 hC h λ h=>?_
 refine ye 5 hC h λ h=>?_
 refine ye 6 hC h λ h=>?_
 refine yw 7 hC ?_
 refine ye 8 hC h λ h=>?_
 refine ye 9 hC h λ h=>?_
 refine yo 10 ?_
 refine yc h c68 λ h=>zn ?_
 obtain ⟨hC,h⟩:=h
 refine ⟨hC,?_⟩
 refine yq 11 5 ?_
 refine yu h λ h=>zn ?_
 obtain ⟨C2,hC,h⟩:=h
 refine ⟨C2,hC,?_⟩
 refine yw 12 hC ?_
 exact yz<|zk<|Zh<|Z7 rfl rfl rfl h
def n30 a b R w:=
 opV Pg (box 43 a) (Zj R) w λ c w=>
 F0 43 c 0 R w λ d w=>
 L0 9 d R w λ e w=>
 F0 43 b 0 R w λ f w=>
 L0 9 f R w λ g w=>
 B0 .eql 9 false e g R w λ h w=>
 R (.returned h) w
def Zk4:QqQ2 111 n30:=λ h=>by
 refine yD func111 ?_
 refine zs<|zr<|yv h λ h=>zm<|zn<|zk<|zs<|zr<|yv h λ h=>yv h λ h=>yv h λ h=>yv h λ h=>yb h λ h=>zm<|zn ?_
 exact zk<|Zh<|Zf rfl rfl h
def qz a b (Zx:KW) R w:=
 F0 78 a 1 R w λ c w=>
 L0 3 c R w λ d w=>
 B0 .add 3 true b (QqJ 1) R w λ e w=>
 Zx d e w
def CM e b f g h (Zx:KW) (R:RT) w:=
 Zw g h (.bool false) λ c=>
 Zm (λ (a:Vl) (w:Wd)=>
 Zw c a (.bool false) λ i=>
 C0 33 #[e,i,(QqJ 8)] R w λ l w=>
 qz b f Zx R w) λ d=>
 Zl c true (
 F0 78 b 2 R w λ j w=>
 L0 3 j R w λ k w=>
 C0 42 #[k] R w λ a w=>
 d a w) (
 d undef w)
def CN e b f g h (Zx:KW) R w:=
 Zw g h (.bool false) λ c=>
 Zm (λ (a:Vl) (w:Wd)=>
 CM e b f c a Zx R w) λ d=>
 Zl c true (
 F0 78 b 1 R w λ i w=>
 L0 3 i R w λ j w=>
 C0 42 #[j] R w λ a w=>
 d a w) (
 d undef w)
def Bc f g h c (Zx:KW) R w:=
 X0 41 g c R w λ i w=>
 L0 78 i R w λ j w=>
 opV Pg (alloc 78 true (.tuple #[])) (Zj R) w λ a w=>
 S0 78 a j R w λ w=>
 F0 78 a 0 R w λ k w=>
 L0 3 k R w λ l w=>
 B0 .gtr 3 false l h R w λ d w=>
 Zm (λ (b:Vl) (w:Wd)=>
 CN f a c d b Zx R w) λ e=>
 Zl d true (
 F0 78 a 0 R w λ m w=>
 L0 3 m R w λ n w=>
 F0 78 a 1 R w λ o w=>
 L0 3 o R w λ p w=>
 B0 .leq 3 false n p R w λ b w=>
 e b w) (
 e undef w)
def qB c a R w:=
 G0 41 3 a R w λ d w=>
 Qq (λ e b w Zx=>
 B0 .lss 3 false b d R w λ f w=>
 Zo f (
 Bc c a e b Zx R w) (
 R (.returned (.tuple #[])) w)) (.int .i64 (-1)) (QqJ 0) w
def n31 c a R w:=
 G0 41 3 a R w λ f w=>
 B0 .geq 3 true f (QqJ 1) R w λ d w=>
 Zm (λ (b:Vl) (w:Wd)=>
 Zw d b (.bool false) λ g=>
 C0 33 #[c,g,(QqJ 2)] R w λ i w=>
 qB c a R w) λ e=>
 Zl d true (
 G0 41 3 a R w λ h w=>
 B0 .leq 3 true h (QqJ 40) R w λ b w=>
 e b w) (
 e undef w)
def Zk5:QqQ2 112 n31:=λ h=>by
 refine yD func112 ?_
 refine zs<|Zr<|yG 5<|zm<|zm<|yx h λ h=>yb h λ h=>zm<|zn<|yg1 3 4 true [12,13,14] 14 h (λ _ T hT h=>?_) λ σ w h=>?_
 · refine zm<|yx h λ h=>yb h λ h=>zn ?_
   exact zt hT h
 refine yG 2<|yp h λ h=>yc h c33 λ h=>zn<|ZG<|zk<|zs<|zr<|zm<|zn<|zk<|zs<|zr<|zm<|yx h λ h=>?_
 refine zm<|zn<|zk<|Zk<|yl2 [4,6,19,20,21,22,23,24,25,26,27,28,29,30,31,32,33,34,35,36,37,38,39,40,41,42,43,44,45,46,47,48] 4 19 h λ σ w next h=>zs<|zr<|yb h λ h=>zn<|zk<|zs<|yC h (λ h=>?_) λ h=>?_
 · refine Zi<|zk<|zs<|Zk<|zs<|zr<|yv h λ h=>yv h λ h=>yv h λ h=>yu h λ h=>zn<|zk<|zs<|Zr<|yG 6 ?_
   refine zm<|yv h λ h=>yv h λ h=>zm<|yb h λ h=>zm<|zn<|yg1 5 5 true [29,30,31,32,33] 33 h (λ _ T hT h=>?_) λ σ w h=>?_
   · refine yv h λ h=>yv h λ h=>yv h λ h=>yv h λ h=>yb h λ h=>zn ?_
     exact zt hT h
   refine yG 2<|yp h λ h=>zm<|zn<|yg1 3 12 true [36,37,38] 38 h (λ _ T hT h=>?_) λ σ w h=>?_
   · refine yv h λ h=>yv h λ h=>yc h c42 λ h=>zn ?_
     exact zt hT h
   refine yG 2<|yp h λ h=>zm<|zn<|yg1 3 17 true [41,42,43] 43 h (λ _ T hT h=>?_) λ σ w h=>?_
   · refine yv h λ h=>yv h λ h=>yc h c42 λ h=>zn ?_
     exact zt hT h
   refine yG 2<|yp h λ h=>yc h c33 λ h=>zn<|ZG<|zk<|zr<|yv h λ h=>yv h λ h=>zm<|zn<|Zg<|zk<|zr<|yb h λ h=>?_
   exact zm<|zn<|zk<|⟨rfl,h⟩
 exact ZD<|Zc<|Zc<|Zp<|ZS<|Z2 rfl h
def Rg a b c d (e:WPr) (Zu:KV) (R:RT) w:=
 Zw c d (.bool false) λ f=>
 C0 33 #[a,f,(QqJ 9)] R w λ h w=>
 e w∧(
 B0 .add 3 true b (QqJ 1) R w λ g w=>
 Zu g w)
def ZbY b c d (a:WPr) (e:KV) (R:RT) w:=
 I0 123 c a λ f=>
 qN Pg a (Y6 b) λ g=>
 J0 81 g 0 a λ h=>
 J0 24 h 1 a λ i=>
 I0 22 i a λ j=>
 M0 22 j d a λ k=>
 J0 60 k 1 a λ l=>
 I0 9 l a λ m=>
 C0 141 #[f] R w λ n w=>
 a w∧(
 C0 142 #[n,m] R w λ o w=>
 a w∧(
 e o w))
def ZbZ a f g b (Zu:KV) R w:=
 E0q b 0 R w λ h w=>
 E0q b 1 R w λ c w=>
 Yg w λ d w=>
 Zm (λ (i:Vl) (w:Wd)=>
 Rg a g c i d Zu R w) λ e=>
 Zl c true (
 ZbY a f h d e R w) (
 e undef w)
def Zb0 a c d b (Zu:KV) R w:=
 X0 94 d b R w λ e w=>
 L0 9 e R w λ f w=>
 opN Pg (Y6 a) (Zj R) w λ g w=>
 F0 81 g 0 R w λ h w=>
 L0 24 h R w λ i w=>
 C0 20 #[i,f] R w λ j w=>
 ZbZ a c b j Zu R w
def Zb1 c d a R w:=
 G0 94 3 a R w λ e w=>
 Yz (λ b w Zu=>
 B0 .lss 3 false b e R w λ f w=>
 Zo f (
 Zb0 c d a b Zu R w) (
 R (.returned (.tuple #[])) w)) (QqJ 0) w
def n28 a b c R w:=
 opV Pg (box 123 b) (Zj R) w λ d w=>
 opV Pg (box 123 c) (Zj R) w λ e w=>
 L0 123 d R w λ f w=>
 C0 141 #[f] R w λ g w=>
 Zb1 a e g R w
def Zk2:QqQ3 113 n28:=λ h=>by
 refine yD func113 ?_
 refine zs<|zr<|yv h λ h=>yv h λ h=>zn<|zk<|zs<|zr<|yv h λ h=>yc h Zfk λ h=>yx h λ h=>zm<|zn<|zk<|Zk ?_
 refine yl1 [7,8,9,13,14,15,16,17,18,19,20,21,22,23,24,25,26,27,28,29,30,31,32,33,34,35,36,37,38,39,40,41,42,43] 13 h λ σ w next h=>zs<|zr<|yb h λ h=>zn<|zk<|zs<|yC h (λ h=>?_) λ h=>?_
 · refine Zi<|zk<|zs<|Zk<|zs<|zr<|yv h λ h=>yv h λ h=>zm<|zn<|zk<|zs<|zr<|zm<|yN h λ h=>?_
   refine yv h λ h=>yv h λ h=>zm<|yc h c20 λ h=>zm<|yv h λ h=>yv h λ h=>zm<|zm<|zn<|zk<|yh [26,27,28,29,30,31,32,33,34,35,36,37,38,39,40,41,42] h λ C hC h=>yw 0 hC ?_
   refine yw 1 hC ?_
   refine yw 2 hC ?_
   refine yj1 2 [14,4,13,12,11,10,9,8,7,6,5,3,2,1,0] [29,30,31,32,33,34,35,36,37,38,39,40] 40 h (λ _ hT hb h=>?_) (λ _ hT hb h=>?_) λ σ w hC h=>?_
   · refine ye 3 hC h λ h=>?_
     refine yw 5 hC ?_
     refine yn 6 hC h λ h=>?_
     refine ye 7 hC h λ h=>?_
     refine ye 8 hC h λ h=>?_
     refine ye 9 hC h λ h=>?_
     refine yw 10 hC ?_
     refine ye 11 hC h λ h=>?_
     refine ye 12 hC h λ h=>?_
     refine ye 13 hC h λ h=>?_
     refine yo 4 ?_
     refine yc h Zfk λ h=>zn ?_
     obtain ⟨hC,h⟩:=h
     refine ⟨hC,?_⟩
     refine yo 14 ?_
     refine yc h Zfl λ h=>zn ?_
     obtain ⟨hC,h⟩:=h
     refine ⟨hC,?_⟩
     exact yt hT hC h
   · refine yi 3 hC ?_
     refine yi 5 hC ?_
     refine yi 6 hC ?_
     refine yi 7 hC ?_
     refine yi 8 hC ?_
     refine yi 9 hC ?_
     refine yi 10 hC ?_
     refine yi 11 hC ?_
     refine yi 12 hC ?_
     refine yi 13 hC ?_
     refine yi 4 hC ?_
     refine yi 14 hC ?_
     exact yt hT hC h
   refine yP 15 hC h λ _ h=>?_
   refine yo 16 ?_
   refine yc h c33 λ h=>zn ?_
   obtain ⟨hC,h⟩:=h
   refine ⟨hC,?_⟩
   exact yz<|Zg<|zk<|zr<|yb h λ h=>zm<|zn<|zk<|⟨rfl,h⟩
 exact ZD<|Zc<|Zc<|Zp<|ZS<|Z2 rfl h
def PZ b c a (Zu:KV) R w:=
 X0 58 b a R w λ d w=>
 L0 43 d R w λ e w=>
 Qp Pg c #[e] (Zj R) w λ f w=>
 Zo f (
 R (.returned a) w) (
 B0 .add 3 true a (QqJ 1) R w λ g w=>
 Zu g w)
def ZhR a c R w:=
 G0 58 3 a R w λ d w=>
 Yz (λ b w Zu=>
 B0 .lss 3 false b d R w λ e w=>
 Zo e (
 PZ a c b Zu R w) (
 R (.returned (.int .i64 (-1))) w)) (QqJ 0) w
def ZhS:QqQ2 114 ZhR:=λ h=>by
 refine yD func114 ?_
 refine zs<|zr<|zm<|zn<|zk<|zs<|zs<|zr<|zm<|yx h λ h=>zm<|zn<|zk<|Zk<|yl1 [4,5,8,9,10,11,12,13,14,15,16,17,18] 8 h λ σ w next h=>?_
 refine zs<|zr<|yb h λ h=>zn<|zk<|zs<|yC h (λ h=>?_) λ h=>?_
 · refine Zi<|zk<|zs<|Zk<|zs<|zr<|zm<|zm<|zn<|zk<|zs<|zr<|zm<|zm<|zm ?_
   refine yv h λ h=>yv h λ h=>yV h λ h=>zn<|zk<|yC h (λ h=>zs<|zr<|zm<|zm<|zn<|zk<|Zh<|Zd<|Zb<|Zb<|Zd<|Zb<|Zf rfl rfl h) λ h=>Zi<|Zg<|zk<|zr<|yb h λ h=>zm<|zn<|zk ?_
   exact ⟨rfl,h⟩
 exact ZD<|Zc<|Zc<|Zp<|zk<|zs<|zr<|zm<|zn<|zk<|Zh<|Zf rfl rfl h
def ZdA a b c R w:=
 F0 255 c 1 R w λ d w=>
 L0 253 d R w λ e w=>
 L0 123 b R w λ f w=>
 Qp Pg e #[a,f] (Zj R) w λ g w=>
 R (.returned (.tuple #[])) w
def ZdB b a c d R w:=
 L0 123 d R w λ e w=>
 F0 123 a 0 R w λ f w=>
 L0 9 f R w λ g w=>
 F0 123 a 1 R w λ h w=>
 L0 117 h R w λ i w=>
 opV Pg (build 123 #[(0,g),(1,i)]) (Zj R) w λ j w=>
 C0 197 #[e,j] R w λ k w=>
 C0 135 #[b,k,(QqJ 5)] R w λ l w=>
 ZdA b a c R w
def Hj d b c R w:=
 L0 123 b R w λ e w=>
 opV Pg (alloc 123 true (.tuple #[])) (Zj R) w λ a w=>
 S0 123 a e R w λ w=>
 F0 255 c 0 R w λ f w=>
 L0 252 f R w λ g w=>
 Qp Pg g #[a] (Zj R) w λ h w=>
 ZdB d b c a R w
def ZdC d e (a:WPr) (f:KW) R w:=
 qV Pg a (lookup 257 d e true) λ b=>
 qV Pg a (extract b 0) λ g=>
 qV Pg a (extract b 1) λ h=>
 opV Pg (alloc 255 true (.tuple #[])) (Zj R) w λ c w=>
 a w∧(
 S0 255 c g R w λ w=>
 a w∧(
 f h c w))
def MU b d e (a:WPr) (f:KW) R w:=
 qV Pg a (lookup 257 d e true) λ c=>
 qV Pg a (extract c 0) λ g=>
 qV Pg a (extract c 1) λ h=>
 S0 255 b g R w λ w=>
 a w∧(
 f h b w)
def ZdD d e (a:WPr) (R:RT) w:=
 J0 123 e 1 a λ h=>
 I0 117 h a λ f=>
 Zm (λ (i:Vl) (b:Vl) (w:Wd)=>
 C0 135 #[d,i,(QqJ 4)] R w λ l w=>
 Hj d e b R w) λ g=>
 (
 C0 196 #[] R w λ c w=>
 Qs a w λ j w=>
 ZdC c f j g R w)∧(
 opV Pg (alloc 255 true (.tuple #[])) (Zj R) w λ b w=>
 a w∧(
 C0 196 #[] R w λ c w=>
 Qs a w λ k w=>
 MU b c f k g R w))
def ZdE a d b (c:WPr) R w:=
 qV Pg c (extract b 0) λ h=>
 qV Pg c (extract b 1) λ e=>
 N0 e R w λ f w=>
 C0 135 #[a,f,(QqJ 2)] R w λ i w=>
 Yg w λ g w=>
 ZdD a d g R w
def ZdF b c (a:WPr) (R:RT) w:=
 J0 123 c 0 a λ d=>
 I0 9 d a λ e=>
 C0 195 #[b] R w λ f w=>
 a w∧(
 qV Pg a (build 74 #[(1,f)]) λ g=>
 C0 140 #[g,e] R w λ h w=>
 a w∧(
 ZdE b c h a R w))
def n95 a c R w:=
 opV Pg (box 123 c) (Zj R) w λ b w=>
 F0 123 b 0 R w λ d w=>
 L0 9 d R w λ e w=>
 C0 35 #[e] R w λ f w=>
 C0 135 #[a,f,(QqJ 1)] R w λ h w=>
 Yg w λ g w=>
 ZdF a b g R w
def Zl6:QqQ2 161 n95:=λ h=>by
 refine yD func161 ?_
 refine zs<|zr<|yv h λ h=>zn<|zk<|zs<|zr<|zm<|yv h λ h=>yv h λ h=>yc h c35 λ h=>yc h Us λ h=>zn<|zk<|zs ?_
 refine yh [4,5,13,14,15,16,17,18,19,20,21] h λ C hC h=>yw 0 hC ?_
 refine ye 3 hC h λ h=>?_
 refine ye 4 hC h λ h=>?_
 refine yo 1 ?_
 refine yc h Np λ h=>zn ?_
 obtain ⟨hC,h⟩:=h
 refine ⟨hC,?_⟩
 refine ye 2 hC h λ h=>?_
 refine yo 5 ?_
 refine yc h ZdS λ h=>zn ?_
 obtain ⟨hC,h⟩:=h
 refine ⟨hC,?_⟩
 refine yw 6 hC ?_
 refine ye 7 hC h λ h=>?_
 refine ye 8 hC h λ h=>?_
 refine yw 9 hC ?_
 refine yw 10 hC ?_
 refine yz<|zk<|zs<|zr<|zm<|zm<|yv h λ h=>yc h Us λ h=>zn<|zk<|zs<|yh [5,6,26,27,28,29,30,31,32] h λ C hC h=>ye 1 hC h λ h=>?_
 refine ye 2 hC h λ h=>?_
 refine QI h (λ K3 hK h=>?_)
 refine Wq [5,6,26,27,30,31,32] (λ ρ w=>K3 (ρ 5) (ρ 6) w) (λ T hT=>?_) (λ σ w h=>?_)
 · obtain ⟨h0,h1⟩:=h
   refine Xj 0 7 rfl rfl K5 (λ _ _=>rfl) (λ _ _=>rfl) ?_ ?_
   · have h:=h0
     refine yc h Zfp λ h=>zn ?_
     obtain ⟨C4,hs,hC,h⟩:=h
     refine ⟨C4,hs,hC,?_⟩
     refine ye 3 hC h λ h=>?_
     refine yw 4 hC ?_
     refine ye 5 hC h λ h=>?_
     refine ye 6 hC h λ h=>?_
     refine yo 7 ?_
     refine yv h λ h=>zn ?_
     obtain ⟨hC,h⟩:=h
     refine ⟨hC,?_⟩
     refine yo 8 ?_
     refine yu h λ h=>zn ?_
     obtain ⟨hC,h⟩:=h
     refine ⟨hC,?_⟩
     refine yw 9 hC ?_
     refine yz ?_
     exact zt hT h
   have h:=h1
   refine yv h λ h=>zn ?_
   obtain ⟨hC,h⟩:=h
   refine ⟨_,λ _ h=>h,hC,?_⟩
   refine yr 0 ?_
   refine yc h Zfp λ h=>zn ?_
   obtain ⟨C5,hs,hC,h⟩:=h
   refine ⟨C5,hs,hC,?_⟩
   refine ye 3 hC h λ h=>?_
   refine yw 4 hC ?_
   refine ye 5 hC h λ h=>?_
   refine ye 6 hC h λ h=>?_
   refine yo 8 ?_
   refine yu h λ h=>zn ?_
   obtain ⟨hC,h⟩:=h
   refine ⟨hC,?_⟩
   refine yw 9 hC ?_
   refine yz ?_
   exact zt hT h
 subst hK
 refine zk<|zs<|zr<|zm<|zm<|yc h Us λ h=>zn<|zk<|zs<|zr<|yv h λ h=>yv h λ h=>yu h λ h=>zn<|zk ?_
 refine zs<|zr<|yv h λ h=>yv h λ h=>yV h λ h=>zn<|zk<|zs<|zr<|zm<|yv h λ h=>yv h λ h=>yv h λ h=>yv h λ h=>yv h λ h=>?_
 exact yB h λ h=>yc h Zj3 λ h=>yc h Us λ h=>zn<|zk<|zr<|yv h λ h=>yv h λ h=>zm<|yv h λ h=>yV h λ h=>zn<|ZS<|Z2 rfl h
def qQ a d b (Qx:KV) R w:=
 X0 121 d b R w λ e w=>
 L0 213 e R w λ f w=>
 opV Pg (alloc 213 true (.tuple #[])) (Zj R) w λ c w=>
 S0 213 c f R w λ w=>
 L0 94 a R w λ g w=>
 F0 213 c 2 R w λ h w=>
 L0 9 h R w λ i w=>
 opV Pg (buildSlice 94 1 #[(0,i)]) (Zj R) w λ j w=>
 opV Pg (Builtin.append_ #[94,94] 94 #[g,j]) (Zj R) w λ k w=>
 S0 94 a k R w λ w=>
 B0 .add 3 true b (QqJ 1) R w λ l w=>
 Qx l w
def qR c d (e:WPr) R w:=
 F0 123 d 11 R w λ f w=>
 L0 121 f R w λ a w=>
 G0 121 3 a R w λ g w=>
 Yz (λ b w Qx=>
 B0 .lss 3 false b g R w λ h w=>
 Zo h (
 qQ c a b Qx R w) (
 e w)) (QqJ 0) w
def qS a b (c:WPr) R w:=
 L0 94 a R w λ d w=>
 F0 123 b 8 R w λ e w=>
 L0 9 e R w λ f w=>
 opV Pg (buildSlice 94 1 #[(0,f)]) (Zj R) w λ g w=>
 opV Pg (Builtin.append_ #[94,94] 94 #[d,g]) (Zj R) w λ h w=>
 S0 94 a h R w λ w=>
 c w
def yI b c d e f (Zu:KV) R w:=
 Zm (λ (w:Wd)=>
 B0 .add 3 true d (QqJ 1) R w λ g w=>
 Zu g w) λ a=>
 Zo f (
 qS b c a R w) (
 B0 .eql 117 true e (QqJ 9) R w λ h w=>
 Zo h (
 qR b c a R w) (
 a w))
def GH a (b:KV) R w:=
 B0 .eql 117 true a (QqJ 8) R w λ c w=>
 Zo c (
 b c w) (
 B0 .eql 117 true a (QqJ 12) R w λ d w=>
 b d w)
def qT f g c (Zu:KV) R w:=
 X0 72 g c R w λ h w=>
 L0 123 h R w λ i w=>
 opV Pg (alloc 123 true (.tuple #[])) (Zj R) w λ a w=>
 S0 123 a i R w λ w=>
 F0 123 a 1 R w λ j w=>
 L0 117 j R w λ b w=>
 B0 .eql 117 true b (QqJ 7) R w λ d w=>
 Zm (λ (k:Vl) (w:Wd)=>
 yI f a c b k Zu R w) λ e=>
 Zo d (
 e d w) (
 GH b e R w)
def qU a c d b (Zu:KV) R w:=
 B0 .lss 3 false b d R w λ e w=>
 Zo e (
 qT a c b Zu R w) (
 opV Pg (makeFunc (.func 198) #[] #[a]) (Zj R) w λ f w=>
 R (.returned f) w)
def n88 b R w:=
 opV Pg (box 74 b) (Zj R) w λ c w=>
 opV Pg (alloc 94 true (.tuple #[])) (Zj R) w λ d w=>
 F0 74 c 1 R w λ e w=>
 L0 72 e R w λ a w=>
 G0 72 3 a R w λ f w=>
 Yz (λ g w Zu=>
 qU d a f g Zu R w) (QqJ 0) w
def Zl0:QqQ1 162 n88:=λ h=>by
 refine yD func162 ?_
 refine zs<|zr<|yv h λ h=>zm<|zn<|zk<|zs<|zr<|yv h λ h=>zn<|zk<|zs<|zs<|zr<|yv h λ h=>?_
 refine yv h λ h=>yx h λ h=>zm<|zn<|zk<|Zk<|yl1 [5,7,11,12,13,14,15,16,17,18,19,20,21,22,23,24,25,26,27,28,29,30,31,32,33,34,35,36,37,38,39,40,41] 11 h λ σ w next h=>zs<|zr<|yb h λ h=>zn<|zk<|zs<|yC h (λ h=>?_) λ h=>?_
 · refine Zi<|zk<|zs<|Zk<|zs<|zr<|yv h λ h=>yv h λ h=>yv h λ h=>yu h λ h=>zn<|zk<|zs<|zr<|yv h λ h=>?_
   refine yv h λ h=>zn<|zk<|Zk<|zs<|zs<|zr<|yb h λ h=>zm<|zn<|zk<|yJ1 [17,19,20] 17 h (λ _ _ hkK2 h=>?_) λ σ w h=>?_
   · refine yC h (λ h=>?_) λ h=>?_
     · refine Zi<|zk ?_
       exact zt hkK2 h
     refine zs<|zr<|yb h λ h=>zm<|zn<|zk<|yC h (λ h=>?_) λ h=>?_
     · refine Zi<|zk ?_
       exact zt hkK2 h
     refine zr<|yb h λ h=>zm<|zn<|zk ?_
     exact zt hkK2 h
   refine zk<|yJ0 [7,21,22,23,24,25,26,27,28,29,30,31,32,33,34,35,36,37,38,39,40] h (λ _ _ hkK3 h=>?_) λ σ w h=>?_
   · refine yC h (λ h=>?_) λ h=>?_
     · refine zr<|yv h λ h=>yv h λ h=>yv h λ h=>yS h λ h=>yx h λ h=>yu h λ h=>zn<|zk ?_
       exact zt hkK3 h
     refine zs<|zr<|yb h λ h=>zm<|zn<|zk<|yC h (λ h=>?_) λ h=>?_
     · refine zs<|zr<|yv h λ h=>yv h λ h=>yx h λ h=>zm<|zn<|zk<|Zk<|yl1 [7,31,32,33,34,35,36,37,38,39,40] 31 h λ σ w next h=>zs<|zr<|yb h λ h=>zn<|zk ?_
       refine zs<|yC h (λ h=>?_) λ h=>?_
       · refine Zi<|zk<|zs<|Zk<|zs<|zr<|yv h λ h=>yv h λ h=>yv h λ h=>yu h λ h=>zn<|zk<|zr<|yv h λ h=>yv h λ h=>?_
         exact yv h λ h=>yS h λ h=>yx h λ h=>yu h λ h=>zn<|Zg<|zk<|zr<|yb h λ h=>zm<|zn<|zk<|⟨rfl,h⟩
       refine ZD<|Zc<|Zc<|Zp<|zk ?_
       exact zt hkK3 h
     refine Zi<|zk ?_
     exact zt hkK3 h
   exact Zg<|Zg<|zk<|zr<|yb h λ h=>zm<|zn<|zk<|⟨rfl,h⟩
 exact ZD<|Zc<|Zc<|Zp<|zk<|zs<|zr<|yF h λ h=>zm<|zn<|zk<|Zh<|Zf rfl rfl h
def P0 b c a (Zu:KV) R w:=
 X0 25 b a R w λ d w=>
 L0 74 d R w λ e w=>
 Qp Pg c #[e] (Zj R) w λ f w=>
 Zo f (
 R (.returned a) w) (
 B0 .add 3 true a (QqJ 1) R w λ g w=>
 Zu g w)
def ZhT a c R w:=
 G0 25 3 a R w λ d w=>
 Yz (λ b w Zu=>
 B0 .lss 3 false b d R w λ e w=>
 Zo e (
 P0 a c b Zu R w) (
 R (.returned (.int .i64 (-1))) w)) (QqJ 0) w
def ZhU:QqQ2 163 ZhT:=λ h=>by
 refine yD func163 ?_
 refine zs<|zr<|zm<|zn<|zk<|zs<|zs<|zr<|zm<|yx h λ h=>zm<|zn<|zk<|Zk<|yl1 [4,5,8,9,10,11,12,13,14,15,16,17,18] 8 h λ σ w next h=>?_
 refine zs<|zr<|yb h λ h=>zn<|zk<|zs<|yC h (λ h=>?_) λ h=>?_
 · refine Zi<|zk<|zs<|Zk<|zs<|zr<|zm<|zm<|zn<|zk<|zs<|zr<|zm<|zm<|zm ?_
   refine yv h λ h=>yv h λ h=>yV h λ h=>zn<|zk<|yC h (λ h=>zs<|zr<|zm<|zm<|zn<|zk<|Zh<|Zd<|Zb<|Zb<|Zd<|Zb<|Zf rfl rfl h) λ h=>Zi<|Zg<|zk<|zr<|yb h λ h=>zm<|zn<|zk ?_
   exact ⟨rfl,h⟩
 exact ZD<|Zc<|Zc<|Zp<|zk<|zs<|zr<|zm<|zn<|zk<|Zh<|Zf rfl rfl h
def PK a R w:=
 opV Pg (Builtin.max_ #[3,3] 3 #[a,(QqJ 0)]) (Zj R) w λ b w=>
 B0 .geq 3 true a (QqJ 0) R w λ c w=>
 R (.returned (.tuple #[b,c])) w
def ZfV a b (R:RT) w:=
 C0 199 #[a,b] R w λ c w=>
 PK c R w
def ZfW:QqQ2 164 ZfV:=λ h=>by
 refine yD func164 ?_
 refine zs<|zr<|zm<|zm<|zn<|zk<|zs<|zr<|zm<|zm<|yc h Zfr λ h=>zm<|zn<|zk<|zs ?_
 exact zr<|zm<|yx h λ h=>zm<|yb h λ h=>zm<|zm<|zn<|zk<|Zh<|Xp rfl rfl rfl h
def n83 a b R w:=
 opV Pg (box 123 a) (Zj R) w λ c w=>
 F0 123 c 0 R w λ d w=>
 L0 9 d R w λ e w=>
 L0 9 b R w λ f w=>
 B0 .eql 9 false e f R w λ g w=>
 R (.returned g) w
def ZlV:QqQ2 165 n83:=λ h=>by
 refine yD func165 ?_
 refine zs<|zr<|yv h λ h=>zm<|zn<|zk<|zs<|zr<|yv h λ h=>yv h λ h=>yv h λ h=>yb h λ h=>zm<|zn<|zk ?_
 exact Zh<|Zf rfl rfl h
def Zhn a (R:RT) w:=
 C0 200 #[(Value.slice none 0 0),a] R w λ b w=>
 R (.returned b) w
def Zho:QqQ1 166 Zhn:=λ h=>by
 refine yD func166 ?_
 exact zs<|zr<|zm<|zn<|zk<|zs<|zr<|zm<|yc h Zj4 λ h=>zm<|zn<|zk<|Zh<|Zf rfl rfl h
def ID b c a (Zu:KV) R w:=
 X0 94 b a R w λ d w=>
 L0 9 d R w λ e w=>
 B0 .eql 9 false c e R w λ f w=>
 Zo f (
 R (.returned a) w) (
 B0 .add 3 true a (QqJ 1) R w λ g w=>
 Zu g w)
def Zh7 a c R w:=
 G0 94 3 a R w λ d w=>
 Yz (λ b w Zu=>
 B0 .lss 3 false b d R w λ e w=>
 Zo e (
 ID a c b Zu R w) (
 R (.returned (.int .i64 (-1))) w)) (QqJ 0) w
def Zh8:QqQ2 167 Zh7:=λ h=>by
 refine yD func167 ?_
 refine zs<|zr<|zm<|zn<|zk<|zs<|zs<|zr<|zm<|yx h λ h=>zm<|zn<|zk<|Zk<|yl1 [4,5,8,9,10,11,12,13,14,15,16,17,18] 8 h λ σ w next h=>?_
 refine zs<|zr<|yb h λ h=>zn<|zk<|zs<|yC h (λ h=>?_) λ h=>?_
 · refine Zi<|zk<|zs<|Zk<|zs<|zr<|zm<|zm<|zn<|zk<|zs<|zr<|zm<|zm<|zm ?_
   refine yv h λ h=>yv h λ h=>yb h λ h=>zn<|zk<|yC h (λ h=>zs<|zr<|zm<|zm<|zn<|zk<|Zh<|Zd<|Zb<|Zb<|Zd<|Zb<|Zf rfl rfl h) λ h=>Zi<|Zg<|zk<|zr<|yb h λ h=>zm<|zn<|zk ?_
   exact ⟨rfl,h⟩
 exact ZD<|Zc<|Zc<|Zp<|zk<|zs<|zr<|zm<|zn<|zk<|Zh<|Zf rfl rfl h
def n71 a R w:=
 opV Pg (buildSlice 94 13 #[(0,(.string { data := #[] })),(1,(.string { data := #[98,108,120,104] })),(2,(.string { data := #[98,108,120] })),(3,(.string { data := #[111,120,104] })),(4,(.string { data := #[115] })),(5,(.string { data := #[120,104] })),(6,(.string { data := #[111,104] })),(7,(.string { data := #[102,115] })),(8,(.string { data := #[102] })),(9,(.string { data := #[116,99] })),(10,(.string { data := #[98] })),(11,(.string { data := #[114,107] })),(12,(.string { data := #[102,115,121] }))]) (Zj R) w λ b w=>
 X0 94 b a R w λ c w=>
 L0 9 c R w λ d w=>
 R (.returned d) w
def ZlJ:QqQ1 168 n71:=λ h=>by
 refine yD func168 ?_
 refine zs<|zr<|zm<|zn<|zk<|zs<|zr<|yS h λ h=>zm<|yv h λ h=>yv h λ h=>zm<|zn<|zk<|Zh ?_
 exact Zf rfl rfl h
end Go.Proofs.YtgalpdihjbinjaaGreatDoor
namespace Go.Sw
open Go.RowKit (Below)
structure LW3 (B:Nat) (w w':Wd):Prop where
 os:w'.os=w.os
 tape:w'.tape=w.tape
 output:w'.output=w.output
 size:w.heap.size≤w'.heap.size
 block:∀ b,b < B→b < w.heap.size→w'.heap[b]?=w.heap[b]?
end Go.Sw
namespace Go.Sw
open Go.RowKit (Below)
def KR5 (_B:Nat) (w w':Wd):Prop:=w.heap.size≤w'.heap.size∧(∀ (b:Nat) (r:Loop),w.heap[b]?=some (.loop r)→∃ st p,w'.heap[b]?=some (.loop { r with state:=st,pending:=p })) ∧
 (∀ (b:Nat),w.heap[b]?=some (.deferred (some []))→w'.heap[b]?=some (.deferred (some [])))
section
variable {B:Nat} {w w1 w2:Wd}
def KR5.of2 (h:KR B w w1):KR5 B w w1:=⟨h.1,h.2.1,h.2.2.1⟩
def KR5.refl (B:Nat) (w:Wd):KR5 B w w := .of2 (KR.refl B w)
def KR5.trans (h:KR5 B w w1) (k:KR5 B w1 w2):KR5 B w w2:=⟨Nat.le_trans h.1 k.1,λ b r hb=>by
 obtain ⟨st,p,h1⟩:=h.2.1 b r hb
 obtain ⟨st',p',h2⟩:=k.2.1 b _ h1
 exact ⟨st',p',h2⟩,λ b hb=>k.2.2 b (h.2.2 b hb)⟩
def KR5.of (e:Ext w w1):KR5 B w w1 := .of2 (.of e)
def KR5.setCell (h:KR5 B w w1) (b o:Nat) (v:Vl):KR5 B w (w1.setCell ⟨b,o,none⟩ v):=h.trans ⟨by simp,λ b r hb=>⟨r.state,r.pending,(KeepsOthers.setCell w1 _ v).same _ _ hb rfl⟩,λ b hb=>(KeepsOthers.setCell w1 _ v).same _ _ hb rfl⟩
def KR5.turn {l:Nat} {r:Loop} (hl:w.heap[l]?=some (.loop r)) (st:LoopState) (p:Option Code):KR5 B w (w.putObj l (.loop { r with state:=st,pending:=p })) := .of2 (.turn hl st p)
def KR5.grown {row:Option Nat} (h:KR5 B w w1) (hg:w1.grownBy w2 row) (hr:∀ g,row=some g→∃ cs T f,w1.heap[g]?=some (.cells cs T f)):KR5 B w w2:=h.trans ⟨hg.size,λ b r hb=>⟨r.state,r.pending,(hg.block b (Qqq hb).1 (λ e=>by
 obtain ⟨cs,T,f,hc⟩:=hr b e.symm
 rw [hb] at hc;cases hc)).trans hb⟩,λ b hb=>(hg.block b (Qqq hb).1 (λ e=>by
 obtain ⟨cs,T,f,hc⟩:=hr b e.symm
 rw [hb] at hc;cases hc)).trans hb⟩
end
def Ze5 (B:Nat) (R:WPr):Prop:=∀ w w',KR5 B w w'→R w→R w'
def Xn.firm5 (rec:Loop) (B b:Nat):Ze5 B (Xn rec b):=λ w w' h ⟨h1,st,p,h2⟩=>by
 obtain ⟨st',p',h3⟩:=h.2.1 _ _ h2
 exact ⟨h.2.2 _ h1,st',p',h3⟩
end Go.Sw
namespace Go.Sw
variable {α:Type}
def TE (cs:AVl) (o:Nat):List Vl→AVl
 | []=>cs
 | v::vs=>TE (cs.setIfInBounds o v) (o+1) vs
def HH:∀ (vs:List Vl) (cs:AVl) (o j:Nat),o+vs.length≤cs.size→(TE cs o vs)[j]?=if o≤j∧j < o+vs.length then vs[j - o]? else cs[j]?
 | [],cs,o,j,_=>by rw [if_neg (by simp only [List.length_nil];omega)];rfl
 | v::vs,cs,o,j,h=>by
  rw [List.length_cons] at h
  rw [TE,HH vs _ (o+1) j (by rw [Array.size_setIfInBounds];omega),List.length_cons]
  by_cases h1:j=o
  · subst h1
    rw [if_neg K9,if_pos K9,Nat.sub_self,Array.getElem?_setIfInBounds_self_of_lt K9]
    rfl
  · by_cases h2:o+1≤j∧j < o+1+vs.length
    · rw [if_pos h2,if_pos K9,show j - o=(j - (o+1))+1 by omega,List.getElem?_cons_succ]
    · rw [if_neg h2,if_neg K9,Array.getElem?_setIfInBounds_ne K9]
def HG {vs:List Vl} {cs:AVl} (h:vs.length=cs.size):TE cs 0 vs=vs.toArray:=by
 apply Array.ext_getElem?
 intro j
 rw [HH vs cs 0 j K9]
 by_cases hj:j < vs.length
 · rw [if_pos K9,Nat.sub_zero,List.getElem?_toArray]
 · have hs:vs.toArray.size=vs.length:=List.size_toArray ..
   rw [if_neg K9,Array.getElem?_eq_none K9,Array.getElem?_eq_none K9]
def VF {T:TypeId} {b:Nat}:∀ (vs:List Vl) {w:Wd} {cs:AVl} (o:Nat),w.heap[b]?=some (.cells cs T (0,0))→(Xi w b o vs).heap[b]?=some (.cells (TE cs o vs) T (0,0))
 | [],_,_,_,h=>h
 | v::vs,_,_,o,h=>VF vs (o+1) (Zy h v)
def UP {b:Nat}:∀ (vs:List Vl) (w:Wd) (o:Nat) (g:Nat),g≠b→(Xi w b o vs).heap[g]?=w.heap[g]?
 | [],_,_,_,_=>rfl
 | v::vs,w,o,g,h=>(UP vs _ (o+1) g h).trans (YT.setCell w b o v g h)
def GO {b:Nat}:∀ (vs:List Vl) (w:Wd) (o:Nat),(Xi w b o vs).heap.size=w.heap.size
 | [],_,_=>rfl
 | v::vs,w,o=>by rw [Xi,GO vs,World.size_setCell]
def KD {b:Nat}:∀ (vs:List Vl) (w:Wd) (o:Nat) (a:Wd),Ext a w→a.heap.size≤b→Ext a (Xi w b o vs)
 | [],_,_,_,e,_=>e
 | v::vs,w,o,a,e,hb=>KD vs _ (o+1) a (e.setCell (p:=⟨b,o,none⟩) hb v) hb
def xW {P:Program} {w:Wd} {QP:PEn} {ku:WPr} {T T':TypeId} {n m b:Nat} {z:Vl} {cs:AVl} (h:ZJ P T true n m z) (ho:w.heap[b]?=some (.cells cs T' (0,0))) {vs:List Vl} (hn:vs.length=n) (hc:n≤cs.size) (hv:∀ v∈vs,v.oneCell'=true) :
 opU P (storeAt T (Qq4 b) (.agg vs.toArray)) QP w ku=ku (Xi w b 0 vs):=by
 refine xS (u:=()) ?_
 have hq:=Za ho
 have hcc:∀ j,j < vs.length→∃ u,w.cell? ⟨b,0+(0+j),none⟩=some u:=λ j hj=>by
  rw [hq.1]
  exact ⟨cs[j]'K9,by rw [Nat.zero_add,Nat.zero_add];exact Array.getElem?_eq_getElem K9⟩
 have hff:∀ j,j < vs.length→w.frozen? ⟨b,0+(0+j),none⟩=false:=λ j _=>hq.2 _
 have:=VU (P:=P) b 0 vs 0 w hcc hff hv
 simp [storeAt,Instr.sureAddr,storeVar,run_sizeOf h,ZA,hn,this]
end Go.Sw
namespace Go.Sw
open Go.RowKit (Below)
def TP:Obj→Bool
 | .loop _=>true
 | .deferred _=>true
 | .mapIter .. => true
 | _=>false
structure LW6 (B:Nat) (w w':Wd):Prop where
 os:w'.os=w.os
 tape:w'.tape=w.tape
 output:w'.output=w.output
 size:w.heap.size≤w'.heap.size
 block:∀ b,b < w.heap.size→w'.heap[b]?=w.heap[b]?∨(B≤b∧∃ o,w.heap[b]?=some o∧TP o=true)
def LW6.mono {B B':Nat} {w w':Wd} (h:LW6 B w w') (hb:B'≤B):LW6 B' w w':=⟨h.os,h.tape,h.output,h.size,λ b hl=>(h.block b hl).imp_right λ h=>⟨by omega,h.2⟩⟩
def LW6.of {B:Nat} {w w':Wd} (e:Ext w w'):LW6 B w w':=⟨e.os,e.tape,e.output,e.size,λ b hb => .inl (e.block b hb)⟩
def LW6.put {B l:Nat} {w:Wd} {o1:Obj} (hb:B≤l) (hl:w.heap[l]?=some o1) (hs:TP o1=true) (o:Obj):LW6 B w (w.putObj l o):=⟨rfl,rfl,rfl,by simp,λ b _=>by
 by_cases e:b=l
 · exact .inr ⟨by omega,o1,by rw [e];exact hl,hs⟩
 · exact .inl (World.putObj_heap_other e)⟩
def Yl (B:Nat) (I:WPr):Prop:=∀ w w',LW6 B w w'→I w→I w'
def Yl.ext {B:Nat} {I:WPr} (h:Yl B I) {w w':Wd} (hI:I w) (e:Ext w w'):I w':=h _ _ (.of e) hI
def Yl.loop {B l:Nat} {I:WPr} (h:Yl B I) {w:Wd} {r:Loop} (hb:B≤l) (hI:I w) (hl:w.heap[l]?=some (.loop r)) (o:Obj):I (w.putObj l o):=h _ _ (.put hb hl rfl o) hI
def Yl.busied {B l:Nat} {I:WPr} {w w':Wd} (h:Yl B I) (hb:jE l w w') (hl:B≤l) (hI:I w):I w':=by
 obtain ⟨r,hr,rfl⟩:=hb
 exact h.loop hl hI hr _
def Yl.mono {B B':Nat} {I:WPr} (h:Yl B I) (hb:B≤B'):Yl B' I:=λ _ _ hl=>h _ _ (hl.mono hb)
def Yl.and {B:Nat} {I J:WPr} (h:Yl B I) (k:Yl B J):Yl B (λ w=>I w∧J w):=λ w w' hl hh=>⟨h _ _ hl hh.1,k _ _ hl hh.2⟩
def Yl.ex {B:Nat} {α:Sort _} {I:α→Wd→Prop} (h:∀ x,Yl B (I x)):Yl B (λ w=>∃ x,I x w):=λ w w' hl ⟨x,hx⟩=>⟨x,h x _ _ hl hx⟩
def Yl.const (B:Nat) (p:Prop):Yl B (λ _=>p):=λ _ _ _ h=>h
def Yl.from {B:Nat} {w0:Wd} (hb:w0.heap.size≤B):Yl B (Ext w0):=λ w w' hl e=>⟨hl.os.trans e.os,hl.tape.trans e.tape,hl.output.trans e.output,Nat.le_trans e.size hl.size,λ k hk=>by
 have:=e.size
 rcases hl.block k K9 with h | ⟨h,_⟩
 · rw [h];exact e.block k hk
 · omega⟩
def Yl.has (B:Nat) {b:Nat} {o:Obj} (h1:TP o=false):Yl B (λ w=>w.heap[b]?=some o):=λ w w' hl h=>by
 rcases hl.block b (Qqq h).1 with e | ⟨_,o',e,hs⟩
 · rw [e];exact h
 · rw [h] at e;injection e with e;subst e;rw [h1] at hs;cases hs
def Yl.low {B b:Nat} (hb:b < B) (o:Obj):Yl B (λ w=>w.heap[b]?=some o):=λ w w' hl h=>by
 rcases hl.block b (Qqq h).1 with e | ⟨e,_⟩
 · rw [e];exact h
 · omega
def Yl.own {α:Type} {B base n:Nat} {T:TypeId} {enc:α→List Vl} {v:Vl} {l:List α}:Yl B (λ w=>Yc w base T n enc v l):=λ w w' hl h=>by
 obtain ⟨h1,h2⟩:=h
 refine ⟨h1,?_⟩
 rcases h2 with h2 | ⟨g,cap,cur,hv,a1,a2,a3⟩
 · exact .inl h2
 · exact .inr ⟨g,cap,cur,hv,a1,Yl.has B (o := .cells _ _ _) rfl w w' hl a2,a3⟩
def ZfO:Obj→Bool
 | .mapIter .. => true
 | .map .. => true
 | _=>false
def KR6 (B:Nat) (w w':Wd):Prop:=KR5 B w w'∧∀ (b:Nat) (o:Obj),w.heap[b]?=some o→ZfO o=true→w'.heap[b]?=some o
section
variable {B:Nat} {w w1 w2:Wd}
def KR6.refl (B:Nat) (w:Wd):KR6 B w w:=⟨KR5.refl B w,λ _ _ h _=>h⟩
def KR6.trans (h:KR6 B w w1) (k:KR6 B w1 w2):KR6 B w w2:=⟨h.1.trans k.1,λ b o hb ho=>k.2 b o (h.2 b o hb ho) ho⟩
def KR6.of (e:Ext w w1):KR6 B w w1:=⟨KR5.of e,λ b o hb _=>e.obj hb⟩
def KR6.ext (h:KR6 B w w1) (e:Ext w1 w2):KR6 B w w2:=h.trans (.of e)
def KR6.turn {l:Nat} {r:Loop} (hl:w.heap[l]?=some (.loop r)) (st:LoopState) (p:Option Code):KR6 B w (w.putObj l (.loop { r with state:=st,pending:=p })):=⟨KR5.turn hl st p,λ b o hb ho=>by
 by_cases e:b=l
 · subst e;rw [hl] at hb;injection hb with hb;subst hb;cases ho
 · rw [World.putObj_heap_other e];exact hb⟩
def KR6.busied {l:Nat} (h:jE l w w1):KR6 B w w1:=by
 obtain ⟨r,hr,rfl⟩:=h
 exact KR6.turn hr .busy r.pending
def KR6.cell (h:KR6 B w w1) {b:Nat} {cs:AVl} {T:TypeId} {f:Nat×Nat} (hb:w1.heap[b]?=some (.cells cs T f)) (o:Nat) (v:Vl):KR6 B w (w1.setCell ⟨b,o,none⟩ v):=h.trans ⟨(KR5.refl B w1).setCell b o v,λ b' o' hb' ho=>by
 by_cases e:b'=b
 · subst e;rw [hb] at hb';injection hb' with hb';subst hb';cases ho
 · rw [CD e];exact hb'⟩
def KR6.grown {row:Option Nat} (h:KR6 B w w1) (hg:w1.grownBy w2 row) (hr:∀ g,row=some g→∃ cs T f,w1.heap[g]?=some (.cells cs T f)):KR6 B w w2:=h.trans ⟨(KR5.refl B w1).grown hg hr,λ b o hb ho=>(hg.block b (Qqq hb).1 (λ e=>by
 obtain ⟨cs,T,f,hc⟩:=hr b e.symm
 rw [hb] at hc;injection hc with hc;subst hc;cases ho)).trans hb⟩
end
def GB (B:Nat) (R:WPr):Prop:=∀ w w',KR6 B w w'→R w→R w'
def Xn.firm6 (rec:Loop) (B b:Nat):GB B (Xn rec b):=λ w w' h hr=>Xn.firm5 rec B b w w' h.1 hr
def GB.and {B:Nat} {R S:WPr} (h:GB B R) (k:GB B S):GB B (λ w=>R w∧S w):=λ w w' e hh=>⟨h _ _ e hh.1,k _ _ e hh.2⟩
def GB.true {B:Nat}:GB B (λ _=>True):=λ _ _ _ _=>trivial
def ON (P:Program) (f:FuncId) (caps:AVl) (Al:List Vl→Vl→Prop) (Fin:List Vl→Prop) (FP:WPr):Prop:=
 ∀ (yv:Vl) (J:List Vl→Wd→Prop) (Jx:WPr) (Jp:PEn) (w:Wd),yv.oneCell'=true→(∀ k w,J k w→FP w)→(∀ k,Yl w.heap.size (J k))→Yl w.heap.size Jx→(∀ ch,Yl w.heap.size (Jp ch)) →
  (∀ k x,Al k x→∀ Rk,GB w.heap.size Rk→∀ w,J k w→Rk w→Qp P yv #[x] (λ ch w'=>Rk w'∧Jp ch w') w (λ v w'=>Rk w'∧((v = .bool true∧J (k++[x]) w')∨(v = .bool false∧Jx w'))))→J [] w →
  Calls P f (#[yv]++caps) w (λ e w'=>match e with
   | .returned _=>(∃ k,Fin k∧J k w')∨Jx w'
   | .panicked ch=>Jp ch w'
   | .outgrown=>False)
def rangeN6 (P:Program) (fv:Vl) (ds:LDf) (body:Nat→Vl→Wd→(Wd→Prop)→(Nat→Wd→Prop)→(List PanicEntry→Wd→Prop)→Prop) (QP:List PanicEntry→LDf→Wd→Prop) (w:Wd)
 (k:LDf→Wd→Prop) (kx:List (LDf→Wd→Prop)):Prop:=
 ∃ (f:FuncId) (caps:AVl) (Al:List Vl→Vl→Prop) (Fin:List Vl→Prop) (FP:WPr) (I:List Vl→Wd→Prop) (Ix:Nat→Wd→Prop) (Ip:PEn),
  fv = .func (.func f) #[] caps∧Callable P f∧ON P f caps Al Fin FP∧I [] w∧(∀ k w,I k w→FP w)∧(∀ k,Yl w.heap.size (I k))∧(∀ c,Yl w.heap.size (Ix c))∧(∀ ch,Yl w.heap.size (Ip ch)) ∧
  (∀ (Rk:WPr),GB (w.heap.size+1+1) Rk→∀ (j:List Vl) (x:Vl) (w':Wd),Al j x→I j w'→Rk w'→w.heap.size+1 < w'.heap.size→DB (w.heap.size+1) w' →
   body (w.heap.size+1) x w' (λ w''=>Rk w''∧I (j++[x]) w'') (λ c w''=>Rk w''∧Ix c w'') (λ ch w''=>Rk w''∧Ip ch w'')) ∧
  (∀ j w',Fin j→I j w'→Yo w.heap.size w'→k (mark w.heap.size::ds) w') ∧
  (∀ c w',Ix c w'→Yo w.heap.size w'→S2 kx c (mark w.heap.size::ds) w') ∧
  (∀ ch w',Ip ch w'→Yo w.heap.size w'→QP ch (mark w.heap.size::ds) w')
section
variable {P:Program} {N:Nat}
def LV {g:Operand} {p:Nat} {asg body:Code} {Q:K} {QP:KP} {ρ:Env} {ds:LDf} {w:Wd} {fv:Vl} {nbody:Nat→Vl→Wd→(Wd→Prop)→(Nat→Wd→Prop)→(List PanicEntry→Wd→Prop)→Prop} {QPn:List PanicEntry→LDf→Wd→Prop}
 {k:LDf→Wd→Prop} {kx:List (LDf→Wd→Prop)} (js:List Code) (h:rangeN6 P fv ds nbody QPn w k kx) (hg:ev ρ g=fv)
 (hbody:∀ l x w K X QPr,nbody l x w K X QPr→den P N (some l) asg (Wh (λ ρ' ds' w'=>ds'=[]∧Ct l w' (λ w''=>den P N (some l) body (TB js K X) (M6 QPr) ρ' [] w'')) (λ _ _ _ _=>False)) (λ _ _ _ _=>False) (put N ρ (some p) x) [] w)
 (hk:∀ ds w,k ds w→Q .normal ρ ds w) (hx:∀ c ds w,S2 kx c ds w→∃ code,js[c]?=some code∧((code = .ret∧Q .ret ρ ds w)∨(∃ id,code = .exit id∧Q (.exit id) ρ ds w))) (hp:∀ ch ds w,QPn ch ds w→QP ch ρ ds w) :
 den P N none (.rangeFunc g #[p] asg body) Q QP ρ ds w:=by
 intro a ha hds
 subst hds
 obtain ⟨f,caps,Al,Fin,FP,I,Ix,Ip,hfv,hcal,hseq,h0,hFP,hL,hLx,hLp,hround,hend,hjump,hpan⟩:=h
 refine GS λ fn hfn=>?_
 obtain ⟨rec,hrec⟩:∃ rec:Loop,rec={ state := .ready,pending:=none,fn,tmps:=a.tmps,params := #[p],assign:=asg,body,defers:=w.heap.size }:=⟨_,rfl⟩
 obtain ⟨W1,hW1⟩:∃ W1,(w.alloc (.deferred (some []))).alloc (.loop rec)=W1:=⟨_,rfl⟩
 have hE1:Ext w W1:=by rw [← hW1];exact ((Ext.refl w).alloc _).alloc _
 have hW1s:W1.heap.size=w.heap.size+1+1:=by rw [← hW1];simp
 have hL1:W1.heap[w.heap.size+1]?=some (.loop rec):=by
  rw [← hW1];have:=World.alloc_heap_new (w.alloc (.deferred (some []))) (.loop rec);rwa [World.size_alloc] at this
 have hK1:Yo w.heap.size W1:=by
  rw [← hW1];exact Yo.alloc (World.alloc_heap_new w _) _
 have hev:a.eval g=fv:=by rw [ha.eval];exact hg
 refine ⟨w.heap.size+1,[mark w.heap.size],W1,{ target := .fn (.func f) caps,args := #[.func (.yield (w.heap.size+1)) #[] #[]] },W1,f,#[.func (.yield (w.heap.size+1)) #[] #[]]++caps,W1,?_,?_,?_,?_⟩
 · rw [← hW1,hrec];exact run_enterLoop_outer _ _ _ _ _
 · simp only [resolve,hev,hfv]
   simp [go_sem]
 · simp only [invoke]
   exact QD hcal _ _
 · refine Calls.mono (hseq (.func (.yield (w.heap.size+1)) #[] #[]) (λ j w'=>I j w'∧Yo w.heap.size w'∧∃ p,w'.heap[w.heap.size+1]?=some (.loop { rec with state := .ready,pending:=p })∧p=none)
    (λ w'=>Yo w.heap.size w'∧∃ c code,Ix c w'∧js[c]?=some code∧w'.heap[w.heap.size+1]?=some (.loop { rec with state := .done,pending:=some code }))
    (λ ch w'=>Yo w.heap.size w'∧Ip ch w') W1 rfl (λ j w' hj=>hFP j w' hj.1) (λ j=>((hL j).mono K9).and ((Yl.low K9 _).and (.ex λ q=>(Yl.low K9 _).and (.const _ _))))
    ((Yl.low K9 _).and (.ex λ c => .ex λ code=>((hLx c).mono K9).and ((Yl.const _ _).and (Yl.low K9 _)))) (λ ch=>(Yl.low K9 _).and ((hLp ch).mono K9)) ?_ ⟨(hL []).ext h0 hE1,hK1,none,by rw [hL1,hrec],rfl⟩) ?_
   · rintro j x hj Rk hF w' ⟨hi,hm,q,hl,rfl⟩ hR
     have Ym:w.heap.size+1 < w'.heap.size:=(Qqq hl).1
     have hy:=run_yield (P:=P) (args := #[x]) hl (by rw [hrec];rfl)
     show Uf P _ _ _ _
     have hcs:zQ (.func (.yield (w.heap.size+1)) #[] #[]) #[x]=Instr.yield (w.heap.size+1) #[x]:=by
      simp [zQ,Deferred.ofValue,invoke,go_sem,bind,pure,Sem.bind]
     rw [hcs,hy]
     have key:∀ R,wpV (some (w.heap.size+1)) P asg (Exit.then (λ a₁ w₁=>∃ w₂,(Instr.beginRound (w.heap.size+1)).run P w₁ = .ok () w₂∧wpV (some (w.heap.size+1)) P body (Zd0 P (w.heap.size+1) R) a₁ w₂) (λ _ _ _=>False)) { tmps:=((#[p].zip #[x]).foldl (λ tmps (t,a)=>tmps.setIfInBounds t a) a.tmps),defers:=[] } w' →
      Kd P (w.heap.size+1) rec.fn ((rec.params.zip #[x]).foldl (λ tmps (t,a)=>tmps.setIfInBounds t a) rec.tmps) rec.assign rec.body w' R:=by
      intro R h;rw [hrec];exact GM hfn h
     refine key _ ?_
     have hb:=hbody _ _ _ _ _ _ (hround _ ((Xn.firm6 rec _ w.heap.size).and (hW1s ▸ hF)) j x w' hj hi ⟨⟨hm,_,_,hl⟩,hR⟩ Ym ⟨_,hl,rfl⟩)
     have hagr:YL N ({ tmps:=((#[p].zip #[x]).foldl (λ tmps (t,a)=>tmps.setIfInBounds t a) a.tmps),defers:=[] }:Act) (put N ρ (some p) x):=by
      have:=(YL.defers ha []).put (some p) x
      simpa [Act.put] using this
     refine QA (Vu asg _ _ _ _ _ hagr hb) ?_
     intro e a1 w1 hl1
     cases e with
     | panic ch=>obtain ⟨_,_,hf⟩:=hl1;exact hf.elim
     | outgrown=>exact hl1
     | exit id=>obtain ⟨_,_,_,hf⟩:=hl1;exact hf.elim
     | goto l=>obtain ⟨_,_,_,hf⟩:=hl1;exact hf.elim
     | ret=>obtain ⟨_,_,_,hf⟩:=hl1;exact hf.elim
     | normal=>
      obtain ⟨ρ1,ha1,_,hd1,hbz⟩:=hl1
      obtain ⟨⟨r,hr1,hr2⟩,hbz⟩:=hbz
      refine ⟨_,run_beginRound hr1 hr2,?_⟩
      rw [show a1={ a1 with defers:=[] } by rw [← hd1]]
      refine QA (Vu body _ _ _ _ _ (YL.defers ha1 []) (hbz _ ⟨_,hr1,rfl⟩)) ?_
      have fin:∀ (jump:Option Code) (w2:Wd),Xn rec w.heap.size w2→(Instr.endRound (w.heap.size+1) jump).run P w2 = .ok (.bool jump.isNone) (w2.putObj (w.heap.size+1) (.loop { rec with state:=if jump.isNone then .ready else .done,pending:=jump })) ∧
       (w2.putObj (w.heap.size+1) (.loop { rec with state:=if jump.isNone then .ready else .done,pending:=jump })).heap[w.heap.size+1]?=some (.loop { rec with state:=if jump.isNone then .ready else .done,pending:=jump }) ∧
       Yo w.heap.size (w2.putObj (w.heap.size+1) (.loop { rec with state:=if jump.isNone then .ready else .done,pending:=jump })):=by
       rintro jump w2 ⟨hm2,st,q,hq⟩
       refine ⟨by have:=run_endRound (P:=P) jump hq;exact this,World.putObj_heap_same (Qqq hq).1,?_⟩
       unfold Yo
       rw [World.putObj_heap_other K9];exact hm2
      intro e a2 w2 hl2
      cases e with
      | normal=>
       obtain ⟨_,_,_,_,⟨WL,hR2⟩,hi2⟩:=hl2
       obtain ⟨f1,f2,f3⟩:=fin none w2 WL
       obtain ⟨_,st,q,hq⟩:=WL
       exact ⟨_,_,f1,hF _ _ (KR6.turn hq _ _) hR2,.inl ⟨rfl,(hL _).loop (Nat.le_succ _) hi2 hq _,f3,none,f2,rfl⟩⟩
      | ret=>
       obtain ⟨_,_,_,_,c,hc,⟨WL,hR2⟩,hi2⟩:=hl2
       obtain ⟨f1,f2,f3⟩:=fin (some .ret) w2 WL
       obtain ⟨_,st,q,hq⟩:=WL
       exact ⟨_,_,f1,hF _ _ (KR6.turn hq _ _) hR2,.inr ⟨rfl,f3,c,_,(hLx _).loop (Nat.le_succ _) hi2 hq _,hc,f2⟩⟩
      | exit id=>
       obtain ⟨_,_,_,_,c,hc,⟨WL,hR2⟩,hi2⟩:=hl2
       obtain ⟨f1,f2,f3⟩:=fin (some (.exit id)) w2 WL
       obtain ⟨_,st,q,hq⟩:=WL
       exact ⟨_,_,f1,hF _ _ (KR6.turn hq _ _) hR2,.inr ⟨rfl,f3,c,_,(hLx _).loop (Nat.le_succ _) hi2 hq _,hc,f2⟩⟩
      | panic ch=>
       obtain ⟨_,_,hd2,⟨WL,hR2⟩,hi2⟩:=hl2
       exact ⟨hd2,hR2,WL.1,hi2⟩
      | goto l=>obtain ⟨_,_,_,hf⟩:=hl2;exact hf.elim
      | outgrown=>exact hl2
   · have hagr:YL N ({ a with defers:=[mark w.heap.size]++a.defers }:Act) ρ:=ha
     have exh:∀ (st:LoopState) (q:Option Code) (w':Wd),w'.heap[w.heap.size+1]?=some (.loop { rec with state:=st,pending:=q })→st ≠ .busy→Yo w.heap.size w' →
      (Instr.endLoop (w.heap.size+1)).run P w' = .ok q (w'.putObj (w.heap.size+1) (.loop { rec with state := .exhausted,pending:=q }))∧Yo w.heap.size (w'.putObj (w.heap.size+1) (.loop { rec with state := .exhausted,pending:=q })):=by
      intro st q w' hq Y3 hm
      refine ⟨by have:=run_endLoop (P:=P) hq Y3;exact this,?_⟩
      unfold Yo
      rw [World.putObj_heap_other K9];exact hm
     rintro e w' he
     cases e with
     | returned v=>
      rcases he with ⟨j,hfin,hi,hm,q,hl,rfl⟩ | ⟨hm,c,code,hi,hc,hl⟩
      · obtain ⟨e1,e2⟩:=exh _ _ w' hl (by simp) hm
        exact ⟨none,_,e1,hagr,hk _ _ (hend j _ hfin ((hL _).loop (Nat.le_succ _) hi hl _) e2)⟩
      · obtain ⟨e1,e2⟩:=exh _ _ w' hl (by simp) hm
        refine ⟨some code,_,e1,?_⟩
        obtain ⟨code',hc',hden⟩:=hx c _ _ (hjump c _ ((hLx _).loop (Nat.le_succ _) hi hl _) e2)
        rw [hc] at hc';cases hc'
        rcases hden with ⟨rfl,hq⟩ | ⟨id,rfl,hq⟩
        · exact Fj ⟨hagr,hq⟩
        · exact BZ ⟨hagr,hq⟩
     | panicked ch=>exact ⟨hagr,hp _ _ _ (hpan ch _ he.2 he.1)⟩
     | outgrown=>exact he.elim
end
end Go.Sw
namespace Go.Proofs.YtgalpdihjbinjaaGreatDoor
open Sw
def U2 d e f g (Zu:KV) R w:=
 N0 g R w λ b w=>
 Zm (λ (a:Vl) (w:Wd)=>
 Zw b a (.bool false) λ h=>
 Zo h (
 R (.returned (.tuple #[])) w) (
 B0 .add 3 true e (QqJ 1) R w λ i w=>
 Zu i w)) λ c=>
 Zl b true (
 Qp Pg d #[f] (Zj R) w λ j w=>
 N0 j R w λ a w=>
 c a w) (
 c undef w)
def U3 c d e a (Zu:KV) R w:=
 X0 94 e a R w λ f w=>
 L0 9 f R w λ b w=>
 L0 94 d R w λ g w=>
 opV Pg (sliceAt 94 g none (some a) none) (Zj R) w λ h w=>
 C0 142 #[h,b] R w λ i w=>
 U2 c a b i Zu R w
def n89 d a R w:=
 L0 94 a R w λ b w=>
 G0 94 3 b R w λ e w=>
 Yz (λ c w Zu=>
 B0 .lss 3 false c e R w λ f w=>
 Zo f (
 U3 d a b c Zu R w) (
 R (.returned (.tuple #[])) w)) (QqJ 0) w
def ZiJ:QqQ2 198 n89:=λ h=>by
 refine yD func198 ?_
 refine zs<|zr<|yv h λ h=>yx h λ h=>zm<|zn<|zk<|Zk<|yl1 [3,4,7,8,9,10,11,12,13,14,15,16,17,18,19,20,21,22,23,24] 7 h λ σ w next h=>zs<|zr<|yb h λ h=>zn<|zk<|zs ?_
 refine yC h (λ h=>?_) λ h=>?_
 · refine Zi<|zk<|zs<|Zk<|zs<|zr<|zm<|yv h λ h=>yv h λ h=>zm<|zm<|zn<|zk<|zs<|Zr ?_
   refine yG 7<|yv h λ h=>zm<|yv h λ h=>zm<|yc h Zfl λ h=>yv h λ h=>zm<|zn<|yg1 4 6 true [19,20,21,22] 22 h (λ _ T hT h=>?_) λ σ w h=>?_
   · refine zm<|zm<|yV h λ h=>yv h λ h=>zn ?_
     exact zt hT h
   refine yG 1<|yp h λ h=>zn<|ZG<|zk<|yC h (λ h=>Zh<|Zd<|Zb<|Zb<|Zd<|Z2 rfl h) λ h=>Zi<|Zg<|zk<|zr<|yb h λ h=>zm<|zn<|zk ?_
   exact ⟨rfl,h⟩
 exact ZD<|Zc<|Zc<|Zp<|ZS<|Z2 rfl h
def PY b c a (Zu:KV) R w:=
 X0 72 b a R w λ d w=>
 L0 123 d R w λ e w=>
 Qp Pg c #[e] (Zj R) w λ f w=>
 Zo f (
 R (.returned a) w) (
 B0 .add 3 true a (QqJ 1) R w λ g w=>
 Zu g w)
def ZhP a c R w:=
 G0 72 3 a R w λ d w=>
 Yz (λ b w Zu=>
 B0 .lss 3 false b d R w λ e w=>
 Zo e (
 PY a c b Zu R w) (
 R (.returned (.int .i64 (-1))) w)) (QqJ 0) w
def ZhQ:QqQ2 199 ZhP:=λ h=>by
 refine yD func199 ?_
 refine zs<|zr<|zm<|zn<|zk<|zs<|zs<|zr<|zm<|yx h λ h=>zm<|zn<|zk<|Zk<|yl1 [4,5,8,9,10,11,12,13,14,15,16,17,18] 8 h λ σ w next h=>?_
 refine zs<|zr<|yb h λ h=>zn<|zk<|zs<|yC h (λ h=>?_) λ h=>?_
 · refine Zi<|zk<|zs<|Zk<|zs<|zr<|zm<|zm<|zn<|zk<|zs<|zr<|zm<|zm<|zm ?_
   refine yv h λ h=>yv h λ h=>yV h λ h=>zn<|zk<|yC h (λ h=>zs<|zr<|zm<|zm<|zn<|zk<|Zh<|Zd<|Zb<|Zb<|Zd<|Zb<|Zf rfl rfl h) λ h=>Zi<|Zg<|zk<|zr<|yb h λ h=>zm<|zn<|zk ?_
   exact ⟨rfl,h⟩
 exact ZD<|Zc<|Zc<|Zp<|zk<|zs<|zr<|zm<|zn<|zk<|Zh<|Zf rfl rfl h
def PQ b c (d:WPr) (a:PEn) (R:RT) w:=
 opV Pg (loadAt 94 b) a w λ e w=>
 opV Pg (buildSlice 94 1 #[(0,c)]) a w λ f w=>
 opV Pg (Builtin.append_ #[94,94] 94 #[e,f]) a w λ g w=>
 opU Pg (storeAt 94 b g) a w λ w=>
 d w
def Zek b c (R:RT) w:=
 (λ (ds:LDf)=>
 opV Pg (box 94 b) (ZI Pg ds [(none,undef)] R) w λ a w=>
 Sw.rangeN6 Pg c ds (λ l1 d w e h f=>
 Ct l1 w λ w=>
 PQ a d e f R w) (λ ch ds w=>ZI Pg ds [(none,(Value.slice none 0 0))] R ch w) w (λ ds w=>
 opV Pg (loadAt 94 a) (ZI Pg ds [(none,(Value.slice none 0 0))] R) w λ g w=>
 Kz Pg ds [(none,g)] R w) []) []
def Zhk:QqQ2 200 Zek:=λ h=>by
 refine yE func200 ?_
 unfold Zek at h
 dsimp only at h
 refine zs<|zr<|yv h λ h=>zm<|zn<|zk<|zs<|zs<|zr<|zm<|zn<|zk<|Zk<|LV [] h rfl (λ l1 t7 w Kr1 Xr1 Qr1 h=>?_) (λ ds w h=>?_) (λ c ds w h=>?_) (λ ch ds w h=>QM rfl h)
 · refine zr<|zm<|zn<|zk ?_
   obtain ⟨hr,h⟩:=h
   refine ⟨rfl,hr,λ w hb=>?_⟩
   have h:=h w hb
   exact Zk<|zr<|yv h λ h=>zm<|yS h λ h=>yx h λ h=>yu h λ h=>zn<|Zg<|⟨rfl,h⟩
 · exact Zg<|zk<|zs<|zr<|yv h λ h=>zm<|zn<|zk<|Zh<|Wi rfl h
 exact h.elim
def ZcE b d c (a:WPr) (Y0:KV) (R:RT) w:=
 J0 120 b 1 a λ e=>
 I0 118 e a λ f=>
 M0 118 f c a λ g=>
 J0 128 g 0 a λ h=>
 I0 9 h a λ i=>
 J0 120 b 1 a λ j=>
 I0 118 j a λ k=>
 M0 118 k d a λ l=>
 J0 128 l 0 a λ m=>
 I0 9 m a λ n=>
 qV Pg a (ZP .eql 9 false i n) λ o=>
 Zo o (
 R (.returned (.bool false)) w) (
 B0 .add 3 true c (QqJ 1) R w λ p w=>
 Y0 p w)
def ZcF c a b (Zx Y0:KV) R w:=
 B0 .lss 3 false b a R w λ d w=>
 Zo d (
 Yg w λ e w=>
 ZcE c a b e Y0 R w) (
 B0 .add 3 true a (QqJ 1) R w λ f w=>
 Zx f w)
def MA b c f g (Zx:KV) (R:RT) w:=
 Zw f (.bool true) g λ d=>
 Zm (λ (a:Vl) (w:Wd)=>
 Zw d (.bool true) a λ h=>
 Zo h (
 R (.returned (.bool false)) w) (
 Yz (λ i w Y0=>
 ZcF b c i Zx Y0 R w) (QqJ 0) w)) λ e=>
 Zl d false (
 F0 120 b 1 R w λ j w=>
 L0 118 j R w λ k w=>
 X0 118 k c R w λ l w=>
 F0 128 l 1 R w λ m w=>
 L0 3 m R w λ n w=>
 C0 242 #[n] R w λ o w=>
 N0 o R w λ a w=>
 e a w) (
 e undef w)
def ZcG b c f (Zx:KV) R w:=
 N0 f R w λ d w=>
 Zm (λ (a:Vl) (w:Wd)=>
 MA b c d a Zx R w) λ e=>
 Zl d false (
 F0 120 b 1 R w λ g w=>
 L0 118 g R w λ h w=>
 X0 118 h c R w λ i w=>
 F0 128 i 1 R w λ j w=>
 L0 3 j R w λ k w=>
 B0 .eql 3 true k (QqJ 0) R w λ a w=>
 e a w) (
 e undef w)
def ZcH a b (Zx:KV) R w:=
 F0 120 a 1 R w λ c w=>
 L0 118 c R w λ d w=>
 X0 118 d b R w λ e w=>
 F0 128 e 0 R w λ f w=>
 L0 9 f R w λ g w=>
 C0 39 #[g] R w λ h w=>
 ZcG a b h Zx R w
def Se a b (Zx:KV) R w:=
 F0 120 a 1 R w λ c w=>
 L0 118 c R w λ d w=>
 G0 118 3 d R w λ e w=>
 B0 .lss 3 false b e R w λ f w=>
 Zo f (
 ZcH a b Zx R w) (
 R (.returned (.bool true)) w)
def ZcI b e R w:=
 N0 e R w λ c w=>
 Zm (λ (a:Vl) (w:Wd)=>
 Zw c (.bool true) a λ f=>
 Zo f (
 R (.returned (.bool false)) w) (
 Yz (λ g w Zx=>
 Se b g Zx R w) (QqJ 0) w)) λ d=>
 Zl c false (
 F0 120 b 1 R w λ h w=>
 L0 118 h R w λ i w=>
 G0 118 3 i R w λ j w=>
 B0 .gtr 3 true j (QqJ 4) R w λ a w=>
 d a w) (
 d undef w)
def n52 b R w:=
 opV Pg (box 120 b) (Zj R) w λ a w=>
 F0 120 a 0 R w λ c w=>
 L0 3 c R w λ d w=>
 C0 242 #[d] R w λ e w=>
 ZcI a e R w
def Zlq:QqQ1 201 n52:=λ h=>by
 refine yD func201 ?_
 refine zs<|zr<|yv h λ h=>zm<|zn<|zk<|zs<|zs<|Zr<|yG 5<|yv h λ h=>yv h λ h=>yc h Zfv λ h=>yv h λ h=>zm ?_
 refine zn<|yg1 4 4 false [10,11,12,13] 13 h (λ _ T hT h=>?_) λ σ w h=>?_
 · refine yv h λ h=>yv h λ h=>yx h λ h=>yb h λ h=>zn ?_
   exact zt hT h
 refine yG 1<|yp h λ h=>zn<|ZG<|zk<|yC h (λ h=>zs<|zr<|zm<|zn<|zk<|Zh<|Zb<|Zf rfl rfl h) λ h=>Zi<|zk<|zs<|zs<|zr<|zm<|zn<|zk ?_
 refine Zk<|yl1 [2,3,4,15,16,17,18,19,20,21,22,23,24,25,26,27,28,29,30,31,32,33,34,35,36,37,38,39,40,41,42,43,44,45,46,47,48,49,50,51,52,53,54,55,56,57,58,59,60,61,62,63,64,65,66] 3 h λ σ w next h=>zs<|zs<|zr<|zm<|yv h λ h=>yv h λ h=>yx h λ h=>yb h λ h=>zn<|zk<|yC h (λ h=>?_) λ h=>?_
 · refine Zi<|zk<|zs<|Zk<|zs<|zs<|Zr<|yG 9<|yv h λ h=>yv h λ h=>zm<|yv h λ h=>yv h λ h=>yv h λ h=>yc h c39 λ h=>?_
   refine yv h λ h=>zm<|zn<|yg1 7 8 false [31,32,33,34,35,36,37] 37 h (λ _ T hT h=>?_) λ σ w h=>?_
   · refine yv h λ h=>yv h λ h=>zm<|yv h λ h=>yv h λ h=>yv h λ h=>yb h λ h=>zn ?_
     exact zt hT h
   refine yG 2<|yp h λ h=>zm<|zn<|yg1 8 17 false [40,41,42,43,44,45,46,47] 47 h (λ _ T hT h=>?_) λ σ w h=>?_
   · refine yv h λ h=>yv h λ h=>zm<|yv h λ h=>yv h λ h=>yv h λ h=>yc h Zfv λ h=>yv h λ h=>zn ?_
     exact zt hT h
   refine yG 1<|yp h λ h=>zn<|ZG<|zk<|yC h (λ h=>zs<|zr<|zm<|zn<|zk<|Zh<|Zb<|Zd<|Zb<|Zb<|Zd<|Zb<|Zf rfl rfl h) λ h=>Zi<|zk<|zs<|zr<|zm<|zn<|zk<|Zk ?_
   refine yl1 [2,4,49,50,51,52,53,54,55,56,57,58,59,60,61,62,63,64,65,66] 4 h λ σ w next h=>zs<|zs<|zr<|zm<|zm<|yb h λ h=>zn<|zk<|yC h (λ h=>?_) λ h=>?_
   · refine Zi<|zk<|zs<|Zk<|zs<|yh [54,55,56,57,58,59,60,61,62,63,64,65,66] h λ C hC h=>ye 0 hC h λ h=>?_
     refine ye 1 hC h λ h=>?_
     refine yw 2 hC ?_
     refine ye 3 hC h λ h=>?_
     refine ye 4 hC h λ h=>?_
     refine ye 5 hC h λ h=>?_
     refine ye 6 hC h λ h=>?_
     refine ye 7 hC h λ h=>?_
     refine yw 8 hC ?_
     refine ye 9 hC h λ h=>?_
     refine ye 10 hC h λ h=>?_
     refine ye 11 hC h λ h=>?_
     refine ye 12 hC h λ h=>?_
     refine yz<|zk<|yC h (λ h=>?_) λ h=>?_
     · refine zs<|zr<|zm<|zn<|zk<|Zh<|Zd<|Zb<|Zb<|Zd<|Zd<|Zb<|Zb<|Zd<|Zb ?_
       exact Zf rfl rfl h
     exact Zi<|Zg<|zk<|zr<|zm<|yb h λ h=>zm<|zn<|zk<|⟨rfl,h⟩
   exact ZD<|Zc<|Zc<|Zp<|Zg<|zk<|zr<|zm<|yb h λ h=>zm<|zn<|zk<|⟨rfl,h⟩
 exact ZD<|Zc<|Zc<|Zp<|zk<|zs<|zr<|zm<|zn<|zk<|Zh<|Zf rfl rfl h
def xL b c d e (a:WPr) (Zu:KW) R w:=
 qV Pg a (ZP .mul 3 false d e) λ f=>
 qV Pg a (ZP .add 3 false b f) λ g=>
 B0 .add 3 true c (QqJ 1) R w λ h w=>
 Zu g h w
def xM c d b e (a:WPr) (Zu:KW) R w:=
 J0 128 b 1 a λ f=>
 I0 3 f a λ g=>
 I0 128 b a λ h=>
 Qp Pg c #[h] (Zj R) w λ i w=>
 a w∧(
 xL d e g i a Zu R w)
def xN c d e a (Zu:KW) R w:=
 X0 118 e a R w λ f w=>
 L0 128 f R w λ g w=>
 opV Pg (alloc 128 true (.tuple #[])) (Zj R) w λ b w=>
 S0 128 b g R w λ w=>
 Yg w λ h w=>
 xM c d b a h Zu R w
def Zhg e f R w:=
 opV Pg (box 120 e) (Zj R) w λ a w=>
 F0 120 a 0 R w λ g w=>
 L0 3 g R w λ h w=>
 F0 120 a 1 R w λ i w=>
 L0 118 i R w λ b w=>
 G0 118 3 b R w λ j w=>
 Qq (λ c d w Zu=>
 B0 .lss 3 false d j R w λ k w=>
 Zo k (
 xN f c b d Zu R w) (
 R (.returned c) w)) h (QqJ 0) w
def Zhh:QqQ2 261 Zhg:=λ h=>by
 refine yD func261 ?_
 refine zs<|zr<|yv h λ h=>zm<|zn<|zk<|zs<|zr<|yv h λ h=>yv h λ h=>zm<|zn<|zk<|zs<|zs ?_
 refine zr<|yv h λ h=>yv h λ h=>yx h λ h=>zm<|zn<|zk<|Zk<|yl2 [5,7,13,14,15,16,17,18,19,20,21,22,23,24,25] 5 13 h λ σ w next h=>zs<|zr<|yb h λ h=>zn<|zk<|zs ?_
 refine yC h (λ h=>?_) λ h=>?_
 · refine Zi<|zk<|zs<|Zk<|zs<|zr<|yv h λ h=>yv h λ h=>yv h λ h=>yu h λ h=>zn<|zk<|yh [5,17,18,19,20,21,22,23,24] h λ C hC h=>yw 0 hC ?_
   refine ye 1 hC h λ h=>?_
   refine ye 2 hC h λ h=>?_
   refine yw 3 hC ?_
   refine ye 4 hC h λ h=>?_
   refine yo 5 ?_
   refine yV h λ h=>zn ?_
   obtain ⟨hC,h⟩:=h
   refine ⟨hC,?_⟩
   refine ye 6 hC h λ h=>?_
   refine ye 7 hC h λ h=>?_
   refine yw 8 hC ?_
   exact yz<|Zg<|zk<|zr<|yb h λ h=>zm<|zn<|zk<|⟨rfl,h⟩
 exact ZD<|Zc<|Zc<|Zp<|zk<|zs<|zr<|zm<|zm<|zn<|zk<|Zh<|Zf rfl rfl h
def Kq a b R w:=
 L0 296 a R w λ c w=>
 F0 128 b 0 R w λ d w=>
 L0 9 d R w λ e w=>
 opV Pg (lookup 296 c e false) (Zj R) w λ f w=>
 opV Pg (Instr.field 300 f 1) (Zj R) w λ g w=>
 R (.returned g) w
def ZgV d b e R w:=
 opV Pg (box 128 d) (Zj R) w λ a w=>
 L0 296 b R w λ f w=>
 F0 128 a 0 R w λ g w=>
 L0 9 g R w λ h w=>
 opV Pg (lookup 296 f h false) (Zj R) w λ i w=>
 opV Pg (alloc 300 true (.tuple #[])) (Zj R) w λ c w=>
 S0 300 c i R w λ w=>
 L0 4 e R w λ j w=>
 F0 128 a 1 R w λ k w=>
 L0 3 k R w λ l w=>
 B0 .gtr 3 true l (QqJ 0) R w λ m w=>
 B0 .eql 4 false j m R w λ n w=>
 Zo n (
 F0 300 c 0 R w λ o w=>
 L0 3 o R w λ p w=>
 R (.returned p) w) (
 Kq b a R w)
def ZgW:QqQ3 262 ZgV:=λ h=>by
 refine yD func262 ?_
 refine zs<|zr<|yv h λ h=>zm<|zn<|zk<|zs<|zs<|zr<|yv h λ h=>yv h λ h=>yv h λ h=>yv h λ h=>yv h λ h=>yu h λ h=>?_
 refine zn<|zk<|zs<|zr<|yv h λ h=>yv h λ h=>yv h λ h=>yb h λ h=>yb h λ h=>zn<|zk<|yC h (λ h=>zs<|zr<|yv h λ h=>yv h λ h=>zm<|zn<|zk<|Zh<|Zb<|Zf rfl rfl h) λ h=>Zi<|zk ?_
 exact zs<|zr<|yv h λ h=>yv h λ h=>yv h λ h=>yv h λ h=>yv h λ h=>zm<|zn<|zk<|Zh<|Zf rfl rfl h
def P3 b c a (Zu:KV) R w:=
 X0 118 b a R w λ d w=>
 L0 128 d R w λ e w=>
 Qp Pg c #[e] (Zj R) w λ f w=>
 Zo f (
 R (.returned a) w) (
 B0 .add 3 true a (QqJ 1) R w λ g w=>
 Zu g w)
def ZhZ a c R w:=
 G0 118 3 a R w λ d w=>
 Yz (λ b w Zu=>
 B0 .lss 3 false b d R w λ e w=>
 Zo e (
 P3 a c b Zu R w) (
 R (.returned (.int .i64 (-1))) w)) (QqJ 0) w
def Zh0:QqQ2 263 ZhZ:=λ h=>by
 refine yD func263 ?_
 refine zs<|zr<|zm<|zn<|zk<|zs<|zs<|zr<|zm<|yx h λ h=>zm<|zn<|zk<|Zk<|yl1 [4,5,8,9,10,11,12,13,14,15,16,17,18] 8 h λ σ w next h=>?_
 refine zs<|zr<|yb h λ h=>zn<|zk<|zs<|yC h (λ h=>?_) λ h=>?_
 · refine Zi<|zk<|zs<|Zk<|zs<|zr<|zm<|zm<|zn<|zk<|zs<|zr<|zm<|zm<|zm ?_
   refine yv h λ h=>yv h λ h=>yV h λ h=>zn<|zk<|yC h (λ h=>zs<|zr<|zm<|zm<|zn<|zk<|Zh<|Zd<|Zb<|Zb<|Zd<|Zb<|Zf rfl rfl h) λ h=>Zi<|Zg<|zk<|zr<|yb h λ h=>zm<|zn<|zk ?_
   exact ⟨rfl,h⟩
 exact ZD<|Zc<|Zc<|Zp<|zk<|zs<|zr<|zm<|zn<|zk<|Zh<|Zf rfl rfl h
def Zdx d e f (R:RT) w:=
 Zw e (.bool true) f λ b=>
 Zm (λ (a:Vl) (w:Wd)=>
 Zw b (.bool true) a λ g=>
 R (.returned g) w) λ c=>
 Zl b false (
 F0 123 d 1 R w λ h w=>
 L0 117 h R w λ i w=>
 B0 .eql 117 true i (QqJ 3) R w λ a w=>
 c a w) (
 c undef w)
def n86 e R w:=
 opV Pg (box 123 e) (Zj R) w λ a w=>
 F0 123 a 1 R w λ f w=>
 L0 117 f R w λ g w=>
 B0 .eql 117 true g (QqJ 1) R w λ c w=>
 Zm (λ (b:Vl) (w:Wd)=>
 Zdx a c b R w) λ d=>
 Zl c false (
 F0 123 a 1 R w λ h w=>
 L0 117 h R w λ i w=>
 B0 .eql 117 true i (QqJ 2) R w λ b w=>
 d b w) (
 d undef w)
def ZlY:QqQ1 264 n86:=λ h=>by
 refine yD func264 ?_
 refine zs<|zr<|yv h λ h=>zm<|zn<|zk<|zs<|Zr<|yG 4<|yv h λ h=>yv h λ h=>yb h λ h=>zm<|zn<|yg1 3 3 false [7,8,9] 9 h (λ _ T hT h=>?_) λ σ w h=>?_
 · refine yv h λ h=>yv h λ h=>yb h λ h=>zn ?_
   exact zt hT h
 refine yG 2<|yp h λ h=>zm<|zn<|yg1 3 8 false [12,13,14] 14 h (λ _ T hT h=>?_) λ σ w h=>?_
 · refine yv h λ h=>yv h λ h=>yb h λ h=>zn ?_
   exact zt hT h
 exact yG 2<|yp h λ h=>zm<|zn<|ZG<|zk<|Zh<|Zf rfl rfl h
open Go.RowKit (intOf)
def VV (w0:Wd) (v:Vl) (l:List Zt) (g:FuncId) (caps:AVl) (p:Zt→Bool) (hs:YX w0 v l) (hg:Callable Pg g) (hc:UV w0 Z0 g caps p l) :
 Ret Pg 199 #[v,.func (.func g) #[] caps] w0 λ r w'=>r = .int .i64 (idx p l)∧Ext w0 w':=by
 obtain ⟨A,c,rfl,hlc,hcm,hlm,YS⟩:=Ze.open hs
 refine ZhQ (R:=ZR _) ?_
 unfold ZhP
 refine Qqk ?_
 refine ZE (λ i w=>∃ k:Nat,i = .int .i64 k∧k≤l.length∧Ext w0 w∧∀ (j:Nat) y,j < k→l[j]?=some y→p y=false) (λ i _=>l.length - (intOf i).toNat) ⟨0,rfl,by omega,Ext.refl _,λ j y h=>by omega⟩ ?_
 rintro i w ⟨k,rfl,hk,e,hb⟩
 by_cases Ym:k < l.length
 · obtain ⟨x,hx⟩:=getElem?_lt Ym
   obtain ⟨b,o,cs,rfl,hl,hA,hE⟩:=YS k x hx
   have hd:decide ((k:Int) < (l.length:Int))=true:=by simp;omega
   refine Qqg hd ?_
   unfold PY
   refine Qqk ?_
   unfold GU at hE
   obtain ⟨tv,cv,hcs,hT,hC⟩:=hE
   subst hcs
   have hV:Z0 w0 (.agg (Zq x tv cv).toArray) x:=⟨tv,cv,rfl,hT,hC⟩
   simp (disch:=try exact DI) only [↓PR,QR,simprocAttr,hA.c15]
   rw [YO hg]
   simp only [Array.empty_append]
   refine Zs (hc w _ x (List.mem_of_getElem? hx) e (hV.ext e)) ?_
   rintro r w' ⟨rfl,e'⟩
   cases hp:p x with
   | true => 
    refine Qqk ?_
    exact ⟨by rw [QU hx hp hb],e.trans e'⟩
   | false=>
    refine Qqk ?_
    refine ⟨⟨k+1,rfl,by omega,e.trans e',λ j y hj hy=>?_⟩,by simp [intOf];omega⟩
    by_cases hjk:j=k
    · subst hjk;rw [hx] at hy;injection hy with hy;subst hy;exact hp
    · exact hb j y K9 hy
 · have hd:decide ((k:Int) < (l.length:Int))=false:=by simp;omega
   refine Qqg hd ?_
   exact ⟨by rw [QV λ j y hy=>hb j y (by have:=(Qqj hy).1;omega) hy],e⟩
def KO (w0:Wd) (v:Vl) (l:List Yh) (g:FuncId) (caps:AVl) (p:Yh→Bool) (hs:Va w0 v l) (hg:Callable Pg g) (hc:UV w0 Qt g caps p l) :
 Ret Pg 163 #[v,.func (.func g) #[] caps] w0 λ r w'=>r = .int .i64 (idx p l)∧Ext w0 w':=by
 obtain ⟨A,c,rfl,hlc,hcm,hlm,YS⟩:=Ze.open hs
 refine ZhU (R:=ZR _) ?_
 unfold ZhT
 refine Qqk ?_
 refine ZE (λ i w=>∃ k:Nat,i = .int .i64 k∧k≤l.length∧Ext w0 w∧∀ (j:Nat) y,j < k→l[j]?=some y→p y=false) (λ i _=>l.length - (intOf i).toNat) ⟨0,rfl,by omega,Ext.refl _,λ j y h=>by omega⟩ ?_
 rintro i w ⟨k,rfl,hk,e,hb⟩
 by_cases Ym:k < l.length
 · obtain ⟨x,hx⟩:=getElem?_lt Ym
   obtain ⟨b,o,cs,rfl,hl,hA,hE⟩:=YS k x hx
   have hd:decide ((k:Int) < (l.length:Int))=true:=by simp;omega
   refine Qqg hd ?_
   unfold P0
   refine Qqk ?_
   unfold H1 at hE
   obtain ⟨fv,hcs,hF⟩:=hE
   subst hcs
   have hV:Qt w0 (.agg (ZZ x fv).toArray) x:=⟨fv,rfl,hF⟩
   simp (disch:=try exact DI) only [↓PR,QR,simprocAttr,hA.c2]
   rw [YO hg]
   simp only [Array.empty_append]
   refine Zs (hc w _ x (List.mem_of_getElem? hx) e (hV.ext e)) ?_
   rintro r w' ⟨rfl,e'⟩
   cases hp:p x with
   | true => 
    refine Qqk ?_
    exact ⟨by rw [QU hx hp hb],e.trans e'⟩
   | false=>
    refine Qqk ?_
    refine ⟨⟨k+1,rfl,by omega,e.trans e',λ j y hj hy=>?_⟩,by simp [intOf];omega⟩
    by_cases hjk:j=k
    · subst hjk;rw [hx] at hy;injection hy with hy;subst hy;exact hp
    · exact hb j y K9 hy
 · have hd:decide ((k:Int) < (l.length:Int))=false:=by simp;omega
   refine Qqg hd ?_
   exact ⟨by rw [QV λ j y hy=>hb j y (by have:=(Qqj hy).1;omega) hy],e⟩
def GV (w0:Wd) (v:Vl) (l:List UInt8) (g:FuncId) (caps:AVl) (p:UInt8→Bool) (hs:(λ w v l=>Ze w 1 Cp v l) w0 v l) (hg:Callable Pg g) (hc:UV w0 (λ _ v x=>v = .int .u8 (x.toNat:Int)) g caps p l) :
 Ret Pg 108 #[v,.func (.func g) #[] caps] w0 λ r w'=>r = .int .i64 (idx p l)∧Ext w0 w':=by
 obtain ⟨A,c,rfl,hlc,hcm,hlm,YS⟩:=Ze.open hs
 refine Zh2 (R:=ZR _) ?_
 unfold Zh1
 refine Qqk ?_
 refine ZE (λ i w=>∃ k:Nat,i = .int .i64 k∧k≤l.length∧Ext w0 w∧∀ (j:Nat) y,j < k→l[j]?=some y→p y=false) (λ i _=>l.length - (intOf i).toNat) ⟨0,rfl,by omega,Ext.refl _,λ j y h=>by omega⟩ ?_
 rintro i w ⟨k,rfl,hk,e,hb⟩
 by_cases Ym:k < l.length
 · obtain ⟨x,hx⟩:=getElem?_lt Ym
   obtain ⟨b,o,cs,rfl,hl,hA,hE⟩:=YS k x hx
   have hd:decide ((k:Int) < (l.length:Int))=true:=by simp;omega
   refine Qqg hd ?_
   unfold P4
   refine Qqk ?_
   obtain rfl:=hE
   have hV:(.int .u8 (x.toNat:Int):Vl) = .int .u8 (x.toNat:Int):=rfl
   simp (disch:=try exact DI) only [↓PR,QR,simprocAttr,hA.c1]
   rw [YO hg]
   simp only [Array.empty_append]
   refine Zs (hc w _ x (List.mem_of_getElem? hx) e (hV)) ?_
   rintro r w' ⟨rfl,e'⟩
   cases hp:p x with
   | true => 
    refine Qqk ?_
    exact ⟨by rw [QU hx hp hb],e.trans e'⟩
   | false=>
    refine Qqk ?_
    refine ⟨⟨k+1,rfl,by omega,e.trans e',λ j y hj hy=>?_⟩,by simp [intOf];omega⟩
    by_cases hjk:j=k
    · subst hjk;rw [hx] at hy;injection hy with hy;subst hy;exact hp
    · exact hb j y K9 hy
 · have hd:decide ((k:Int) < (l.length:Int))=false:=by simp;omega
   refine Qqg hd ?_
   exact ⟨by rw [QV λ j y hy=>hb j y (by have:=(Qqj hy).1;omega) hy],e⟩
def zN (w0 w1:Wd) (v:Vl) (l:List Ye) (g:FuncId) (caps:AVl) (p:Nat→Bool) (J:Nat→Wd→Prop) (hs:Z8 w0 v l) (hg:Callable Pg g) (hJ:∀ k w,J k w→Ext w0 w) (h0:J 0 w1)
 (hc:∀ k x w u,l[k]?=some x→J k w→(λ _ v x=>v=UI x) w u x→Ret Pg g (#[u]++caps) w λ r w'=>r = .bool (p k)∧J (k+1) w') :
 Ret Pg 263 #[v,.func (.func g) #[] caps] w1 λ r w'=>r = .int .i64 (idx p (List.range l.length))∧∃ k,J k w':=by
 obtain ⟨A,c,rfl,hlc,hcm,hlm,YS⟩:=Ze.open hs
 refine Zh0 (R:=ZR _) ?_
 unfold ZhZ
 refine Qqk ?_
 refine ZE (λ i w=>∃ k:Nat,i = .int .i64 k∧k≤l.length∧J k w∧∀ (j:Nat) y,j < k→(List.range l.length)[j]?=some y→p y=false) (λ i _=>l.length - (intOf i).toNat) ⟨0,rfl,by omega,h0,λ j y h=>by omega⟩ ?_
 rintro i w ⟨k,rfl,hk,hj,hb⟩
 have e:=hJ _ _ hj
 by_cases Ym:k < l.length
 · obtain ⟨x,hx⟩:=getElem?_lt Ym
   have hr:(List.range l.length)[k]?=some k:=by simp [Ym]
   obtain ⟨b,o,cs,rfl,hl,hA,hE⟩:=YS k x hx
   have hd:decide ((k:Int) < (l.length:Int))=true:=by simp;omega
   refine Qqg hd ?_
   unfold P3
   refine Qqk ?_
   obtain rfl:=hE
   have hV:(.agg (qd x).toArray:Vl)=UI x:=rfl
   simp (disch:=try exact DI) only [↓PR,QR,simprocAttr,hA.c2]
   rw [YO hg]
   simp only [Array.empty_append]
   refine Zs (hc k x w _ hx hj hV) ?_
   rintro r w' ⟨rfl,hj'⟩
   cases hp:p k with
   | true => 
    refine Qqk ?_
    exact ⟨by rw [QU hr hp hb],_,hj'⟩
   | false=>
    refine Qqk ?_
    exact ⟨⟨k+1,rfl,by omega,hj',before_succ hb hr hp⟩,by simp [intOf];omega⟩
 · have hd:decide ((k:Int) < (l.length:Int))=false:=by simp;omega
   refine Qqg hd ?_
   exact ⟨by rw [QV λ j y hy=>hb j y (by have:=(Qqj hy).1;simp at this;omega) hy],_,hj⟩
def SE a b (c:WPr) R w:=
 F0 60 a 2 R w λ d w=>
 L0 58 d R w λ e w=>
 opV Pg (build 43 #[(0,b),(1,(QqJ 1)),(2,b)]) (Zj R) w λ f w=>
 opV Pg (buildSlice 58 1 #[(0,f)]) (Zj R) w λ g w=>
 opV Pg (Builtin.append_ #[58,58] 58 #[e,g]) (Zj R) w λ h w=>
 F0 60 a 2 R w λ i w=>
 S0 58 i h R w λ w=>
 c w
def SF a b (c:WPr) R w:=
 F0 60 a 2 R w λ d w=>
 L0 58 d R w λ e w=>
 opV Pg (build 43 #[(0,b),(1,(QqJ 6)),(2,b)]) (Zj R) w λ f w=>
 opV Pg (buildSlice 58 1 #[(0,f)]) (Zj R) w λ g w=>
 opV Pg (Builtin.append_ #[58,58] 58 #[e,g]) (Zj R) w λ h w=>
 F0 60 a 2 R w λ i w=>
 S0 58 i h R w λ w=>
 c w
def SG b e c d (Zx:KV) R w:=
 B0 .gtr 3 true d (QqJ 3) R w λ f w=>
 Zm (λ (w:Wd)=>
 B0 .add 3 true e (QqJ 1) R w λ g w=>
 Zx g w) λ a=>
 Zo f (
 SF b c a R w) (
 B0 .gtr 3 true d (QqJ 0) R w λ h w=>
 Zo h (
 SE b c a R w) (
 a w))
def SH a b c (Zu:KV) R w:=
 F0 24 a 1 R w λ d w=>
 L0 22 d R w λ e w=>
 L0 60 c R w λ f w=>
 opV Pg (buildSlice 22 1 #[(0,f)]) (Zj R) w λ g w=>
 opV Pg (Builtin.append_ #[22,22] 22 #[e,g]) (Zj R) w λ h w=>
 F0 24 a 1 R w λ i w=>
 S0 22 i h R w λ w=>
 B0 .add 3 true b (QqJ 1) R w λ j w=>
 Zu j w
def Zc8 b c a (Zx:KV) R w:=
 F0 74 b 1 R w λ d w=>
 L0 72 d R w λ e w=>
 X0 72 e a R w λ f w=>
 F0 123 f 0 R w λ g w=>
 L0 9 g R w λ h w=>
 F0 74 b 1 R w λ i w=>
 L0 72 i R w λ j w=>
 X0 72 j a R w λ k w=>
 L0 123 k R w λ l w=>
 C0 69 #[l] R w λ m w=>
 SG c a h m Zx R w
def Zc9 d e a b c (Zu Zx:KV) R w:=
 F0 74 a 1 R w λ f w=>
 L0 72 f R w λ g w=>
 G0 72 3 g R w λ h w=>
 B0 .lss 3 false c h R w λ i w=>
 Zo i (
 Zc8 a b c Zx R w) (
 SH d e b Zu R w)
def Zda d e b (Zu:KV) R w:=
 F0 27 d 1 R w λ f w=>
 L0 25 f R w λ g w=>
 X0 25 g b R w λ h w=>
 L0 74 h R w λ i w=>
 opV Pg (alloc 74 true (.tuple #[])) (Zj R) w λ a w=>
 S0 74 a i R w λ w=>
 F0 74 a 0 R w λ j w=>
 L0 9 j R w λ k w=>
 F0 74 a 0 R w λ l w=>
 L0 9 l R w λ m w=>
 opV Pg (build 60 #[(0,k),(1,m)]) (Zj R) w λ n w=>
 opV Pg (alloc 60 true (.tuple #[])) (Zj R) w λ c w=>
 S0 60 c n R w λ w=>
 Yz (λ o w Zx=>
 Zc9 e b a c o Zu Zx R w) (QqJ 0) w
def Zdb a b c d (Zu:KV) R w:=
 F0 27 a 1 R w λ e w=>
 L0 25 e R w λ f w=>
 G0 25 3 f R w λ g w=>
 B0 .lss 3 false d g R w λ h w=>
 Zo h (
 Zda a c d Zu R w) (
 L0 24 c R w λ i w=>
 S0 24 b i R w λ w=>
 qW Pg 24 b w λ r0=>
 R (.returned r0) w)
def n76 c R w:=
 opV Pg (box 27 c) (Zj R) w λ a w=>
 opV Pg (alloc 24 true (.tuple #[])) (Zj R) w λ d w=>
 F0 27 a 0 R w λ e w=>
 L0 9 e R w λ f w=>
 opV Pg (build 24 #[(0,f)]) (Zj R) w λ g w=>
 opV Pg (alloc 24 true (.tuple #[])) (Zj R) w λ b w=>
 S0 24 b g R w λ w=>
 Yz (λ h w Zu=>
 Zdb a d b h Zu R w) (QqJ 0) w
def ZlO:QqQ1 29 n76:=λ h=>by
 refine yD func29 ?_
 refine zs<|zr<|yv h λ h=>yv h λ h=>zn<|zk<|zs<|zr<|yv h λ h=>yv h λ h=>yB h λ h=>yv h λ h=>yu h λ h=>zn<|zk ?_
 refine zs<|zs<|zr<|zm<|zn<|zk<|Zk<|yl1 [4,5,6,7,8,9,13,14,15,16,17,18,19,20,21,22,23,24,25,26,27,28,29,30,31,32,33,34,35,36,37,38,39,40,41,42,43,44,45,46,47,48,49,50,51,52,53,54,55,56,57,58,59,60,61,62,63,64,65,66,67,68,69,70,71,72,73,74] 4 h λ σ w next h=>zs<|zs<|zr<|zm<|yv h λ h=>yv h λ h=>yx h λ h=>?_
 refine yb h λ h=>zn<|zk<|yC h (λ h=>?_) λ h=>?_
 · refine Zi<|zk<|zs<|Zk<|zs<|zr<|yv h λ h=>yv h λ h=>zm<|yv h λ h=>yv h λ h=>yv h λ h=>yu h λ h=>zn<|zk ?_
   refine zs<|zr<|yv h λ h=>yv h λ h=>yv h λ h=>yv h λ h=>yB h λ h=>yv h λ h=>yu h λ h=>zn<|zk<|zs<|zs<|zr<|zm ?_
   refine zn<|zk<|Zk<|yl1 [7,8,9,30,31,32,33,34,35,36,37,38,39,40,41,42,43,44,45,46,47,48,49,50,51,52,53,54,55,56,57,58,59,60,61,62,63,64,65,66,67,68] 7 h λ σ w next h=>zs<|zs<|zr<|zm<|yv h λ h=>yv h λ h=>yx h λ h=>yb h λ h=>zn<|zk<|yC h (λ h=>?_) λ h=>?_
   · refine Zi<|zk<|zs<|Zk<|zs<|zr<|yv h λ h=>yv h λ h=>zm<|yv h λ h=>yv h λ h=>yv h λ h=>zm<|zn<|zk ?_
     refine zs<|zr<|yv h λ h=>yv h λ h=>zm<|yv h λ h=>yv h λ h=>yc h c69 λ h=>zm<|zn<|zk<|zs<|zr<|zm<|yb h λ h=>?_
     refine zn<|zk<|yJ0 [51,52,53,54,55,56,57,58,59,60,61,62,63,64,65,66,67,68] h (λ _ _ hkK3 h=>?_) λ σ w h=>?_
     · refine yC h (λ h=>?_) λ h=>?_
       · refine zr<|yv h λ h=>yv h λ h=>zm<|zm<|yB h λ h=>yS h λ h=>yx h λ h=>yv h λ h=>yu h λ h=>zn<|zk ?_
         exact zt hkK3 h
       refine zs<|zr<|zm<|yb h λ h=>zn<|zk<|yC h (λ h=>?_) λ h=>?_
       · refine zr<|yv h λ h=>yv h λ h=>zm<|zm<|yB h λ h=>yS h λ h=>yx h λ h=>yv h λ h=>yu h λ h=>zn<|zk ?_
         exact zt hkK3 h
       refine Zi<|zk ?_
       exact zt hkK3 h
     exact Zg<|zk<|zr<|zm<|yb h λ h=>zm<|zn<|zk<|⟨rfl,h⟩
   refine ZD<|Zc<|Zc<|Zp<|zk<|zr<|yv h λ h=>yv h λ h=>yv h λ h=>yS h λ h=>yx h λ h=>yv h λ h=>yu h λ h=>zn<|Zg ?_
   exact zk<|zr<|zm<|yb h λ h=>zm<|zn<|zk<|⟨rfl,h⟩
 exact ZD<|Zc<|Zc<|Zp<|zk<|zs<|zr<|yv h λ h=>yu h λ h=>zn<|zk<|Zh<|UY rfl rfl h
def n46 R w:=
 opV Pg (alloc 24 true (.tuple #[])) (Zj R) w λ a w=>
 opV Pg (build 43 #[(0,(.string { data := #[110] })),(1,(QqJ 7))]) (Zj R) w λ b w=>
 opV Pg (build 43 #[(0,(.string { data := #[98] })),(1,(QqJ 1)),(2,(.string { data := #[98] }))]) (Zj R) w λ c w=>
 opV Pg (buildSlice 58 2 #[(0,b),(1,c)]) (Zj R) w λ d w=>
 opV Pg (build 60 #[(0,(.string { data := #[65] })),(1,(.string { data := #[65] })),(2,d)]) (Zj R) w λ e w=>
 opV Pg (buildSlice 22 1 #[(0,e)]) (Zj R) w λ f w=>
 opV Pg (build 24 #[(0,(.string { data := #[109] })),(1,f)]) (Zj R) w λ g w=>
 S0 24 a g R w λ w=>
 qW Pg 24 a w λ r0=>
 R (.returned r0) w
def Zlk:QqQ0 30 n46:=λ h=>by
 refine yD func30 ?_
 refine zs<|zr<|yv h λ h=>zn<|zk<|zs<|zr<|yB h λ h=>yB h λ h=>yS h λ h=>yB h λ h=>yS h λ h=>yB h λ h=>yu h λ h=>zn ?_
 exact zk<|Zh<|UY rfl rfl h
def n47 R w:=
 opV Pg (alloc 27 true (.tuple #[])) (Zj R) w λ a w=>
 opV Pg (build 123 #[(0,(.string { data := #[110] })),(1,(QqJ 1)),(2,(QqJ 8)),(6,(QqJ 255))]) (Zj R) w λ d w=>
 opV Pg (alloc 123 true (.tuple #[])) (Zj R) w λ b w=>
 S0 123 b d R w λ w=>
 opV Pg (build 128 #[(0,(.string { data := #[110] })),(1,(QqJ 1))]) (Zj R) w λ e w=>
 opV Pg (buildSlice 118 1 #[(0,e)]) (Zj R) w λ f w=>
 opV Pg (build 120 #[(1,f)]) (Zj R) w λ g w=>
 opV Pg (build 123 #[(0,(.string { data := #[98] })),(1,(QqJ 4)),(7,g)]) (Zj R) w λ h w=>
 opV Pg (alloc 123 true (.tuple #[])) (Zj R) w λ c w=>
 S0 123 c h R w λ w=>
 L0 123 b R w λ i w=>
 L0 123 c R w λ j w=>
 opV Pg (buildSlice 72 2 #[(0,i),(1,j)]) (Zj R) w λ k w=>
 opV Pg (build 74 #[(0,(.string { data := #[65] })),(1,k)]) (Zj R) w λ l w=>
 opV Pg (buildSlice 25 1 #[(0,l)]) (Zj R) w λ m w=>
 opV Pg (build 27 #[(0,(.string { data := #[100] })),(1,m),(2,(.string { data := #[65] }))]) (Zj R) w λ n w=>
 S0 27 a n R w λ w=>
 qW Pg 27 a w λ r0=>
 R (.returned r0) w
def Zll:QqQ0 31 n47:=λ h=>by
 refine yD func31 ?_
 refine zs<|zr<|yv h λ h=>zn<|zk<|zs<|zr<|yB h λ h=>yv h λ h=>yu h λ h=>zn<|zk<|zs<|zr<|yB h λ h=>?_
 refine yS h λ h=>yB h λ h=>yB h λ h=>yv h λ h=>yu h λ h=>zn<|zk<|zs<|zr<|yv h λ h=>yv h λ h=>yS h λ h=>yB h λ h=>yS h λ h=>yB h λ h=>?_
 exact yu h λ h=>zn<|zk<|Zh<|UY rfl rfl h
def ZiK a b c (d:WPr) R w:=
 opV Pg (Instr.typeAssert c 20 82 false) (Zj R) w λ e w=>
 S0 34 a e R w λ w=>
 opU Pg (storeAt 4 b (.bool true)) (Zj R) w λ w=>
 d w
def n8 c d a R w:=
 opV Pg (ZP .neq 20 true a .nilIface) (Zj R) w λ e w=>
 Zm (λ (w:Wd)=>
 R (.returned (.tuple #[])) w) λ b=>
 Zo e (
 ZiK c d a b R w) (
 b w)
def n8s {t0 t1:Vl} {u:FrameMode} {R:Ending→FrameMode→Wd→Prop} {w:Wd} (h:n8 t0 t1 (Sw.recM u).1 (λ e w=>R e (Sw.recM u).2 w) w):CallsDIn Fence.wide 0 Pg 32 #[t0,t1] u w R:=by
 refine GD (args:=[t0,t1]) (d:=3) func32 rfl (Nat.le_of_ble_eq_true rfl) rfl rfl rfl rfl ?_
 generalize (recM u).1=t3 at h ⊢
 generalize hR:(λ e w=>R e (recM u).2 w)=R' at h ⊢
 clear hR
 revert h
 generalize R'=R
 intro h
 unfold n8 at h
 refine zm<|zn<|zs<|zr<|zm<|yb h λ h=>zn<|zk<|yJ0 [6,7] h (λ _ _ hkK1 h=>?_) λ σ w h=>?_
 · refine yC h (λ h=>?_) λ h=>?_
   · refine zr<|zm<|yv h λ h=>yu h λ h=>yu h λ h=>zn<|zk ?_
     exact zt hkK1 h
   refine Zi<|zk ?_
   exact zt hkK1 h
 exact ZS<|Z2 rfl h
def Mw b c (a:WPr) R w:=
 qN Pg a (Y6 b) λ d=>
 J0 81 d 3 a λ e=>
 I0 3 e a λ f=>
 qN Pg a (Y6 b) λ g=>
 J0 81 g 4 a λ h=>
 I0 3 h a λ i=>
 qV Pg a (build 82 #[(0,f),(1,i),(2,c)]) λ j=>
 qV Pg a (makeInterface 82 j) λ k=>
 opV Pg (Instr.panic k) (Zj R) w λ _ w=>
 False
def n27 a b c R w:=
 N0 b R w λ d w=>
 Zo d (
 Yg w λ e w=>
 Mw a c e R w) (
 R (.returned (.tuple #[])) w)
def Zk1:QqQ3 33 n27:=λ h=>by
 refine yD func33 ?_
 refine zs<|zr<|zm<|yv h λ h=>zn<|zk<|yC h (λ h=>?_) λ h=>?_
 · refine yh [8,9,10,11,12,13,14,15,16,17,18] h λ C hC h=>yw 0 hC ?_
   refine yn 1 hC h λ h=>?_
   refine ye 2 hC h λ h=>?_
   refine ye 3 hC h λ h=>?_
   refine yw 4 hC ?_
   refine yn 5 hC h λ h=>?_
   refine ye 6 hC h λ h=>?_
   refine ye 7 hC h λ h=>?_
   refine yw 8 hC ?_
   refine ye 9 hC h λ h=>?_
   refine ye 10 hC h λ h=>?_
   refine yo 11 ?_
   exact yv h λ h=>zn<|h.elim
 exact Zi<|ZS<|Z2 rfl h
def Zdy a R w:=
 E0q a 0 R w λ b w=>
 E0q a 1 R w λ c w=>
 opV Pg (alloc 131 true (.tuple #[])) (Zj R) w λ d w=>
 S0 131 d b R w λ w=>
 N0 c R w λ e w=>
 R (.returned e) w
def n90 a R w:=
 opV Pg (box 27 a) (Zj R) w λ b w=>
 L0 27 b R w λ c w=>
 C0 70 #[c] R w λ d w=>
 Zdy d R w
def Zl1:QqQ1 34 n90:=λ h=>by
 refine yD func34 ?_
 refine zs<|zr<|yv h λ h=>zm<|zn<|zk<|zs<|zr<|yv h λ h=>yc h c70 λ h=>zm<|yv h λ h=>yv h λ h=>yv h λ h=>yu h λ h=>?_
 exact zm<|zn<|zk<|zs<|zr<|zm<|yv h λ h=>zm<|zn<|zk<|Zh<|Zf rfl rfl h
def ze d e f (R:RT) w:=
 Zw e f (.bool false) λ b=>
 Zm (λ (a:Vl) (w:Wd)=>
 Zw b a (.bool false) λ g=>
 R (.returned g) w) λ c=>
 Zl b true (
 opV Pg (Go.convert 9 40 d) (Zj R) w λ h w=>
 Yb Pg 75 #[h,(.func (.func 71) #[] #[])] (Zj R) w λ i w=>
 N0 i R w λ a w=>
 c a w) (
 c undef w)
def zf b c R w:=
 Zm (λ (a:Vl) (w:Wd)=>
 ze b c a R w) λ d=>
 Zl c true (
 opV Pg (Instr.index 9 b (QqJ 0)) (Zj R) w λ e w=>
 C0 72 #[e] R w λ a w=>
 d a w) (
 d undef w)
def ZgX a R w:=
 G0 9 3 a R w λ b w=>
 B0 .geq 3 true b (QqJ 1) R w λ c w=>
 G0 9 3 a R w λ d w=>
 B0 .leq 3 true d (QqJ 32) R w λ e w=>
 opV Pg (buildSlice 170 2 #[(0,c),(1,e)]) (Zj R) w λ f w=>
 C0 74 #[f] R w λ g w=>
 zf a g R w
def ZgY:QqQ1 35 ZgX:=λ h=>by
 refine yD func35 ?_
 refine zs<|zr<|zm<|zn<|zk<|zs<|zr<|zm<|zn<|zk<|zs<|Zr<|yG 9<|zm<|yx h λ h=>?_
 refine yb h λ h=>zm<|yx h λ h=>yb h λ h=>yS h λ h=>yc h c74 λ h=>zm<|zn<|yg1 3 8 true [13,14,15] 15 h (λ _ T hT h=>?_) λ σ w h=>?_
 · refine zm<|yv h λ h=>yc h c72 λ h=>zn ?_
   exact zt hT h
 refine yG 2<|yp h λ h=>zm<|zn<|yg1 5 13 true [18,19,20,21,22] 22 h (λ _ T hT h=>?_) λ σ w h=>?_
 · refine zm<|yv h λ h=>zm<|yc h c75 λ h=>yv h λ h=>zn ?_
   exact zt hT h
 exact yG 2<|yp h λ h=>zm<|zn<|ZG<|zk<|Zh<|Zf rfl rfl h
def JG c d b (a:WPr) (Zu:KV) (R:RT) w:=
 M0 40 c b a λ e=>
 I0 5 e a λ f=>
 M0 40 d b a λ g=>
 I0 5 g a λ h=>
 qV Pg a (ZP .neq 5 false f h) λ i=>
 Zo i (
 R (.returned (.bool false)) w) (
 B0 .add 3 true b (QqJ 1) R w λ j w=>
 Zu j w)
def JH a c R w:=
 G0 40 3 a R w λ d w=>
 Yz (λ b w Zu=>
 B0 .lss 3 false b d R w λ e w=>
 Zo e (
 Yg w λ f w=>
 JG a c b f Zu R w) (
 R (.returned (.bool true)) w)) (QqJ 0) w
def ZhN a b R w:=
 G0 40 3 a R w λ c w=>
 G0 40 3 b R w λ d w=>
 B0 .neq 3 false c d R w λ e w=>
 Zo e (
 R (.returned (.bool false)) w) (
 JH a b R w)
def ZhO:QqQ2 63 ZhN:=λ h=>by
 refine yD func63 ?_
 refine zs<|zr<|zm<|zn<|zk<|zs<|zs<|zr<|zm<|yx h λ h=>zm<|yx h λ h=>yb h λ h=>zn<|zk ?_
 refine yC h (λ h=>zs<|zr<|zm<|zn<|zk<|Zh<|Zb<|Zf rfl rfl h) λ h=>Zi<|zk<|zs<|zs<|zr<|zm<|yx h λ h=>zm<|zn<|zk<|Zk<|yl1 [4,5,13,14,15,16,17,18,19,20,21,22,23,24,25] 13 h λ σ w next h=>zs ?_
 refine zr<|yb h λ h=>zn<|zk<|zs<|yC h (λ h=>?_) λ h=>?_
 · refine Zi<|zk<|zs<|Zk<|zs<|zr<|zm<|zm<|zn<|zk<|zs<|yh [16,17,18,19,20,21,22,23,24] h λ C hC h=>yw 0 hC ?_
   refine yw 1 hC ?_
   refine ye 2 hC h λ h=>?_
   refine ye 3 hC h λ h=>?_
   refine yw 4 hC ?_
   refine yw 5 hC ?_
   refine ye 6 hC h λ h=>?_
   refine ye 7 hC h λ h=>?_
   refine ye 8 hC h λ h=>?_
   exact yz<|zk<|yC h (λ h=>zs<|zr<|zm<|zn<|zk<|Zh<|Zd<|Zb<|Zb<|Zd<|Zb<|Zf rfl rfl h) λ h=>Zi<|Zg<|zk<|zr<|yb h λ h=>zm<|zn<|zk<|⟨rfl,h⟩
 exact ZD<|Zc<|Zc<|Zp<|zk<|zs<|zr<|zm<|zn<|zk<|Zh<|Zf rfl rfl h
def JC c d b (a:WPr) (Zu:KV) (R:RT) w:=
 M0 41 c b a λ e=>
 I0 78 e a λ f=>
 M0 41 d b a λ g=>
 I0 78 g a λ h=>
 qV Pg a (ZP .neq 78 false f h) λ i=>
 Zo i (
 R (.returned (.bool false)) w) (
 B0 .add 3 true b (QqJ 1) R w λ j w=>
 Zu j w)
def JD a c R w:=
 G0 41 3 a R w λ d w=>
 Yz (λ b w Zu=>
 B0 .lss 3 false b d R w λ e w=>
 Zo e (
 Yg w λ f w=>
 JC a c b f Zu R w) (
 R (.returned (.bool true)) w)) (QqJ 0) w
def ZhJ a b R w:=
 G0 41 3 a R w λ c w=>
 G0 41 3 b R w λ d w=>
 B0 .neq 3 false c d R w λ e w=>
 Zo e (
 R (.returned (.bool false)) w) (
 JD a b R w)
def ZhK:QqQ2 64 ZhJ:=λ h=>by
 refine yD func64 ?_
 refine zs<|zr<|zm<|zn<|zk<|zs<|zs<|zr<|zm<|yx h λ h=>zm<|yx h λ h=>yb h λ h=>zn<|zk ?_
 refine yC h (λ h=>zs<|zr<|zm<|zn<|zk<|Zh<|Zb<|Zf rfl rfl h) λ h=>Zi<|zk<|zs<|zs<|zr<|zm<|yx h λ h=>zm<|zn<|zk<|Zk<|yl1 [4,5,13,14,15,16,17,18,19,20,21,22,23,24,25] 13 h λ σ w next h=>zs ?_
 refine zr<|yb h λ h=>zn<|zk<|zs<|yC h (λ h=>?_) λ h=>?_
 · refine Zi<|zk<|zs<|Zk<|zs<|zr<|zm<|zm<|zn<|zk<|zs<|yh [16,17,18,19,20,21,22,23,24] h λ C hC h=>yw 0 hC ?_
   refine yw 1 hC ?_
   refine ye 2 hC h λ h=>?_
   refine ye 3 hC h λ h=>?_
   refine yw 4 hC ?_
   refine yw 5 hC ?_
   refine ye 6 hC h λ h=>?_
   refine ye 7 hC h λ h=>?_
   refine ye 8 hC h λ h=>?_
   exact yz<|zk<|yC h (λ h=>zs<|zr<|zm<|zn<|zk<|Zh<|Zd<|Zb<|Zb<|Zd<|Zb<|Zf rfl rfl h) λ h=>Zi<|Zg<|zk<|zr<|yb h λ h=>zm<|zn<|zk<|⟨rfl,h⟩
 exact ZD<|Zc<|Zc<|Zp<|zk<|zs<|zr<|zm<|zn<|zk<|Zh<|Zf rfl rfl h
def ZbC d e f g h (R:RT) w:=
 Zw g h (.bool false) λ b=>
 Zm (λ (a:Vl) (w:Wd)=>
 Zw b a (.bool false) λ i=>
 R (.returned i) w) λ c=>
 Zl b true (
 F0 60 e 2 R w λ j w=>
 L0 58 j R w λ k w=>
 F0 60 f 2 R w λ l w=>
 L0 58 l R w λ m w=>
 L0 88 d R w λ n w=>
 C0 66 #[k,m,n] R w λ a w=>
 c a w) (
 c undef w)
def n13 f g h R w:=
 opV Pg (box 60 f) (Zj R) w λ a w=>
 opV Pg (box 60 g) (Zj R) w λ b w=>
 F0 60 a 0 R w λ i w=>
 L0 9 i R w λ j w=>
 F0 60 b 0 R w λ k w=>
 L0 9 k R w λ l w=>
 B0 .eql 9 false j l R w λ d w=>
 Zm (λ (c:Vl) (w:Wd)=>
 ZbC h a b d c R w) λ e=>
 Zl d true (
 F0 60 a 1 R w λ m w=>
 L0 9 m R w λ n w=>
 F0 60 b 1 R w λ o w=>
 L0 9 o R w λ p w=>
 B0 .eql 9 false n p R w λ c w=>
 e c w) (
 e undef w)
def ZkP:QqQ3 65 n13:=λ h=>by
 refine yD func65 ?_
 refine zs<|zr<|yv h λ h=>yv h λ h=>zm<|zn<|zk<|zs<|Zr<|yG 6<|yv h λ h=>yv h λ h=>yv h λ h=>yv h λ h=>yb h λ h=>?_
 refine zm<|zn<|yg1 5 5 true [12,13,14,15,16] 16 h (λ _ T hT h=>?_) λ σ w h=>?_
 · refine yv h λ h=>yv h λ h=>yv h λ h=>yv h λ h=>yb h λ h=>zn ?_
   exact zt hT h
 refine yG 2<|yp h λ h=>zm<|zn<|yg1 6 12 true [19,20,21,22,23,24] 24 h (λ _ T hT h=>?_) λ σ w h=>?_
 · refine yv h λ h=>yv h λ h=>yv h λ h=>yv h λ h=>yv h λ h=>yc h c66 λ h=>zn ?_
   exact zt hT h
 exact yG 2<|yp h λ h=>zm<|zn<|ZG<|zk<|Zh<|Zf rfl rfl h
def zg a b (Zu:KV) R w:=
 N0 b R w λ c w=>
 Zo c (
 R (.returned (.bool false)) w) (
 B0 .add 3 true a (QqJ 1) R w λ d w=>
 Zu d w)
def zh d e f a (Zu:KV) R w:=
 X0 58 d a R w λ g w=>
 L0 43 g R w λ h w=>
 opV Pg (alloc 43 true (.tuple #[])) (Zj R) w λ b w=>
 S0 43 b h R w λ w=>
 X0 58 e a R w λ i w=>
 L0 43 i R w λ j w=>
 opV Pg (alloc 43 true (.tuple #[])) (Zj R) w λ c w=>
 S0 43 c j R w λ w=>
 L0 43 b R w λ k w=>
 L0 43 c R w λ l w=>
 Qp Pg f #[k,l] (Zj R) w λ m w=>
 zg a m Zu R w
def zi a c d R w:=
 G0 58 3 a R w λ e w=>
 Yz (λ b w Zu=>
 B0 .lss 3 false b e R w λ f w=>
 Zo f (
 zh a c d b Zu R w) (
 R (.returned (.bool true)) w)) (QqJ 0) w
def ZhD a b c R w:=
 G0 58 3 a R w λ d w=>
 G0 58 3 b R w λ e w=>
 B0 .neq 3 false d e R w λ f w=>
 Zo f (
 R (.returned (.bool false)) w) (
 zi a b c R w)
def ZhE:QqQ3 66 ZhD:=λ h=>by
 refine yD func66 ?_
 refine zs<|zr<|zm<|zn<|zk<|zs<|zs<|zr<|zm<|yx h λ h=>zm<|yx h λ h=>yb h λ h=>zn<|zk ?_
 refine yC h (λ h=>zs<|zr<|zm<|zn<|zk<|Zh<|Zb<|Zf rfl rfl h) λ h=>Zi<|zk<|zs<|zs<|zr<|zm<|yx h λ h=>zm<|zn<|zk<|Zk<|yl1 [6,7,8,9,17,18,19,20,21,22,23,24,25,26,27,28,29,30,31] 17 h λ σ w next h=>zs ?_
 refine zr<|yb h λ h=>zn<|zk<|zs<|yC h (λ h=>?_) λ h=>?_
 · refine Zi<|zk<|zs<|Zk<|zs<|zr<|zm<|yv h λ h=>yv h λ h=>yv h λ h=>zm<|yu h λ h=>zn<|zk<|zs ?_
   refine zr<|zm<|zm<|yv h λ h=>yv h λ h=>yv h λ h=>yu h λ h=>zn<|zk<|zs<|zr<|zm<|yv h λ h=>yv h λ h=>yV h λ h=>?_
   exact yv h λ h=>zn<|zk<|yC h (λ h=>zs<|zr<|zm<|zn<|zk<|Zh<|Zd<|Zb<|Zb<|Zd<|Zb<|Zf rfl rfl h) λ h=>Zi<|Zg<|zk<|zr<|yb h λ h=>zm<|zn<|zk<|⟨rfl,h⟩
 exact ZD<|Zc<|Zc<|Zp<|zk<|zs<|zr<|zm<|zn<|zk<|Zh<|Zf rfl rfl h
def zj a b (Zu:KV) R w:=
 N0 b R w λ c w=>
 Zo c (
 R (.returned (.bool false)) w) (
 B0 .add 3 true a (QqJ 1) R w λ d w=>
 Zu d w)
def zl d e f a (Zu:KV) R w:=
 X0 22 d a R w λ g w=>
 L0 60 g R w λ h w=>
 opV Pg (alloc 60 true (.tuple #[])) (Zj R) w λ b w=>
 S0 60 b h R w λ w=>
 X0 22 e a R w λ i w=>
 L0 60 i R w λ j w=>
 opV Pg (alloc 60 true (.tuple #[])) (Zj R) w λ c w=>
 S0 60 c j R w λ w=>
 L0 60 b R w λ k w=>
 L0 60 c R w λ l w=>
 Qp Pg f #[k,l] (Zj R) w λ m w=>
 zj a m Zu R w
def zo a c d R w:=
 G0 22 3 a R w λ e w=>
 Yz (λ b w Zu=>
 B0 .lss 3 false b e R w λ f w=>
 Zo f (
 zl a c d b Zu R w) (
 R (.returned (.bool true)) w)) (QqJ 0) w
def ZhF a b c R w:=
 G0 22 3 a R w λ d w=>
 G0 22 3 b R w λ e w=>
 B0 .neq 3 false d e R w λ f w=>
 Zo f (
 R (.returned (.bool false)) w) (
 zo a b c R w)
def ZhG:QqQ3 67 ZhF:=λ h=>by
 refine yD func67 ?_
 refine zs<|zr<|zm<|zn<|zk<|zs<|zs<|zr<|zm<|yx h λ h=>zm<|yx h λ h=>yb h λ h=>zn<|zk ?_
 refine yC h (λ h=>zs<|zr<|zm<|zn<|zk<|Zh<|Zb<|Zf rfl rfl h) λ h=>Zi<|zk<|zs<|zs<|zr<|zm<|yx h λ h=>zm<|zn<|zk<|Zk<|yl1 [6,7,8,9,17,18,19,20,21,22,23,24,25,26,27,28,29,30,31] 17 h λ σ w next h=>zs ?_
 refine zr<|yb h λ h=>zn<|zk<|zs<|yC h (λ h=>?_) λ h=>?_
 · refine Zi<|zk<|zs<|Zk<|zs<|zr<|zm<|yv h λ h=>yv h λ h=>yv h λ h=>zm<|yu h λ h=>zn<|zk<|zs ?_
   refine zr<|zm<|zm<|yv h λ h=>yv h λ h=>yv h λ h=>yu h λ h=>zn<|zk<|zs<|zr<|zm<|yv h λ h=>yv h λ h=>yV h λ h=>?_
   exact yv h λ h=>zn<|zk<|yC h (λ h=>zs<|zr<|zm<|zn<|zk<|Zh<|Zd<|Zb<|Zb<|Zd<|Zb<|Zf rfl rfl h) λ h=>Zi<|Zg<|zk<|zr<|yb h λ h=>zm<|zn<|zk<|⟨rfl,h⟩
 exact ZD<|Zc<|Zc<|Zp<|zk<|zs<|zr<|zm<|zn<|zk<|Zh<|Zf rfl rfl h
def Rh a b (R:RT) w:=
 Zo b (
 R (.returned (QqJ 5)) w) (
 B0 .eql 117 true a (QqJ 9) R w λ c w=>
 Zo c (
 R (.returned (QqJ 6)) w) (
 R (.returned (QqJ 0)) w))
def Ri a R w:=
 B0 .eql 117 true a (QqJ 8) R w λ b w=>
 Zm (λ (d:Vl) (w:Wd)=>
 Rh a d R w) λ c=>
 Zo b (
 c b w) (
 B0 .eql 117 true a (QqJ 12) R w λ e w=>
 c e w)
def Rj a R w:=
 B0 .eql 117 true a (QqJ 6) R w λ b w=>
 Zo b (
 R (.returned (QqJ 3)) w) (
 B0 .eql 117 true a (QqJ 7) R w λ c w=>
 Zo c (
 R (.returned (QqJ 4)) w) (
 Ri a R w))
def Rl a R w:=
 B0 .eql 117 true a (QqJ 4) R w λ b w=>
 Zm (λ (d:Vl) (w:Wd)=>
 Zo d (
 R (.returned (QqJ 2)) w) (
 Rj a R w)) λ c=>
 Zo b (
 c b w) (
 B0 .eql 117 true a (QqJ 5) R w λ e w=>
 c e w)
def n32 d R w:=
 opV Pg (box 123 d) (Zj R) w λ e w=>
 F0 123 e 1 R w λ f w=>
 L0 117 f R w λ a w=>
 B0 .eql 117 true a (QqJ 1) R w λ b w=>
 Zm (λ (g:Vl) (w:Wd)=>
 Zo g (
 R (.returned (QqJ 1)) w) (
 Rl a R w)) λ c=>
 Zo b (
 c b w) (
 B0 .eql 117 true a (QqJ 3) R w λ h w=>
 c h w)
def Zk6:QqQ1 68 n32:=λ h=>by
 refine yD func68 ?_
 refine zs<|zr<|yv h λ h=>zm<|zn<|zk<|zs<|zs<|zr<|yv h λ h=>yv h λ h=>zn<|zk<|Zk<|zs ?_
 refine zs<|zr<|yb h λ h=>zm<|zn<|zk<|yJ1 [5,7] 5 h (λ _ _ hkK1 h=>?_) λ σ w h=>?_
 · refine yC h (λ h=>?_) λ h=>?_
   · refine Zi<|zk ?_
     exact zt hkK1 h
   refine zr<|yb h λ h=>zm<|zn<|zk ?_
   exact zt hkK1 h
 refine zk<|yC h (λ h=>zs<|zr<|zm<|zn<|zk<|Zh<|Zd<|Zb<|Zf rfl rfl h) λ h=>zs<|zs<|zr<|yb h λ h=>zm<|zn<|zk<|yJ1 [8,10] 8 h (λ _ _ hkK2 h=>?_) λ σ w h=>?_
 · refine yC h (λ h=>?_) λ h=>?_
   · refine Zi<|zk ?_
     exact zt hkK2 h
   refine zr<|yb h λ h=>zm<|zn<|zk ?_
   exact zt hkK2 h
 refine zk<|yC h (λ h=>zs<|zr<|zm<|zn<|zk<|Zh<|Zd<|Zb<|Zf rfl rfl h) λ h=>zs<|zr<|yb h λ h=>zm<|zn<|zk<|yC h (λ h=>zs<|zr<|zm<|zn<|zk<|Zh<|Zd<|Zb<|Zf rfl rfl h) λ h=>zs<|zr<|yb h λ h=>zm ?_
 refine zn<|zk<|yC h (λ h=>zs<|zr<|zm<|zn<|zk<|Zh<|Zd<|Zb<|Zf rfl rfl h) λ h=>zs<|zs<|zr<|yb h λ h=>zm<|zn<|zk<|yJ1 [15,17] 15 h (λ _ _ hkK3 h=>?_) λ σ w h=>?_
 · refine yC h (λ h=>?_) λ h=>?_
   · refine Zi<|zk ?_
     exact zt hkK3 h
   refine zr<|yb h λ h=>zm<|zn<|zk ?_
   exact zt hkK3 h
 refine zk<|yC h (λ h=>zs<|zr<|zm<|zn<|zk<|Zh<|Zd<|Zb<|Zf rfl rfl h) λ h=>zs<|zr<|yb h λ h=>zm<|zn<|zk<|yC h (λ h=>zs<|zr<|zm<|zn<|zk<|Zh<|Zd<|Zb<|Zf rfl rfl h) λ h=>Zi<|Zg<|zk<|zs ?_
 exact zr<|zm<|zn<|zk<|Zh<|Zf rfl rfl h
def SA a b (R:RT) w:=
 Zo b (
 R (.returned (QqJ 5)) w) (
 B0 .eql 3 true a (QqJ 9) R w λ c w=>
 Zo c (
 R (.returned (QqJ 6)) w) (
 R (.returned (QqJ 0)) w))
def SB a R w:=
 B0 .eql 3 true a (QqJ 8) R w λ b w=>
 Zm (λ (d:Vl) (w:Wd)=>
 SA a d R w) λ c=>
 Zo b (
 c b w) (
 B0 .eql 3 true a (QqJ 12) R w λ e w=>
 c e w)
def SC a R w:=
 B0 .eql 3 true a (QqJ 6) R w λ b w=>
 Zo b (
 R (.returned (QqJ 3)) w) (
 B0 .eql 3 true a (QqJ 7) R w λ c w=>
 Zo c (
 R (.returned (QqJ 4)) w) (
 SB a R w))
def SD a R w:=
 B0 .eql 3 true a (QqJ 4) R w λ b w=>
 Zm (λ (d:Vl) (w:Wd)=>
 Zo d (
 R (.returned (QqJ 2)) w) (
 SC a R w)) λ c=>
 Zo b (
 c b w) (
 B0 .eql 3 true a (QqJ 5) R w λ e w=>
 c e w)
def n75 d R w:=
 opV Pg (box 123 d) (Zj R) w λ e w=>
 F0 123 e 1 R w λ f w=>
 L0 117 f R w λ a w=>
 B0 .eql 3 true a (QqJ 1) R w λ b w=>
 Zm (λ (g:Vl) (w:Wd)=>
 Zo g (
 R (.returned (QqJ 1)) w) (
 SD a R w)) λ c=>
 Zo b (
 c b w) (
 B0 .eql 3 true a (QqJ 3) R w λ h w=>
 c h w)
def ZlN:QqQ1 69 n75:=λ h=>by
 refine yD func69 ?_
 refine zs<|zr<|yv h λ h=>zm<|zn<|zk<|zs<|zs<|zr<|yv h λ h=>yv h λ h=>zn<|zk<|Zk<|zs ?_
 refine zs<|zr<|yb h λ h=>zm<|zn<|zk<|yJ1 [5,7] 5 h (λ _ _ hkK1 h=>?_) λ σ w h=>?_
 · refine yC h (λ h=>?_) λ h=>?_
   · refine Zi<|zk ?_
     exact zt hkK1 h
   refine zr<|yb h λ h=>zm<|zn<|zk ?_
   exact zt hkK1 h
 refine zk<|yC h (λ h=>zs<|zr<|zm<|zn<|zk<|Zh<|Zd<|Zb<|Zf rfl rfl h) λ h=>zs<|zs<|zr<|yb h λ h=>zm<|zn<|zk<|yJ1 [8,10] 8 h (λ _ _ hkK2 h=>?_) λ σ w h=>?_
 · refine yC h (λ h=>?_) λ h=>?_
   · refine Zi<|zk ?_
     exact zt hkK2 h
   refine zr<|yb h λ h=>zm<|zn<|zk ?_
   exact zt hkK2 h
 refine zk<|yC h (λ h=>zs<|zr<|zm<|zn<|zk<|Zh<|Zd<|Zb<|Zf rfl rfl h) λ h=>zs<|zr<|yb h λ h=>zm<|zn<|zk<|yC h (λ h=>zs<|zr<|zm<|zn<|zk<|Zh<|Zd<|Zb<|Zf rfl rfl h) λ h=>zs<|zr<|yb h λ h=>zm ?_
 refine zn<|zk<|yC h (λ h=>zs<|zr<|zm<|zn<|zk<|Zh<|Zd<|Zb<|Zf rfl rfl h) λ h=>zs<|zs<|zr<|yb h λ h=>zm<|zn<|zk<|yJ1 [15,17] 15 h (λ _ _ hkK3 h=>?_) λ σ w h=>?_
 · refine yC h (λ h=>?_) λ h=>?_
   · refine Zi<|zk ?_
     exact zt hkK3 h
   refine zr<|yb h λ h=>zm<|zn<|zk ?_
   exact zt hkK3 h
 refine zk<|yC h (λ h=>zs<|zr<|zm<|zn<|zk<|Zh<|Zd<|Zb<|Zf rfl rfl h) λ h=>zs<|zr<|yb h λ h=>zm<|zn<|zk<|yC h (λ h=>zs<|zr<|zm<|zn<|zk<|Zh<|Zd<|Zb<|Zf rfl rfl h) λ h=>Zi<|Zg<|zk<|zs ?_
 exact zr<|zm<|zn<|zk<|Zh<|Zf rfl rfl h
def Zdw b a R w:=
 E0q a 0 R w λ g w=>
 E0q a 1 R w λ d w=>
 E0q a 2 R w λ e w=>
 opV Pg (alloc 131 true (.tuple #[])) (Zj R) w λ c w=>
 S0 131 c d R w λ w=>
 L0 131 c R w λ f w=>
 S0 131 b f R w λ w=>
 qW Pg 131 b w λ r0=>
 R (.returned (.tuple #[r0,e])) w
def n81 a R w:=
 opV Pg (box 27 a) (Zj R) w λ b w=>
 opV Pg (alloc 131 true (.tuple #[])) (Zj R) w λ c w=>
 L0 27 b R w λ d w=>
 C0 106 #[d] R w λ e w=>
 Zdw c e R w
def ZlT:QqQ1 70 n81:=λ h=>by
 refine yD func70 ?_
 refine zs<|zr<|yv h λ h=>yv h λ h=>zm<|zn<|zk<|zs<|zr<|yv h λ h=>yc h ZjB λ h=>zm<|yv h λ h=>yv h λ h=>yv h λ h=>?_
 refine yv h λ h=>zm<|yu h λ h=>zm<|zn<|zk<|zs<|zr<|yv h λ h=>zm<|yu h λ h=>zm<|zn<|zk<|Zh ?_
 exact Z7 rfl rfl rfl h
def xG d e f (R:RT) w:=
 Zw e f (.bool false) λ b=>
 Zm (λ (a:Vl) (w:Wd)=>
 Zw b a (.bool false) λ g=>
 R (.returned g) w) λ c=>
 Zl b true (
 opV Pg (ZP .neq 5 true d (.int .u8 95)) (Zj R) w λ a w=>
 c a w) (
 c undef w)
def xH b e R w:=
 N0 e R w λ c w=>
 Zm (λ (a:Vl) (w:Wd)=>
 xG b c a R w) λ d=>
 Zl c true (
 C0 73 #[b] R w λ f w=>
 N0 f R w λ a w=>
 d a w) (
 d undef w)
def ZgZ a (R:RT) w:=
 C0 72 #[a] R w λ b w=>
 xH a b R w
def Zg0:QqQ1 71 ZgZ:=λ h=>by
 refine yD func71 ?_
 refine zs<|zr<|zm<|zn<|zk<|zs<|Zr<|yG 4<|zm<|yc h c72 λ h=>yv h λ h=>zm<|zn<|yg1 3 3 true [7,8,9] 9 h (λ _ T hT h=>?_) λ σ w h=>?_
 · refine zm<|yc h c73 λ h=>yv h λ h=>zn ?_
   exact zt hT h
 refine yG 2<|yp h λ h=>zm<|zn<|yg1 2 8 true [12,13] 13 h (λ _ T hT h=>?_) λ σ w h=>?_
 · refine zm<|yb h λ h=>zn ?_
   exact zt hT h
 exact yG 2<|yp h λ h=>zm<|zn<|ZG<|zk<|Zh<|Zf rfl rfl h
def IA g c d (R:RT) w:=
 Zm (λ (a:Vl) (w:Wd)=>
 Zm (λ (b:Vl) (w:Wd)=>
 Zw c (.bool true) b λ h=>
 R (.returned h) w) λ e=>
 Zl c false (
 Zw d a (.bool false) λ b=>
 e b w) (
 e undef w)) λ f=>
 Zl d true (
 opV Pg (ZP .leq 5 true g (.int .u8 122)) (Zj R) w λ a w=>
 f a w) (
 f undef w)
def IB a d e R w:=
 Zw d e (.bool false) λ b=>
 Zm (λ (f:Vl) (w:Wd)=>
 IA a b f R w) λ c=>
 Zl b false (
 opV Pg (ZP .geq 5 true a (.int .u8 97)) (Zj R) w λ g w=>
 c g w) (
 c undef w)
def Zhe a R w:=
 opV Pg (ZP .geq 5 true a (.int .u8 65)) (Zj R) w λ c w=>
 Zm (λ (b:Vl) (w:Wd)=>
 IB a c b R w) λ d=>
 Zl c true (
 opV Pg (ZP .leq 5 true a (.int .u8 90)) (Zj R) w λ b w=>
 d b w) (
 d undef w)
def Zhf:QqQ1 72 Zhe:=λ h=>by
 refine yD func72 ?_
 refine zs<|zr<|zm<|zn<|zk<|zs<|Zr<|yG 3<|zm<|yb h λ h=>zm<|zn<|yg1 2 2 true [6,7] 7 h (λ _ T hT h=>?_) λ σ w h=>?_
 · refine zm<|yb h λ h=>zn ?_
   exact zt hT h
 refine yG 2<|yp h λ h=>zm<|zn<|yg1 3 6 false [10,11,12] 12 h (λ _ T hT h=>?_) λ σ w h=>?_
 · refine zm<|yb h λ h=>zm<|zn ?_
   exact zt hT h
 refine yg1 2 9 true [13,14] 14 h (λ _ T hT h=>?_) λ σ w h=>?_
 · refine zm<|yb h λ h=>zn ?_
   exact zt hT h
 refine yg1 1 6 false [15] 15 h (λ _ T hT h=>?_) λ σ w h=>?_
 · refine yp h λ h=>zn ?_
   exact zt hT h
 exact yG 2<|yp h λ h=>zm<|zn<|ZG<|zk<|Zh<|Zf rfl rfl h
def Zhc b R w:=
 opV Pg (ZP .geq 5 true b (.int .u8 48)) (Zj R) w λ c w=>
 Zm (λ (a:Vl) (w:Wd)=>
 Zw c a (.bool false) λ e=>
 R (.returned e) w) λ d=>
 Zl c true (
 opV Pg (ZP .leq 5 true b (.int .u8 57)) (Zj R) w λ a w=>
 d a w) (
 d undef w)
def Zhd:QqQ1 73 Zhc:=λ h=>by
 refine yD func73 ?_
 refine zs<|zr<|zm<|zn<|zk<|zs<|Zr<|yG 3<|zm<|yb h λ h=>zm<|zn<|yg1 2 2 true [6,7] 7 h (λ _ T hT h=>?_) λ σ w h=>?_
 · refine zm<|yb h λ h=>zn ?_
   exact zt hT h
 exact yG 2<|yp h λ h=>zm<|zn<|ZG<|zk<|Zh<|Zf rfl rfl h
def Zg9 a (R:RT) w:=
 C0 107 #[a,(.bool false)] R w λ b w=>
 N0 b R w λ c w=>
 R (.returned c) w
def Zha:QqQ1 74 Zg9:=λ h=>by
 refine yD func74 ?_
 exact zs<|zr<|zm<|zn<|zk<|zs<|zr<|zm<|yc h ZjC λ h=>yv h λ h=>zm<|zn<|zk<|Zh<|Zf rfl rfl h
def Zhv a b (R:RT) w:=
 C0 108 #[a,b] R w λ c w=>
 B0 .geq 3 true c (QqJ 0) R w λ d w=>
 R (.returned d) w
def Zhw:QqQ2 75 Zhv:=λ h=>by
 refine yD func75 ?_
 refine zs<|zr<|zm<|zn<|zk<|zs<|zr<|zm<|zm<|yc h ZjD λ h=>yb h λ h=>zm<|zn<|zk<|Zh ?_
 exact Zf rfl rfl h
def Zb5 a R w:=
 opV Pg (build 74 #[]) (Zj R) w λ b w=>
 S0 74 a b R w λ w=>
 qW Pg 74 a w λ r0=>
 R (.returned (.tuple #[r0,(.bool false)])) w
def Zb6 b a c R w:=
 F0 27 b 1 R w λ d w=>
 L0 25 d R w λ e w=>
 X0 25 e c R w λ f w=>
 L0 74 f R w λ g w=>
 S0 74 a g R w λ w=>
 qW Pg 74 a w λ r0=>
 R (.returned (.tuple #[r0,(.bool true)])) w
def Zb7 c a b R w:=
 E0q b 0 R w λ d w=>
 E0q b 1 R w λ e w=>
 N0 e R w λ f w=>
 Zo f (
 Zb5 a R w) (
 Zb6 c a d R w)
def n36 b c R w:=
 opV Pg (box 27 b) (Zj R) w λ a w=>
 opV Pg (alloc 74 true (.tuple #[])) (Zj R) w λ d w=>
 L0 27 a R w λ e w=>
 C0 109 #[e,c] R w λ f w=>
 Zb7 a d f R w
def Zla:QqQ2 76 n36:=λ h=>by
 refine yD func76 ?_
 refine zs<|zr<|yv h λ h=>yv h λ h=>zm<|zn<|zk<|zs<|zr<|yv h λ h=>zm<|yc h ZjE λ h=>zm<|yv h λ h=>yv h λ h=>?_
 refine zm<|zm<|zn<|zk<|zs<|zs<|zr<|zm<|yv h λ h=>zn<|zk<|yC h (λ h=>zs<|zr<|yB h λ h=>yu h λ h=>zm<|zn<|zk<|Zh<|Zb<|Z7 rfl rfl rfl h) λ h=>Zi<|zk ?_
 exact zs<|zr<|yv h λ h=>yv h λ h=>zm<|yv h λ h=>yv h λ h=>yu h λ h=>zm<|zn<|zk<|Zh<|Z7 rfl rfl rfl h
def AY b a (c:WPr) R w:=
 F0 43 a 3 R w λ d w=>
 L0 3 d R w λ e w=>
 F0 43 a 3 R w λ f w=>
 L0 3 f R w λ g w=>
 opV Pg (Op.unary .neg g) (Zj R) w λ h w=>
 opV Pg (Builtin.max_ #[3,3] 3 #[e,h]) (Zj R) w λ i w=>
 C0 42 #[i] R w λ j w=>
 C0 33 #[b,j,(QqJ 8)] R w λ k w=>
 c w
def AZ a b (c:WPr) R w:=
 F0 43 b 4 R w λ d w=>
 L0 3 d R w λ e w=>
 C0 42 #[e] R w λ f w=>
 C0 33 #[a,f,(QqJ 8)] R w λ g w=>
 c w
def A5 a b (c:WPr) R w:=
 F0 43 b 5 R w λ d w=>
 L0 40 d R w λ e w=>
 G0 40 3 e R w λ f w=>
 B0 .leq 3 true f (QqJ 1000) R w λ g w=>
 C0 33 #[a,g,(QqJ 2)] R w λ h w=>
 c w
def A6 a b (c:WPr) R w:=
 F0 43 b 6 R w λ d w=>
 L0 41 d R w λ e w=>
 C0 112 #[a,e] R w λ f w=>
 c w
def A7 a b c (d:WPr) R w:=
 L0 123 c R w λ e w=>
 L0 123 b R w λ f w=>
 C0 113 #[a,e,f] R w λ g w=>
 d w
def A8 b f g c h (i:WPr) R w:=
 B0 .eql 124 false c h R w λ d w=>
 Zm (λ (a:Vl) (w:Wd)=>
 Zw d a (.bool false) λ j=>
 C0 33 #[b,j,(QqJ 5)] R w λ k w=>
 A7 b f g i R w) λ e=>
 Zl d true (
 B0 .geq 124 true c (QqJ 4) R w λ a w=>
 e a w) (
 e undef w)
def A9 b c d (a:WPr) R w:=
 B0 .eql 39 true d (QqJ 7) R w λ e w=>
 Zo e (
 B0 .eql 124 true c (QqJ 1) R w λ f w=>
 C0 33 #[b,f,(QqJ 5)] R w λ g w=>
 a w) (
 a w)
def Ba b e f g (h:WPr) R w:=
 B0 .eql 124 true f (QqJ 1) R w λ c w=>
 Zm (λ (a:Vl) (w:Wd)=>
 Zw c a (.bool false) λ i=>
 C0 33 #[b,i,(QqJ 5)] R w λ j w=>
 A6 b e h R w) λ d=>
 Zl c true (
 B0 .eql 124 true g (QqJ 1) R w λ a w=>
 d a w) (
 d undef w)
def Bb a f g h b e c (d:WPr) R w:=
 B0 .eql 39 true c (QqJ 5) R w λ i w=>
 Zo i (
 Ba a f b e d R w) (
 B0 .eql 39 true c (QqJ 6) R w λ j w=>
 Zo j (
 A8 a g h b e d R w) (
 A9 a b c d R w))
def zp a b f g c h d (e:WPr) R w:=
 B0 .eql 39 true d (QqJ 4) R w λ i w=>
 Zo i (
 B0 .eql 124 true c (QqJ 2) R w λ j w=>
 C0 33 #[a,j,(QqJ 5)] R w λ k w=>
 A5 a b e R w) (
 Bb a b f g c h d e R w)
def zq b e f g (h:WPr) R w:=
 B0 .eql 124 true f (QqJ 1) R w λ c w=>
 Zm (λ (a:Vl) (w:Wd)=>
 Zw c a (.bool false) λ i=>
 C0 33 #[b,i,(QqJ 5)] R w λ j w=>
 AY b e h R w) λ d=>
 Zl c true (
 B0 .eql 124 true g (QqJ 1) R w λ a w=>
 d a w) (
 d undef w)
def zu a b f g c h d (e:WPr) R w:=
 B0 .eql 39 true d (QqJ 3) R w λ i w=>
 Zo i (
 B0 .eql 124 true c (QqJ 1) R w λ j w=>
 C0 33 #[a,j,(QqJ 5)] R w λ k w=>
 AZ a b e R w) (
 zp a b f g c h d e R w)
def zv e b f (g:WPr) R w:=
 B0 .eql 124 false b f R w λ c w=>
 Zm (λ (a:Vl) (w:Wd)=>
 Zw c a (.bool false) λ h=>
 C0 33 #[e,h,(QqJ 5)] R w λ i w=>
 g w) λ d=>
 Zl c true (
 B0 .leq 124 true b (QqJ 3) R w λ a w=>
 d a w) (
 d undef w)
def zw a b g h c d e (f:WPr) R w:=
 B0 .eql 39 true e (QqJ 2) R w λ i w=>
 Zo i (
 zq a b c d f R w) (
 zu a b g h c d e f R w)
def Kr a b i c d R w:=
 E0q d 0 R w λ j w=>
 E0q d 1 R w λ e w=>
 opV Pg (alloc 123 true (.tuple #[])) (Zj R) w λ f w=>
 S0 123 f j R w λ w=>
 F0 43 b 1 R w λ k w=>
 L0 39 k R w λ g w=>
 B0 .eql 39 true g (QqJ 1) R w λ l w=>
 Zm (λ (w:Wd)=>
 R (.returned (.tuple #[])) w) λ h=>
 Zo l (
 zv a c e h R w) (
 zw a b i f c e g h R w)
def JI b a c d e R w:=
 L0 74 c R w λ f w=>
 F0 43 a 2 R w λ g w=>
 L0 9 g R w λ h w=>
 C0 110 #[f,h] R w λ i w=>
 Kr b a d e i R w
def Ks a b c d e f R w:=
 L0 43 b R w λ g w=>
 L0 105 e R w λ h w=>
 C0 97 #[g,h] R w λ i w=>
 C0 33 #[a,i,(QqJ 7)] R w λ j w=>
 JI a b c d f R w
def JJ d e (a:WPr) (f:KW) R w:=
 qV Pg a (lookup 106 d e true) λ b=>
 qV Pg a (extract b 0) λ g=>
 qV Pg a (extract b 1) λ h=>
 opV Pg (alloc 105 true (.tuple #[])) (Zj R) w λ c w=>
 a w∧(
 S0 105 c g R w λ w=>
 a w∧(
 f c h w))
def JK b d e (a:WPr) (f:KW) R w:=
 qV Pg a (lookup 106 d e true) λ c=>
 qV Pg a (extract c 0) λ g=>
 qV Pg a (extract c 1) λ h=>
 S0 105 b g R w λ w=>
 a w∧(
 f b h w)
def JL d e h i j (a:WPr) (R:RT) w:=
 J0 43 e 1 a λ k=>
 I0 39 k a λ f=>
 Zm (λ (b:Vl) (l:Vl) (w:Wd)=>
 C0 33 #[d,l,(QqJ 6)] R w λ o w=>
 Ks d e h i b j R w) λ g=>
 (
 C0 57 #[] R w λ c w=>
 Qs a w λ m w=>
 JJ c f m g R w)∧(
 opV Pg (alloc 105 true (.tuple #[])) (Zj R) w λ b w=>
 a w∧(
 C0 57 #[] R w λ c w=>
 Qs a w λ n w=>
 JK b c f n g R w))
def JM a b c d e f R w:=
 N0 f R w λ g w=>
 C0 33 #[a,g,(QqJ 4)] R w λ i w=>
 Yg w λ h w=>
 JL a b c d e h R w
def JN a f b g c R w:=
 E0q c 0 R w λ h w=>
 E0q c 1 R w λ d w=>
 opV Pg (alloc 123 true (.tuple #[])) (Zj R) w λ e w=>
 S0 123 e h R w λ w=>
 B0 .neq 124 true d (QqJ 0) R w λ i w=>
 C0 33 #[a,i,(QqJ 5)] R w λ l w=>
 opV Pg (makeFunc (.func 111) #[] #[b]) (Zj R) w λ j w=>
 C0 78 #[f,j] R w λ k w=>
 JM a b g e d k R w
def n29 b c d e f R w:=
 opV Pg (box 43 c) (Zj R) w λ a w=>
 opV Pg (box 74 d) (Zj R) w λ g w=>
 opV Pg (box 74 e) (Zj R) w λ h w=>
 L0 74 h R w λ i w=>
 F0 43 a 0 R w λ j w=>
 L0 9 j R w λ k w=>
 C0 110 #[i,k] R w λ l w=>
 JN b f a g l R w
def Zk3:QqQ5 77 n29:=λ h=>by
 refine yD func77 ?_
 refine zs<|zr<|yv h λ h=>yv h λ h=>yv h λ h=>zn<|zk<|zs<|zr<|yv h λ h=>yv h λ h=>yv h λ h=>yc h Zfh λ h=>zm<|yv h λ h=>?_
 refine yv h λ h=>yv h λ h=>yu h λ h=>zm<|zn<|zk<|zs<|zr<|zm<|zm<|yb h λ h=>yc h c33 λ h=>zn<|zk<|zs ?_
 refine zr<|zm<|zm<|yF h λ h=>yc h c78 λ h=>yv h λ h=>yc h c33 λ h=>zn<|zk<|zs<|yh [12,13,33,34,35,36,37,38,39] h λ C hC h=>ye 1 hC h λ h=>?_
 refine ye 2 hC h λ h=>?_
 refine QI h (λ K2 hK h=>?_)
 refine Wq [12,13,33,34,37,38,39] (λ ρ w=>K2 (ρ 12) (ρ 13) w) (λ T hT=>?_) (λ σ w h=>?_)
 · obtain ⟨h0,h1⟩:=h
   refine Xj 0 7 rfl rfl K5 (λ _ _=>rfl) (λ _ _=>rfl) ?_ ?_
   · have h:=h0
     refine yc h c57 λ h=>zn ?_
     obtain ⟨C8,hs,hC,h⟩:=h
     refine ⟨C8,hs,hC,?_⟩
     refine ye 3 hC h λ h=>?_
     refine yw 4 hC ?_
     refine ye 5 hC h λ h=>?_
     refine ye 6 hC h λ h=>?_
     refine yo 7 ?_
     refine yv h λ h=>zn ?_
     obtain ⟨hC,h⟩:=h
     refine ⟨hC,?_⟩
     refine yo 8 ?_
     refine yu h λ h=>zn ?_
     obtain ⟨hC,h⟩:=h
     refine ⟨hC,?_⟩
     refine yw 9 hC ?_
     refine yz ?_
     exact zt hT h
   have h:=h1
   refine yv h λ h=>zn ?_
   obtain ⟨hC,h⟩:=h
   refine ⟨_,λ _ h=>h,hC,?_⟩
   refine yr 0 ?_
   refine yc h c57 λ h=>zn ?_
   obtain ⟨C9,hs,hC,h⟩:=h
   refine ⟨C9,hs,hC,?_⟩
   refine ye 3 hC h λ h=>?_
   refine yw 4 hC ?_
   refine ye 5 hC h λ h=>?_
   refine ye 6 hC h λ h=>?_
   refine yo 8 ?_
   refine yu h λ h=>zn ?_
   obtain ⟨hC,h⟩:=h
   refine ⟨hC,?_⟩
   refine yw 9 hC ?_
   refine yz ?_
   exact zt hT h
 subst hK
 refine zk<|zs<|zr<|zm<|zm<|yc h c33 λ h=>zn<|zk<|zs<|zr<|zm<|yv h λ h=>yv h λ h=>yc h c97 λ h=>yc h c33 λ h=>?_
 refine zn<|zk<|zs<|zr<|yv h λ h=>yv h λ h=>yv h λ h=>yc h Zfh λ h=>zm<|yv h λ h=>yv h λ h=>yv h λ h=>yu h λ h=>zm<|zn ?_
 refine zk<|zs<|zr<|yv h λ h=>yv h λ h=>zn<|zk<|Zk<|zs<|zr<|yb h λ h=>zm<|zn<|zk<|yJ0 [59,60,61,62,63,64,65,66,67,68,69,70,71,72,73,74,75,76,77,78,79,80,81,82,83,84,85,86,87,88,89,90,91,92,93,94,95,96,97,98,99,100,101,102,103,104,105,106,107,108,109,110,111,112,113,114,115,116,117,118,119,120,121,122,123,124,125,126,127,128,129,130,131,132,133,134,135,136,137,138,139,140,141,142,143,144] h (λ _ _ hkK3 h=>?_) λ σ w h=>?_
 · refine yC h (λ h=>?_) λ h=>?_
   · refine Zr<|yG 5<|zm<|zm<|zm<|yb h λ h=>zm<|zn<|yg1 2 4 true [64,65] 65 h (λ _ T hT h=>?_) λ σ w h=>?_
     · refine zm<|yb h λ h=>zn ?_
       exact zt hT h
     refine yG 2<|yp h λ h=>yc h c33 λ h=>zn<|ZG<|zk ?_
     exact zt hkK3 h
   refine zs<|zr<|yb h λ h=>zm<|zn<|zk<|yC h (λ h=>?_) λ h=>?_
   · refine zs<|Zr<|yG 4<|zm<|zm<|yb h λ h=>zm<|zn<|yg1 2 3 true [74,75] 75 h (λ _ T hT h=>?_) λ σ w h=>?_
     · refine zm<|yb h λ h=>zn ?_
       exact zt hT h
     refine yG 2<|yp h λ h=>yc h c33 λ h=>zn<|ZG<|zk<|zr<|zm<|yv h λ h=>yv h λ h=>yv h λ h=>yv h λ h=>yv h λ h=>yx h λ h=>yc h c42 λ h=>?_
     refine yc h c33 λ h=>zn<|zk ?_
     exact zt hkK3 h
   refine zs<|zr<|yb h λ h=>zm<|zn<|zk<|yC h (λ h=>?_) λ h=>?_
   · refine zs<|zr<|zm<|zm<|yb h λ h=>yc h c33 λ h=>zn<|zk<|zr<|zm<|yv h λ h=>yv h λ h=>yc h c42 λ h=>yc h c33 λ h=>zn ?_
     refine zk ?_
     exact zt hkK3 h
   refine zs<|zr<|yb h λ h=>zm<|zn<|zk<|yC h (λ h=>?_) λ h=>?_
   · refine zs<|zr<|zm<|zm<|yb h λ h=>yc h c33 λ h=>zn<|zk<|zr<|zm<|yv h λ h=>yv h λ h=>yx h λ h=>yb h λ h=>yc h c33 λ h=>?_
     refine zn<|zk ?_
     exact zt hkK3 h
   refine zs<|zr<|yb h λ h=>zm<|zn<|zk<|yC h (λ h=>?_) λ h=>?_
   · refine zs<|Zr<|yG 4<|zm<|zm<|yb h λ h=>zm<|zn<|yg1 2 3 true [116,117] 117 h (λ _ T hT h=>?_) λ σ w h=>?_
     · refine zm<|yb h λ h=>zn ?_
       exact zt hT h
     refine yG 2<|yp h λ h=>yc h c33 λ h=>zn<|ZG<|zk<|zr<|zm<|yv h λ h=>yv h λ h=>yc h ZjG λ h=>zn<|zk ?_
     exact zt hkK3 h
   refine zs<|zr<|yb h λ h=>zm<|zn<|zk<|yC h (λ h=>?_) λ h=>?_
   · refine zs<|Zr<|yG 5<|zm<|zm<|zm<|yb h λ h=>zm<|zn<|yg1 2 4 true [131,132] 132 h (λ _ T hT h=>?_) λ σ w h=>?_
     · refine zm<|yb h λ h=>zn ?_
       exact zt hT h
     refine yG 2<|yp h λ h=>yc h c33 λ h=>zn<|ZG<|zk<|zr<|zm<|yv h λ h=>yv h λ h=>yc h ZjH λ h=>zn<|zk ?_
     exact zt hkK3 h
   refine zs<|zr<|yb h λ h=>zm<|zn<|zk<|yC h (λ h=>?_) λ h=>?_
   · refine zr<|zm<|zm<|yb h λ h=>yc h c33 λ h=>zn<|zk ?_
     exact zt hkK3 h
   refine Zi<|zk ?_
   exact zt hkK3 h
 exact Zg<|ZS<|Z2 rfl h
def Zhr a b (R:RT) w:=
 C0 114 #[a,b] R w λ c w=>
 B0 .geq 3 true c (QqJ 0) R w λ d w=>
 R (.returned d) w
def Zhs:QqQ2 78 Zhr:=λ h=>by
 refine yD func78 ?_
 refine zs<|zr<|zm<|zn<|zk<|zs<|zr<|zm<|zm<|yc h ZjI λ h=>yb h λ h=>zm<|zn<|zk<|Zh ?_
 exact Zf rfl rfl h
def n26 a b R w:=
 opV Pg (box 43 a) (Zj R) w λ c w=>
 F0 43 c 0 R w λ d w=>
 L0 9 d R w λ e w=>
 F0 123 b 0 R w λ f w=>
 L0 9 f R w λ g w=>
 B0 .eql 9 false e g R w λ h w=>
 R (.returned h) w
def Zk0:QqQ2 79 n26:=λ h=>by
 refine yD func79 ?_
 refine zs<|zr<|yv h λ h=>zm<|zn<|zk<|zs<|zr<|yv h λ h=>yv h λ h=>yv h λ h=>yv h λ h=>yb h λ h=>zm<|zn ?_
 exact zk<|Zh<|Zf rfl rfl h
end Go.Proofs.YtgalpdihjbinjaaGreatDoor
