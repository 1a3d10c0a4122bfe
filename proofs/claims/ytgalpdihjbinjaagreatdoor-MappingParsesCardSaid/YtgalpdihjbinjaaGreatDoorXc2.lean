/-
  Lemmas for the claim.
-/
import Derived.Test.YtgalpdihjbinjaaGreatDoorXc1
set_option linter.all false
set_option maxHeartbeats 40000000
set_option maxRecDepth 100000
open Go.Instr (loadAt storeAt fieldAt indexAt buildSlice mapUpdate makeFunc alloc build box extract fill sliceAt lookup makeInterface)
open Go.Proofs.Tryz
namespace Go.Proofs.YtgalpdihjbinjaaGreatDoor
open Sw
noncomputable abbrev Pg:=Tryz.prog
def L0 (T:TypeId) (a:Vl) (R:RT) (w:Wd) (k:KV):Prop:=opV Pg (loadAt T a) (Zc R) w k
def Zfp (T:TypeId) (a:Vl) (R:RT) (w:Wd) (k:KV):L0 T a R w k=opV Pg (loadAt T a) (Zc R) w k:=rfl
def F0 (T:TypeId) (a:Vl) (i:Nat) (R:RT) (w:Wd) (k:KV):Prop:=opV Pg (fieldAt T a i) (Zc R) w k
def Zfk (T:TypeId) (a:Vl) (i:Nat) (R:RT) (w:Wd) (k:KV):F0 T a i R w k=opV Pg (fieldAt T a i) (Zc R) w k:=rfl
def X0 (T:TypeId) (a i:Vl) (R:RT) (w:Wd) (k:KV):Prop:=opV Pg (indexAt T a i) (Zc R) w k
def Zft (T:TypeId) (a i:Vl) (R:RT) (w:Wd) (k:KV):X0 T a i R w k=opV Pg (indexAt T a i) (Zc R) w k:=rfl
def B0 (o:BinOp) (T:TypeId) (c:Bool) (a b:Vl) (R:RT) (w:Wd) (k:KV):Prop:=opV Pg (ZA o T c a b) (Zc R) w k
def Zfg (o:BinOp) (T:TypeId) (c:Bool) (a b:Vl) (R:RT) (w:Wd) (k:KV):B0 o T c a b R w k=opV Pg (ZA o T c a b) (Zc R) w k:=rfl
def C0 (f:FuncId) (a:AVl) (R:RT) (w:Wd) (k:KV):Prop:=ZU Pg f a (Zc R) w k
def Zfh (f:FuncId) (a:AVl) (R:RT) (w:Wd) (k:KV):C0 f a R w k=ZU Pg f a (Zc R) w k:=rfl
def G0 (T U:TypeId) (a:Vl) (R:RT) (w:Wd) (k:KV):Prop:=opV Pg (Builtin.len_ #[T] U #[a]) (Zc R) w k
def Zfm (T U:TypeId) (a:Vl) (R:RT) (w:Wd) (k:KV):G0 T U a R w k=opV Pg (Builtin.len_ #[T] U #[a]) (Zc R) w k:=rfl
def E0q (a:Vl) (i:Nat) (R:RT) (w:Wd) (k:KV):Prop:=opV Pg (extract a i) (Zc R) w k
def Zeg (a:Vl) (i:Nat) (R:RT) (w:Wd) (k:KV):E0q a i R w k=opV Pg (extract a i) (Zc R) w k:=rfl
def N0 (a:Vl) (R:RT) (w:Wd) (k:KV):Prop:=opV Pg (Op.unary .not a) (Zc R) w k
def Zfr (a:Vl) (R:RT) (w:Wd) (k:KV):N0 a R w k=opV Pg (Op.unary .not a) (Zc R) w k:=rfl
def S0 (T:TypeId) (a b:Vl) (R:RT) (w:Wd) (k:WPr):Prop:=opU Pg (storeAt T a b) (Zc R) w k
def Zfs (T:TypeId) (a b:Vl) (R:RT) (w:Wd) (k:WPr):S0 T a b R w k=opU Pg (storeAt T a b) (Zc R) w k:=rfl
def I0 (T:TypeId) (a:Vl) (C:WPr) (k:Vl→Prop):Prop:=qV Pg C (loadAt T a) k
def Zfn (T:TypeId) (a:Vl) (C:WPr) (k:Vl→Prop):I0 T a C k=qV Pg C (loadAt T a) k:=rfl
def J0 (T:TypeId) (a:Vl) (i:Nat) (C:WPr) (k:Vl→Prop):Prop:=qV Pg C (fieldAt T a i) k
def Zfo (T:TypeId) (a:Vl) (i:Nat) (C:WPr) (k:Vl→Prop):J0 T a i C k=qV Pg C (fieldAt T a i) k:=rfl
def M0 (T:TypeId) (a i:Vl) (C:WPr) (k:Vl→Prop):Prop:=qV Pg C (indexAt T a i) k
def Zfq (T:TypeId) (a i:Vl) (C:WPr) (k:Vl→Prop):M0 T a i C k=qV Pg C (indexAt T a i) k:=rfl
abbrev OQ0 (ds:LDf) (T:TypeId) (a:Vl) (R:RT):List PanicEntry→Wd→Prop:=ZD Pg ds [(some T,a)] R
def Zew (d:TypeDesc):Bool:=match d with | .struct _ | .array _ _=>true | _=>false
def YI {P:Program} {T:TypeId} {agg:Bool} {n:Nat} {z:Vl} {d:TypeDesc} (h:(P.info? T).map (λ i=>(i.size,i.zero))=some (n,some z)) (hu:P.underlying T=some d) (ha:Zew d=agg):ZF P T agg n (P.bytesOf T) z:=by
 obtain ⟨i,hi,he⟩:=Option.map_eq_some_iff.1 h
 simp only [Prod.mk.injEq] at he
 exact ⟨⟨i,hi,he.1,by simp [Program.bytesOf,hi],he.2⟩,d,hu,ha⟩
def ty3:ZF Pg 3 false 1 (Pg.bytesOf 3) (.int .i64 0):=YI K5 underlying3 rfl
def ty4:ZF Pg 4 false 1 (Pg.bytesOf 4) (.bool false):=YI K5 underlying4 rfl
def ty5:ZF Pg 5 false 1 (Pg.bytesOf 5) (.int .u8 0):=YI K5 underlying5 rfl
def by5:Pg.bytesOf 5≤4096:=Nat.le_of_ble_eq_true K5
def ty9:ZF Pg 9 false 1 (Pg.bytesOf 9) (.string Qqk):=YI K5 underlying9 rfl
def by9:Pg.bytesOf 9≤4096:=Nat.le_of_ble_eq_true K5
def Iq:ZF Pg 22 false 1 (Pg.bytesOf 22) (.slice none 0 0):=YI K5 underlying22 rfl
def CC:ZF Pg 24 true 2 (Pg.bytesOf 24) (.agg #[.string Qqk,.slice none 0 0]):=YI K5 underlying24 rfl
def Ze6:ZF Pg 25 false 1 (Pg.bytesOf 25) (.slice none 0 0):=YI K5 underlying25 rfl
def CD:ZF Pg 27 true 3 (Pg.bytesOf 27) (.agg #[.string Qqk,.slice none 0 0,.string Qqk]):=YI K5 underlying27 rfl
def O1:ZF Pg 32 false 1 (Pg.bytesOf 32) (.int .i64 0):=YI K5 underlying32 rfl
def MJ:ZF Pg 34 true 3 (Pg.bytesOf 34) (.agg #[.int .i64 0,.int .i64 0,.int .i64 0]):=YI K5 underlying34 rfl
def CE:ZF Pg 39 false 1 (Pg.bytesOf 39) (.int .i64 0):=YI K5 underlying39 rfl
def jC:ZF Pg 40 false 1 (Pg.bytesOf 40) (.slice none 0 0):=YI K5 underlying40 rfl
def B2:ZF Pg 41 false 1 (Pg.bytesOf 41) (.slice none 0 0):=YI K5 underlying41 rfl
def Vr:ZF Pg 43 true 7 (Pg.bytesOf 43) (.agg #[.string Qqk,.int .i64 0,.string Qqk,.int .i64 0,.int .i64 0,.slice none 0 0,.slice none 0 0]):=YI K5 underlying43 rfl
def Zjf:Pg.bytesOf 43≤4096:=Nat.le_of_ble_eq_true K5
def Ze7:ZF Pg 49 false 1 (Pg.bytesOf 49) (.int .i64 0):=YI K5 underlying49 rfl
def MK:ZF Pg 58 false 1 (Pg.bytesOf 58) (.slice none 0 0):=YI K5 underlying58 rfl
def qp:ZF Pg 60 true 3 (Pg.bytesOf 60) (.agg #[.string Qqk,.string Qqk,.slice none 0 0]):=YI K5 underlying60 rfl
def Zjg:Pg.bytesOf 60≤4096:=Nat.le_of_ble_eq_true K5
def O2:ZF Pg 72 false 1 (Pg.bytesOf 72) (.slice none 0 0):=YI K5 underlying72 rfl
def qq:ZF Pg 74 true 2 (Pg.bytesOf 74) (.agg #[.string Qqk,.slice none 0 0]):=YI K5 underlying74 rfl
def Fv:ZF Pg 78 true 3 (Pg.bytesOf 78) (.agg #[.int .i64 0,.int .i64 0,.int .i64 0]):=YI K5 underlying78 rfl
def Zjh:Pg.bytesOf 78≤4096:=Nat.le_of_ble_eq_true K5
def ZnV:ZF Pg 81 true 10 (Pg.bytesOf 81) (.agg #[.string Qqk,.slice none 0 0,.string Qqk,.slice none 0 0,.string Qqk,.string Qqk,.slice none 0 0,.string Qqk,.int .i64 0,.int .i64 0]):=YI K5 underlying81 rfl
def ZnW:ZF Pg 82 true 3 (Pg.bytesOf 82) (.agg #[.int .i64 0,.int .i64 0,.int .i64 0]):=YI K5 underlying82 rfl
def Ze8:ZF Pg 88 false 1 (Pg.bytesOf 88) (.nilFunc):=YI K5 underlying88 rfl
def ZbB:ZF Pg 94 false 1 (Pg.bytesOf 94) (.slice none 0 0):=YI K5 underlying94 rfl
def U8:ZF Pg 105 true 5 (Pg.bytesOf 105) (.agg #[.bool false,.bool false,.bool false,.bool false,.bool false]):=YI K5 underlying105 rfl
def GO:ZF Pg 117 false 1 (Pg.bytesOf 117) (.int .i64 0):=YI K5 underlying117 rfl
def BZ:ZF Pg 118 false 1 (Pg.bytesOf 118) (.slice none 0 0):=YI K5 underlying118 rfl
def GP:ZF Pg 120 true 2 (Pg.bytesOf 120) (.agg #[.int .i64 0,.slice none 0 0]):=YI K5 underlying120 rfl
def jq:ZF Pg 121 false 1 (Pg.bytesOf 121) (.slice none 0 0):=YI K5 underlying121 rfl
def Vq:ZF Pg 123 true 15 (Pg.bytesOf 123) (.agg #[.string Qqk,.int .i64 0,.int .i64 0,.bool false,.bool false,.int .i64 0,.int .i64 0,.int .i64 0,.slice none 0 0,.string Qqk,.string Qqk,.string Qqk,.slice none 0 0,.int .i64 0,.int .i64 0]):=YI K5 underlying123 rfl
def GQ:ZF Pg 128 true 2 (Pg.bytesOf 128) (.agg #[.string Qqk,.int .i64 0]):=YI K5 underlying128 rfl
def Zfu:Pg.bytesOf 128≤4096:=Nat.le_of_ble_eq_true K5
def Zee:ZF Pg 129 false 1 (Pg.bytesOf 129) (.int .i64 0):=YI K5 underlying129 rfl
def DU:ZF Pg 131 true 3 (Pg.bytesOf 131) (.agg #[.int .i64 0,.int .i64 0,.int .i64 0]):=YI K5 underlying131 rfl
def Zi1:ZF Pg 159 true 2 (Pg.bytesOf 159) (.agg #[.pointer none,.slice none 0 0]):=YI K5 underlying159 rfl
def T9:ZF Pg 167 false 1 (Pg.bytesOf 167) (.pointer none):=YI K5 underlying167 rfl
def Im:ZF Pg 198 false 1 (Pg.bytesOf 198) (.map none):=YI K5 underlying198 rfl
def B1:ZF Pg 199 false 1 (Pg.bytesOf 199) (.map none):=YI K5 underlying199 rfl
def Zi2:ZF Pg 201 true 9 (Pg.bytesOf 201) (.agg #[.string Qqk,.slice none 0 0,.string Qqk,.map none,.map none,.int .i64 0,.int .i64 0,.string Qqk,.slice none 0 0]):=YI K5 underlying201 rfl
def Io:ZF Pg 213 true 3 (Pg.bytesOf 213) (.agg #[.int .i64 0,.int .i64 0,.string Qqk]):=YI K5 underlying213 rfl
def Zaa:ZF Pg 252 false 1 (Pg.bytesOf 252) (.nilFunc):=YI K5 underlying252 rfl
def Zab:ZF Pg 253 false 1 (Pg.bytesOf 253) (.nilFunc):=YI K5 underlying253 rfl
def Ir:ZF Pg 255 true 2 (Pg.bytesOf 255) (.agg #[.nilFunc,.nilFunc]):=YI K5 underlying255 rfl
def ND:ZF Pg 266 true 3 (Pg.bytesOf 266) (.agg #[.string Qqk,.int .i64 0,.int .i64 0]):=YI K5 underlying266 rfl
def NF:ZF Pg 287 true 13 (Pg.bytesOf 287) (.agg #[.string Qqk,.string Qqk,.string Qqk,.string Qqk,.int .i64 0,.int .i64 0,.int .i64 0,.int .i64 0,.int .i64 0,.int .i64 0,.int .i64 0,.bool false,.bool false]):=YI K5 underlying287 rfl
def Zac:ZF Pg 296 false 1 (Pg.bytesOf 296) (.map none):=YI K5 underlying296 rfl
def UC:ZF Pg 300 true 2 (Pg.bytesOf 300) (.agg #[.int .i64 0,.int .i64 0]):=YI K5 underlying300 rfl
def Zi3:ZF Pg 311 false 1 (Pg.bytesOf 311) (.nilFunc):=YI K5 underlying311 rfl
def Zks {w:Wd} (a0 b0:Int) (a1 b1:Int) (a2 b2:Int):(Op.equalIn (9999+1) 34 (.agg #[.int .i64 a0,.int .i64 a1,.int .i64 a2]) (.agg #[.int .i64 b0,.int .i64 b1,.int .i64 b2])).run Pg w = .ok (decide (a0=b0)&&(decide (a1=b1)&&(decide (a2=b2)&&true))) w:=
 QS underlying34 K5 (ZX rfl (YF ty3 rfl) (YF ty3 rfl) (VB underlying3) (ZX rfl (YF ty3 rfl) (YF ty3 rfl) (VB underlying3) (ZX rfl (YF O1 rfl) (YF O1 rfl) (VB underlying32) WI)))
def Zkt {w:Wd} (a0 b0:Int) (a1 b1:Int) (a2 b2:Int):(Op.equalIn (9999+1) 78 (.agg #[.int .i64 a0,.int .i64 a1,.int .i64 a2]) (.agg #[.int .i64 b0,.int .i64 b1,.int .i64 b2])).run Pg w = .ok (decide (a0=b0)&&(decide (a1=b1)&&(decide (a2=b2)&&true))) w:=
 QS underlying78 K5 (ZX rfl (YF ty3 rfl) (YF ty3 rfl) (VB underlying3) (ZX rfl (YF ty3 rfl) (YF ty3 rfl) (VB underlying3) (ZX rfl (YF ty3 rfl) (YF ty3 rfl) (VB underlying3) WI)))
def ZfP {w:Wd} (a0 b0:BAr) (a1 b1:Int):(Op.equalIn (9999+1) 128 (.agg #[.string a0,.int .i64 a1]) (.agg #[.string b0,.int .i64 b1])).run Pg w = .ok (decide (a0=b0)&&(decide (a1=b1)&&true)) w:=
 QS underlying128 K5 (ZX rfl (YF ty9 rfl) (YF ty9 rfl) (UX underlying9) (ZX rfl (YF ty3 rfl) (YF ty3 rfl) (VB underlying3) WI))
def ZfQ {w:Wd} (a0 b0:Int) (a1 b1:Int) (a2 b2:BAr):(Op.equalIn (9999+1) 213 (.agg #[.int .i64 a0,.int .i64 a1,.string a2]) (.agg #[.int .i64 b0,.int .i64 b1,.string b2])).run Pg w = .ok (decide (a0=b0)&&(decide (a1=b1)&&(decide (a2=b2)&&true))) w:=
 QS underlying213 K5 (ZX rfl (YF ty3 rfl) (YF ty3 rfl) (VB underlying3) (ZX rfl (YF ty3 rfl) (YF ty3 rfl) (VB underlying3) (ZX rfl (YF ty9 rfl) (YF ty9 rfl) (UX underlying9) WI)))
def ZfR {w:Wd} (a0 b0:BAr) (a1 b1:BAr) (a2 b2:BAr) (a3 b3:BAr) (a4 b4:Int) (a5 b5:Int) (a6 b6:Int) (a7 b7:Int) (a8 b8:Int) (a9 b9:Int) (a10 b10:Int) (a11 b11:Bool) (a12 b12:Bool):(Op.equalIn (9999+1) 287 (.agg #[.string a0,.string a1,.string a2,.string a3,.int .i64 a4,.int .i64 a5,.int .i64 a6,.int .i64 a7,.int .i64 a8,.int .i64 a9,.int .i64 a10,.bool a11,.bool a12]) (.agg #[.string b0,.string b1,.string b2,.string b3,.int .i64 b4,.int .i64 b5,.int .i64 b6,.int .i64 b7,.int .i64 b8,.int .i64 b9,.int .i64 b10,.bool b11,.bool b12])).run Pg w = .ok (decide (a0=b0)&&(decide (a1=b1)&&(decide (a2=b2)&&(decide (a3=b3)&&(decide (a4=b4)&&(decide (a5=b5)&&(decide (a6=b6)&&(decide (a7=b7)&&(decide (a8=b8)&&(decide (a9=b9)&&(decide (a10=b10)&&(decide (a11=b11)&&(decide (a12=b12)&&true))))))))))))) w:=
 QS underlying287 K5 (ZX rfl (YF ty9 rfl) (YF ty9 rfl) (UX underlying9) (ZX rfl (YF ty9 rfl) (YF ty9 rfl) (UX underlying9) (ZX rfl (YF ty9 rfl) (YF ty9 rfl) (UX underlying9) (ZX rfl (YF ty9 rfl) (YF ty9 rfl) (UX underlying9) (ZX rfl (YF GO rfl) (YF GO rfl) (VB underlying117) (ZX rfl (YF ty3 rfl) (YF ty3 rfl) (VB underlying3) (ZX rfl (YF ty3 rfl) (YF ty3 rfl) (VB underlying3) (ZX rfl (YF ty3 rfl) (YF ty3 rfl) (VB underlying3) (ZX rfl (YF ty3 rfl) (YF ty3 rfl) (VB underlying3) (ZX rfl (YF ty3 rfl) (YF ty3 rfl) (VB underlying3) (ZX rfl (YF ty3 rfl) (YF ty3 rfl) (VB underlying3) (ZX rfl (YF ty4 rfl) (YF ty4 rfl) (Px underlying4) (ZX rfl (YF ty4 rfl) (YF ty4 rfl) (Px underlying4) WI)))))))))))))
section
variable {QP:PEn} {w:Wd} {k:KV}
def o0:=YL (QP:=QP) (w:=w) (k:=k) ty3
def o1:(∀ u,opV Pg (alloc 3 true u) QP w k=k (Qq5 w.heap.size) (w.alloc (.cells ((.int .i64 0):Vl).cells 3))):=(Yv ty3)
def o2:=YL (QP:=QP) (w:=w) (k:=k) ty4
def o3:(∀ c a b,opV Pg (ZA .eql 4 c (.bool a) (.bool b)) QP w k=k (.bool (a == b)) w):=(Zbc underlying4)
def o4:(∀ c a b,opV Pg (ZA .neq 4 c (.bool a) (.bool b)) QP w k=k (.bool (a != b)) w):=(Zbd underlying4)
def o5:(∀ u,opV Pg (alloc 4 true u) QP w k=k (Qq5 w.heap.size) (w.alloc (.cells ((.bool false):Vl).cells 4))):=(Yv ty4)
def o6:=YL (QP:=QP) (w:=w) (k:=k) ty5
def o7:=YL (QP:=QP) (w:=w) (k:=k) ty9
def o8:(∀ r s,opV Pg (Builtin.len_ #[9] r #[.string s]) QP w k=k (.int .i64 (s.size:Int)) w):=(λ r=>Cu (r:=r) underlying9)
def o9:=YL (QP:=QP) (w:=w) (k:=k) Iq
def o10:(∀ r a n c,opV Pg (Builtin.len_ #[22] r #[.slice a n c]) QP w k=k (.int .i64 (n:Int)) w):=(λ r=>Y1 (r:=r) underlying22)
def o11:(∀ b o len cap ik (i:Nat),i < len→opV Pg (indexAt 22 (.slice (some ⟨b,o,none⟩) len cap) (.int ik (i:Int))) QP w k=k (.pointer (some ⟨b,o+i*3,none⟩)) w):=(XI underlying22 qp)
def o12:=Xo (QP:=QP) (w:=w) (k:=k) (i:=0) (ft:=9) (n:=1) underlying24 rfl ty9 rfl
def o13:=ZK (QP:=QP) (w:=w) (k:=k) (i:=1) (ft:=22) (off:=1) (n:=1) underlying24 rfl Iq rfl
def o14:(∀ b o,opV Pg (loadAt 24 (.pointer (some ⟨b,o,none⟩))) QP w k=ZO [w.cell? ⟨b,o,none⟩,w.cell? ⟨b,o+1,none⟩] (λ vs=>k (.agg vs.toArray) w) (Ko Pg (loadAt 24 (.pointer (some ⟨b,o,none⟩))) QP w k)):=(by intro b o;exact XN CC b o _ rfl)
def o15:(∀ u,opV Pg (alloc 24 true u) QP w k=k (Qq5 w.heap.size) (w.alloc (.cells ((.agg #[.string Qqk,.slice none 0 0]):Vl).cells 24))):=(Yv CC)
def o16:=YL (QP:=QP) (w:=w) (k:=k) Ze6
def o17:(∀ r a n c,opV Pg (Builtin.len_ #[25] r #[.slice a n c]) QP w k=k (.int .i64 (n:Int)) w):=(λ r=>Y1 (r:=r) underlying25)
def o18:(∀ b o len cap ik (i:Nat),i < len→opV Pg (indexAt 25 (.slice (some ⟨b,o,none⟩) len cap) (.int ik (i:Int))) QP w k=k (.pointer (some ⟨b,o+i*2,none⟩)) w):=(XI underlying25 qq)
def o19:=Xo (QP:=QP) (w:=w) (k:=k) (i:=0) (ft:=9) (n:=1) underlying27 rfl ty9 rfl
def o20:=ZK (QP:=QP) (w:=w) (k:=k) (i:=1) (ft:=25) (off:=1) (n:=1) underlying27 rfl Ze6 rfl
def o21:=ZK (QP:=QP) (w:=w) (k:=k) (i:=2) (ft:=9) (off:=2) (n:=1) underlying27 rfl ty9 rfl
def o22:(∀ b o,opV Pg (loadAt 27 (.pointer (some ⟨b,o,none⟩))) QP w k=ZO [w.cell? ⟨b,o,none⟩,w.cell? ⟨b,o+1,none⟩,w.cell? ⟨b,o+2,none⟩] (λ vs=>k (.agg vs.toArray) w) (Ko Pg (loadAt 27 (.pointer (some ⟨b,o,none⟩))) QP w k)):=(by intro b o;exact XN CD b o _ rfl)
def o23:(∀ u,opV Pg (alloc 27 true u) QP w k=k (Qq5 w.heap.size) (w.alloc (.cells ((.agg #[.string Qqk,.slice none 0 0,.string Qqk]):Vl).cells 27))):=(Yv CD)
def o26:(∀ b o,opV Pg (loadAt 34 (.pointer (some ⟨b,o,none⟩))) QP w k=ZO [w.cell? ⟨b,o,none⟩,w.cell? ⟨b,o+1,none⟩,w.cell? ⟨b,o+2,none⟩] (λ vs=>k (.agg vs.toArray) w) (Ko Pg (loadAt 34 (.pointer (some ⟨b,o,none⟩))) QP w k)):=(by intro b o;exact XN MJ b o _ rfl)
def o27:(∀ u,opV Pg (alloc 34 true u) QP w k=k (Qq5 w.heap.size) (w.alloc (.cells ((.agg #[.int .i64 0,.int .i64 0,.int .i64 0]):Vl).cells 34))):=(Yv MJ)
def o28:=YL (QP:=QP) (w:=w) (k:=k) CE
def o29:=YL (QP:=QP) (w:=w) (k:=k) jC
def o30:(∀ r a n c,opV Pg (Builtin.len_ #[40] r #[.slice a n c]) QP w k=k (.int .i64 (n:Int)) w):=(λ r=>Y1 (r:=r) underlying40)
def o31:(∀ b o len cap ik (i:Nat),i < len→opV Pg (indexAt 40 (.slice (some ⟨b,o,none⟩) len cap) (.int ik (i:Int))) QP w k=k (.pointer (some ⟨b,o+i*1,none⟩)) w):=(XI underlying40 ty5)
def o32:(∀ u,opV Pg (alloc 40 true u) QP w k=k (Qq5 w.heap.size) (w.alloc (.cells ((.slice none 0 0):Vl).cells 40))):=(Yv jC)
def o33:=YL (QP:=QP) (w:=w) (k:=k) B2
def o34:(∀ r a n c,opV Pg (Builtin.len_ #[41] r #[.slice a n c]) QP w k=k (.int .i64 (n:Int)) w):=(λ r=>Y1 (r:=r) underlying41)
def o35:(∀ b o len cap ik (i:Nat),i < len→opV Pg (indexAt 41 (.slice (some ⟨b,o,none⟩) len cap) (.int ik (i:Int))) QP w k=k (.pointer (some ⟨b,o+i*3,none⟩)) w):=(XI underlying41 Fv)
def o36:=Xo (QP:=QP) (w:=w) (k:=k) (i:=0) (ft:=9) (n:=1) underlying43 rfl ty9 rfl
def o37:=ZK (QP:=QP) (w:=w) (k:=k) (i:=1) (ft:=39) (off:=1) (n:=1) underlying43 rfl CE rfl
def o38:=ZK (QP:=QP) (w:=w) (k:=k) (i:=2) (ft:=9) (off:=2) (n:=1) underlying43 rfl ty9 rfl
def o39:=ZK (QP:=QP) (w:=w) (k:=k) (i:=3) (ft:=3) (off:=3) (n:=1) underlying43 rfl ty3 rfl
def o40:=ZK (QP:=QP) (w:=w) (k:=k) (i:=4) (ft:=3) (off:=4) (n:=1) underlying43 rfl ty3 rfl
def o41:=ZK (QP:=QP) (w:=w) (k:=k) (i:=5) (ft:=40) (off:=5) (n:=1) underlying43 rfl jC rfl
def o42:=ZK (QP:=QP) (w:=w) (k:=k) (i:=6) (ft:=41) (off:=6) (n:=1) underlying43 rfl B2 rfl
def o43:(∀ b o,opV Pg (loadAt 43 (.pointer (some ⟨b,o,none⟩))) QP w k=ZO [w.cell? ⟨b,o,none⟩,w.cell? ⟨b,o+1,none⟩,w.cell? ⟨b,o+2,none⟩,w.cell? ⟨b,o+3,none⟩,w.cell? ⟨b,o+4,none⟩,w.cell? ⟨b,o+5,none⟩,w.cell? ⟨b,o+6,none⟩] (λ vs=>k (.agg vs.toArray) w) (Ko Pg (loadAt 43 (.pointer (some ⟨b,o,none⟩))) QP w k)):=(by intro b o;exact XN Vr b o _ rfl)
def o44:(∀ u,opV Pg (alloc 43 true u) QP w k=k (Qq5 w.heap.size) (w.alloc (.cells ((.agg #[.string Qqk,.int .i64 0,.string Qqk,.int .i64 0,.int .i64 0,.slice none 0 0,.slice none 0 0]):Vl).cells 43))):=(Yv Vr)
def o45:(∀ u,opV Pg (alloc 49 true u) QP w k=k (Qq5 w.heap.size) (w.alloc (.cells ((.int .i64 0):Vl).cells 49))):=(Yv Ze7)
def o46:=YL (QP:=QP) (w:=w) (k:=k) MK
def o47:(∀ r a n c,opV Pg (Builtin.len_ #[58] r #[.slice a n c]) QP w k=k (.int .i64 (n:Int)) w):=(λ r=>Y1 (r:=r) underlying58)
def o48:(∀ b o len cap ik (i:Nat),i < len→opV Pg (indexAt 58 (.slice (some ⟨b,o,none⟩) len cap) (.int ik (i:Int))) QP w k=k (.pointer (some ⟨b,o+i*7,none⟩)) w):=(XI underlying58 Vr)
def o50:=Xo (QP:=QP) (w:=w) (k:=k) (i:=0) (ft:=9) (n:=1) underlying60 rfl ty9 rfl
def o51:=ZK (QP:=QP) (w:=w) (k:=k) (i:=1) (ft:=9) (off:=1) (n:=1) underlying60 rfl ty9 rfl
def o52:=ZK (QP:=QP) (w:=w) (k:=k) (i:=2) (ft:=58) (off:=2) (n:=1) underlying60 rfl MK rfl
def o53:(∀ b o,opV Pg (loadAt 60 (.pointer (some ⟨b,o,none⟩))) QP w k=ZO [w.cell? ⟨b,o,none⟩,w.cell? ⟨b,o+1,none⟩,w.cell? ⟨b,o+2,none⟩] (λ vs=>k (.agg vs.toArray) w) (Ko Pg (loadAt 60 (.pointer (some ⟨b,o,none⟩))) QP w k)):=(by intro b o;exact XN qp b o _ rfl)
def o54:(∀ u,opV Pg (alloc 60 true u) QP w k=k (Qq5 w.heap.size) (w.alloc (.cells ((.agg #[.string Qqk,.string Qqk,.slice none 0 0]):Vl).cells 60))):=(Yv qp)
def o56:(∀ r a n c,opV Pg (Builtin.len_ #[61] r #[.slice a n c]) QP w k=k (.int .i64 (n:Int)) w):=(λ r=>Y1 (r:=r) underlying61)
def o57:(∀ b o len cap ik (i:Nat),i < len→opV Pg (indexAt 61 (.slice (some ⟨b,o,none⟩) len cap) (.int ik (i:Int))) QP w k=k (.pointer (some ⟨b,o+i*1,none⟩)) w):=(XI underlying61 ty3)
def o59:=YL (QP:=QP) (w:=w) (k:=k) O2
def o60:(∀ r a n c,opV Pg (Builtin.len_ #[72] r #[.slice a n c]) QP w k=k (.int .i64 (n:Int)) w):=(λ r=>Y1 (r:=r) underlying72)
def o61:(∀ b o len cap ik (i:Nat),i < len→opV Pg (indexAt 72 (.slice (some ⟨b,o,none⟩) len cap) (.int ik (i:Int))) QP w k=k (.pointer (some ⟨b,o+i*15,none⟩)) w):=(XI underlying72 Vq)
def o62:=Xo (QP:=QP) (w:=w) (k:=k) (i:=0) (ft:=9) (n:=1) underlying74 rfl ty9 rfl
def o63:=ZK (QP:=QP) (w:=w) (k:=k) (i:=1) (ft:=72) (off:=1) (n:=1) underlying74 rfl O2 rfl
def o64:(∀ b o,opV Pg (loadAt 74 (.pointer (some ⟨b,o,none⟩))) QP w k=ZO [w.cell? ⟨b,o,none⟩,w.cell? ⟨b,o+1,none⟩] (λ vs=>k (.agg vs.toArray) w) (Ko Pg (loadAt 74 (.pointer (some ⟨b,o,none⟩))) QP w k)):=(by intro b o;exact XN qq b o _ rfl)
def o65:(∀ u,opV Pg (alloc 74 true u) QP w k=k (Qq5 w.heap.size) (w.alloc (.cells ((.agg #[.string Qqk,.slice none 0 0]):Vl).cells 74))):=(Yv qq)
def o66:=Xo (QP:=QP) (w:=w) (k:=k) (i:=0) (ft:=3) (n:=1) underlying78 rfl ty3 rfl
def o67:=ZK (QP:=QP) (w:=w) (k:=k) (i:=1) (ft:=3) (off:=1) (n:=1) underlying78 rfl ty3 rfl
def o68:=ZK (QP:=QP) (w:=w) (k:=k) (i:=2) (ft:=3) (off:=2) (n:=1) underlying78 rfl ty3 rfl
def o69:(∀ b o,opV Pg (loadAt 78 (.pointer (some ⟨b,o,none⟩))) QP w k=ZO [w.cell? ⟨b,o,none⟩,w.cell? ⟨b,o+1,none⟩,w.cell? ⟨b,o+2,none⟩] (λ vs=>k (.agg vs.toArray) w) (Ko Pg (loadAt 78 (.pointer (some ⟨b,o,none⟩))) QP w k)):=(by intro b o;exact XN Fv b o _ rfl)
def o70:(∀ u,opV Pg (alloc 78 true u) QP w k=k (Qq5 w.heap.size) (w.alloc (.cells ((.agg #[.int .i64 0,.int .i64 0,.int .i64 0]):Vl).cells 78))):=(Yv Fv)
def o71:=Xo (QP:=QP) (w:=w) (k:=k) (i:=0) (ft:=24) (n:=2) underlying81 rfl CC rfl
def o72:=ZK (QP:=QP) (w:=w) (k:=k) (i:=1) (ft:=27) (off:=2) (n:=3) underlying81 rfl CD rfl
def o73:=ZK (QP:=QP) (w:=w) (k:=k) (i:=2) (ft:=27) (off:=5) (n:=3) underlying81 rfl CD rfl
def o74:=ZK (QP:=QP) (w:=w) (k:=k) (i:=3) (ft:=3) (off:=8) (n:=1) underlying81 rfl ty3 rfl
def o75:=ZK (QP:=QP) (w:=w) (k:=k) (i:=4) (ft:=3) (off:=9) (n:=1) underlying81 rfl ty3 rfl
def o76:=YL (QP:=QP) (w:=w) (k:=k) Ze8
def o77:(∀ u,opV Pg (alloc 88 true u) QP w k=k (Qq5 w.heap.size) (w.alloc (.cells ((.nilFunc):Vl).cells 88))):=(Yv Ze8)
def o78:=YL (QP:=QP) (w:=w) (k:=k) ZbB
def o79:(∀ r a n c,opV Pg (Builtin.len_ #[94] r #[.slice a n c]) QP w k=k (.int .i64 (n:Int)) w):=(λ r=>Y1 (r:=r) underlying94)
def o80:(∀ b o len cap ik (i:Nat),i < len→opV Pg (indexAt 94 (.slice (some ⟨b,o,none⟩) len cap) (.int ik (i:Int))) QP w k=k (.pointer (some ⟨b,o+i*1,none⟩)) w):=(XI underlying94 ty9)
def o81:(∀ u,opV Pg (alloc 94 true u) QP w k=k (Qq5 w.heap.size) (w.alloc (.cells ((.slice none 0 0):Vl).cells 94))):=(Yv ZbB)
def o82:=Xo (QP:=QP) (w:=w) (k:=k) (i:=0) (ft:=4) (n:=1) underlying105 rfl ty4 rfl
def o83:=ZK (QP:=QP) (w:=w) (k:=k) (i:=1) (ft:=4) (off:=1) (n:=1) underlying105 rfl ty4 rfl
def o84:=ZK (QP:=QP) (w:=w) (k:=k) (i:=2) (ft:=4) (off:=2) (n:=1) underlying105 rfl ty4 rfl
def o85:=ZK (QP:=QP) (w:=w) (k:=k) (i:=3) (ft:=4) (off:=3) (n:=1) underlying105 rfl ty4 rfl
def o86:=ZK (QP:=QP) (w:=w) (k:=k) (i:=4) (ft:=4) (off:=4) (n:=1) underlying105 rfl ty4 rfl
def o88:(∀ b o,opV Pg (loadAt 105 (.pointer (some ⟨b,o,none⟩))) QP w k=ZO [w.cell? ⟨b,o,none⟩,w.cell? ⟨b,o+1,none⟩,w.cell? ⟨b,o+2,none⟩,w.cell? ⟨b,o+3,none⟩,w.cell? ⟨b,o+4,none⟩] (λ vs=>k (.agg vs.toArray) w) (Ko Pg (loadAt 105 (.pointer (some ⟨b,o,none⟩))) QP w k)):=(by intro b o;exact XN U8 b o _ rfl)
def o89:(∀ u,opV Pg (alloc 105 true u) QP w k=k (Qq5 w.heap.size) (w.alloc (.cells ((.agg #[.bool false,.bool false,.bool false,.bool false,.bool false]):Vl).cells 105))):=(Yv U8)
def o90:=YL (QP:=QP) (w:=w) (k:=k) GO
def o91:=YL (QP:=QP) (w:=w) (k:=k) BZ
def o92:(∀ r a n c,opV Pg (Builtin.len_ #[118] r #[.slice a n c]) QP w k=k (.int .i64 (n:Int)) w):=(λ r=>Y1 (r:=r) underlying118)
def o93:(∀ b o len cap ik (i:Nat),i < len→opV Pg (indexAt 118 (.slice (some ⟨b,o,none⟩) len cap) (.int ik (i:Int))) QP w k=k (.pointer (some ⟨b,o+i*2,none⟩)) w):=(XI underlying118 GQ)
def o94:(∀ u,opV Pg (alloc 118 true u) QP w k=k (Qq5 w.heap.size) (w.alloc (.cells ((.slice none 0 0):Vl).cells 118))):=(Yv BZ)
def o95:=Xo (QP:=QP) (w:=w) (k:=k) (i:=0) (ft:=3) (n:=1) underlying120 rfl ty3 rfl
def o96:=ZK (QP:=QP) (w:=w) (k:=k) (i:=1) (ft:=118) (off:=1) (n:=1) underlying120 rfl BZ rfl
def o97:(∀ b o,opV Pg (loadAt 120 (.pointer (some ⟨b,o,none⟩))) QP w k=ZO [w.cell? ⟨b,o,none⟩,w.cell? ⟨b,o+1,none⟩] (λ vs=>k (.agg vs.toArray) w) (Ko Pg (loadAt 120 (.pointer (some ⟨b,o,none⟩))) QP w k)):=(by intro b o;exact XN GP b o _ rfl)
def o99:=YL (QP:=QP) (w:=w) (k:=k) jq
def ZlX:(∀ r a n c,opV Pg (Builtin.len_ #[121] r #[.slice a n c]) QP w k=k (.int .i64 (n:Int)) w):=(λ r=>Y1 (r:=r) underlying121)
def Ziv:(∀ b o len cap ik (i:Nat),i < len→opV Pg (indexAt 121 (.slice (some ⟨b,o,none⟩) len cap) (.int ik (i:Int))) QP w k=k (.pointer (some ⟨b,o+i*3,none⟩)) w):=(XI underlying121 Io)
def Ziw:=Xo (QP:=QP) (w:=w) (k:=k) (i:=0) (ft:=9) (n:=1) underlying123 rfl ty9 rfl
def Zix:=ZK (QP:=QP) (w:=w) (k:=k) (i:=1) (ft:=117) (off:=1) (n:=1) underlying123 rfl GO rfl
def Ziy:=ZK (QP:=QP) (w:=w) (k:=k) (i:=2) (ft:=3) (off:=2) (n:=1) underlying123 rfl ty3 rfl
def ZlY:=ZK (QP:=QP) (w:=w) (k:=k) (i:=3) (ft:=4) (off:=3) (n:=1) underlying123 rfl ty4 rfl
def ZlZ:=ZK (QP:=QP) (w:=w) (k:=k) (i:=4) (ft:=4) (off:=4) (n:=1) underlying123 rfl ty4 rfl
def Ziz:=ZK (QP:=QP) (w:=w) (k:=k) (i:=5) (ft:=3) (off:=5) (n:=1) underlying123 rfl ty3 rfl
def ZiA:=ZK (QP:=QP) (w:=w) (k:=k) (i:=6) (ft:=3) (off:=6) (n:=1) underlying123 rfl ty3 rfl
def ZiB:=ZK (QP:=QP) (w:=w) (k:=k) (i:=7) (ft:=120) (off:=7) (n:=2) underlying123 rfl GP rfl
def ZiC:=ZK (QP:=QP) (w:=w) (k:=k) (i:=8) (ft:=9) (off:=9) (n:=1) underlying123 rfl ty9 rfl
def ZiD:=ZK (QP:=QP) (w:=w) (k:=k) (i:=9) (ft:=9) (off:=10) (n:=1) underlying123 rfl ty9 rfl
def ZiE:=ZK (QP:=QP) (w:=w) (k:=k) (i:=10) (ft:=9) (off:=11) (n:=1) underlying123 rfl ty9 rfl
def ZiF:=ZK (QP:=QP) (w:=w) (k:=k) (i:=11) (ft:=121) (off:=12) (n:=1) underlying123 rfl jq rfl
def Zl0:=ZK (QP:=QP) (w:=w) (k:=k) (i:=12) (ft:=3) (off:=13) (n:=1) underlying123 rfl ty3 rfl
def Zl1:=ZK (QP:=QP) (w:=w) (k:=k) (i:=13) (ft:=3) (off:=14) (n:=1) underlying123 rfl ty3 rfl
def Zl2:(∀ b o,opV Pg (loadAt 123 (.pointer (some ⟨b,o,none⟩))) QP w k=ZO [w.cell? ⟨b,o,none⟩,w.cell? ⟨b,o+1,none⟩,w.cell? ⟨b,o+2,none⟩,w.cell? ⟨b,o+3,none⟩,w.cell? ⟨b,o+4,none⟩,w.cell? ⟨b,o+5,none⟩,w.cell? ⟨b,o+6,none⟩,w.cell? ⟨b,o+7,none⟩,w.cell? ⟨b,o+8,none⟩,w.cell? ⟨b,o+9,none⟩,w.cell? ⟨b,o+10,none⟩,w.cell? ⟨b,o+11,none⟩,w.cell? ⟨b,o+12,none⟩,w.cell? ⟨b,o+13,none⟩,w.cell? ⟨b,o+14,none⟩] (λ vs=>k (.agg vs.toArray) w) (Ko Pg (loadAt 123 (.pointer (some ⟨b,o,none⟩))) QP w k)):=(by intro b o;exact XN Vq b o _ rfl)
def Zl3:(∀ u,opV Pg (alloc 123 true u) QP w k=k (Qq5 w.heap.size) (w.alloc (.cells ((.agg #[.string Qqk,.int .i64 0,.int .i64 0,.bool false,.bool false,.int .i64 0,.int .i64 0,.int .i64 0,.slice none 0 0,.string Qqk,.string Qqk,.string Qqk,.slice none 0 0,.int .i64 0,.int .i64 0]):Vl).cells 123))):=(Yv Vq)
def ZiG:=Xo (QP:=QP) (w:=w) (k:=k) (i:=0) (ft:=9) (n:=1) underlying128 rfl ty9 rfl
def ZiH:=ZK (QP:=QP) (w:=w) (k:=k) (i:=1) (ft:=3) (off:=1) (n:=1) underlying128 rfl ty3 rfl
def Zl4:(∀ b o,opV Pg (loadAt 128 (.pointer (some ⟨b,o,none⟩))) QP w k=ZO [w.cell? ⟨b,o,none⟩,w.cell? ⟨b,o+1,none⟩] (λ vs=>k (.agg vs.toArray) w) (Ko Pg (loadAt 128 (.pointer (some ⟨b,o,none⟩))) QP w k)):=(by intro b o;exact XN GQ b o _ rfl)
def Zl5:(∀ u,opV Pg (alloc 128 true u) QP w k=k (Qq5 w.heap.size) (w.alloc (.cells ((.agg #[.string Qqk,.int .i64 0]):Vl).cells 128))):=(Yv GQ)
def Zl6:(∀ b o,opV Pg (loadAt 131 (.pointer (some ⟨b,o,none⟩))) QP w k=ZO [w.cell? ⟨b,o,none⟩,w.cell? ⟨b,o+1,none⟩,w.cell? ⟨b,o+2,none⟩] (λ vs=>k (.agg vs.toArray) w) (Ko Pg (loadAt 131 (.pointer (some ⟨b,o,none⟩))) QP w k)):=(by intro b o;exact XN DU b o _ rfl)
def Zl7:(∀ u,opV Pg (alloc 131 true u) QP w k=k (Qq5 w.heap.size) (w.alloc (.cells ((.agg #[.int .i64 0,.int .i64 0,.int .i64 0]):Vl).cells 131))):=(Yv DU)
def Zl8:(∀ u,opV Pg (alloc 159 true u) QP w k=k (Qq5 w.heap.size) (w.alloc (.cells ((.agg #[.pointer none,.slice none 0 0]):Vl).cells 159))):=(Yv Zi1)
def Zl9:=YL (QP:=QP) (w:=w) (k:=k) T9
def Zma:(∀ r a n c,opV Pg (Builtin.len_ #[170] r #[.slice a n c]) QP w k=k (.int .i64 (n:Int)) w):=(λ r=>Y1 (r:=r) underlying170)
def Zmb:(∀ b o len cap ik (i:Nat),i < len→opV Pg (indexAt 170 (.slice (some ⟨b,o,none⟩) len cap) (.int ik (i:Int))) QP w k=k (.pointer (some ⟨b,o+i*1,none⟩)) w):=(XI underlying170 ty4)
def Zmc:=YL (QP:=QP) (w:=w) (k:=k) Im
def Zmd:=YL (QP:=QP) (w:=w) (k:=k) B1
def Zme:(∀ u,opV Pg (alloc 199 true u) QP w k=k (Qq5 w.heap.size) (w.alloc (.cells ((.map none):Vl).cells 199))):=(Yv B1)
def ZiI:=ZK (QP:=QP) (w:=w) (k:=k) (i:=1) (ft:=198) (off:=3) (n:=1) underlying201 rfl Im rfl
def ZiJ:=ZK (QP:=QP) (w:=w) (k:=k) (i:=2) (ft:=199) (off:=4) (n:=1) underlying201 rfl B1 rfl
def ZiK:=ZK (QP:=QP) (w:=w) (k:=k) (i:=3) (ft:=3) (off:=5) (n:=1) underlying201 rfl ty3 rfl
def ZiL:=ZK (QP:=QP) (w:=w) (k:=k) (i:=4) (ft:=3) (off:=6) (n:=1) underlying201 rfl ty3 rfl
def Zmf:=ZK (QP:=QP) (w:=w) (k:=k) (i:=5) (ft:=74) (off:=7) (n:=2) underlying201 rfl qq rfl
def Zmg:=Xo (QP:=QP) (w:=w) (k:=k) (i:=0) (ft:=3) (n:=1) underlying213 rfl ty3 rfl
def Zmh:=ZK (QP:=QP) (w:=w) (k:=k) (i:=1) (ft:=3) (off:=1) (n:=1) underlying213 rfl ty3 rfl
def Zmi:=ZK (QP:=QP) (w:=w) (k:=k) (i:=2) (ft:=9) (off:=2) (n:=1) underlying213 rfl ty9 rfl
def Zmj:(∀ b o,opV Pg (loadAt 213 (.pointer (some ⟨b,o,none⟩))) QP w k=ZO [w.cell? ⟨b,o,none⟩,w.cell? ⟨b,o+1,none⟩,w.cell? ⟨b,o+2,none⟩] (λ vs=>k (.agg vs.toArray) w) (Ko Pg (loadAt 213 (.pointer (some ⟨b,o,none⟩))) QP w k)):=(by intro b o;exact XN Io b o _ rfl)
def Zmk:(∀ u,opV Pg (alloc 213 true u) QP w k=k (Qq5 w.heap.size) (w.alloc (.cells ((.agg #[.int .i64 0,.int .i64 0,.string Qqk]):Vl).cells 213))):=(Yv Io)
def Zml:=YL (QP:=QP) (w:=w) (k:=k) Zaa
def Zmm:=YL (QP:=QP) (w:=w) (k:=k) Zab
def Zmn:=Xo (QP:=QP) (w:=w) (k:=k) (i:=0) (ft:=252) (n:=1) underlying255 rfl Zaa rfl
def Zmo:=ZK (QP:=QP) (w:=w) (k:=k) (i:=1) (ft:=253) (off:=1) (n:=1) underlying255 rfl Zab rfl
def Zmp:(∀ u,opV Pg (alloc 255 true u) QP w k=k (Qq5 w.heap.size) (w.alloc (.cells ((.agg #[.nilFunc,.nilFunc]):Vl).cells 255))):=(Yv Ir)
def Zmq:(∀ r a n c,opV Pg (Builtin.len_ #[264] r #[.slice a n c]) QP w k=k (.int .i64 (n:Int)) w):=(λ r=>Y1 (r:=r) underlying264)
def ZiM:(∀ b o len cap ik (i:Nat),i < len→opV Pg (indexAt 264 (.slice (some ⟨b,o,none⟩) len cap) (.int ik (i:Int))) QP w k=k (.pointer (some ⟨b,o+i*3,none⟩)) w):=(XI underlying264 ND)
def Zmr:=Xo (QP:=QP) (w:=w) (k:=k) (i:=0) (ft:=9) (n:=1) underlying266 rfl ty9 rfl
def ZiN:=ZK (QP:=QP) (w:=w) (k:=k) (i:=1) (ft:=3) (off:=1) (n:=1) underlying266 rfl ty3 rfl
def ZiO:=ZK (QP:=QP) (w:=w) (k:=k) (i:=2) (ft:=3) (off:=2) (n:=1) underlying266 rfl ty3 rfl
def Zms:(∀ b o,opV Pg (loadAt 266 (.pointer (some ⟨b,o,none⟩))) QP w k=ZO [w.cell? ⟨b,o,none⟩,w.cell? ⟨b,o+1,none⟩,w.cell? ⟨b,o+2,none⟩] (λ vs=>k (.agg vs.toArray) w) (Ko Pg (loadAt 266 (.pointer (some ⟨b,o,none⟩))) QP w k)):=(by intro b o;exact XN ND b o _ rfl)
def Zmt:(∀ u,opV Pg (alloc 266 true u) QP w k=k (Qq5 w.heap.size) (w.alloc (.cells ((.agg #[.string Qqk,.int .i64 0,.int .i64 0]):Vl).cells 266))):=(Yv ND)
def Zmu:(∀ u,opV Pg (alloc 287 true u) QP w k=k (Qq5 w.heap.size) (w.alloc (.cells ((.agg #[.string Qqk,.string Qqk,.string Qqk,.string Qqk,.int .i64 0,.int .i64 0,.int .i64 0,.int .i64 0,.int .i64 0,.int .i64 0,.int .i64 0,.bool false,.bool false]):Vl).cells 287))):=(Yv NF)
def Zmv:=YL (QP:=QP) (w:=w) (k:=k) Zac
def Zmw:(∀ u,opV Pg (alloc 296 true u) QP w k=k (Qq5 w.heap.size) (w.alloc (.cells ((.map none):Vl).cells 296))):=(Yv Zac)
def Zmx:=Xo (QP:=QP) (w:=w) (k:=k) (i:=0) (ft:=3) (n:=1) underlying300 rfl ty3 rfl
def Zmy:=ZK (QP:=QP) (w:=w) (k:=k) (i:=1) (ft:=3) (off:=1) (n:=1) underlying300 rfl ty3 rfl
def Zmz:(∀ v0 v1,opV Pg (Instr.field 300 (.agg #[v0,v1]) 1) QP w k=k v1 w):=(by intro v0 v1;exact LU underlying300 rfl ty3 rfl)
def ZmA:(∀ b o,opV Pg (loadAt 300 (.pointer (some ⟨b,o,none⟩))) QP w k=ZO [w.cell? ⟨b,o,none⟩,w.cell? ⟨b,o+1,none⟩] (λ vs=>k (.agg vs.toArray) w) (Ko Pg (loadAt 300 (.pointer (some ⟨b,o,none⟩))) QP w k)):=(by intro b o;exact XN UC b o _ rfl)
def ZmB:(∀ u,opV Pg (alloc 300 true u) QP w k=k (Qq5 w.heap.size) (w.alloc (.cells ((.agg #[.int .i64 0,.int .i64 0]):Vl).cells 300))):=(Yv UC)
def ZmC:=YL (QP:=QP) (w:=w) (k:=k) Zi3
def ZmD:(opV Pg (build 24 #[]) QP w k=k (.agg #[.string Qqk,.slice none 0 0]) w):=(by exact Z3 (places := #[(0,1),(1,1)]) underlying24 CC (by intro w;simp [List.mapM_cons,Sem.run_bind,Sw.run_sizeOf Iq,Sw.run_sizeOf ty9]) (by simp [fill,ZC]))
def ZmE:(∀ v0:Vl,v0.oneCell'=true→opV Pg (build 24 #[(0,v0)]) QP w k=k (.agg #[v0,.slice none 0 0]) w):=(by intro v0 hv0;exact Z3 (places := #[(0,1),(1,1)]) underlying24 CC (by intro w;simp [List.mapM_cons,Sem.run_bind,Sw.run_sizeOf Iq,Sw.run_sizeOf ty9]) (by simp [fill,ZC,Zn hv0]))
def ZmF:(∀ v0 v1:Vl,v0.oneCell'=true→v1.oneCell'=true→opV Pg (build 24 #[(0,v0),(1,v1)]) QP w k=k (.agg #[v0,v1]) w):=(by intro v0 v1 hv0 hv1;exact Z3 (places := #[(0,1),(1,1)]) underlying24 CC (by intro w;simp [List.mapM_cons,Sem.run_bind,Sw.run_sizeOf Iq,Sw.run_sizeOf ty9]) (by simp [fill,ZC,Zn hv0,Zn hv1]))
def ZmG:(∀ v0 v1 v2:Vl,v0.oneCell'=true→v1.oneCell'=true→v2.oneCell'=true→opV Pg (build 27 #[(0,v0),(1,v1),(2,v2)]) QP w k=k (.agg #[v0,v1,v2]) w):=(by intro v0 v1 v2 hv0 hv1 hv2;exact Z3 (places := #[(0,1),(1,1),(2,1)]) underlying27 CD (by intro w;simp [List.mapM_cons,Sem.run_bind,Sw.run_sizeOf Ze6,Sw.run_sizeOf ty9]) (by simp [fill,ZC,Zn hv0,Zn hv1,Zn hv2]))
def ZmH:(opV Pg (build 34 #[]) QP w k=k (.agg #[.int .i64 0,.int .i64 0,.int .i64 0]) w):=(by exact Z3 (places := #[(0,1),(1,1),(2,1)]) underlying34 MJ (by intro w;simp [List.mapM_cons,Sem.run_bind,Sw.run_sizeOf ty3,Sw.run_sizeOf O1]) (by simp [fill,ZC]))
def ZmI:(∀ v0 v1 v2:Vl,v0.oneCell'=true→v1.oneCell'=true→v2.oneCell'=true→opV Pg (build 34 #[(0,v0),(1,v1),(2,v2)]) QP w k=k (.agg #[v0,v1,v2]) w):=(by intro v0 v1 v2 hv0 hv1 hv2;exact Z3 (places := #[(0,1),(1,1),(2,1)]) underlying34 MJ (by intro w;simp [List.mapM_cons,Sem.run_bind,Sw.run_sizeOf ty3,Sw.run_sizeOf O1]) (by simp [fill,ZC,Zn hv0,Zn hv1,Zn hv2]))
def ZmJ:(∀ v2:Vl,v2.oneCell'=true→opV Pg (build 34 #[(2,v2)]) QP w k=k (.agg #[.int .i64 0,.int .i64 0,v2]) w):=(by intro v2 hv2;exact Z3 (places := #[(0,1),(1,1),(2,1)]) underlying34 MJ (by intro w;simp [List.mapM_cons,Sem.run_bind,Sw.run_sizeOf ty3,Sw.run_sizeOf O1]) (by simp [fill,ZC,Zn hv2]))
def ZmK:(opV Pg (build 43 #[]) QP w k=k (.agg #[.string Qqk,.int .i64 0,.string Qqk,.int .i64 0,.int .i64 0,.slice none 0 0,.slice none 0 0]) w):=(by exact Z3 (places := #[(0,1),(1,1),(2,1),(3,1),(4,1),(5,1),(6,1)]) underlying43 Vr (by intro w;simp [List.mapM_cons,Sem.run_bind,Sw.run_sizeOf ty3,Sw.run_sizeOf CE,Sw.run_sizeOf jC,Sw.run_sizeOf B2,Sw.run_sizeOf ty9]) (by simp [fill,ZC]))
def ZmL:(∀ v0:Vl,v0.oneCell'=true→opV Pg (build 43 #[(0,v0)]) QP w k=k (.agg #[v0,.int .i64 0,.string Qqk,.int .i64 0,.int .i64 0,.slice none 0 0,.slice none 0 0]) w):=(by intro v0 hv0;exact Z3 (places := #[(0,1),(1,1),(2,1),(3,1),(4,1),(5,1),(6,1)]) underlying43 Vr (by intro w;simp [List.mapM_cons,Sem.run_bind,Sw.run_sizeOf ty3,Sw.run_sizeOf CE,Sw.run_sizeOf jC,Sw.run_sizeOf B2,Sw.run_sizeOf ty9]) (by simp [fill,ZC,Zn hv0]))
def ZmM:(∀ v0 v1:Vl,v0.oneCell'=true→v1.oneCell'=true→opV Pg (build 43 #[(0,v0),(1,v1)]) QP w k=k (.agg #[v0,v1,.string Qqk,.int .i64 0,.int .i64 0,.slice none 0 0,.slice none 0 0]) w):=(by intro v0 v1 hv0 hv1;exact Z3 (places := #[(0,1),(1,1),(2,1),(3,1),(4,1),(5,1),(6,1)]) underlying43 Vr (by intro w;simp [List.mapM_cons,Sem.run_bind,Sw.run_sizeOf ty3,Sw.run_sizeOf CE,Sw.run_sizeOf jC,Sw.run_sizeOf B2,Sw.run_sizeOf ty9]) (by simp [fill,ZC,Zn hv0,Zn hv1]))
def ZmN:(∀ v0 v1 v2:Vl,v0.oneCell'=true→v1.oneCell'=true→v2.oneCell'=true→opV Pg (build 43 #[(0,v0),(1,v1),(2,v2)]) QP w k=k (.agg #[v0,v1,v2,.int .i64 0,.int .i64 0,.slice none 0 0,.slice none 0 0]) w):=(by intro v0 v1 v2 hv0 hv1 hv2;exact Z3 (places := #[(0,1),(1,1),(2,1),(3,1),(4,1),(5,1),(6,1)]) underlying43 Vr (by intro w;simp [List.mapM_cons,Sem.run_bind,Sw.run_sizeOf ty3,Sw.run_sizeOf CE,Sw.run_sizeOf jC,Sw.run_sizeOf B2,Sw.run_sizeOf ty9]) (by simp [fill,ZC,Zn hv0,Zn hv1,Zn hv2]))
def ZmO:(∀ v1 v3:Vl,v1.oneCell'=true→v3.oneCell'=true→opV Pg (build 43 #[(1,v1),(3,v3)]) QP w k=k (.agg #[.string Qqk,v1,.string Qqk,v3,.int .i64 0,.slice none 0 0,.slice none 0 0]) w):=(by intro v1 v3 hv1 hv3;exact Z3 (places := #[(0,1),(1,1),(2,1),(3,1),(4,1),(5,1),(6,1)]) underlying43 Vr (by intro w;simp [List.mapM_cons,Sem.run_bind,Sw.run_sizeOf ty3,Sw.run_sizeOf CE,Sw.run_sizeOf jC,Sw.run_sizeOf B2,Sw.run_sizeOf ty9]) (by simp [fill,ZC,Zn hv1,Zn hv3]))
def ZmP:(∀ v1 v6:Vl,v1.oneCell'=true→v6.oneCell'=true→opV Pg (build 43 #[(1,v1),(6,v6)]) QP w k=k (.agg #[.string Qqk,v1,.string Qqk,.int .i64 0,.int .i64 0,.slice none 0 0,v6]) w):=(by intro v1 v6 hv1 hv6;exact Z3 (places := #[(0,1),(1,1),(2,1),(3,1),(4,1),(5,1),(6,1)]) underlying43 Vr (by intro w;simp [List.mapM_cons,Sem.run_bind,Sw.run_sizeOf ty3,Sw.run_sizeOf CE,Sw.run_sizeOf jC,Sw.run_sizeOf B2,Sw.run_sizeOf ty9]) (by simp [fill,ZC,Zn hv1,Zn hv6]))
def ZiP:(∀ v0 v1:Vl,v0.oneCell'=true→v1.oneCell'=true→opV Pg (build 60 #[(0,v0),(1,v1)]) QP w k=k (.agg #[v0,v1,.slice none 0 0]) w):=(by intro v0 v1 hv0 hv1;exact Z3 (places := #[(0,1),(1,1),(2,1)]) underlying60 qp (by intro w;simp [List.mapM_cons,Sem.run_bind,Sw.run_sizeOf MK,Sw.run_sizeOf ty9]) (by simp [fill,ZC,Zn hv0,Zn hv1]))
def ZmQ:(∀ v0 v1 v2:Vl,v0.oneCell'=true→v1.oneCell'=true→v2.oneCell'=true→opV Pg (build 60 #[(0,v0),(1,v1),(2,v2)]) QP w k=k (.agg #[v0,v1,v2]) w):=(by intro v0 v1 v2 hv0 hv1 hv2;exact Z3 (places := #[(0,1),(1,1),(2,1)]) underlying60 qp (by intro w;simp [List.mapM_cons,Sem.run_bind,Sw.run_sizeOf MK,Sw.run_sizeOf ty9]) (by simp [fill,ZC,Zn hv0,Zn hv1,Zn hv2]))
def ZmR:(opV Pg (build 74 #[]) QP w k=k (.agg #[.string Qqk,.slice none 0 0]) w):=(by exact Z3 (places := #[(0,1),(1,1)]) underlying74 qq (by intro w;simp [List.mapM_cons,Sem.run_bind,Sw.run_sizeOf O2,Sw.run_sizeOf ty9]) (by simp [fill,ZC]))
def ZmS:(∀ v0 v1:Vl,v0.oneCell'=true→v1.oneCell'=true→opV Pg (build 74 #[(0,v0),(1,v1)]) QP w k=k (.agg #[v0,v1]) w):=(by intro v0 v1 hv0 hv1;exact Z3 (places := #[(0,1),(1,1)]) underlying74 qq (by intro w;simp [List.mapM_cons,Sem.run_bind,Sw.run_sizeOf O2,Sw.run_sizeOf ty9]) (by simp [fill,ZC,Zn hv0,Zn hv1]))
def ZiQ:(∀ v1:Vl,v1.oneCell'=true→opV Pg (build 74 #[(1,v1)]) QP w k=k (.agg #[.string Qqk,v1]) w):=(by intro v1 hv1;exact Z3 (places := #[(0,1),(1,1)]) underlying74 qq (by intro w;simp [List.mapM_cons,Sem.run_bind,Sw.run_sizeOf O2,Sw.run_sizeOf ty9]) (by simp [fill,ZC,Zn hv1]))
def ZmT:(∀ v0 v1 v2:Vl,v0.oneCell'=true→v1.oneCell'=true→v2.oneCell'=true→opV Pg (build 78 #[(0,v0),(1,v1),(2,v2)]) QP w k=k (.agg #[v0,v1,v2]) w):=(by intro v0 v1 v2 hv0 hv1 hv2;exact Z3 (places := #[(0,1),(1,1),(2,1)]) underlying78 Fv (by intro w;simp [List.mapM_cons,Sem.run_bind,Sw.run_sizeOf ty3]) (by simp [fill,ZC,Zn hv0,Zn hv1,Zn hv2]))
def ZmU:(∀ v0_0 v0_1 v1_0 v1_1 v1_2 v2_0 v2_1 v2_2 v3 v4:Vl,v3.oneCell'=true→v4.oneCell'=true→opV Pg (build 81 #[(0,(.agg #[v0_0,v0_1])),(1,(.agg #[v1_0,v1_1,v1_2])),(2,(.agg #[v2_0,v2_1,v2_2])),(3,v3),(4,v4)]) QP w k=k (.agg #[v0_0,v0_1,v1_0,v1_1,v1_2,v2_0,v2_1,v2_2,v3,v4]) w):=(by intro v0_0 v0_1 v1_0 v1_1 v1_2 v2_0 v2_1 v2_2 v3 v4 hv3 hv4;exact Z3 (places := #[(0,2),(2,3),(5,3),(8,1),(9,1)]) underlying81 ZnV (by intro w;simp [List.mapM_cons,Sem.run_bind,Sw.run_sizeOf CC,Sw.run_sizeOf CD,Sw.run_sizeOf ty3]) (by simp [fill,ZC,Zn hv3,Zn hv4]))
def ZmV:(∀ v0 v1 v2:Vl,v0.oneCell'=true→v1.oneCell'=true→v2.oneCell'=true→opV Pg (build 82 #[(0,v0),(1,v1),(2,v2)]) QP w k=k (.agg #[v0,v1,v2]) w):=(by intro v0 v1 v2 hv0 hv1 hv2;exact Z3 (places := #[(0,1),(1,1),(2,1)]) underlying82 ZnW (by intro w;simp [List.mapM_cons,Sem.run_bind,Sw.run_sizeOf ty3,Sw.run_sizeOf O1]) (by simp [fill,ZC,Zn hv0,Zn hv1,Zn hv2]))
def ZmW:(opV Pg (build 105 #[]) QP w k=k (.agg #[.bool false,.bool false,.bool false,.bool false,.bool false]) w):=(by exact Z3 (places := #[(0,1),(1,1),(2,1),(3,1),(4,1)]) underlying105 U8 (by intro w;simp [List.mapM_cons,Sem.run_bind,Sw.run_sizeOf ty4]) (by simp [fill,ZC]))
def ZmX:(∀ v0:Vl,v0.oneCell'=true→opV Pg (build 105 #[(0,v0)]) QP w k=k (.agg #[v0,.bool false,.bool false,.bool false,.bool false]) w):=(by intro v0 hv0;exact Z3 (places := #[(0,1),(1,1),(2,1),(3,1),(4,1)]) underlying105 U8 (by intro w;simp [List.mapM_cons,Sem.run_bind,Sw.run_sizeOf ty4]) (by simp [fill,ZC,Zn hv0]))
def ZmY:(∀ v0 v1:Vl,v0.oneCell'=true→v1.oneCell'=true→opV Pg (build 105 #[(0,v0),(1,v1)]) QP w k=k (.agg #[v0,v1,.bool false,.bool false,.bool false]) w):=(by intro v0 v1 hv0 hv1;exact Z3 (places := #[(0,1),(1,1),(2,1),(3,1),(4,1)]) underlying105 U8 (by intro w;simp [List.mapM_cons,Sem.run_bind,Sw.run_sizeOf ty4]) (by simp [fill,ZC,Zn hv0,Zn hv1]))
def ZmZ:(∀ v0 v4:Vl,v0.oneCell'=true→v4.oneCell'=true→opV Pg (build 105 #[(0,v0),(4,v4)]) QP w k=k (.agg #[v0,.bool false,.bool false,.bool false,v4]) w):=(by intro v0 v4 hv0 hv4;exact Z3 (places := #[(0,1),(1,1),(2,1),(3,1),(4,1)]) underlying105 U8 (by intro w;simp [List.mapM_cons,Sem.run_bind,Sw.run_sizeOf ty4]) (by simp [fill,ZC,Zn hv0,Zn hv4]))
def Zm0:(∀ v2:Vl,v2.oneCell'=true→opV Pg (build 105 #[(2,v2)]) QP w k=k (.agg #[.bool false,.bool false,v2,.bool false,.bool false]) w):=(by intro v2 hv2;exact Z3 (places := #[(0,1),(1,1),(2,1),(3,1),(4,1)]) underlying105 U8 (by intro w;simp [List.mapM_cons,Sem.run_bind,Sw.run_sizeOf ty4]) (by simp [fill,ZC,Zn hv2]))
def Zm1:(∀ v3:Vl,v3.oneCell'=true→opV Pg (build 105 #[(3,v3)]) QP w k=k (.agg #[.bool false,.bool false,.bool false,v3,.bool false]) w):=(by intro v3 hv3;exact Z3 (places := #[(0,1),(1,1),(2,1),(3,1),(4,1)]) underlying105 U8 (by intro w;simp [List.mapM_cons,Sem.run_bind,Sw.run_sizeOf ty4]) (by simp [fill,ZC,Zn hv3]))
def Zm2:(opV Pg (build 120 #[]) QP w k=k (.agg #[.int .i64 0,.slice none 0 0]) w):=(by exact Z3 (places := #[(0,1),(1,1)]) underlying120 GP (by intro w;simp [List.mapM_cons,Sem.run_bind,Sw.run_sizeOf BZ,Sw.run_sizeOf ty3]) (by simp [fill,ZC]))
def Zm3:(∀ v1:Vl,v1.oneCell'=true→opV Pg (build 120 #[(1,v1)]) QP w k=k (.agg #[.int .i64 0,v1]) w):=(by intro v1 hv1;exact Z3 (places := #[(0,1),(1,1)]) underlying120 GP (by intro w;simp [List.mapM_cons,Sem.run_bind,Sw.run_sizeOf BZ,Sw.run_sizeOf ty3]) (by simp [fill,ZC,Zn hv1]))
def Zm4:(opV Pg (build 123 #[]) QP w k=k (.agg #[.string Qqk,.int .i64 0,.int .i64 0,.bool false,.bool false,.int .i64 0,.int .i64 0,.int .i64 0,.slice none 0 0,.string Qqk,.string Qqk,.string Qqk,.slice none 0 0,.int .i64 0,.int .i64 0]) w):=(by exact Z3 (places := #[(0,1),(1,1),(2,1),(3,1),(4,1),(5,1),(6,1),(7,2),(9,1),(10,1),(11,1),(12,1),(13,1),(14,1)]) underlying123 Vq (by intro w;simp [List.mapM_cons,Sem.run_bind,Sw.run_sizeOf GO,Sw.run_sizeOf GP,Sw.run_sizeOf jq,Sw.run_sizeOf ty3,Sw.run_sizeOf ty4,Sw.run_sizeOf ty9]) (by simp [fill,ZC]))
def Zm5:(∀ v0 v1:Vl,v0.oneCell'=true→v1.oneCell'=true→opV Pg (build 123 #[(0,v0),(1,v1)]) QP w k=k (.agg #[v0,v1,.int .i64 0,.bool false,.bool false,.int .i64 0,.int .i64 0,.int .i64 0,.slice none 0 0,.string Qqk,.string Qqk,.string Qqk,.slice none 0 0,.int .i64 0,.int .i64 0]) w):=(by intro v0 v1 hv0 hv1;exact Z3 (places := #[(0,1),(1,1),(2,1),(3,1),(4,1),(5,1),(6,1),(7,2),(9,1),(10,1),(11,1),(12,1),(13,1),(14,1)]) underlying123 Vq (by intro w;simp [List.mapM_cons,Sem.run_bind,Sw.run_sizeOf GO,Sw.run_sizeOf GP,Sw.run_sizeOf jq,Sw.run_sizeOf ty3,Sw.run_sizeOf ty4,Sw.run_sizeOf ty9]) (by simp [fill,ZC,Zn hv0,Zn hv1]))
def Zm6:(∀ v0 v1 v2 v6:Vl,v0.oneCell'=true→v1.oneCell'=true→v2.oneCell'=true→v6.oneCell'=true→opV Pg (build 123 #[(0,v0),(1,v1),(2,v2),(6,v6)]) QP w k=k (.agg #[v0,v1,v2,.bool false,.bool false,.int .i64 0,v6,.int .i64 0,.slice none 0 0,.string Qqk,.string Qqk,.string Qqk,.slice none 0 0,.int .i64 0,.int .i64 0]) w):=(by intro v0 v1 v2 v6 hv0 hv1 hv2 hv6;exact Z3 (places := #[(0,1),(1,1),(2,1),(3,1),(4,1),(5,1),(6,1),(7,2),(9,1),(10,1),(11,1),(12,1),(13,1),(14,1)]) underlying123 Vq (by intro w;simp [List.mapM_cons,Sem.run_bind,Sw.run_sizeOf GO,Sw.run_sizeOf GP,Sw.run_sizeOf jq,Sw.run_sizeOf ty3,Sw.run_sizeOf ty4,Sw.run_sizeOf ty9]) (by simp [fill,ZC,Zn hv0,Zn hv1,Zn hv2,Zn hv6]))
def Zm7:(∀ v0 v1 v7_0 v7_1:Vl,v0.oneCell'=true→v1.oneCell'=true→opV Pg (build 123 #[(0,v0),(1,v1),(7,(.agg #[v7_0,v7_1]))]) QP w k=k (.agg #[v0,v1,.int .i64 0,.bool false,.bool false,.int .i64 0,.int .i64 0,v7_0,v7_1,.string Qqk,.string Qqk,.string Qqk,.slice none 0 0,.int .i64 0,.int .i64 0]) w):=(by intro v0 v1 v7_0 v7_1 hv0 hv1;exact Z3 (places := #[(0,1),(1,1),(2,1),(3,1),(4,1),(5,1),(6,1),(7,2),(9,1),(10,1),(11,1),(12,1),(13,1),(14,1)]) underlying123 Vq (by intro w;simp [List.mapM_cons,Sem.run_bind,Sw.run_sizeOf GO,Sw.run_sizeOf GP,Sw.run_sizeOf jq,Sw.run_sizeOf ty3,Sw.run_sizeOf ty4,Sw.run_sizeOf ty9]) (by simp [fill,ZC,Zn hv0,Zn hv1]))
def Zm8:(∀ v0 v1:Vl,v0.oneCell'=true→v1.oneCell'=true→opV Pg (build 128 #[(0,v0),(1,v1)]) QP w k=k (.agg #[v0,v1]) w):=(by intro v0 v1 hv0 hv1;exact Z3 (places := #[(0,1),(1,1)]) underlying128 GQ (by intro w;simp [List.mapM_cons,Sem.run_bind,Sw.run_sizeOf ty3,Sw.run_sizeOf ty9]) (by simp [fill,ZC,Zn hv0,Zn hv1]))
def Zm9:(opV Pg (build 131 #[]) QP w k=k (.agg #[.int .i64 0,.int .i64 0,.int .i64 0]) w):=(by exact Z3 (places := #[(0,1),(1,1),(2,1)]) underlying131 DU (by intro w;simp [List.mapM_cons,Sem.run_bind,Sw.run_sizeOf Zee,Sw.run_sizeOf ty3]) (by simp [fill,ZC]))
def Zna:(∀ v0 v1 v2:Vl,v0.oneCell'=true→v1.oneCell'=true→v2.oneCell'=true→opV Pg (build 131 #[(0,v0),(1,v1),(2,v2)]) QP w k=k (.agg #[v0,v1,v2]) w):=(by intro v0 v1 v2 hv0 hv1 hv2;exact Z3 (places := #[(0,1),(1,1),(2,1)]) underlying131 DU (by intro w;simp [List.mapM_cons,Sem.run_bind,Sw.run_sizeOf Zee,Sw.run_sizeOf ty3]) (by simp [fill,ZC,Zn hv0,Zn hv1,Zn hv2]))
def Znb:(∀ v0_0 v0_1 v0_2 v1 v2 v3 v4:Vl,v1.oneCell'=true→v2.oneCell'=true→v3.oneCell'=true→v4.oneCell'=true→opV Pg (build 201 #[(0,(.agg #[v0_0,v0_1,v0_2])),(1,v1),(2,v2),(3,v3),(4,v4)]) QP w k=k (.agg #[v0_0,v0_1,v0_2,v1,v2,v3,v4,.string Qqk,.slice none 0 0]) w):=(by intro v0_0 v0_1 v0_2 v1 v2 v3 v4 hv1 hv2 hv3 hv4;exact Z3 (places := #[(0,3),(3,1),(4,1),(5,1),(6,1),(7,2)]) underlying201 Zi2 (by intro w;simp [List.mapM_cons,Sem.run_bind,Sw.run_sizeOf Im,Sw.run_sizeOf B1,Sw.run_sizeOf CD,Sw.run_sizeOf ty3,Sw.run_sizeOf qq]) (by simp [fill,ZC,Zn hv1,Zn hv2,Zn hv3,Zn hv4]))
def Znc:(∀ v0 v1:Vl,v0.oneCell'=true→v1.oneCell'=true→opV Pg (build 255 #[(0,v0),(1,v1)]) QP w k=k (.agg #[v0,v1]) w):=(by intro v0 v1 hv0 hv1;exact Z3 (places := #[(0,1),(1,1)]) underlying255 Ir (by intro w;simp [List.mapM_cons,Sem.run_bind,Sw.run_sizeOf Zaa,Sw.run_sizeOf Zab]) (by simp [fill,ZC,Zn hv0,Zn hv1]))
def Znd:(∀ v0 v1 v2 v3 v4 v5 v6 v7 v8 v9 v10 v11 v12:Vl,v0.oneCell'=true→v1.oneCell'=true→v2.oneCell'=true→v3.oneCell'=true→v4.oneCell'=true→v5.oneCell'=true→v6.oneCell'=true→v7.oneCell'=true→v8.oneCell'=true→v9.oneCell'=true→v10.oneCell'=true→v11.oneCell'=true→v12.oneCell'=true→opV Pg (build 287 #[(0,v0),(1,v1),(2,v2),(3,v3),(4,v4),(5,v5),(6,v6),(7,v7),(8,v8),(9,v9),(10,v10),(11,v11),(12,v12)]) QP w k=k (.agg #[v0,v1,v2,v3,v4,v5,v6,v7,v8,v9,v10,v11,v12]) w):=(by intro v0 v1 v2 v3 v4 v5 v6 v7 v8 v9 v10 v11 v12 hv0 hv1 hv2 hv3 hv4 hv5 hv6 hv7 hv8 hv9 hv10 hv11 hv12;exact Z3 (places := #[(0,1),(1,1),(2,1),(3,1),(4,1),(5,1),(6,1),(7,1),(8,1),(9,1),(10,1),(11,1),(12,1)]) underlying287 NF (by intro w;simp [List.mapM_cons,Sem.run_bind,Sw.run_sizeOf GO,Sw.run_sizeOf ty3,Sw.run_sizeOf ty4,Sw.run_sizeOf ty9]) (by simp [fill,ZC,Zn hv0,Zn hv1,Zn hv2,Zn hv3,Zn hv4,Zn hv5,Zn hv6,Zn hv7,Zn hv8,Zn hv9,Zn hv10,Zn hv11,Zn hv12]))
def Zne:(opV Pg (build 300 #[]) QP w k=k (.agg #[.int .i64 0,.int .i64 0]) w):=(by exact Z3 (places := #[(0,1),(1,1)]) underlying300 UC (by intro w;simp [List.mapM_cons,Sem.run_bind,Sw.run_sizeOf ty3]) (by simp [fill,ZC]))
def Znf:(∀ v0 v1:Vl,v0.oneCell'=true→v1.oneCell'=true→opV Pg (build 300 #[(0,v0),(1,v1)]) QP w k=k (.agg #[v0,v1]) w):=(by intro v0 v1 hv0 hv1;exact Z3 (places := #[(0,1),(1,1)]) underlying300 UC (by intro w;simp [List.mapM_cons,Sem.run_bind,Sw.run_sizeOf ty3]) (by simp [fill,ZC,Zn hv0,Zn hv1]))
def Zng:(∀ v0_0 v0_1 v0_2:Vl,opV Pg (buildSlice 22 1 #[(0,(.agg #[v0_0,v0_1,v0_2]))]) QP w k=k (.slice (some ⟨w.heap.size,0,none⟩) 1 1) (w.alloc (.cells #[v0_0,v0_1,v0_2] 60))):=(by intro v0_0 v0_1 v0_2;exact Z7 underlying22 qp K7 (base := #[.string Qqk,.string Qqk,.slice none 0 0]) K5 (by simp [fill,ZC]))
def Znh:(∀ v0_0 v0_1:Vl,opV Pg (buildSlice 25 1 #[(0,(.agg #[v0_0,v0_1]))]) QP w k=k (.slice (some ⟨w.heap.size,0,none⟩) 1 1) (w.alloc (.cells #[v0_0,v0_1] 74))):=(by intro v0_0 v0_1;exact Z7 underlying25 qq K7 (base := #[.string Qqk,.slice none 0 0]) K5 (by simp [fill,ZC]))
def Zni:(∀ v0:Vl,v0.oneCell'=true→opV Pg (buildSlice 40 1 #[(0,v0)]) QP w k=k (.slice (some ⟨w.heap.size,0,none⟩) 1 1) (w.alloc (.cells #[v0] 5))):=(by intro v0 hv0;exact Z7 underlying40 ty5 K7 (base := #[.int .u8 0]) K5 (by simp [fill,ZC,Zn hv0]))
def Znj:(∀ v0_0 v0_1 v0_2:Vl,opV Pg (buildSlice 41 1 #[(0,(.agg #[v0_0,v0_1,v0_2]))]) QP w k=k (.slice (some ⟨w.heap.size,0,none⟩) 1 1) (w.alloc (.cells #[v0_0,v0_1,v0_2] 78))):=(by intro v0_0 v0_1 v0_2;exact Z7 underlying41 Fv K7 (base := #[.int .i64 0,.int .i64 0,.int .i64 0]) K5 (by simp [fill,ZC]))
def Znk:(∀ v0_0 v0_1 v0_2 v0_3 v0_4 v0_5 v0_6:Vl,opV Pg (buildSlice 58 1 #[(0,(.agg #[v0_0,v0_1,v0_2,v0_3,v0_4,v0_5,v0_6]))]) QP w k=k (.slice (some ⟨w.heap.size,0,none⟩) 1 1) (w.alloc (.cells #[v0_0,v0_1,v0_2,v0_3,v0_4,v0_5,v0_6] 43))):=(by intro v0_0 v0_1 v0_2 v0_3 v0_4 v0_5 v0_6;exact Z7 underlying58 Vr K7 (base := #[.string Qqk,.int .i64 0,.string Qqk,.int .i64 0,.int .i64 0,.slice none 0 0,.slice none 0 0]) K5 (by simp [fill,ZC]))
def Znl:(∀ v0_0 v0_1 v0_2 v0_3 v0_4 v0_5 v0_6 v1_0 v1_1 v1_2 v1_3 v1_4 v1_5 v1_6:Vl,opV Pg (buildSlice 58 2 #[(0,(.agg #[v0_0,v0_1,v0_2,v0_3,v0_4,v0_5,v0_6])),(1,(.agg #[v1_0,v1_1,v1_2,v1_3,v1_4,v1_5,v1_6]))]) QP w k=k (.slice (some ⟨w.heap.size,0,none⟩) 2 2) (w.alloc (.cells #[v0_0,v0_1,v0_2,v0_3,v0_4,v0_5,v0_6,v1_0,v1_1,v1_2,v1_3,v1_4,v1_5,v1_6] 43))):=(by intro v0_0 v0_1 v0_2 v0_3 v0_4 v0_5 v0_6 v1_0 v1_1 v1_2 v1_3 v1_4 v1_5 v1_6;exact Z7 underlying58 Vr K7 (base := #[.string Qqk,.int .i64 0,.string Qqk,.int .i64 0,.int .i64 0,.slice none 0 0,.slice none 0 0,.string Qqk,.int .i64 0,.string Qqk,.int .i64 0,.int .i64 0,.slice none 0 0,.slice none 0 0]) K5 (by simp [fill,ZC]))
def Znm:(∀ v0:Vl,v0.oneCell'=true→opV Pg (buildSlice 61 1 #[(0,v0)]) QP w k=k (.slice (some ⟨w.heap.size,0,none⟩) 1 1) (w.alloc (.cells #[v0] 3))):=(by intro v0 hv0;exact Z7 underlying61 ty3 K7 (base := #[.int .i64 0]) K5 (by simp [fill,ZC,Zn hv0]))
def Znn:(∀ v0 v1:Vl,v0.oneCell'=true→v1.oneCell'=true→opV Pg (buildSlice 61 2 #[(0,v0),(1,v1)]) QP w k=k (.slice (some ⟨w.heap.size,0,none⟩) 2 2) (w.alloc (.cells #[v0,v1] 3))):=(by intro v0 v1 hv0 hv1;exact Z7 underlying61 ty3 K7 (base := #[.int .i64 0,.int .i64 0]) K5 (by simp [fill,ZC,Zn hv0,Zn hv1]))
def Zno:(∀ v0_0 v0_1 v0_2 v0_3 v0_4 v0_5 v0_6 v0_7 v0_8 v0_9 v0_10 v0_11 v0_12 v0_13 v0_14:Vl,opV Pg (buildSlice 72 1 #[(0,(.agg #[v0_0,v0_1,v0_2,v0_3,v0_4,v0_5,v0_6,v0_7,v0_8,v0_9,v0_10,v0_11,v0_12,v0_13,v0_14]))]) QP w k=k (.slice (some ⟨w.heap.size,0,none⟩) 1 1) (w.alloc (.cells #[v0_0,v0_1,v0_2,v0_3,v0_4,v0_5,v0_6,v0_7,v0_8,v0_9,v0_10,v0_11,v0_12,v0_13,v0_14] 123))):=(by intro v0_0 v0_1 v0_2 v0_3 v0_4 v0_5 v0_6 v0_7 v0_8 v0_9 v0_10 v0_11 v0_12 v0_13 v0_14;exact Z7 underlying72 Vq K7 (base := #[.string Qqk,.int .i64 0,.int .i64 0,.bool false,.bool false,.int .i64 0,.int .i64 0,.int .i64 0,.slice none 0 0,.string Qqk,.string Qqk,.string Qqk,.slice none 0 0,.int .i64 0,.int .i64 0]) K5 (by simp [fill,ZC]))
def Znp:(∀ v0_0 v0_1 v0_2 v0_3 v0_4 v0_5 v0_6 v0_7 v0_8 v0_9 v0_10 v0_11 v0_12 v0_13 v0_14 v1_0 v1_1 v1_2 v1_3 v1_4 v1_5 v1_6 v1_7 v1_8 v1_9 v1_10 v1_11 v1_12 v1_13 v1_14:Vl,opV Pg (buildSlice 72 2 #[(0,(.agg #[v0_0,v0_1,v0_2,v0_3,v0_4,v0_5,v0_6,v0_7,v0_8,v0_9,v0_10,v0_11,v0_12,v0_13,v0_14])),(1,(.agg #[v1_0,v1_1,v1_2,v1_3,v1_4,v1_5,v1_6,v1_7,v1_8,v1_9,v1_10,v1_11,v1_12,v1_13,v1_14]))]) QP w k=k (.slice (some ⟨w.heap.size,0,none⟩) 2 2) (w.alloc (.cells #[v0_0,v0_1,v0_2,v0_3,v0_4,v0_5,v0_6,v0_7,v0_8,v0_9,v0_10,v0_11,v0_12,v0_13,v0_14,v1_0,v1_1,v1_2,v1_3,v1_4,v1_5,v1_6,v1_7,v1_8,v1_9,v1_10,v1_11,v1_12,v1_13,v1_14] 123))):=(by intro v0_0 v0_1 v0_2 v0_3 v0_4 v0_5 v0_6 v0_7 v0_8 v0_9 v0_10 v0_11 v0_12 v0_13 v0_14 v1_0 v1_1 v1_2 v1_3 v1_4 v1_5 v1_6 v1_7 v1_8 v1_9 v1_10 v1_11 v1_12 v1_13 v1_14;exact Z7 underlying72 Vq K7 (base := #[.string Qqk,.int .i64 0,.int .i64 0,.bool false,.bool false,.int .i64 0,.int .i64 0,.int .i64 0,.slice none 0 0,.string Qqk,.string Qqk,.string Qqk,.slice none 0 0,.int .i64 0,.int .i64 0,.string Qqk,.int .i64 0,.int .i64 0,.bool false,.bool false,.int .i64 0,.int .i64 0,.int .i64 0,.slice none 0 0,.string Qqk,.string Qqk,.string Qqk,.slice none 0 0,.int .i64 0,.int .i64 0]) K5 (by simp [fill,ZC]))
def Znq:(∀ v0:Vl,v0.oneCell'=true→opV Pg (buildSlice 94 1 #[(0,v0)]) QP w k=k (.slice (some ⟨w.heap.size,0,none⟩) 1 1) (w.alloc (.cells #[v0] 9))):=(by intro v0 hv0;exact Z7 underlying94 ty9 K7 (base := #[.string Qqk]) K5 (by simp [fill,ZC,Zn hv0]))
def Znr:(∀ v0 v1:Vl,v0.oneCell'=true→v1.oneCell'=true→opV Pg (buildSlice 94 2 #[(0,v0),(1,v1)]) QP w k=k (.slice (some ⟨w.heap.size,0,none⟩) 2 2) (w.alloc (.cells #[v0,v1] 9))):=(by intro v0 v1 hv0 hv1;exact Z7 underlying94 ty9 K7 (base := #[.string Qqk,.string Qqk]) K5 (by simp [fill,ZC,Zn hv0,Zn hv1]))
def Zns:(∀ v0 v1 v2:Vl,v0.oneCell'=true→v1.oneCell'=true→v2.oneCell'=true→opV Pg (buildSlice 94 3 #[(0,v0),(1,v1),(2,v2)]) QP w k=k (.slice (some ⟨w.heap.size,0,none⟩) 3 3) (w.alloc (.cells #[v0,v1,v2] 9))):=(by intro v0 v1 v2 hv0 hv1 hv2;exact Z7 underlying94 ty9 K7 (base := #[.string Qqk,.string Qqk,.string Qqk]) K5 (by simp [fill,ZC,Zn hv0,Zn hv1,Zn hv2]))
def Znt:(∀ v0 v1 v2 v3:Vl,v0.oneCell'=true→v1.oneCell'=true→v2.oneCell'=true→v3.oneCell'=true→opV Pg (buildSlice 94 4 #[(0,v0),(1,v1),(2,v2),(3,v3)]) QP w k=k (.slice (some ⟨w.heap.size,0,none⟩) 4 4) (w.alloc (.cells #[v0,v1,v2,v3] 9))):=(by intro v0 v1 v2 v3 hv0 hv1 hv2 hv3;exact Z7 underlying94 ty9 K7 (base := #[.string Qqk,.string Qqk,.string Qqk,.string Qqk]) K5 (by simp [fill,ZC,Zn hv0,Zn hv1,Zn hv2,Zn hv3]))
def Znu:(∀ v0 v1 v2 v3 v4 v5 v6 v7:Vl,v0.oneCell'=true→v1.oneCell'=true→v2.oneCell'=true→v3.oneCell'=true→v4.oneCell'=true→v5.oneCell'=true→v6.oneCell'=true→v7.oneCell'=true→opV Pg (buildSlice 94 8 #[(0,v0),(1,v1),(2,v2),(3,v3),(4,v4),(5,v5),(6,v6),(7,v7)]) QP w k=k (.slice (some ⟨w.heap.size,0,none⟩) 8 8) (w.alloc (.cells #[v0,v1,v2,v3,v4,v5,v6,v7] 9))):=(by intro v0 v1 v2 v3 v4 v5 v6 v7 hv0 hv1 hv2 hv3 hv4 hv5 hv6 hv7;exact Z7 underlying94 ty9 K7 (base := #[.string Qqk,.string Qqk,.string Qqk,.string Qqk,.string Qqk,.string Qqk,.string Qqk,.string Qqk]) K5 (by simp [fill,ZC,Zn hv0,Zn hv1,Zn hv2,Zn hv3,Zn hv4,Zn hv5,Zn hv6,Zn hv7]))
def Znv:(∀ v0 v1 v2 v3 v4 v5 v6 v7 v8 v9 v10 v11 v12:Vl,v0.oneCell'=true→v1.oneCell'=true→v2.oneCell'=true→v3.oneCell'=true→v4.oneCell'=true→v5.oneCell'=true→v6.oneCell'=true→v7.oneCell'=true→v8.oneCell'=true→v9.oneCell'=true→v10.oneCell'=true→v11.oneCell'=true→v12.oneCell'=true→opV Pg (buildSlice 94 13 #[(0,v0),(1,v1),(2,v2),(3,v3),(4,v4),(5,v5),(6,v6),(7,v7),(8,v8),(9,v9),(10,v10),(11,v11),(12,v12)]) QP w k=k (.slice (some ⟨w.heap.size,0,none⟩) 13 13) (w.alloc (.cells #[v0,v1,v2,v3,v4,v5,v6,v7,v8,v9,v10,v11,v12] 9))):=(by intro v0 v1 v2 v3 v4 v5 v6 v7 v8 v9 v10 v11 v12 hv0 hv1 hv2 hv3 hv4 hv5 hv6 hv7 hv8 hv9 hv10 hv11 hv12;exact Z7 underlying94 ty9 K7 (base := #[.string Qqk,.string Qqk,.string Qqk,.string Qqk,.string Qqk,.string Qqk,.string Qqk,.string Qqk,.string Qqk,.string Qqk,.string Qqk,.string Qqk,.string Qqk]) K5 (by simp [fill,ZC,Zn hv0,Zn hv1,Zn hv2,Zn hv3,Zn hv4,Zn hv5,Zn hv6,Zn hv7,Zn hv8,Zn hv9,Zn hv10,Zn hv11,Zn hv12]))
def Znw:(opV Pg (buildSlice 118 0 #[]) QP w k=k (.slice (some ⟨w.heap.size,0,none⟩) 0 0) (w.alloc (.cells #[] 128))):=(by exact Z7 underlying118 GQ K7 (base := #[]) K5 (by simp [fill,ZC]))
def Znx:(∀ v0_0 v0_1:Vl,opV Pg (buildSlice 118 1 #[(0,(.agg #[v0_0,v0_1]))]) QP w k=k (.slice (some ⟨w.heap.size,0,none⟩) 1 1) (w.alloc (.cells #[v0_0,v0_1] 128))):=(by intro v0_0 v0_1;exact Z7 underlying118 GQ K7 (base := #[.string Qqk,.int .i64 0]) K5 (by simp [fill,ZC]))
def Zny:(∀ v0 v1:Vl,v0.oneCell'=true→v1.oneCell'=true→opV Pg (buildSlice 170 2 #[(0,v0),(1,v1)]) QP w k=k (.slice (some ⟨w.heap.size,0,none⟩) 2 2) (w.alloc (.cells #[v0,v1] 4))):=(by intro v0 v1 hv0 hv1;exact Z7 underlying170 ty4 K7 (base := #[.bool false,.bool false]) K5 (by simp [fill,ZC,Zn hv0,Zn hv1]))
def Znz:(∀ v0 v1 v2:Vl,v0.oneCell'=true→v1.oneCell'=true→v2.oneCell'=true→opV Pg (buildSlice 170 3 #[(0,v0),(1,v1),(2,v2)]) QP w k=k (.slice (some ⟨w.heap.size,0,none⟩) 3 3) (w.alloc (.cells #[v0,v1,v2] 4))):=(by intro v0 v1 v2 hv0 hv1 hv2;exact Z7 underlying170 ty4 K7 (base := #[.bool false,.bool false,.bool false]) K5 (by simp [fill,ZC,Zn hv0,Zn hv1,Zn hv2]))
def ZiR:(∀ q n,opV Pg (Go.convert 3 5 (.int q n)) QP w k=k (.int .u8 (IntKind.u8.wrap n)) w):=(W9 (by rw [underlying3];rfl) underlying5)
def ZnA:(∀ q n,opV Pg (Go.convert 3 191 (.int q n)) QP w k=k (.int .u64 (IntKind.u64.wrap n)) w):=(W9 (by rw [underlying3];rfl) underlying191)
def ZnB:(∀ q n,opV Pg (Go.convert 3 197 (.int q n)) QP w k=k (.int .u64 (IntKind.u64.wrap n)) w):=(W9 (by rw [underlying3];rfl) underlying197)
def ZnC:(∀ q n,opV Pg (Go.convert 5 3 (.int q n)) QP w k=k (.int .i64 (IntKind.i64.wrap n)) w):=(W9 (by rw [underlying5];rfl) underlying3)
def ZnD:(∀ q n,opV Pg (Go.convert 5 191 (.int q n)) QP w k=k (.int .u64 (IntKind.u64.wrap n)) w):=(W9 (by rw [underlying5];rfl) underlying191)
def ZnE:(∀ q n,opV Pg (Go.convert 191 5 (.int q n)) QP w k=k (.int .u8 (IntKind.u8.wrap n)) w):=(W9 (by rw [underlying191];rfl) underlying5)
def ZnF:(∀ v,opV Pg (makeInterface 82 v) QP w k=k (.iface 82 v) w):=(Bx underlying82 rfl)
def ZnG:(∀ v,opV Pg (makeInterface 131 v) QP w k=k (.iface 131 v) w):=(Bx underlying131 rfl)
def ZnH:(∀ v,opV Pg (makeInterface 239 v) QP w k=k (.iface 239 v) w):=(Bx underlying239 rfl)
def ZnI:(∀ c (a0 b0:Int) (a1 b1:Int) (a2 b2:Int),opV Pg (ZA .neq 34 c (.agg #[.int .i64 a0,.int .i64 a1,.int .i64 a2]) (.agg #[.int .i64 b0,.int .i64 b1,.int .i64 b2])) QP w k=k (.bool (!(decide (a0=b0)&&(decide (a1=b1)&&(decide (a2=b2)&&true))))) w):=(by intro c a0 b0 a1 b1 a2 b2;exact yQ K5 (λ w=>Zks a0 b0 a1 b1 a2 b2) c)
def ZnJ:(∀ c (a0 b0:Int) (a1 b1:Int) (a2 b2:Int),opV Pg (ZA .neq 78 c (.agg #[.int .i64 a0,.int .i64 a1,.int .i64 a2]) (.agg #[.int .i64 b0,.int .i64 b1,.int .i64 b2])) QP w k=k (.bool (!(decide (a0=b0)&&(decide (a1=b1)&&(decide (a2=b2)&&true))))) w):=(by intro c a0 b0 a1 b1 a2 b2;exact yQ K5 (λ w=>Zkt a0 b0 a1 b1 a2 b2) c)
def ZnK:(∀ c A n m,opV Pg (ZA .eql 118 c (.slice A n m) (.slice none 0 0)) QP w k=k (.bool A.isNone) w):=(Oy underlying118)
def ZnL:(∀ c (a0 b0:BAr) (a1 b1:Int),opV Pg (ZA .neq 128 c (.agg #[.string a0,.int .i64 a1]) (.agg #[.string b0,.int .i64 b1])) QP w k=k (.bool (!(decide (a0=b0)&&(decide (a1=b1)&&true)))) w):=(by intro c a0 b0 a1 b1;exact yQ K5 (λ w=>ZfP a0 b0 a1 b1) c)
def ZnM:(∀ d v,opV Pg (ZA .neq 162 true (.iface d v) .nilIface) QP w k=k (.bool true) w):=(Ue underlying162)
def ZnN:(opV Pg (ZA .neq 162 true .nilIface .nilIface) QP w k=k (.bool false) w):=(Ud underlying162)
def ZnO:(∀ c (a0 b0:Int) (a1 b1:Int) (a2 b2:BAr),opV Pg (ZA .neq 213 c (.agg #[.int .i64 a0,.int .i64 a1,.string a2]) (.agg #[.int .i64 b0,.int .i64 b1,.string b2])) QP w k=k (.bool (!(decide (a0=b0)&&(decide (a1=b1)&&(decide (a2=b2)&&true))))) w):=(by intro c a0 b0 a1 b1 a2 b2;exact yQ K5 (λ w=>ZfQ a0 b0 a1 b1 a2 b2) c)
def ZnP:(∀ c (a0 b0:BAr) (a1 b1:BAr) (a2 b2:BAr) (a3 b3:BAr) (a4 b4:Int) (a5 b5:Int) (a6 b6:Int) (a7 b7:Int) (a8 b8:Int) (a9 b9:Int) (a10 b10:Int) (a11 b11:Bool) (a12 b12:Bool),opV Pg (ZA .eql 287 c (.agg #[.string a0,.string a1,.string a2,.string a3,.int .i64 a4,.int .i64 a5,.int .i64 a6,.int .i64 a7,.int .i64 a8,.int .i64 a9,.int .i64 a10,.bool a11,.bool a12]) (.agg #[.string b0,.string b1,.string b2,.string b3,.int .i64 b4,.int .i64 b5,.int .i64 b6,.int .i64 b7,.int .i64 b8,.int .i64 b9,.int .i64 b10,.bool b11,.bool b12])) QP w k=k (.bool (decide (a0=b0)&&(decide (a1=b1)&&(decide (a2=b2)&&(decide (a3=b3)&&(decide (a4=b4)&&(decide (a5=b5)&&(decide (a6=b6)&&(decide (a7=b7)&&(decide (a8=b8)&&(decide (a9=b9)&&(decide (a10=b10)&&(decide (a11=b11)&&(decide (a12=b12)&&true)))))))))))))) w):=(by intro c a0 b0 a1 b1 a2 b2 a3 b3 a4 b4 a5 b5 a6 b6 a7 b7 a8 b8 a9 b9 a10 b10 a11 b11 a12 b12;exact Tj K5 (λ w=>ZfR a0 b0 a1 b1 a2 b2 a3 b3 a4 b4 a5 b5 a6 b6 a7 b7 a8 b8 a9 b9 a10 b10 a11 b11 a12 b12) c)
end
def Yt {P:Program} {C:WPr} [Yk C] {k:Vl→Prop} {s:Nat→Nat→Sem Vl} {v:Nat→Nat→Vl} (h:∀ QP w k b o,opV P (s b o) QP w k=k (v b o) w) (b o:Nat):qV P C (s b o) k=k (v b o):=Yc λ QP w k=>h QP w k b o
def Zjb {QP:PEn} {w:Wd} {ku:WPr}:=Qqz (Xi (QP:=QP) (w:=w) (ku:=ku) ty3)<|Qqz (Xi (QP:=QP) (w:=w) (ku:=ku) ty4)<|Qqz (Xi (QP:=QP) (w:=w) (ku:=ku) ty5)<|Qqz (Xi (QP:=QP) (w:=w) (ku:=ku) ty9)<|Qqz (Xi (QP:=QP) (w:=w) (ku:=ku) Iq)<|Qqz (Xi (QP:=QP) (w:=w) (ku:=ku) CE)<|Qqz (Xi (QP:=QP) (w:=w) (ku:=ku) jC)<|Qqz (Xi (QP:=QP) (w:=w) (ku:=ku) B2)<|Qqz ((by intro b T' u0 u1 u2 u3 u4 u5 u6 v0 v1 v2 v3 v4 v5 v6 hb h0 h1 h2 h3 h4 h5 h6;exact qd Vr b hb _ T' _ rfl rfl (by intro v hv;simp only [List.mem_cons,List.not_mem_nil,or_false] at hv;rcases hv with rfl | rfl | rfl | rfl | rfl | rfl | rfl<;>assumption)):(∀ (b:Nat) (T':TypeId) u0 u1 u2 u3 u4 u5 u6 v0 v1 v2 v3 v4 v5 v6,b=w.heap.size→v0.oneCell'=true→v1.oneCell'=true→v2.oneCell'=true→v3.oneCell'=true→v4.oneCell'=true→v5.oneCell'=true→v6.oneCell'=true→opU Pg (storeAt 43 (Qq5 b) (.agg #[v0,v1,v2,v3,v4,v5,v6])) QP (w.alloc (.cells #[u0,u1,u2,u3,u4,u5,u6] T')) ku=ku (w.alloc (.cells #[v0,v1,v2,v3,v4,v5,v6] T'))))<|Qqz (Xi (QP:=QP) (w:=w) (ku:=ku) Ze7)<|Qqz (Xi (QP:=QP) (w:=w) (ku:=ku) MK)<|Qqz (Xi (QP:=QP) (w:=w) (ku:=ku) Ze8)<|Qqz (Xi (QP:=QP) (w:=w) (ku:=ku) ZbB)<|Qqz (Xi (QP:=QP) (w:=w) (ku:=ku) BZ)<|Qqz (Xi (QP:=QP) (w:=w) (ku:=ku) jq)<|Qqz ((by intro b T' u0 u1 u2 u3 u4 u5 u6 u7 u8 u9 u10 u11 u12 u13 u14 v0 v1 v2 v3 v4 v5 v6 v7 v8 v9 v10 v11 v12 v13 v14 hb h0 h1 h2 h3 h4 h5 h6 h7 h8 h9 h10 h11 h12 h13 h14;exact qd Vq b hb _ T' _ rfl rfl (by intro v hv;simp only [List.mem_cons,List.not_mem_nil,or_false] at hv;rcases hv with rfl | rfl | rfl | rfl | rfl | rfl | rfl | rfl | rfl | rfl | rfl | rfl | rfl | rfl | rfl<;>assumption)):(∀ (b:Nat) (T':TypeId) u0 u1 u2 u3 u4 u5 u6 u7 u8 u9 u10 u11 u12 u13 u14 v0 v1 v2 v3 v4 v5 v6 v7 v8 v9 v10 v11 v12 v13 v14,b=w.heap.size→v0.oneCell'=true→v1.oneCell'=true→v2.oneCell'=true→v3.oneCell'=true→v4.oneCell'=true→v5.oneCell'=true→v6.oneCell'=true→v7.oneCell'=true→v8.oneCell'=true→v9.oneCell'=true→v10.oneCell'=true→v11.oneCell'=true→v12.oneCell'=true→v13.oneCell'=true→v14.oneCell'=true→opU Pg (storeAt 123 (Qq5 b) (.agg #[v0,v1,v2,v3,v4,v5,v6,v7,v8,v9,v10,v11,v12,v13,v14])) QP (w.alloc (.cells #[u0,u1,u2,u3,u4,u5,u6,u7,u8,u9,u10,u11,u12,u13,u14] T')) ku=ku (w.alloc (.cells #[v0,v1,v2,v3,v4,v5,v6,v7,v8,v9,v10,v11,v12,v13,v14] T'))))<|Qqz (Xi (QP:=QP) (w:=w) (ku:=ku) B1)<|Qqz ((by intro b T' u0 u1 u2 u3 u4 u5 u6 u7 u8 u9 u10 u11 u12 v0 v1 v2 v3 v4 v5 v6 v7 v8 v9 v10 v11 v12 hb h0 h1 h2 h3 h4 h5 h6 h7 h8 h9 h10 h11 h12;exact qd NF b hb _ T' _ rfl rfl (by intro v hv;simp only [List.mem_cons,List.not_mem_nil,or_false] at hv;rcases hv with rfl | rfl | rfl | rfl | rfl | rfl | rfl | rfl | rfl | rfl | rfl | rfl | rfl<;>assumption)):(∀ (b:Nat) (T':TypeId) u0 u1 u2 u3 u4 u5 u6 u7 u8 u9 u10 u11 u12 v0 v1 v2 v3 v4 v5 v6 v7 v8 v9 v10 v11 v12,b=w.heap.size→v0.oneCell'=true→v1.oneCell'=true→v2.oneCell'=true→v3.oneCell'=true→v4.oneCell'=true→v5.oneCell'=true→v6.oneCell'=true→v7.oneCell'=true→v8.oneCell'=true→v9.oneCell'=true→v10.oneCell'=true→v11.oneCell'=true→v12.oneCell'=true→opU Pg (storeAt 287 (Qq5 b) (.agg #[v0,v1,v2,v3,v4,v5,v6,v7,v8,v9,v10,v11,v12])) QP (w.alloc (.cells #[u0,u1,u2,u3,u4,u5,u6,u7,u8,u9,u10,u11,u12] T')) ku=ku (w.alloc (.cells #[v0,v1,v2,v3,v4,v5,v6,v7,v8,v9,v10,v11,v12] T'))))<|(Xi (QP:=QP) (w:=w) (ku:=ku) Zac)
def Zi5 {QP:PEn} {w:Wd} {ku:WPr}:=Qqz ((by intro b o v0 v1 h0 h1;exact Xv CC b o _ rfl (by intro v hv;simp only [List.mem_cons,List.not_mem_nil,or_false] at hv;rcases hv with rfl | rfl<;>assumption) _ rfl _ rfl):(∀ b o v0 v1,v0.oneCell'=true→v1.oneCell'=true→opU Pg (storeAt 24 (.pointer (some ⟨b,o,none⟩)) (.agg #[v0,v1])) QP w ku=ZO [w.cell? ⟨b,o,none⟩,w.cell? ⟨b,o+1,none⟩] (λ _=>XM [w.frozen? ⟨b,o,none⟩,w.frozen? ⟨b,o+1,none⟩] (ku ((w.setCell ⟨b,o,none⟩ v0).setCell ⟨b,o+1,none⟩ v1)) (Q5 Pg (storeAt 24 (.pointer (some ⟨b,o,none⟩)) (.agg #[v0,v1])) QP w ku)) (Q5 Pg (storeAt 24 (.pointer (some ⟨b,o,none⟩)) (.agg #[v0,v1])) QP w ku)))<|Qqz ((by intro b o v0 v1 v2 h0 h1 h2;exact Xv CD b o _ rfl (by intro v hv;simp only [List.mem_cons,List.not_mem_nil,or_false] at hv;rcases hv with rfl | rfl | rfl<;>assumption) _ rfl _ rfl):(∀ b o v0 v1 v2,v0.oneCell'=true→v1.oneCell'=true→v2.oneCell'=true→opU Pg (storeAt 27 (.pointer (some ⟨b,o,none⟩)) (.agg #[v0,v1,v2])) QP w ku=ZO [w.cell? ⟨b,o,none⟩,w.cell? ⟨b,o+1,none⟩,w.cell? ⟨b,o+2,none⟩] (λ _=>XM [w.frozen? ⟨b,o,none⟩,w.frozen? ⟨b,o+1,none⟩,w.frozen? ⟨b,o+2,none⟩] (ku (((w.setCell ⟨b,o,none⟩ v0).setCell ⟨b,o+1,none⟩ v1).setCell ⟨b,o+2,none⟩ v2)) (Q5 Pg (storeAt 27 (.pointer (some ⟨b,o,none⟩)) (.agg #[v0,v1,v2])) QP w ku)) (Q5 Pg (storeAt 27 (.pointer (some ⟨b,o,none⟩)) (.agg #[v0,v1,v2])) QP w ku)))<|Qqz ((by intro b o v0 v1 v2 h0 h1 h2;exact Xv MJ b o _ rfl (by intro v hv;simp only [List.mem_cons,List.not_mem_nil,or_false] at hv;rcases hv with rfl | rfl | rfl<;>assumption) _ rfl _ rfl):(∀ b o v0 v1 v2,v0.oneCell'=true→v1.oneCell'=true→v2.oneCell'=true→opU Pg (storeAt 34 (.pointer (some ⟨b,o,none⟩)) (.agg #[v0,v1,v2])) QP w ku=ZO [w.cell? ⟨b,o,none⟩,w.cell? ⟨b,o+1,none⟩,w.cell? ⟨b,o+2,none⟩] (λ _=>XM [w.frozen? ⟨b,o,none⟩,w.frozen? ⟨b,o+1,none⟩,w.frozen? ⟨b,o+2,none⟩] (ku (((w.setCell ⟨b,o,none⟩ v0).setCell ⟨b,o+1,none⟩ v1).setCell ⟨b,o+2,none⟩ v2)) (Q5 Pg (storeAt 34 (.pointer (some ⟨b,o,none⟩)) (.agg #[v0,v1,v2])) QP w ku)) (Q5 Pg (storeAt 34 (.pointer (some ⟨b,o,none⟩)) (.agg #[v0,v1,v2])) QP w ku)))<|Qqz ((by intro b o v0 v1 v2 h0 h1 h2;exact Xv qp b o _ rfl (by intro v hv;simp only [List.mem_cons,List.not_mem_nil,or_false] at hv;rcases hv with rfl | rfl | rfl<;>assumption) _ rfl _ rfl):(∀ b o v0 v1 v2,v0.oneCell'=true→v1.oneCell'=true→v2.oneCell'=true→opU Pg (storeAt 60 (.pointer (some ⟨b,o,none⟩)) (.agg #[v0,v1,v2])) QP w ku=ZO [w.cell? ⟨b,o,none⟩,w.cell? ⟨b,o+1,none⟩,w.cell? ⟨b,o+2,none⟩] (λ _=>XM [w.frozen? ⟨b,o,none⟩,w.frozen? ⟨b,o+1,none⟩,w.frozen? ⟨b,o+2,none⟩] (ku (((w.setCell ⟨b,o,none⟩ v0).setCell ⟨b,o+1,none⟩ v1).setCell ⟨b,o+2,none⟩ v2)) (Q5 Pg (storeAt 60 (.pointer (some ⟨b,o,none⟩)) (.agg #[v0,v1,v2])) QP w ku)) (Q5 Pg (storeAt 60 (.pointer (some ⟨b,o,none⟩)) (.agg #[v0,v1,v2])) QP w ku)))<|Qqz ((by intro b o v0 v1 h0 h1;exact Xv qq b o _ rfl (by intro v hv;simp only [List.mem_cons,List.not_mem_nil,or_false] at hv;rcases hv with rfl | rfl<;>assumption) _ rfl _ rfl):(∀ b o v0 v1,v0.oneCell'=true→v1.oneCell'=true→opU Pg (storeAt 74 (.pointer (some ⟨b,o,none⟩)) (.agg #[v0,v1])) QP w ku=ZO [w.cell? ⟨b,o,none⟩,w.cell? ⟨b,o+1,none⟩] (λ _=>XM [w.frozen? ⟨b,o,none⟩,w.frozen? ⟨b,o+1,none⟩] (ku ((w.setCell ⟨b,o,none⟩ v0).setCell ⟨b,o+1,none⟩ v1)) (Q5 Pg (storeAt 74 (.pointer (some ⟨b,o,none⟩)) (.agg #[v0,v1])) QP w ku)) (Q5 Pg (storeAt 74 (.pointer (some ⟨b,o,none⟩)) (.agg #[v0,v1])) QP w ku)))<|Qqz ((by intro b o v0 v1 v2 h0 h1 h2;exact Xv Fv b o _ rfl (by intro v hv;simp only [List.mem_cons,List.not_mem_nil,or_false] at hv;rcases hv with rfl | rfl | rfl<;>assumption) _ rfl _ rfl):(∀ b o v0 v1 v2,v0.oneCell'=true→v1.oneCell'=true→v2.oneCell'=true→opU Pg (storeAt 78 (.pointer (some ⟨b,o,none⟩)) (.agg #[v0,v1,v2])) QP w ku=ZO [w.cell? ⟨b,o,none⟩,w.cell? ⟨b,o+1,none⟩,w.cell? ⟨b,o+2,none⟩] (λ _=>XM [w.frozen? ⟨b,o,none⟩,w.frozen? ⟨b,o+1,none⟩,w.frozen? ⟨b,o+2,none⟩] (ku (((w.setCell ⟨b,o,none⟩ v0).setCell ⟨b,o+1,none⟩ v1).setCell ⟨b,o+2,none⟩ v2)) (Q5 Pg (storeAt 78 (.pointer (some ⟨b,o,none⟩)) (.agg #[v0,v1,v2])) QP w ku)) (Q5 Pg (storeAt 78 (.pointer (some ⟨b,o,none⟩)) (.agg #[v0,v1,v2])) QP w ku)))<|Qqz ((by intro b o v0 v1 v2 v3 v4 h0 h1 h2 h3 h4;exact Xv U8 b o _ rfl (by intro v hv;simp only [List.mem_cons,List.not_mem_nil,or_false] at hv;rcases hv with rfl | rfl | rfl | rfl | rfl<;>assumption) _ rfl _ rfl):(∀ b o v0 v1 v2 v3 v4,v0.oneCell'=true→v1.oneCell'=true→v2.oneCell'=true→v3.oneCell'=true→v4.oneCell'=true→opU Pg (storeAt 105 (.pointer (some ⟨b,o,none⟩)) (.agg #[v0,v1,v2,v3,v4])) QP w ku=ZO [w.cell? ⟨b,o,none⟩,w.cell? ⟨b,o+1,none⟩,w.cell? ⟨b,o+2,none⟩,w.cell? ⟨b,o+3,none⟩,w.cell? ⟨b,o+4,none⟩] (λ _=>XM [w.frozen? ⟨b,o,none⟩,w.frozen? ⟨b,o+1,none⟩,w.frozen? ⟨b,o+2,none⟩,w.frozen? ⟨b,o+3,none⟩,w.frozen? ⟨b,o+4,none⟩] (ku (((((w.setCell ⟨b,o,none⟩ v0).setCell ⟨b,o+1,none⟩ v1).setCell ⟨b,o+2,none⟩ v2).setCell ⟨b,o+3,none⟩ v3).setCell ⟨b,o+4,none⟩ v4)) (Q5 Pg (storeAt 105 (.pointer (some ⟨b,o,none⟩)) (.agg #[v0,v1,v2,v3,v4])) QP w ku)) (Q5 Pg (storeAt 105 (.pointer (some ⟨b,o,none⟩)) (.agg #[v0,v1,v2,v3,v4])) QP w ku)))<|Qqz ((by intro b o v0 v1 h0 h1;exact Xv GP b o _ rfl (by intro v hv;simp only [List.mem_cons,List.not_mem_nil,or_false] at hv;rcases hv with rfl | rfl<;>assumption) _ rfl _ rfl):(∀ b o v0 v1,v0.oneCell'=true→v1.oneCell'=true→opU Pg (storeAt 120 (.pointer (some ⟨b,o,none⟩)) (.agg #[v0,v1])) QP w ku=ZO [w.cell? ⟨b,o,none⟩,w.cell? ⟨b,o+1,none⟩] (λ _=>XM [w.frozen? ⟨b,o,none⟩,w.frozen? ⟨b,o+1,none⟩] (ku ((w.setCell ⟨b,o,none⟩ v0).setCell ⟨b,o+1,none⟩ v1)) (Q5 Pg (storeAt 120 (.pointer (some ⟨b,o,none⟩)) (.agg #[v0,v1])) QP w ku)) (Q5 Pg (storeAt 120 (.pointer (some ⟨b,o,none⟩)) (.agg #[v0,v1])) QP w ku)))<|Qqz ((by intro b o v0 v1 h0 h1;exact Xv GQ b o _ rfl (by intro v hv;simp only [List.mem_cons,List.not_mem_nil,or_false] at hv;rcases hv with rfl | rfl<;>assumption) _ rfl _ rfl):(∀ b o v0 v1,v0.oneCell'=true→v1.oneCell'=true→opU Pg (storeAt 128 (.pointer (some ⟨b,o,none⟩)) (.agg #[v0,v1])) QP w ku=ZO [w.cell? ⟨b,o,none⟩,w.cell? ⟨b,o+1,none⟩] (λ _=>XM [w.frozen? ⟨b,o,none⟩,w.frozen? ⟨b,o+1,none⟩] (ku ((w.setCell ⟨b,o,none⟩ v0).setCell ⟨b,o+1,none⟩ v1)) (Q5 Pg (storeAt 128 (.pointer (some ⟨b,o,none⟩)) (.agg #[v0,v1])) QP w ku)) (Q5 Pg (storeAt 128 (.pointer (some ⟨b,o,none⟩)) (.agg #[v0,v1])) QP w ku)))<|Qqz ((by intro b o v0 v1 v2 h0 h1 h2;exact Xv DU b o _ rfl (by intro v hv;simp only [List.mem_cons,List.not_mem_nil,or_false] at hv;rcases hv with rfl | rfl | rfl<;>assumption) _ rfl _ rfl):(∀ b o v0 v1 v2,v0.oneCell'=true→v1.oneCell'=true→v2.oneCell'=true→opU Pg (storeAt 131 (.pointer (some ⟨b,o,none⟩)) (.agg #[v0,v1,v2])) QP w ku=ZO [w.cell? ⟨b,o,none⟩,w.cell? ⟨b,o+1,none⟩,w.cell? ⟨b,o+2,none⟩] (λ _=>XM [w.frozen? ⟨b,o,none⟩,w.frozen? ⟨b,o+1,none⟩,w.frozen? ⟨b,o+2,none⟩] (ku (((w.setCell ⟨b,o,none⟩ v0).setCell ⟨b,o+1,none⟩ v1).setCell ⟨b,o+2,none⟩ v2)) (Q5 Pg (storeAt 131 (.pointer (some ⟨b,o,none⟩)) (.agg #[v0,v1,v2])) QP w ku)) (Q5 Pg (storeAt 131 (.pointer (some ⟨b,o,none⟩)) (.agg #[v0,v1,v2])) QP w ku)))<|Qqz ((by intro b o v0 v1 v2 h0 h1 h2;exact Xv Io b o _ rfl (by intro v hv;simp only [List.mem_cons,List.not_mem_nil,or_false] at hv;rcases hv with rfl | rfl | rfl<;>assumption) _ rfl _ rfl):(∀ b o v0 v1 v2,v0.oneCell'=true→v1.oneCell'=true→v2.oneCell'=true→opU Pg (storeAt 213 (.pointer (some ⟨b,o,none⟩)) (.agg #[v0,v1,v2])) QP w ku=ZO [w.cell? ⟨b,o,none⟩,w.cell? ⟨b,o+1,none⟩,w.cell? ⟨b,o+2,none⟩] (λ _=>XM [w.frozen? ⟨b,o,none⟩,w.frozen? ⟨b,o+1,none⟩,w.frozen? ⟨b,o+2,none⟩] (ku (((w.setCell ⟨b,o,none⟩ v0).setCell ⟨b,o+1,none⟩ v1).setCell ⟨b,o+2,none⟩ v2)) (Q5 Pg (storeAt 213 (.pointer (some ⟨b,o,none⟩)) (.agg #[v0,v1,v2])) QP w ku)) (Q5 Pg (storeAt 213 (.pointer (some ⟨b,o,none⟩)) (.agg #[v0,v1,v2])) QP w ku)))<|Qqz ((by intro b o v0 v1 h0 h1;exact Xv Ir b o _ rfl (by intro v hv;simp only [List.mem_cons,List.not_mem_nil,or_false] at hv;rcases hv with rfl | rfl<;>assumption) _ rfl _ rfl):(∀ b o v0 v1,v0.oneCell'=true→v1.oneCell'=true→opU Pg (storeAt 255 (.pointer (some ⟨b,o,none⟩)) (.agg #[v0,v1])) QP w ku=ZO [w.cell? ⟨b,o,none⟩,w.cell? ⟨b,o+1,none⟩] (λ _=>XM [w.frozen? ⟨b,o,none⟩,w.frozen? ⟨b,o+1,none⟩] (ku ((w.setCell ⟨b,o,none⟩ v0).setCell ⟨b,o+1,none⟩ v1)) (Q5 Pg (storeAt 255 (.pointer (some ⟨b,o,none⟩)) (.agg #[v0,v1])) QP w ku)) (Q5 Pg (storeAt 255 (.pointer (some ⟨b,o,none⟩)) (.agg #[v0,v1])) QP w ku)))<|Qqz ((by intro b o v0 v1 v2 h0 h1 h2;exact Xv ND b o _ rfl (by intro v hv;simp only [List.mem_cons,List.not_mem_nil,or_false] at hv;rcases hv with rfl | rfl | rfl<;>assumption) _ rfl _ rfl):(∀ b o v0 v1 v2,v0.oneCell'=true→v1.oneCell'=true→v2.oneCell'=true→opU Pg (storeAt 266 (.pointer (some ⟨b,o,none⟩)) (.agg #[v0,v1,v2])) QP w ku=ZO [w.cell? ⟨b,o,none⟩,w.cell? ⟨b,o+1,none⟩,w.cell? ⟨b,o+2,none⟩] (λ _=>XM [w.frozen? ⟨b,o,none⟩,w.frozen? ⟨b,o+1,none⟩,w.frozen? ⟨b,o+2,none⟩] (ku (((w.setCell ⟨b,o,none⟩ v0).setCell ⟨b,o+1,none⟩ v1).setCell ⟨b,o+2,none⟩ v2)) (Q5 Pg (storeAt 266 (.pointer (some ⟨b,o,none⟩)) (.agg #[v0,v1,v2])) QP w ku)) (Q5 Pg (storeAt 266 (.pointer (some ⟨b,o,none⟩)) (.agg #[v0,v1,v2])) QP w ku)))<|((by intro b o v0 v1 h0 h1;exact Xv UC b o _ rfl (by intro v hv;simp only [List.mem_cons,List.not_mem_nil,or_false] at hv;rcases hv with rfl | rfl<;>assumption) _ rfl _ rfl):(∀ b o v0 v1,v0.oneCell'=true→v1.oneCell'=true→opU Pg (storeAt 300 (.pointer (some ⟨b,o,none⟩)) (.agg #[v0,v1])) QP w ku=ZO [w.cell? ⟨b,o,none⟩,w.cell? ⟨b,o+1,none⟩] (λ _=>XM [w.frozen? ⟨b,o,none⟩,w.frozen? ⟨b,o+1,none⟩] (ku ((w.setCell ⟨b,o,none⟩ v0).setCell ⟨b,o+1,none⟩ v1)) (Q5 Pg (storeAt 300 (.pointer (some ⟨b,o,none⟩)) (.agg #[v0,v1])) QP w ku)) (Q5 Pg (storeAt 300 (.pointer (some ⟨b,o,none⟩)) (.agg #[v0,v1])) QP w ku)))
section
def Zjc {w:Wd} {k:Vl→Prop}:=Qqz (XP (w:=w) (k:=k) ty3)<|Qqz (Q6 (w:=w) (k:=k) ty3)<|Qqz (Q6 (w:=w) (k:=k) ty4)<|Qqz (XP (w:=w) (k:=k) ty5)<|Qqz (XP (w:=w) (k:=k) ty9)<|Qqz (Q6 (w:=w) (k:=k) ty9)<|Qqz (XP (w:=w) (k:=k) Iq)<|Qqz (Q6 (w:=w) (k:=k) Iq)<|Qqz ((by intro b o;exact Wj CC b o _ rfl):(∀ b o,qV Pg (EC w) (loadAt 24 (.pointer (some ⟨b,o,none⟩))) k=ZO [w.cell? ⟨b,o,none⟩,w.cell? ⟨b,o+1,none⟩] (λ vs=>k (.agg vs.toArray)) (qVx Pg (EC w) (loadAt 24 (.pointer (some ⟨b,o,none⟩))) k)))<|Qqz ((by intro b o;exact Wj CD b o _ rfl):(∀ b o,qV Pg (EC w) (loadAt 27 (.pointer (some ⟨b,o,none⟩))) k=ZO [w.cell? ⟨b,o,none⟩,w.cell? ⟨b,o+1,none⟩,w.cell? ⟨b,o+2,none⟩] (λ vs=>k (.agg vs.toArray)) (qVx Pg (EC w) (loadAt 27 (.pointer (some ⟨b,o,none⟩))) k)))<|Qqz (XP (w:=w) (k:=k) CE)<|Qqz (XP (w:=w) (k:=k) jC)<|Qqz (XP (w:=w) (k:=k) B2)<|Qqz (Q6 (w:=w) (k:=k) B2)<|Qqz ((by intro b o;exact Wj Vr b o _ rfl):(∀ b o,qV Pg (EC w) (loadAt 43 (.pointer (some ⟨b,o,none⟩))) k=ZO [w.cell? ⟨b,o,none⟩,w.cell? ⟨b,o+1,none⟩,w.cell? ⟨b,o+2,none⟩,w.cell? ⟨b,o+3,none⟩,w.cell? ⟨b,o+4,none⟩,w.cell? ⟨b,o+5,none⟩,w.cell? ⟨b,o+6,none⟩] (λ vs=>k (.agg vs.toArray)) (qVx Pg (EC w) (loadAt 43 (.pointer (some ⟨b,o,none⟩))) k)))<|Qqz (XP (w:=w) (k:=k) MK)<|Qqz (Q6 (w:=w) (k:=k) MK)<|Qqz ((by intro b o;exact Wj qp b o _ rfl):(∀ b o,qV Pg (EC w) (loadAt 60 (.pointer (some ⟨b,o,none⟩))) k=ZO [w.cell? ⟨b,o,none⟩,w.cell? ⟨b,o+1,none⟩,w.cell? ⟨b,o+2,none⟩] (λ vs=>k (.agg vs.toArray)) (qVx Pg (EC w) (loadAt 60 (.pointer (some ⟨b,o,none⟩))) k)))<|Qqz (XP (w:=w) (k:=k) O2)<|Qqz ((by intro b o;exact Wj qq b o _ rfl):(∀ b o,qV Pg (EC w) (loadAt 74 (.pointer (some ⟨b,o,none⟩))) k=ZO [w.cell? ⟨b,o,none⟩,w.cell? ⟨b,o+1,none⟩] (λ vs=>k (.agg vs.toArray)) (qVx Pg (EC w) (loadAt 74 (.pointer (some ⟨b,o,none⟩))) k)))<|Qqz ((by intro b o;exact Wj Fv b o _ rfl):(∀ b o,qV Pg (EC w) (loadAt 78 (.pointer (some ⟨b,o,none⟩))) k=ZO [w.cell? ⟨b,o,none⟩,w.cell? ⟨b,o+1,none⟩,w.cell? ⟨b,o+2,none⟩] (λ vs=>k (.agg vs.toArray)) (qVx Pg (EC w) (loadAt 78 (.pointer (some ⟨b,o,none⟩))) k)))<|(XP (w:=w) (k:=k) GO)
def Zjd {w:Wd} {k:Vl→Prop}:=Qqz (XP (w:=w) (k:=k) BZ)<|Qqz ((by intro b o;exact Wj GP b o _ rfl):(∀ b o,qV Pg (EC w) (loadAt 120 (.pointer (some ⟨b,o,none⟩))) k=ZO [w.cell? ⟨b,o,none⟩,w.cell? ⟨b,o+1,none⟩] (λ vs=>k (.agg vs.toArray)) (qVx Pg (EC w) (loadAt 120 (.pointer (some ⟨b,o,none⟩))) k)))<|Qqz (XP (w:=w) (k:=k) jq)<|Qqz ((by intro b o;exact Wj Vq b o _ rfl):(∀ b o,qV Pg (EC w) (loadAt 123 (.pointer (some ⟨b,o,none⟩))) k=ZO [w.cell? ⟨b,o,none⟩,w.cell? ⟨b,o+1,none⟩,w.cell? ⟨b,o+2,none⟩,w.cell? ⟨b,o+3,none⟩,w.cell? ⟨b,o+4,none⟩,w.cell? ⟨b,o+5,none⟩,w.cell? ⟨b,o+6,none⟩,w.cell? ⟨b,o+7,none⟩,w.cell? ⟨b,o+8,none⟩,w.cell? ⟨b,o+9,none⟩,w.cell? ⟨b,o+10,none⟩,w.cell? ⟨b,o+11,none⟩,w.cell? ⟨b,o+12,none⟩,w.cell? ⟨b,o+13,none⟩,w.cell? ⟨b,o+14,none⟩] (λ vs=>k (.agg vs.toArray)) (qVx Pg (EC w) (loadAt 123 (.pointer (some ⟨b,o,none⟩))) k)))<|Qqz ((by intro b o;exact Wj GQ b o _ rfl):(∀ b o,qV Pg (EC w) (loadAt 128 (.pointer (some ⟨b,o,none⟩))) k=ZO [w.cell? ⟨b,o,none⟩,w.cell? ⟨b,o+1,none⟩] (λ vs=>k (.agg vs.toArray)) (qVx Pg (EC w) (loadAt 128 (.pointer (some ⟨b,o,none⟩))) k)))<|Qqz (XP (w:=w) (k:=k) T9)<|Qqz (Q6 (w:=w) (k:=k) T9)<|Qqz (XP (w:=w) (k:=k) Im)<|Qqz (Q6 (w:=w) (k:=k) Im)<|Qqz (XP (w:=w) (k:=k) B1)<|Qqz (Q6 (w:=w) (k:=k) B1)<|Qqz ((by intro b o;exact Wj Io b o _ rfl):(∀ b o,qV Pg (EC w) (loadAt 213 (.pointer (some ⟨b,o,none⟩))) k=ZO [w.cell? ⟨b,o,none⟩,w.cell? ⟨b,o+1,none⟩,w.cell? ⟨b,o+2,none⟩] (λ vs=>k (.agg vs.toArray)) (qVx Pg (EC w) (loadAt 213 (.pointer (some ⟨b,o,none⟩))) k)))<|Qqz (BE (w:=w) (k:=k) ty4)<|Qqz ((by intro b o;exact Wk CC b o _ rfl):(∀ b o,qW Pg 24 (.pointer (some ⟨b,o,none⟩)) w k=ZO [w.cell? ⟨b,o,none⟩,w.cell? ⟨b,o+1,none⟩] (λ vs=>k (.agg vs.toArray)) (qWx Pg 24 (.pointer (some ⟨b,o,none⟩)) w k)))<|Qqz ((by intro b o;exact Wk CD b o _ rfl):(∀ b o,qW Pg 27 (.pointer (some ⟨b,o,none⟩)) w k=ZO [w.cell? ⟨b,o,none⟩,w.cell? ⟨b,o+1,none⟩,w.cell? ⟨b,o+2,none⟩] (λ vs=>k (.agg vs.toArray)) (qWx Pg 27 (.pointer (some ⟨b,o,none⟩)) w k)))<|Qqz ((by intro b o;exact Wk MJ b o _ rfl):(∀ b o,qW Pg 34 (.pointer (some ⟨b,o,none⟩)) w k=ZO [w.cell? ⟨b,o,none⟩,w.cell? ⟨b,o+1,none⟩,w.cell? ⟨b,o+2,none⟩] (λ vs=>k (.agg vs.toArray)) (qWx Pg 34 (.pointer (some ⟨b,o,none⟩)) w k)))<|Qqz (BE (w:=w) (k:=k) jC)<|((by intro b o;exact Wk Vr b o _ rfl):(∀ b o,qW Pg 43 (.pointer (some ⟨b,o,none⟩)) w k=ZO [w.cell? ⟨b,o,none⟩,w.cell? ⟨b,o+1,none⟩,w.cell? ⟨b,o+2,none⟩,w.cell? ⟨b,o+3,none⟩,w.cell? ⟨b,o+4,none⟩,w.cell? ⟨b,o+5,none⟩,w.cell? ⟨b,o+6,none⟩] (λ vs=>k (.agg vs.toArray)) (qWx Pg 43 (.pointer (some ⟨b,o,none⟩)) w k)))
def Zje {w:Wd} {k:Vl→Prop}:=Qqz (BE (w:=w) (k:=k) Ze7)<|Qqz ((by intro b o;exact Wk qq b o _ rfl):(∀ b o,qW Pg 74 (.pointer (some ⟨b,o,none⟩)) w k=ZO [w.cell? ⟨b,o,none⟩,w.cell? ⟨b,o+1,none⟩] (λ vs=>k (.agg vs.toArray)) (qWx Pg 74 (.pointer (some ⟨b,o,none⟩)) w k)))<|Qqz ((by intro b o;exact Wk Fv b o _ rfl):(∀ b o,qW Pg 78 (.pointer (some ⟨b,o,none⟩)) w k=ZO [w.cell? ⟨b,o,none⟩,w.cell? ⟨b,o+1,none⟩,w.cell? ⟨b,o+2,none⟩] (λ vs=>k (.agg vs.toArray)) (qWx Pg 78 (.pointer (some ⟨b,o,none⟩)) w k)))<|Qqz ((by intro b o;exact Wk Vq b o _ rfl):(∀ b o,qW Pg 123 (.pointer (some ⟨b,o,none⟩)) w k=ZO [w.cell? ⟨b,o,none⟩,w.cell? ⟨b,o+1,none⟩,w.cell? ⟨b,o+2,none⟩,w.cell? ⟨b,o+3,none⟩,w.cell? ⟨b,o+4,none⟩,w.cell? ⟨b,o+5,none⟩,w.cell? ⟨b,o+6,none⟩,w.cell? ⟨b,o+7,none⟩,w.cell? ⟨b,o+8,none⟩,w.cell? ⟨b,o+9,none⟩,w.cell? ⟨b,o+10,none⟩,w.cell? ⟨b,o+11,none⟩,w.cell? ⟨b,o+12,none⟩,w.cell? ⟨b,o+13,none⟩,w.cell? ⟨b,o+14,none⟩] (λ vs=>k (.agg vs.toArray)) (qWx Pg 123 (.pointer (some ⟨b,o,none⟩)) w k)))<|Qqz ((by intro b o;exact Wk DU b o _ rfl):(∀ b o,qW Pg 131 (.pointer (some ⟨b,o,none⟩)) w k=ZO [w.cell? ⟨b,o,none⟩,w.cell? ⟨b,o+1,none⟩,w.cell? ⟨b,o+2,none⟩] (λ vs=>k (.agg vs.toArray)) (qWx Pg 131 (.pointer (some ⟨b,o,none⟩)) w k)))<|Qqz ((by intro b o;exact Wk NF b o _ rfl):(∀ b o,qW Pg 287 (.pointer (some ⟨b,o,none⟩)) w k=ZO [w.cell? ⟨b,o,none⟩,w.cell? ⟨b,o+1,none⟩,w.cell? ⟨b,o+2,none⟩,w.cell? ⟨b,o+3,none⟩,w.cell? ⟨b,o+4,none⟩,w.cell? ⟨b,o+5,none⟩,w.cell? ⟨b,o+6,none⟩,w.cell? ⟨b,o+7,none⟩,w.cell? ⟨b,o+8,none⟩,w.cell? ⟨b,o+9,none⟩,w.cell? ⟨b,o+10,none⟩,w.cell? ⟨b,o+11,none⟩,w.cell? ⟨b,o+12,none⟩] (λ vs=>k (.agg vs.toArray)) (qWx Pg 287 (.pointer (some ⟨b,o,none⟩)) w k)))<|((by intro b o;exact Wk UC b o _ rfl):(∀ b o,qW Pg 300 (.pointer (some ⟨b,o,none⟩)) w k=ZO [w.cell? ⟨b,o,none⟩,w.cell? ⟨b,o+1,none⟩] (λ vs=>k (.agg vs.toArray)) (qWx Pg 300 (.pointer (some ⟨b,o,none⟩)) w k)))
def Zi6 {C:WPr} [Yk C] {k:Vl→Prop}:=Qqz ((by intros;apply Yc;intros;apply o8<;>assumption):(∀ r s,qV Pg C (Builtin.len_ #[9] r #[.string s]) k=k (.int .i64 (s.size:Int))))<|Qqz ((by intros;apply Yc;intros;apply o11<;>assumption):(∀ b o len cap ik (i:Nat),i < len→qV Pg C (indexAt 22 (.slice (some ⟨b,o,none⟩) len cap) (.int ik (i:Int))) k=k (.pointer (some ⟨b,o+i*3,none⟩))))<|Qqz (Yt (C:=C) (k:=k) λ QP w k => @o12 QP w k)<|Qqz (Yt (C:=C) (k:=k) λ QP w k => @o13 QP w k)<|Qqz (Yt (C:=C) (k:=k) λ QP w k => @o21 QP w k)<|Qqz ((by intros;apply Yc;intros;apply o30<;>assumption):(∀ r a n c,qV Pg C (Builtin.len_ #[40] r #[.slice a n c]) k=k (.int .i64 (n:Int))))<|Qqz ((by intros;apply Yc;intros;apply o31<;>assumption):(∀ b o len cap ik (i:Nat),i < len→qV Pg C (indexAt 40 (.slice (some ⟨b,o,none⟩) len cap) (.int ik (i:Int))) k=k (.pointer (some ⟨b,o+i*1,none⟩))))<|Qqz ((by intros;apply Yc;intros;apply o35<;>assumption):(∀ b o len cap ik (i:Nat),i < len→qV Pg C (indexAt 41 (.slice (some ⟨b,o,none⟩) len cap) (.int ik (i:Int))) k=k (.pointer (some ⟨b,o+i*3,none⟩))))<|Qqz (Yt (C:=C) (k:=k) λ QP w k => @o36 QP w k)<|Qqz (Yt (C:=C) (k:=k) λ QP w k => @o37 QP w k)<|Qqz (Yt (C:=C) (k:=k) λ QP w k => @o38 QP w k)<|Qqz (Yt (C:=C) (k:=k) λ QP w k => @o39 QP w k)<|Qqz (Yt (C:=C) (k:=k) λ QP w k => @o40 QP w k)<|Qqz (Yt (C:=C) (k:=k) λ QP w k => @o41 QP w k)<|Qqz (Yt (C:=C) (k:=k) λ QP w k => @o42 QP w k)<|Qqz ((by intros;apply Yc;intros;apply o48<;>assumption):(∀ b o len cap ik (i:Nat),i < len→qV Pg C (indexAt 58 (.slice (some ⟨b,o,none⟩) len cap) (.int ik (i:Int))) k=k (.pointer (some ⟨b,o+i*7,none⟩))))<|Qqz (Yt (C:=C) (k:=k) λ QP w k => @o50 QP w k)<|Qqz (Yt (C:=C) (k:=k) λ QP w k => @o51 QP w k)<|Qqz (Yt (C:=C) (k:=k) λ QP w k => @o52 QP w k)<|Qqz ((by intros;apply Yc;intros;apply o61<;>assumption):(∀ b o len cap ik (i:Nat),i < len→qV Pg C (indexAt 72 (.slice (some ⟨b,o,none⟩) len cap) (.int ik (i:Int))) k=k (.pointer (some ⟨b,o+i*15,none⟩))))<|Qqz (Yt (C:=C) (k:=k) λ QP w k => @o62 QP w k)<|Qqz (Yt (C:=C) (k:=k) λ QP w k => @o63 QP w k)<|Qqz (Yt (C:=C) (k:=k) λ QP w k => @o66 QP w k)<|Qqz (Yt (C:=C) (k:=k) λ QP w k => @o67 QP w k)<|Qqz (Yt (C:=C) (k:=k) λ QP w k => @o68 QP w k)<|Qqz (Yt (C:=C) (k:=k) λ QP w k => @o71 QP w k)<|(Yt (C:=C) (k:=k) λ QP w k => @o72 QP w k)
def Zi7 {C:WPr} [Yk C] {k:Vl→Prop}:=Qqz (Yt (C:=C) (k:=k) λ QP w k => @o73 QP w k)<|Qqz (Yt (C:=C) (k:=k) λ QP w k => @o74 QP w k)<|Qqz (Yt (C:=C) (k:=k) λ QP w k => @o75 QP w k)<|Qqz ((by intros;apply Yc;intros;apply o79<;>assumption):(∀ r a n c,qV Pg C (Builtin.len_ #[94] r #[.slice a n c]) k=k (.int .i64 (n:Int))))<|Qqz ((by intros;apply Yc;intros;apply o80<;>assumption):(∀ b o len cap ik (i:Nat),i < len→qV Pg C (indexAt 94 (.slice (some ⟨b,o,none⟩) len cap) (.int ik (i:Int))) k=k (.pointer (some ⟨b,o+i*1,none⟩))))<|Qqz ((by intros;apply Yc;intros;apply o92<;>assumption):(∀ r a n c,qV Pg C (Builtin.len_ #[118] r #[.slice a n c]) k=k (.int .i64 (n:Int))))<|Qqz ((by intros;apply Yc;intros;apply o93<;>assumption):(∀ b o len cap ik (i:Nat),i < len→qV Pg C (indexAt 118 (.slice (some ⟨b,o,none⟩) len cap) (.int ik (i:Int))) k=k (.pointer (some ⟨b,o+i*2,none⟩))))<|Qqz (Yt (C:=C) (k:=k) λ QP w k => @o95 QP w k)<|Qqz (Yt (C:=C) (k:=k) λ QP w k => @o96 QP w k)<|Qqz ((by intros;apply Yc;intros;apply Ziv<;>assumption):(∀ b o len cap ik (i:Nat),i < len→qV Pg C (indexAt 121 (.slice (some ⟨b,o,none⟩) len cap) (.int ik (i:Int))) k=k (.pointer (some ⟨b,o+i*3,none⟩))))<|Qqz (Yt (C:=C) (k:=k) λ QP w k => @Ziw QP w k)<|Qqz (Yt (C:=C) (k:=k) λ QP w k => @Zix QP w k)<|Qqz (Yt (C:=C) (k:=k) λ QP w k => @Ziy QP w k)<|Qqz (Yt (C:=C) (k:=k) λ QP w k => @Ziz QP w k)<|Qqz (Yt (C:=C) (k:=k) λ QP w k => @ZiA QP w k)<|Qqz (Yt (C:=C) (k:=k) λ QP w k => @ZiB QP w k)<|Qqz (Yt (C:=C) (k:=k) λ QP w k => @ZiC QP w k)<|Qqz (Yt (C:=C) (k:=k) λ QP w k => @ZiD QP w k)<|Qqz (Yt (C:=C) (k:=k) λ QP w k => @ZiE QP w k)<|Qqz (Yt (C:=C) (k:=k) λ QP w k => @ZiF QP w k)<|Qqz (Yt (C:=C) (k:=k) λ QP w k => @ZiG QP w k)<|Qqz (Yt (C:=C) (k:=k) λ QP w k => @ZiH QP w k)<|Qqz (Yt (C:=C) (k:=k) λ QP w k => @ZiI QP w k)<|Qqz (Yt (C:=C) (k:=k) λ QP w k => @ZiJ QP w k)<|(Yt (C:=C) (k:=k) λ QP w k => @ZiK QP w k)
def Zi8 {C:WPr} [Yk C] {k:Vl→Prop}:=Qqz (Yt (C:=C) (k:=k) λ QP w k => @ZiL QP w k)<|Qqz (Yt (C:=C) (k:=k) λ QP w k => @Zmf QP w k)<|Qqz ((by intros;apply Yc;intros;apply ZiM<;>assumption):(∀ b o len cap ik (i:Nat),i < len→qV Pg C (indexAt 264 (.slice (some ⟨b,o,none⟩) len cap) (.int ik (i:Int))) k=k (.pointer (some ⟨b,o+i*3,none⟩))))<|Qqz (Yt (C:=C) (k:=k) λ QP w k => @ZiN QP w k)<|Qqz (Yt (C:=C) (k:=k) λ QP w k => @ZiO QP w k)<|Qqz ((by intros;apply Yc;intros;apply ZiP<;>assumption):(∀ v0 v1:Vl,v0.oneCell'=true→v1.oneCell'=true→qV Pg C (build 60 #[(0,v0),(1,v1)]) k=k (.agg #[v0,v1,.slice none 0 0])))<|Qqz ((by intros;apply Yc;intros;apply ZiQ<;>assumption):(∀ v1:Vl,v1.oneCell'=true→qV Pg C (build 74 #[(1,v1)]) k=k (.agg #[.string Qqk,v1])))<|((by intros;apply Yc;intros;apply ZmV<;>assumption):(∀ v0 v1 v2:Vl,v0.oneCell'=true→v1.oneCell'=true→v2.oneCell'=true→qV Pg C (build 82 #[(0,v0),(1,v1),(2,v2)]) k=k (.agg #[v0,v1,v2])))
def Zi9 {C:WPr} [Yk C] {k:Vl→Prop}:=Qqz ((by intros;apply Yc;intros;apply Zna<;>assumption):(∀ v0 v1 v2:Vl,v0.oneCell'=true→v1.oneCell'=true→v2.oneCell'=true→qV Pg C (build 131 #[(0,v0),(1,v1),(2,v2)]) k=k (.agg #[v0,v1,v2])))<|Qqz ((by intros;apply Yc;intros;apply ZiR<;>assumption):(∀ q n,qV Pg C (Go.convert 3 5 (.int q n)) k=k (.int .u8 (IntKind.u8.wrap n))))<|Qqz ((by intros;apply Yc;intros;apply ZnF<;>assumption):(∀ v,qV Pg C (makeInterface 82 v) k=k (.iface 82 v)))<|((by intros;apply Yc;intros;apply ZnG<;>assumption):(∀ v,qV Pg C (makeInterface 131 v) k=k (.iface 131 v)))
def Zja {C:WPr} [Yk C] {k:Vl→Prop}:=Qqz ((by intros;apply Yc;intros;apply ZnJ<;>assumption):(∀ c (a0 b0:Int) (a1 b1:Int) (a2 b2:Int),qV Pg C (ZA .neq 78 c (.agg #[.int .i64 a0,.int .i64 a1,.int .i64 a2]) (.agg #[.int .i64 b0,.int .i64 b1,.int .i64 b2])) k=k (.bool (!(decide (a0=b0)&&(decide (a1=b1)&&(decide (a2=b2)&&true)))))))<|Qqz ((by intros;apply Yc;intros;apply ZnL<;>assumption):(∀ c (a0 b0:BAr) (a1 b1:Int),qV Pg C (ZA .neq 128 c (.agg #[.string a0,.int .i64 a1]) (.agg #[.string b0,.int .i64 b1])) k=k (.bool (!(decide (a0=b0)&&(decide (a1=b1)&&true))))))<|Qqz ((by intros;apply Yc;intros;apply ZnO<;>assumption):(∀ c (a0 b0:Int) (a1 b1:Int) (a2 b2:BAr),qV Pg C (ZA .neq 213 c (.agg #[.int .i64 a0,.int .i64 a1,.string a2]) (.agg #[.int .i64 b0,.int .i64 b1,.string b2])) k=k (.bool (!(decide (a0=b0)&&(decide (a1=b1)&&(decide (a2=b2)&&true)))))))<|((by intros;apply Yc;intros;apply ZnP<;>assumption):(∀ c (a0 b0:BAr) (a1 b1:BAr) (a2 b2:BAr) (a3 b3:BAr) (a4 b4:Int) (a5 b5:Int) (a6 b6:Int) (a7 b7:Int) (a8 b8:Int) (a9 b9:Int) (a10 b10:Int) (a11 b11:Bool) (a12 b12:Bool),qV Pg C (ZA .eql 287 c (.agg #[.string a0,.string a1,.string a2,.string a3,.int .i64 a4,.int .i64 a5,.int .i64 a6,.int .i64 a7,.int .i64 a8,.int .i64 a9,.int .i64 a10,.bool a11,.bool a12]) (.agg #[.string b0,.string b1,.string b2,.string b3,.int .i64 b4,.int .i64 b5,.int .i64 b6,.int .i64 b7,.int .i64 b8,.int .i64 b9,.int .i64 b10,.bool b11,.bool b12])) k=k (.bool (decide (a0=b0)&&(decide (a1=b1)&&(decide (a2=b2)&&(decide (a3=b3)&&(decide (a4=b4)&&(decide (a5=b5)&&(decide (a6=b6)&&(decide (a7=b7)&&(decide (a8=b8)&&(decide (a9=b9)&&(decide (a10=b10)&&(decide (a11=b11)&&(decide (a12=b12)&&true))))))))))))))))
end
def PR:=Qqz @Zfp<|Qqz @Zfk<|Qqz @Zft<|Qqz @Zfg<|Qqz @Zfh<|Qqz @Zfm<|Qqz @Zeg<|Qqz @Zfr<|Qqz @Zfs<|Qqz @Zfn<|Qqz @Zfo<|Qqz @Zfq<|Qqz @GEN<|Qqz @LY<|Qqz @CTL<|Qqz @GENQ<|Qqz @o0<|Qqz @o1<|Qqz @o2<|Qqz @o3<|Qqz @o5<|Qqz @o6<|Qqz @o7<|Qqz @o8<|Qqz @o9<|Qqz @o10<|Qqz @o11<|Qqz @o12<|Qqz @o13<|Qqz @o14<|Qqz @o15<|Qqz @o16<|Qqz @o17<|Qqz @o18<|Qqz @o19<|Qqz @o20<|Qqz @o21<|Qqz @o22<|Qqz @o23<|Qqz @o26<|Qqz @o27<|Qqz @o28<|Qqz @o29<|Qqz @o30<|Qqz @o31<|Qqz @o32<|Qqz @o33<|Qqz @o34<|Qqz @o35<|Qqz @o36<|Qqz @o37<|Qqz @o38<|Qqz @o39<|Qqz @o40<|Qqz @o41<|Qqz @o42<|Qqz @o43<|Qqz @o44<|Qqz @o45<|Qqz @o46<|Qqz @o47<|Qqz @o48<|Qqz @o50<|Qqz @o51<|Qqz @o52<|Qqz @o53<|Qqz @o54<|Qqz @o56<|Qqz @o57<|Qqz @o59<|Qqz @o60<|Qqz @o61<|Qqz @o62<|Qqz @o63<|Qqz @o64<|Qqz @o65<|Qqz @o66<|Qqz @o67<|Qqz @o68<|Qqz @o69<|Qqz @o70<|Qqz @o71<|Qqz @o74<|Qqz @o75<|Qqz @o76<|Qqz @o77<|Qqz @o78<|Qqz @o79<|Qqz @o80<|Qqz @o81<|Qqz @o82<|Qqz @o83<|Qqz @o84<|Qqz @o85<|Qqz @o86<|Qqz @o88<|Qqz @o89<|Qqz @o90<|Qqz @o91<|Qqz @o92<|Qqz @o93<|Qqz @o94<|Qqz @o95<|Qqz @o96<|Qqz @o97<|Qqz @o99<|Qqz @ZlX<|Qqz @Ziv<|Qqz @Ziw<|Qqz @Zix<|Qqz @Ziy<|Qqz @ZlY<|Qqz @ZlZ<|Qqz @Ziz<|Qqz @ZiA<|Qqz @ZiB<|Qqz @ZiC<|Qqz @ZiD<|Qqz @ZiE<|Qqz @ZiF<|Qqz @Zl0<|Qqz @Zl1<|Qqz @Zl2<|Qqz @Zl3<|Qqz @ZiG<|Qqz @ZiH<|Qqz @Zl4<|Qqz @Zl5<|Qqz @Zl6<|Qqz @Zl7<|Qqz @Zl8<|Qqz @Zl9<|Qqz @Zma<|Qqz @Zmb<|Qqz @Zmc<|Qqz @Zmd<|Qqz @Zme<|Qqz @ZiI<|Qqz @ZiJ<|Qqz @ZiK<|Qqz @ZiL<|Qqz @Zmg<|Qqz @Zmh<|Qqz @Zmi<|Qqz @Zmj<|Qqz @Zmk<|Qqz @Zml<|Qqz @Zmm<|Qqz @Zmn<|Qqz @Zmo<|Qqz @Zmp<|Qqz @Zmq<|Qqz @ZiM<|Qqz @Zmr<|Qqz @ZiN<|Qqz @ZiO<|Qqz @Zms<|Qqz @Zmt<|Qqz @Zmu<|Qqz @Zmv<|Qqz @Zmw<|Qqz @Zmx<|Qqz @Zmy<|Qqz @Zmz<|Qqz @ZmA<|Qqz @ZmB<|Qqz @ZmC<|Qqz @ZmD<|Qqz @ZmE<|Qqz @ZmF<|Qqz @ZmG<|Qqz @ZmH<|Qqz @ZmI<|Qqz @ZmJ<|Qqz @ZmK<|Qqz @ZmL<|Qqz @ZmM<|Qqz @ZmN<|Qqz @ZmO<|Qqz @ZmP<|Qqz @ZiP<|Qqz @ZmQ<|Qqz @ZmR<|Qqz @ZmS<|Qqz @ZiQ<|Qqz @ZmT<|Qqz @ZmU<|Qqz @ZmW<|Qqz @ZmX<|Qqz @ZmY<|Qqz @ZmZ<|Qqz @Zm0<|Qqz @Zm1<|Qqz @Zm2<|Qqz @Zm3<|Qqz @Zm4<|Qqz @Zm5<|Qqz @Zm6<|Qqz @Zm7<|Qqz @Zm8<|Qqz @Zm9<|Qqz @Znb<|Qqz @Znc<|Qqz @Znd<|Qqz @Zne<|Qqz @Znf<|Qqz @Zng<|Qqz @Znh<|Qqz @Zni<|Qqz @Znj<|Qqz @Znk<|Qqz @Znl<|Qqz @Znm<|Qqz @Znn<|Qqz @Zno<|Qqz @Znp<|Qqz @Znq<|Qqz @Znr<|Qqz @Zns<|Qqz @Znt<|Qqz @Znu<|Qqz @Znv<|Qqz @Znw<|Qqz @Znx<|Qqz @Zny<|Qqz @Znz<|Qqz @ZiR<|Qqz @ZnA<|Qqz @ZnB<|Qqz @ZnC<|Qqz @ZnD<|Qqz @ZnE<|Qqz @ZnH<|Qqz @ZnI<|Qqz @ZnK<|Qqz @ZnM<|Qqz @ZnN<|Qqz @Zjb<|Qqz @Zjc<|Qqz @Zjd<|Qqz @Zje<|Qqz @Zi6<|Qqz @Zi7<|Qqz @Zi8<|Qqz @Zi9<|Qqz @Zja<|Qqz @joinK_eq<|Qqz @Tu<|Qqz @Ze3<|Qqz @Ze2<|Qqz @F3 <| @Tv
abbrev QqQ (n:Int):Vl:=.int .i64 n
def QqZ (n:Int):QqQ n=.int .i64 n:=rfl
def QR:=And.intro @QqZ<|Qqz @Zi5<|Qqz @Pw<|Qqz @HQ<|Qqz @EZ<|Qqz @LO<|Qqz @Fb<|Qqz @PG<|Qqz @N8<|Qqz @STD<|Qqz @CX<|Qqz @CY<|Qqz @CZ<|Qqz @NZ<|Qqz @FZ<|Qqz @TS<|Qqz @Pp<|Qqz @IT<|Qqz @Zbw<|Qqz @Pa<|Qqz @List.setIfInBounds_toArray.{0}<|Qqz @List.set_cons_zero.{0}<|Qqz @List.set_cons_succ.{0}<|Qqz @decide_true<|Qqz @decide_false<|Qqz @Bool.false_eq_true<|Qqz @Option.isSome_some.{0}<|Qqz @Option.isSome_none.{0}<|Qqz @Option.getD_some.{0}<|Qqz @Option.getD_none.{0}<|Qqz @D8<|Qqz @Xd<|Qqz @Option.map_some.{0,0}<|Qqz @List.getElem?_toArray.{0}<|Qqz @List.getElem?_cons_succ.{0}<|Qqz @List.getElem?_cons_zero.{0}<|Qqz @Nat.zero_add<|Qqz @World.size_alloc<|Qqz @World.size_setCell<|Qqz @World.size_drew<|Qqz @Bool.not_true<|Qqz @Bool.not_false<|Qqz @Bool.and_true<|Qqz @Bool.true_and<|Qqz @Bool.and_false<|Qqz @Bool.false_and<|Qqz @Bool.or_true<|Qqz @Bool.true_or<|Qqz @Bool.or_false<|Qqz @Bool.false_or <| @Bool.not_not
def Qqh {A p q:Prop} (a:A) (x:q) (h:A→(p=q):=by intro E1;simp (disch:=try exact DI) only [↓PR,QR,simprocAttr,E1];exact rfl):p:=h a ▸ x
def QqW {A p:Prop} (a:A) (h:A→p:=by intro E1;simp (disch:=try exact DI) only [↓PR,QR,simprocAttr,E1]):p:=h a
def Qqb {A B p q:Prop} (a:A) (b:B) (x:q) (h:A→B→(p=q):=by intro E1 E2;simp (disch:=try exact DI) only [↓PR,QR,simprocAttr,E1,E2];exact rfl):p:=h a b ▸ x
def QqY {A B p:Prop} (a:A) (b:B) (h:A→B→p:=by intro E1 E2;simp (disch:=try exact DI) only [↓PR,QR,simprocAttr,E1,E2]):p:=h a b
def Qqm {A B C p q:Prop} (a:A) (b:B) (c:C) (x:q) (h:A→B→C→(p=q):=by intro E1 E2 E3;simp (disch:=try exact DI) only [↓PR,QR,simprocAttr,E1,E2,E3];exact rfl):p:=h a b c ▸ x
def Qq0 {A B C p:Prop} (a:A) (b:B) (c:C) (h:A→B→C→p:=by intro E1 E2 E3;simp (disch:=try exact DI) only [↓PR,QR,simprocAttr,E1,E2,E3]):p:=h a b c
def Qqp {A B C D p q:Prop} (a:A) (b:B) (c:C) (d:D) (x:q) (h:A→B→C→D→(p=q):=by intro E1 E2 E3 E4;simp (disch:=try exact DI) only [↓PR,QR,simprocAttr,E1,E2,E3,E4];exact rfl):p:=h a b c d ▸ x
def Qq1 {A B C D p:Prop} (a:A) (b:B) (c:C) (d:D) (h:A→B→C→D→p:=by intro E1 E2 E3 E4;simp (disch:=try exact DI) only [↓PR,QR,simprocAttr,E1,E2,E3,E4]):p:=h a b c d
def QqK {A B C D E p q:Prop} (a:A) (b:B) (c:C) (d:D) (e:E) (x:q) (h:A→B→C→D→E→(p=q):=by intro E1 E2 E3 E4 E5;simp (disch:=try exact DI) only [↓PR,QR,simprocAttr,E1,E2,E3,E4,E5];exact rfl):p:=h a b c d e ▸ x
def Qq2 {A B C D E p:Prop} (a:A) (b:B) (c:C) (d:D) (e:E) (h:A→B→C→D→E→p:=by intro E1 E2 E3 E4 E5;simp (disch:=try exact DI) only [↓PR,QR,simprocAttr,E1,E2,E3,E4,E5]):p:=h a b c d e
def QqV {A B C D E F p q:Prop} (a:A) (b:B) (c:C) (d:D) (e:E) (f:F) (x:q) (h:A→B→C→D→E→F→(p=q):=by intro E1 E2 E3 E4 E5 E6;simp (disch:=try exact DI) only [↓PR,QR,simprocAttr,E1,E2,E3,E4,E5,E6];exact rfl):p:=h a b c d e f ▸ x
def Qq3 {A B C D E F p:Prop} (a:A) (b:B) (c:C) (d:D) (e:E) (f:F) (h:A→B→C→D→E→F→p:=by intro E1 E2 E3 E4 E5 E6;simp (disch:=try exact DI) only [↓PR,QR,simprocAttr,E1,E2,E3,E4,E5,E6]):p:=h a b c d e f
def Qqv {p q:Prop} (a:q) (h:p=q:=by simp (disch:=try exact DI) only [↓PR,QR,simprocAttr];exact rfl):p:=h ▸ a
def Qqw {p q:Prop} (a:q) (h:p=q:=by simp (disch:=try exact DI) only [↓PR,QR,simprocAttr,joinK_eq];exact rfl):p:=h ▸ a
def Qqf {p:Prop} (h:p:=by simp (disch:=try exact DI) only [↓PR,QR,simprocAttr]):p:=h
def Qqg {p:Prop} (h:p:=by simp (disch:=try exact DI) only [↓PR,QR,simprocAttr,joinK_eq]):p:=h
def SZ:type_of% (And.intro @World.size_alloc<|And.intro @World.size_setCell<|And.intro @World.size_drew<|And.intro @World.putObj_size <| @putW_size):=(And.intro @World.size_alloc<|And.intro @World.size_setCell<|And.intro @World.size_drew<|And.intro @World.putObj_size <| @putW_size)
def DI {p:Prop} (h:p:=by first | assumption | (simp only [ONE];done) | rfl | (simp only [SZ];done) | omega | (simp only [SZ] at *;omega)):p:=h
def ee {a b:Wd} (h:Ext a b:=by repeat' first | exact Ext.refl _ | assumption | apply Ext.alloc | apply Ext.wdrew | apply Ext.drew | (refine Ext.setCell ?_ (by first | omega | (simp only [SZ] at *;omega)) _) | (refine Ext.putObj ?_ (by first | omega | (simp only [SZ] at *;omega)) _) | (refine Ext.trans ?_ (by assumption))):Ext a b:=h
structure Xc where
 field:BAr
 factor:Int
 deriving DecidableEq
structure qv where
 low:Int
 high:Int
 of:BAr
 deriving DecidableEq
structure Zv where
 name:BAr
 kind:Int
 bits:Int
 little:Bool
 loose:Bool
 low:Int
 high:Int
 base:Int
 terms:List Xc
 of:BAr
 tag:BAr
 fr:BAr
 cases:List qv
 check:Int
 key:Int
 deriving DecidableEq
structure Xr where
 name:BAr
 fields:List Zv
 deriving DecidableEq
structure QF where
 name:BAr
 msgs:List Xr
 start:BAr
 deriving DecidableEq
abbrev qo (t:Xc):List Vl:=[.string t.field,.int .i64 t.factor]
abbrev NT (c:qv):List Vl:=[.int .i64 c.low,.int .i64 c.high,.string c.of]
abbrev Zw (f:Zv) (tv cv:Vl):List Vl:=[.string f.name,.int .i64 f.kind,.int .i64 f.bits,.bool f.little,.bool f.loose,.int .i64 f.low,.int .i64 f.high,.int .i64 f.base,tv,.string f.of,.string f.tag,.string f.fr,cv,.int .i64 f.check,.int .i64 f.key]
abbrev Yj (m:Xr) (fv:Vl):List Vl:=[.string m.name,fv]
abbrev XB (d:QF) (mv:Vl):List Vl:=[.string d.name,mv,.string d.start]
def CH (_:Wd) (cs:List Vl) (t:Xc):Prop:=cs=qo t
def ZbF (_:Wd) (cs:List Vl) (c:qv):Prop:=cs=NT c
def Z6 (w:Wd) (v:Vl) (l:List Xc):Prop:=Zd w 2 CH v l
def Yu (w:Wd) (v:Vl) (l:List qv):Prop:=Zd w 3 ZbF v l
def jS (w:Wd) (cs:List Vl) (f:Zv):Prop:=∃ tv cv,cs=Zw f tv cv∧Z6 w tv f.terms∧Yu w cv f.cases
def YR (w:Wd) (v:Vl) (l:List Zv):Prop:=Zd w 15 jS v l
def Pb (w:Wd) (cs:List Vl) (m:Xr):Prop:=∃ fv,cs=Yj m fv∧YR w fv m.fields
def VN (w:Wd) (v:Vl) (l:List Xr):Prop:=Zd w 2 Pb v l
def MO (_:Wd) (cs:List Vl) (b:UInt8):Prop:=cs=[.int .u8 b.toNat]
def Zfi (_:Wd) (cs:List Vl) (b:Bool):Prop:=cs=[.bool b]
def zL (_:Wd) (cs:List Vl) (s:BAr):Prop:=cs=[.string s]
def Zeh (_:Wd) (cs:List Vl) (n:Int):Prop:=cs=[.int .i64 n]
def Hf:jX CH:=λ _ _ _ _ _ h=>h
def He:jX ZbF:=λ _ _ _ _ _ h=>h
def PX:jX MO:=λ _ _ _ _ _ h=>h
def Gh:jX zL:=λ _ _ _ _ _ h=>h
def xq:jX jS:=λ _ _ _ _ e ⟨tv,cv,h,h1,h2⟩=>⟨tv,cv,h,h1.ext Hf e,h2.ext He e⟩
def ZaV:jX Pb:=λ _ _ _ _ e ⟨fv,h,h1⟩=>⟨fv,h,h1.ext xq e⟩
def Z6.ext {w w':Wd} {v:Vl} {l:List Xc} (h:Z6 w v l) (e:Ext w w'):Z6 w' v l:=Zd.ext Hf h e
def Yu.ext {w w':Wd} {v:Vl} {l:List qv} (h:Yu w v l) (e:Ext w w'):Yu w' v l:=Zd.ext He h e
def YR.ext {w w':Wd} {v:Vl} {l:List Zv} (h:YR w v l) (e:Ext w w'):YR w' v l:=Zd.ext xq h e
def VN.ext {w w':Wd} {v:Vl} {l:List Xr} (h:VN w v l) (e:Ext w w'):VN w' v l:=Zd.ext ZaV h e
def jS.op {w:Wd} {cs:List Vl} {f:Zv} (h:jS w cs f):∃ tv cv,cs=Zw f tv cv∧Z6 w tv f.terms∧Yu w cv f.cases∧tv.oneCell'=true∧cv.oneCell'=true:=by
 obtain ⟨tv,cv,h1,h2,h3⟩:=h;exact ⟨tv,cv,h1,h2,h3,Zd.oneCell h2,Zd.oneCell h3⟩
def Z8 (w:Wd) (v:Vl) (f:Zv):Prop:=∃ tv cv,v = .agg (Zw f tv cv).toArray∧Z6 w tv f.terms∧Yu w cv f.cases
def Wo (w:Wd) (v:Vl) (m:Xr):Prop:=∃ fv,v = .agg (Yj m fv).toArray∧YR w fv m.fields
def Qg (w:Wd) (v:Vl) (d:QF):Prop:=∃ mv,v = .agg (XB d mv).toArray∧VN w mv d.msgs
def zP (w:Wd) (v:Vl) (base:Int) (ts:List Xc):Prop:=∃ tv,v = .agg #[.int .i64 base,tv]∧Z6 w tv ts
def UB (t:Xc):Vl := .agg (qo t).toArray
def Z8.ext {w w':Wd} {v:Vl} {f:Zv} (h:Z8 w v f) (e:Ext w w'):Z8 w' v f:=by obtain ⟨tv,cv,h,h1,h2⟩:=h;exact ⟨tv,cv,h,h1.ext e,h2.ext e⟩
def Z8.op {w:Wd} {v:Vl} {f:Zv} (h:Z8 w v f):∃ tv cv,v = .agg (Zw f tv cv).toArray∧Z6 w tv f.terms∧Yu w cv f.cases∧tv.oneCell'=true∧cv.oneCell'=true:=by
 obtain ⟨tv,cv,h1,h2,h3⟩:=h;exact ⟨tv,cv,h1,h2,h3,Zd.oneCell h2,Zd.oneCell h3⟩
def Wo.ext {w w':Wd} {v:Vl} {m:Xr} (h:Wo w v m) (e:Ext w w'):Wo w' v m:=by obtain ⟨fv,h,h1⟩:=h;exact ⟨fv,h,h1.ext e⟩
def Qg.ext {w w':Wd} {v:Vl} {d:QF} (h:Qg w v d) (e:Ext w w'):Qg w' v d:=by obtain ⟨fv,h,h1⟩:=h;exact ⟨fv,h,h1.ext e⟩
def US {α:Type} (w0:Wd) (V:Wd→Vl→α→Prop) (g:FuncId) (caps:AVl) (p:α→Bool) (l:List α):Prop:=
 ∀ w v x,x∈l→Ext w0 w→V w v x→Ret Pg g (#[v]++caps) w λ r w'=>r = .bool (p x)∧Ext w w'
structure Qd where
 low:Int
 high:Int
 to:Int
 deriving DecidableEq
structure FrD where
 to:BAr
 kind:Int
 fr:BAr
 add:Int
 value:Int
 bytes:List UInt8
 table:List Qd
 deriving DecidableEq
structure MrD where
 fr:BAr
 to:BAr
 fields:List FrD
 deriving DecidableEq
structure Xn where
 name:BAr
 rules:List MrD
 deriving DecidableEq
abbrev ZW (x:Qd):List Vl:=[.int .i64 x.low,.int .i64 x.high,.int .i64 x.to]
abbrev Zo (x:FrD) (bv tv:Vl):List Vl:=[.string x.to,.int .i64 x.kind,.string x.fr,.int .i64 x.add,.int .i64 x.value,bv,tv]
abbrev YZ (x:MrD) (fv:Vl):List Vl:=[.string x.fr,.string x.to,fv]
abbrev Z2 (m:Xn) (rv:Vl):List Vl:=[.string m.name,rv]
def Zfj (_:Wd) (cs:List Vl) (x:Qd):Prop:=cs=ZW x
def ZaX:jX Zfj:=λ _ _ _ _ _ h=>h
def zJ (w:Wd) (v:Vl) (l:List UInt8):Prop:=Zd w 1 MO v l
def Q9 (w:Wd) (v:Vl) (l:List Qd):Prop:=Zd w 3 Zfj v l
section
variable {w w':Wd} {v:Vl}
def zJ.ext {l:List UInt8} (h:zJ w v l) (e:Ext w w'):zJ w' v l:=Zd.ext PX h e
def Q9.ext {l:List Qd} (h:Q9 w v l) (e:Ext w w'):Q9 w' v l:=Zd.ext ZaX h e
end
def EFr (w:Wd) (cs:List Vl) (x:FrD):Prop:=∃ bv tv,cs=Zo x bv tv∧zJ w bv x.bytes∧Q9 w tv x.table
def PY:jX EFr:=λ _ _ _ _ e ⟨bv,tv,h,h1,h2⟩=>⟨bv,tv,h,h1.ext e,h2.ext e⟩
def Ve (w:Wd) (v:Vl) (l:List FrD):Prop:=Zd w 7 EFr v l
def Ve.ext {w w':Wd} {v:Vl} {l:List FrD} (h:Ve w v l) (e:Ext w w'):Ve w' v l:=Zd.ext PY h e
def EMr (w:Wd) (cs:List Vl) (x:MrD):Prop:=∃ fv,cs=YZ x fv∧Ve w fv x.fields
def Zey:jX EMr:=λ _ _ _ _ e ⟨fv,h,h1⟩=>⟨fv,h,h1.ext e⟩
def Gz (w:Wd) (v:Vl) (l:List MrD):Prop:=Zd w 3 EMr v l
def Gz.ext {w w':Wd} {v:Vl} {l:List MrD} (h:Gz w v l) (e:Ext w w'):Gz w' v l:=Zd.ext Zey h e
def QI (w:Wd) (v:Vl) (x:FrD):Prop:=∃ bv tv,v = .agg (Zo x bv tv).toArray∧zJ w bv x.bytes∧Q9 w tv x.table
def zO (w:Wd) (v:Vl) (x:MrD):Prop:=∃ fv,v = .agg (YZ x fv).toArray∧Ve w fv x.fields
def Xx (w:Wd) (v:Vl) (m:Xn):Prop:=∃ rv,v = .agg (Z2 m rv).toArray∧Gz w rv m.rules
section
variable {w w':Wd} {v:Vl}
def QI.ext {x:FrD} (h:QI w v x) (e:Ext w w'):QI w' v x:=by obtain ⟨bv,tv,h,h1,h2⟩:=h;exact ⟨bv,tv,h,h1.ext e,h2.ext e⟩
def zO.ext {x:MrD} (h:zO w v x) (e:Ext w w'):zO w' v x:=by obtain ⟨fv,h,h1⟩:=h;exact ⟨fv,h,h1.ext e⟩
def Xx.ext {x:Xn} (h:Xx w v x) (e:Ext w w'):Xx w' v x:=by obtain ⟨fv,h,h1⟩:=h;exact ⟨fv,h,h1.ext e⟩
def QI.op {x:FrD} (h:QI w v x):∃ bv tv,v = .agg (Zo x bv tv).toArray∧zJ w bv x.bytes∧Q9 w tv x.table∧bv.oneCell'=true∧tv.oneCell'=true:=by
 obtain ⟨bv,tv,h,h1,h2⟩:=h;exact ⟨bv,tv,h,h1,h2,Zd.oneCell h1,Zd.oneCell h2⟩
def zO.op {x:MrD} (h:zO w v x):∃ fv,v = .agg (YZ x fv).toArray∧Ve w fv x.fields∧fv.oneCell'=true:=by
 obtain ⟨fv,h,h1⟩:=h;exact ⟨fv,h,h1,Zd.oneCell h1⟩
def Xx.op {x:Xn} (h:Xx w v x):∃ rv,v = .agg (Z2 x rv).toArray∧Gz w rv x.rules∧rv.oneCell'=true:=by
 obtain ⟨fv,h,h1⟩:=h;exact ⟨fv,h,h1,Zd.oneCell h1⟩
def EFr.op {cs:List Vl} {x:FrD} (h:EFr w cs x):∃ bv tv,cs=Zo x bv tv∧zJ w bv x.bytes∧Q9 w tv x.table∧bv.oneCell'=true∧tv.oneCell'=true:=by
 obtain ⟨bv,tv,h,h1,h2⟩:=h;exact ⟨bv,tv,h,h1,h2,Zd.oneCell h1,Zd.oneCell h2⟩
def EMr.op {cs:List Vl} {x:MrD} (h:EMr w cs x):∃ fv,cs=YZ x fv∧Ve w fv x.fields∧fv.oneCell'=true:=by
 obtain ⟨fv,h,h1⟩:=h;exact ⟨fv,h,h1,Zd.oneCell h1⟩
end
def WG (f:Zv):Int:=if f.kind=1∨f.kind=3 then 1 else if f.kind=4∨f.kind=5 then 2 else if f.kind=6 then 3 else if f.kind=7 then 4 else if f.kind=8∨f.kind=12 then 5 else if f.kind=9 then 6 else 0
def WL (n:Int):Bool:=decide (0≤n)&&decide (n < 34359738368)
def j8 (n:Int):Bool:=decide (-34359738368 < n)&&decide (n < 34359738368)
structure jt where
 fr:Bool
 add:Bool
 value:Bool
 bytes:Bool
 table:Bool
def Xg (k:Int):Option jt:=if k=1 then some ⟨true,false,false,false,false⟩ else if k=2 then some ⟨true,true,false,false,false⟩ else if k=3 then some ⟨false,false,true,false,false⟩ else if k=4 then some ⟨false,false,false,true,false⟩ else if k=5 then some ⟨true,false,false,false,true⟩ else if k=6 then some ⟨true,false,false,false,false⟩ else if k=7 then some ⟨false,false,false,false,false⟩ else none
def Wq (r:FrD) (u:jt):Bool:=(u.fr||decide (r.fr=⟨#[]⟩))&&((u.add||decide (r.add=0))&&((u.value||decide (r.value=0))&&((u.bytes||decide (r.bytes.length=0))&&(u.table||decide (r.table.length=0)))))
def Qj (m:Xr) (s:BAr):Option Zv:=m.fields.find? λ f=>decide (f.name=s)
def Ej (o:Option Zv):Int:=match o with
 | none=>0
 | some f=>WG f
def JU (last:Int):List Qd→Bool
 | []=>true
 | x::l=>decide (last < x.low)&&(decide (x.low≤x.high)&&(WL x.high&&(WL x.to&&JU x.high l)))
def Wa (l:List Qd):Int:=if l.length < 1∨40 < l.length then 2 else if JU (-1) l=true then 0 else 8
def Nw (o:Option Zv):List BAr:=match o with
 | none=>[]
 | some f=>if f.kind=9 then f.cases.map (·.of) else [f.of]
def GL (m:Xn) (s:BAr):Option Nat:=m.rules.findIdx? λ r=>decide (r.fr=s)
def okN (m:Xn) (T:List BAr) (s:BAr):Bool:=match m.rules.find? λ r=>decide (r.fr=s) with
 | none=>false
 | some r=>T.any λ y=>decide (r.to=y)
def No (m:Xn) (f t:Option Zv):Int:=if (Nw f).all (okN m (Nw t))=true then 0 else 9
def Ww (m:Xn) (r:FrD) (f t:Option Zv):Int:=
 let x:=Ej f
 let y:=Ej t
 if r.kind=1 then (if x≠y∨3 < y then 5 else 0)
 else if r.kind=2 then (if x≠1∨y≠1 then 5 else if j8 r.add=true then 0 else 8)
 else if r.kind=3 then (if y≠1 then 5 else if WL r.value=true then 0 else 8)
 else if r.kind=4 then (if y≠2 then 5 else if 1000 < r.bytes.length then 2 else 0)
 else if r.kind=5 then (if x≠1∨y≠1 then 5 else Wa r.table)
 else if r.kind=6 then (if x≠y∨y < 4 then 5 else No m f t)
 else (if y≠1 then 5 else 0)
def Cq (m:Xn) (r:FrD) (a b:Xr) (before:List FrD):Int:=
 if Ej (Qj b r.to)=0 then 5
 else if (before.any λ x=>decide (x.to=r.to))=true then 4
 else match Xg r.kind with
  | none=>6
  | some u=>if Wq r u=false then 7 else Ww m r (Qj a r.fr) (Qj b r.to)
def Wm (m:Xn) (a b:Xr) (all:List FrD):Nat→List FrD→Int×Int
 | _,[]=>(-1,0)
 | k,r::l=>if Cq m r a b (all.take k)≠0 then ((k:Int),Cq m r a b (all.take k)) else Wm m a b all (k+1) l
def Hn (d:QF) (s:BAr):Option Xr:=d.msgs.find? λ x=>decide (x.name=s)
def GD (fs:List FrD) (f:Zv):Bool:=!(fs.any λ x=>decide (x.to=f.name))&&decide (WG f≠0)
def DN (m:Xn) (d e:QF) (i:Nat) (r:MrD):Int×Int:=match Hn d r.fr,Hn e r.to with
 | some a,some b=>if GL m r.fr≠some i then (-1,4) else
  let q:=Wm m a b r.fields 0 r.fields
  if q.2≠0 then q else if (b.fields.any (GD r.fields))=true then (-1,10) else (-1,0)
 | _,_=>(-1,3)
def zE (m:Xn) (d e:QF):Nat→List MrD→Int×Int×Int
 | _,[]=>(-1,-1,0)
 | i,r::l=>if (DN m d e i r).2≠0 then ((i:Int),DN m d e i r) else zE m d e (i+1) l
end Go.Proofs.YtgalpdihjbinjaaGreatDoor
namespace Go.Sw
section
variable {P:Program} {N:Nat} {ro:Option Nat} {QP:KP} {T:Env→LDf→Wd→Prop} {o:Oper} {rest:List Oper} {ρ:Env} {ds:LDf} {w:Wd}
def zm {v:Vl} (h:ZP P N ro QP T rest (put N ρ o.dst v) ds w) (hs:execOp (ev ρ) o=Sem.pure (.value v):=by exact rfl) (hd:XD o.op=false:=by exact rfl):ZP P N ro QP T (o::rest) ρ ds w:=TZ hd hs h
def zt {S:List Nat} {J G:Env→Wd→Prop} (hT:∀ ρ' w,Fr S ρ ρ'→J ρ' w→G ρ' w) {ρ':Env} {w:Wd} (h:J ρ' w) (hf:Fr S ρ ρ':=by repeat (first | exact Fr.refl _ _ | refine Fr.put rfl ?_ | refine Fr.put_none ?_ | refine Fr.mix rfl ?_ | refine Fr.skipAll rfl ?_)):G ρ' w:=hT ρ' w hf h
end
def zr {P:Program} {N:Nat} {ro:Option Nat} {id:Nat} {l:List Oper} {Q:K} {QP:KP} {ρ:Env} {ds:LDf} {w:Wd} (h:ZP P N ro QP (λ ρ ds w=>Q .normal ρ ds w) l ρ ds w) (hu:Vc l=true:=by exact rfl):den P N ro (.region id l.toArray false) Q QP ρ ds w:=MF hu h
def zn:type_of% @Nz := @Nz
def zk:type_of% @Ii := @Ii
def zs:type_of% @NA := @NA
end Go.Sw
namespace Go.Sw
open Go.RowKit (Below)
structure LW (B:Nat) (w w':Wd):Prop where
 os:w'.os=w.os
 tape:w'.tape=w.tape
 output:w'.output=w.output
 size:w.heap.size≤w'.heap.size
 block:∀ b,b < w.heap.size→w'.heap[b]?=w.heap[b]?∨(B≤b∧((∃ r,w.heap[b]?=some (.loop r))∨∃ d,w.heap[b]?=some (.deferred d)))
def KR (B:Nat) (w w':Wd):Prop:=w.heap.size≤w'.heap.size∧(∀ (b:Nat) (r:Loop),w.heap[b]?=some (.loop r)→∃ st p,w'.heap[b]?=some (.loop { r with state:=st,pending:=p })) ∧
 (∀ (b:Nat),w.heap[b]?=some (.deferred (some []))→w'.heap[b]?=some (.deferred (some [])))∧∀ (b:Nat),B≤b→b < w.heap.size→(∀ r,w.heap[b]?≠some (.loop r))→w'.heap[b]?=w.heap[b]?
section
variable {B:Nat} {w w1 w2:Wd}
def KR.refl (B:Nat) (w:Wd):KR B w w:=⟨Nat.le_refl _,λ b r h=>⟨r.state,r.pending,h⟩,λ _ h=>h,λ _ _ _ _=>rfl⟩
def KR.of (e:Ext w w1):KR B w w1:=⟨e.size,λ b r h=>⟨r.state,r.pending,e.obj h⟩,λ _ h=>e.obj h,λ b _ hl _=>e.block b hl⟩
def KR.turn {l:Nat} {r:Loop} (hl:w.heap[l]?=some (.loop r)) (st:LoopState) (p:Option Code):KR B w (w.putObj l (.loop { r with state:=st,pending:=p })):=⟨by simp,λ b r' hb=>by
 by_cases e:b=l
 · subst e
   rw [hl] at hb;injection hb with hb;injection hb with hb;subst hb
   exact ⟨st,p,World.putObj_heap_same (Qqj hl).1⟩
 · rw [World.putObj_heap_other e];exact ⟨r'.state,r'.pending,hb⟩,λ b hb=>by
 by_cases e:b=l
 · subst e;rw [hl] at hb;cases hb
 · rw [World.putObj_heap_other e];exact hb,λ b _ _ hr=>by
 by_cases e:b=l
 · subst e;exact absurd hl (hr _)
 · rw [World.putObj_heap_other e]⟩
end
def qJ {b want:Bool} {p q:Prop} (h1:b=true→Zm (.bool true) want p q) (h2:b=false→Zm (.bool false) want p q):Zm (.bool b) want p q:=by
 cases b
 · exact h2 rfl
 · exact h1 rfl
def Ai {b:Bool} {p q:Prop} (h1:b=true→p) (h2:b=false→q):Zr (.bool b) p q:=by
 cases b
 · exact h2 rfl
 · exact h1 rfl
section
variable {P:Program} {QP:PEn} {w:Wd} {k:KV}
def ZeW (t:TypeId) (c:Bool) (kd:IntKind) (a b:Int) (hb:b≠0):opV P (ZA .quo t c (.int kd a) (.int kd b)) QP w k=k (.int kd (kd.wrap (a.tdiv b))) w:=ZV (by
 rw [Y8 _ _ _ _ _ _ rfl]
 show Sem.run P (Op.intDiv .quo kd a b) w=_
 unfold Op.intDiv
 rw [if_neg hb];rfl)
end
section
variable {P:Program} {fn:Func} {R:RT} {ρ:Env} {w:Wd}
def BI {t u x:Tmp} {c:TypeId} {v:Vl} (hf:fn.results = #[.cell t c,.tmp u,.tmp x]) (tmps:AVl) (h:(do loadVar c (← asAddr (tmps.getD t undef)):Sem Vl).run P w = .ok v w):(results fn tmps).run P w = .ok (.tuple #[v,tmps.getD u undef,tmps.getD x undef]) w:=by
 rw [Sem.run_bind] at h
 simp [results,hf,Sem.run_bind]
 cases hr:(asAddr (tmps.getD t undef)).run P w with
 | ok a w'=>rw [← Array.getD_eq_getD_getElem?,hr];rw [hr] at h;simp [Result.andThen] at h ⊢;rw [h]
 | halt x w'=>rw [hr] at h;simp [Result.andThen] at h
def Wt {t u x:Tmp} {c:TypeId} {a b d:Vl} (hf:fn.results = #[.cell t c,.tmp u,.tmp x]) (h1:ρ t=a) (h2:ρ u=b) (h3:ρ x=d) (h:qW P c a w λ v=>R (.returned (.tuple #[v,b,d])) w):Un P fn R .ret ρ [] w:=by
 obtain ⟨v,hv,h⟩:=h
 exact ⟨rfl,λ tmps ht=>⟨_,BI hf tmps (by rw [ht,h1];exact hv),by rw [ht,ht,h2,h3];exact h⟩⟩
end
end Go.Sw
namespace Go.Sw
section
variable {P:Program} {N:Nat} {ro:Option Nat} {QP:KP} {T:Env→LDf→Wd→Prop} {o:Oper} {rest:List Oper} {ρ:Env} {ds:LDf} {w:Wd} {ty:TypeId} {dst:Option Nat} {d:Nat} {pos:String} {after:Array Edge} {g:Option (Nat×Bool)} {QP':PEn} {k:KV}
def QqJ {p:Prop} (h:p:=by first | exact λ _ _ h=>⟨rfl,h⟩ | exact λ _ _ h=>X7 rfl h | exact λ _ _ h _ _=>⟨rfl,h⟩ | exact λ _ _ h=>Wi rfl rfl h | exact λ _ _ h=>h):p:=h
def yv {s:Sem Vl} (h:opV P s QP' w k) (hk:∀ {v w},k v w→ZP P N ro QP T rest (put N ρ o.dst v) ds w) (hs:execOp (ev ρ) o=(do pure (.value (← s))):=by exact rfl) (hd:XD o.op=false:=by exact rfl) (hp:∀ ch w,QP' ch w→QP ch ρ ds w:=by exact QqJ):ZP P N ro QP T (o::rest) ρ ds w:=Gs h hd hs hp λ _ _=>hk
def yu {s:Sem Unit} {k:WPr} (h:opU P s QP' w k) (hk:∀ {w},k w→ZP P N ro QP T rest (put N ρ o.dst undef) ds w) (hs:execOp (ev ρ) o=(do s;pure .skip):=by exact rfl) (hd:XD o.op=false:=by exact rfl) (hp:∀ ch w,QP' ch w→QP ch ρ ds w:=by exact QqJ):ZP P N ro QP T (o::rest) ρ ds w:=T3 h hd hs hp λ _=>hk
def yN {s:Sem Next} (h:opN P s QP' w k) (hk:∀ {v w},k v w→ZP P N ro QP T rest (put N ρ o.dst v) ds w) (hs:execOp (ev ρ) o=s:=by exact rfl) (hd:XD o.op=false:=by exact rfl) (hp:∀ ch w,QP' ch w→QP ch ρ ds w:=by exact QqJ):ZP P N ro QP T (o::rest) ρ ds w:=T0 h hd hs hp λ _ _=>hk
def yb {op:BinOp} {t:TypeId} {x y:Operand} {t2:TypeId} {c:Bool} {a b:Vl} (h:opV P (ZA op t c a b) QP' w k) (hk:∀ {v w'},k v w'→ZP P N ro QP T rest (put N ρ (some d) v) ds w') (hc:(Uq x||Uq y)=c:=by exact rfl) (h1:ev ρ x=a:=by exact rfl) (h2:ev ρ y=b:=by exact rfl) (hp:∀ ch w,QP' ch w→QP ch ρ ds w:=by exact QqJ) :
 ZP P N ro QP T (⟨some d,.binOp op t x y t2,ty,pos,after,g⟩::rest) ρ ds w:=Zbx h hc h1 h2 hp λ _ _=>hk
def yc {f:FuncId} {l:List Operand} {ats:Array TypeId} {args:List Vl} (h:ZU P f args.toArray QP' w k) (hf:Callable P f) (hk:∀ {v w'},k v w'→ZP P N ro QP T rest (put N ρ dst v) ds w') (h2:l.map (ev ρ)=args:=by exact rfl) (hp:∀ ch w,QP' ch w→QP ch ρ ds w:=by exact QqJ) :
 ZP P N ro QP T (⟨dst,.call ⟨.value (.func f),l.toArray,ats⟩,ty,pos,after,g⟩::rest) ρ ds w:=TU h hf h2 hp λ _ _=>hk
def yV {fo:Operand} {l:List Operand} {ats:Array TypeId} {fv:Vl} {args:List Vl} (h:X9 P fv args.toArray QP' w k) (hk:∀ {v w'},k v w'→ZP P N ro QP T rest (put N ρ dst v) ds w') (h1:ev ρ fo=fv:=by exact rfl) (h2:l.map (ev ρ)=args:=by exact rfl) (hp:∀ ch w,QP' ch w→QP ch ρ ds w:=by exact QqJ) :
 ZP P N ro QP T (⟨dst,.call ⟨.value fo,l.toArray,ats⟩,ty,pos,after,g⟩::rest) ρ ds w:=DQ h h1 h2 hp λ _ _=>hk
def yx {b:Builtin} {l:List Operand} {ats:Array TypeId} {s:Sem Vl} (h:opV P s QP' w k) (hk:∀ {v w'},k v w'→ZP P N ro QP T rest (put N ρ (some d) v) ds w') (hs:builtin b ats ty ((l.map λ | .const _=>true | _=>false).toArray) (l.map (ev ρ)).toArray=(do pure (.value (← s))):=by exact rfl) (hp:∀ ch w,QP' ch w→QP ch ρ ds w:=by exact QqJ) :
 ZP P N ro QP T (⟨some d,.call ⟨.builtin b,l.toArray,ats⟩,ty,pos,after,g⟩::rest) ρ ds w:=Ig h hs hp λ _ _=>hk
def yB {t:TypeId} {ps:List (Nat×Operand)} {vs:List (Nat×Vl)} (h:opV P (build t vs.toArray) QP' w k) (hk:∀ {v w'},k v w'→ZP P N ro QP T rest (put N ρ (some d) v) ds w') (h2:(ps.map λ (i,x)=>(i,ev ρ x))=vs:=by exact rfl) (hp:∀ ch w,QP' ch w→QP ch ρ ds w:=by exact QqJ) :
 ZP P N ro QP T (⟨some d,.build t ps.toArray,ty,pos,after,g⟩::rest) ρ ds w:=ON h h2 hp λ _ _=>hk
def yS {t:TypeId} {n:Nat} {ps:List (Nat×Operand)} {vs:List (Nat×Vl)} (h:opV P (buildSlice t n vs.toArray) QP' w k) (hk:∀ {v w'},k v w'→ZP P N ro QP T rest (put N ρ (some d) v) ds w') (h2:(ps.map λ (i,x)=>(i,ev ρ x))=vs:=by exact rfl) (hp:∀ ch w,QP' ch w→QP ch ρ ds w:=by exact QqJ) :
 ZP P N ro QP T (⟨some d,.buildSlice t n ps.toArray,ty,pos,after,g⟩::rest) ρ ds w:=BR h h2 hp λ _ _=>hk
def yF {fn:Fn} {fs cs:List Operand} {vf vs:List Vl} (h:opV P (makeFunc fn vf.toArray vs.toArray) QP' w k) (hk:∀ {v w'},k v w'→ZP P N ro QP T rest (put N ρ (some d) v) ds w') (h1:fs.map (ev ρ)=vf:=by exact rfl) (h2:cs.map (ev ρ)=vs:=by exact rfl) (hp:∀ ch w,QP' ch w→QP ch ρ ds w:=by exact QqJ) :
 ZP P N ro QP T (⟨some d,.makeFunc fn fs.toArray cs.toArray,ty,pos,after,g⟩::rest) ρ ds w:=Ft h h1 h2 hp λ _ _=>hk
def yp {c a b:Operand} {vc va vb:Vl} {k:Vl→Prop} (h:Zx vc va vb k) (hk:∀ {v},k v→ZP P N ro QP T rest (put N ρ (some d) v) ds w) (h1:ev ρ c=vc:=by exact rfl) (h2:ev ρ a=va:=by exact rfl) (h3:ev ρ b=vb:=by exact rfl):ZP P N ro QP T (⟨some d,.pick c a b,ty,pos,after,g⟩::rest) ρ ds w:=T1 h h1 h2 h3 λ _=>hk
def yt {S:List Nat} {J G:Env→Wd→Prop} {C:WPr} (hT:∀ ρ' w,Fr S ρ ρ'→C w→J ρ' w→G ρ' w) {ρ':Env} {w:Wd} (hC:C w) (h:J ρ' w) (hf:Fr S ρ ρ':=by repeat (first | exact Fr.refl _ _ | refine Fr.put rfl ?_ | refine Fr.put_none ?_ | refine Fr.mix rfl ?_ | refine Fr.skipAll rfl ?_)):G ρ' w:=hT ρ' w hf hC h
end
section
variable {P:Program} {N:Nat} {ro:Option Nat} {ops:Array Oper} {Q:Env→LDf→Wd→Prop} {QP0:List PanicEntry→LDf→Wd→Prop} {QP:KP} {C:WPr} {fuel:Nat} {done:List Nat} {o:Oper} {ρ:Env} {ds:LDf} {w:Wd}
def ye (i:Nat) {k:Vl→Prop} (hC:C w) {s:Sem Vl} (h:qV P C s k) (hk:∀ {v},k v→XU P N ro ops Q (λ ch _ ds w=>QP0 ch ds w) C fuel (i::done) (put N ρ o.dst v) ds w) (hi:ops[i]?=some o:=by exact rfl) (hr:(YM ops done).contains i=true:=by kernel_rfl) (hf:zZ ops done i=true:=by kernel_rfl) (hg:∀ p q,Xm ops o ρ p q=p:=by first | exact λ _ _=>rfl | exact λ _ _=>Xl (by assumption)) (hd:XD o.op=false:=by exact rfl) (hs:∀ v,(∀ w,C w→s.run P w = .ok v w)→∀ w,C w→(execOp (ev ρ) o).run P w = .ok (.value v) w:=by first | exact λ _ h=>BD rfl h | exact λ _ h=>Ze1 rfl rfl rfl h | exact λ _ h=>Mk rfl h | exact λ _ h=>TC rfl h | exact λ _ h=>H1 rfl rfl h) :
 XU P N ro ops Q (λ ch _ ds w=>QP0 ch ds w) C (fuel+1) done ρ ds w:=let ⟨v,hv,hkv⟩:=h;UA i hC hi hr hf hg hd (hs v hv) (hk hkv)
def yn (i:Nat) {k:Vl→Prop} (hC:C w) {s:Sem Next} (h:qN P C s k) (hk:∀ {v},k v→XU P N ro ops Q (λ ch _ ds w=>QP0 ch ds w) C fuel (i::done) (put N ρ o.dst v) ds w) (hi:ops[i]?=some o:=by exact rfl) (hr:(YM ops done).contains i=true:=by kernel_rfl) (hf:zZ ops done i=true:=by kernel_rfl) (hg:∀ p q,Xm ops o ρ p q=p:=by first | exact λ _ _=>rfl | exact λ _ _=>Xl (by assumption)) (hd:XD o.op=false:=by exact rfl) (hs:execOp (ev ρ) o=s:=by exact rfl) :
 XU P N ro ops Q (λ ch _ ds w=>QP0 ch ds w) C (fuel+1) done ρ ds w:=let ⟨v,hv,hkv⟩:=h;UA i hC hi hr hf hg hd (Ze0 hs hv) (hk hkv)
def yw (i:Nat) {v:Vl} (hC:C w) (h:XU P N ro ops Q (λ ch _ ds w=>QP0 ch ds w) C fuel (i::done) (put N ρ o.dst v) ds w) (hi:ops[i]?=some o:=by exact rfl) (hr:(YM ops done).contains i=true:=by kernel_rfl) (hf:zZ ops done i=true:=by kernel_rfl) (hg:∀ p q,Xm ops o ρ p q=p:=by first | exact λ _ _=>rfl | exact λ _ _=>Xl (by assumption)) (hd:XD o.op=false:=by exact rfl) (hs:execOp (ev ρ) o=Sem.pure (.value v):=by exact rfl) :
 XU P N ro ops Q (λ ch _ ds w=>QP0 ch ds w) C (fuel+1) done ρ ds w:=UA i hC hi hr hf hg hd (Rb hs) h
def yi (i:Nat) (hC:C w) (h:XU P N ro ops Q (λ ch _ ds w=>QP0 ch ds w) C fuel (i::done) (put N ρ o.dst undef) ds w) (hi:ops[i]?=some o:=by exact rfl) (hr:(YM ops done).contains i=true:=by kernel_rfl) (hf:zZ ops done i=true:=by kernel_rfl) (hg:∀ p q,Xm ops o ρ p q=q:=by exact λ _ _=>Q2 (by assumption)) :
 XU P N ro ops Q (λ ch _ ds w=>QP0 ch ds w) C (fuel+1) done ρ ds w:=OQ i hC hi hr hf hg h
def yP (i:Nat) {c a b:Operand} {d:Nat} {ty:TypeId} {pos:String} {after:Array Edge} {g:Option (Nat×Bool)} {vc va vb:Vl} {k:Vl→Prop} (hC:C w) (h:Zx vc va vb k) (hk:∀ v,k v→XU P N ro ops Q (λ ch _ ds w=>QP0 ch ds w) C fuel (i::done) (put N ρ (some d) v) ds w) (hi:ops[i]?=some ⟨some d,.pick c a b,ty,pos,after,g⟩:=by exact rfl) (hr:(YM ops done).contains i=true:=by kernel_rfl) (hf:zZ ops done i=true:=by kernel_rfl) (hg:∀ p q,Xm ops ⟨some d,.pick c a b,ty,pos,after,g⟩ ρ p q=p:=by first | exact λ _ _=>rfl | exact λ _ _=>Xl (by assumption)) (h1:ev ρ c=vc:=by exact rfl) (h2:ev ρ a=va:=by exact rfl) (h3:ev ρ b=vb:=by exact rfl) :
 XU P N ro ops Q (λ ch _ ds w=>QP0 ch ds w) C (fuel+1) done ρ ds w:=by
 obtain ⟨t,ht,h⟩:=Mh h
 exact UA i hC hi hr hf hg rfl (Tz (h1.trans ht) h2 h3) (hk _ h)
def yo (i:Nat) (h:ZP P N ro QP (λ ρ ds w=>C w∧XU P N ro ops Q QP C fuel (i::done) ρ ds w) [o] ρ ds w) (hi:ops[i]?=some o:=by exact rfl) (hr:YM ops done=[i]:=by kernel_rfl) (hg:∀ p q,Xm ops o ρ p q=p:=by first | exact λ _ _=>rfl | exact λ _ _=>Xl (by assumption)):XU P N ro ops Q QP C (fuel+1) done ρ ds w:=OP i hi hr hg h
def yr (i:Nat) (h:ZP P N ro QP (λ ρ ds w=>∃ C':Wd→Prop,(∀ x,C' x→C x)∧C' w∧XU P N ro ops Q QP C' fuel (i::done) ρ ds w) [o] ρ ds w) (hi:ops[i]?=some o:=by exact rfl) (hr:YM ops done=[i]:=by kernel_rfl) (hg:∀ p q,Xm ops o ρ p q=p:=by first | exact λ _ _=>rfl | exact λ _ _=>Xl (by assumption)):XU P N ro ops Q QP C (fuel+1) done ρ ds w:=Ih i hi hr hg h
def yq (i n:Nat) (h:ZP P N ro QP (λ ρ ds w=>∃ C':Wd→Prop,C' w∧XU P N ro ops Q QP C' fuel (i::done) ρ ds w) [o] ρ ds w) (hi:ops[i]?=some o:=by exact rfl) (hr:YM ops done=[i]:=by kernel_rfl) (hm:VH ops n done i=true:=by kernel_rfl) (hg:∀ p q,Xm ops o ρ p q=p:=by first | exact λ _ _=>rfl | exact λ _ _=>Xl (by assumption)):XU P N ro ops Q QP C (fuel+1) done ρ ds w:=OR i n hi hr hm hg h
def yz (h:Q ρ ds w) (hr:YM ops done=[]:=by kernel_rfl):XU P N ro ops Q QP C fuel done ρ ds w:=TW hr h
def yh (S:List Nat) {id:Nat} {l:List Oper} {Q:K} {f:(Wd→Prop)→Wd→Prop} (h:Z4 w f) (hk:∀ C:Wd→Prop,C (drew w)→f C (drew w)→XU P N ro l.toArray (Q .normal) (λ ch _ ds w=>∀ ρ',Fr S ρ ρ'→QP ch ρ' ds w) C l.length [] ρ ds (drew w)) (hm:P.follows .mixedOrders=true:=by kernel_rfl) (hS:l.all (λ o=>match o.dst with | some d=>S.contains d | none=>true)=true:=by kernel_rfl):den P N ro (.region id l.toArray true) Q QP ρ ds w:=let ⟨C,hC,hf⟩:=h;TX S hm hS C (hk C hC hf)
def yj1 (fuel':Nat) (done' S:List Nat) (x0:Nat) {K0:KV} {A B:(Vl→Wd→Prop)→Prop} {v:Vl} {want:Bool} (h:Zp K0 λ K=>Zm v want (A K) (B K))
 (h1:∀ K:Vl→Wd→Prop,(∀ ρ' w,Fr S ρ ρ'→C w→K (ρ' x0) w→XU P N ro ops Q QP C fuel' done' ρ' ds w)→XK v=some want→A K→XU P N ro ops Q QP C fuel done ρ ds w) (h2:∀ K:Vl→Wd→Prop,(∀ ρ' w,Fr S ρ ρ'→C w→K (ρ' x0) w→XU P N ro ops Q QP C fuel' done' ρ' ds w)→XK v≠some want→B K→XU P N ro ops Q QP C fuel done ρ ds w)
 (hJ:∀ σ w,C w→K0 (σ x0) w→XU P N ro ops Q QP C fuel' done' (mix S ρ σ) ds w):XU P N ro ops Q QP C fuel done ρ ds w:=
 OO fuel' done' S (λ ρ w=>K0 (ρ x0) w) (λ _ hT=>(Ep h).elim (λ h=>h1 K0 hT h.1 h.2) (λ h=>h2 K0 hT h.1 h.2)) hJ
end
section
variable {P:Program} {N:Nat} {ro:Option Nat} {c:Code} {Q:K} {QP:KP} {ρ:Env} {ds:LDf} {w:Wd}
def yl1 (W:List Nat) (x0:Nat) {body:Vl→Wd→(Vl→Wd→Prop)→Prop} {a0:Vl} (h:YW body a0 w) (hr:∀ σ w (k:KV),body (σ x0) w k→den P N ro c (QZ (λ ρ' ds' w'=>ds'=ds∧k (ρ' x0) w') Q) QP (mix W ρ σ) ds w) (hW:((Qp c).all (W.contains ·)&&W.all ((Qp c).contains ·))=true:=by kernel_rfl) (h0:ρ x0=a0:=by exact rfl):den P N ro (.loop c) Q QP ρ ds w:=by
 obtain ⟨I,μ,hi,hb⟩:=h
 subst h0
 exact BS W hW (λ ρ w=>I (ρ x0) w) (λ ρ w=>μ (ρ x0) w) hi λ σ w hI=>hr σ w _ (hb _ _ hI)
def yl2 (W:List Nat) (x0 x1:Nat) {body:Vl→Vl→Wd→(Vl→Vl→Wd→Prop)→Prop} {a0 a1:Vl} (h:Wy body a0 a1 w) (hr:∀ σ w (k:KW),body (σ x0) (σ x1) w k→den P N ro c (QZ (λ ρ' ds' w'=>ds'=ds∧k (ρ' x0) (ρ' x1) w') Q) QP (mix W ρ σ) ds w) (hW:((Qp c).all (W.contains ·)&&W.all ((Qp c).contains ·))=true:=by kernel_rfl) (h0:ρ x0=a0:=by exact rfl) (h1:ρ x1=a1:=by exact rfl):den P N ro (.loop c) Q QP ρ ds w:=by
 obtain ⟨I,μ,hi,hb⟩:=h
 subst h0 h1
 exact BS W hW (λ ρ w=>I (ρ x0) (ρ x1) w) (λ ρ w=>μ (ρ x0) (ρ x1) w) hi λ σ w hI=>hr σ w _ (hb _ _ _ hI)
def yl3 (W:List Nat) (x0 x1 x2:Nat) {body:Vl→Vl→Vl→Wd→(Vl→Vl→Vl→Wd→Prop)→Prop} {a0 a1 a2:Vl} (h:GC body a0 a1 a2 w) (hr:∀ σ w (k:Vl→Vl→Vl→Wd→Prop),body (σ x0) (σ x1) (σ x2) w k→den P N ro c (QZ (λ ρ' ds' w'=>ds'=ds∧k (ρ' x0) (ρ' x1) (ρ' x2) w') Q) QP (mix W ρ σ) ds w) (hW:((Qp c).all (W.contains ·)&&W.all ((Qp c).contains ·))=true:=by kernel_rfl) (h0:ρ x0=a0:=by exact rfl) (h1:ρ x1=a1:=by exact rfl) (h2:ρ x2=a2:=by exact rfl):den P N ro (.loop c) Q QP ρ ds w:=by
 obtain ⟨I,μ,hi,hb⟩:=h
 subst h0 h1 h2
 exact BS W hW (λ ρ w=>I (ρ x0) (ρ x1) (ρ x2) w) (λ ρ w=>μ (ρ x0) (ρ x1) (ρ x2) w) hi λ σ w hI=>hr σ w _ (hb _ _ _ _ hI)
def yJ0 (S:List Nat) {K0:WPr} {f:(Wd→Prop)→Prop} (h:Zp K0 f) (hc:∀ (K:WPr) (k':Env→LDf→Wd→Prop),(∀ ρ' w,Fr S ρ ρ'→K w→k' ρ' ds w)→f K→den P N ro c (QZ k' Q) QP ρ ds w) (hJ:∀ σ w,K0 w→Q .normal (mix S ρ σ) ds w):den P N ro c Q QP ρ ds w:=
 qm S (λ ρ w=>K0 w) (λ k' hk=>hc K0 k' hk h) hJ
def yJ1 (S:List Nat) (x0:Nat) {K0:KV} {f:(Vl→Wd→Prop)→Prop} (h:Zp K0 f) (hc:∀ (K:KV) (k':Env→LDf→Wd→Prop),(∀ ρ' w,Fr S ρ ρ'→K (ρ' x0) w→k' ρ' ds w)→f K→den P N ro c (QZ k' Q) QP ρ ds w) (hJ:∀ σ w,K0 (σ x0) w→Q .normal (mix S ρ σ) ds w):den P N ro c Q QP ρ ds w:=
 qm S (λ ρ w=>K0 (ρ x0) w) (λ k' hk=>hc K0 k' hk h) hJ
def yJ2 (S:List Nat) (x0 x1:Nat) {K0:KW} {f:(Vl→Vl→Wd→Prop)→Prop} (h:Zp K0 f) (hc:∀ (K:KW) (k':Env→LDf→Wd→Prop),(∀ ρ' w,Fr S ρ ρ'→K (ρ' x0) (ρ' x1) w→k' ρ' ds w)→f K→den P N ro c (QZ k' Q) QP ρ ds w) (hJ:∀ σ w,K0 (σ x0) (σ x1) w→Q .normal (mix S ρ σ) ds w):den P N ro c Q QP ρ ds w:=
 qm S (λ ρ w=>K0 (ρ x0) (ρ x1) w) (λ k' hk=>hc K0 k' hk h) hJ
def yC {x:Operand} {A B:Code} {v:Vl} {p q:Prop} (h:Zr v p q) (hp:p→den P N ro A Q QP ρ ds w) (hq:q→den P N ro B Q QP ρ ds w) (hv:ev ρ x=v:=by exact rfl):den P N ro (.cond x A B) Q QP ρ ds w:=TV h hv hp hq
def yG (n:Nat) {ops:Array Oper} {l:List Oper} (h:ZP P N ro QP (λ ρ ds w=>Yf P N ro ops Q QP (l.drop n) none ρ ds w) (l.take n) ρ ds w) (hu:Vc (l.take n)=true:=by exact rfl):Yf P N ro ops Q QP l none ρ ds w:=Zby n hu h
def yg1 (n j:Nat) (want:Bool) (S:List Nat) (x0:Nat) {ops:Array Oper} {l:List Oper} {K0:KV} {A:(Vl→Wd→Prop)→Prop} {v:Vl} {u0:Vl} (h:Zp K0 λ K=>Zm v want (A K) (K u0 w))
 (hc:∀ (K:KV) (T:Env→LDf→Wd→Prop),(∀ ρ' w,Fr S ρ ρ'→K (ρ' x0) w→T ρ' ds w)→A K→ZP P N ro QP T (l.take n) ρ ds w) (hJ:∀ σ w,K0 (σ x0) w→Yf P N ro ops Q QP (l.drop n) none (mix S ρ σ) ds w) (hok:F2 ops j want (l.take n) (l.drop n)=true:=by exact rfl) (hv:Qe ops ρ j=v:=by exact rfl) (hf:Fr S ρ (skipAll N (l.take n) ρ):=by exact Fr.skipAll rfl (Fr.refl _ _)) (hu0:skipAll N (l.take n) ρ x0=u0:=by exact rfl):Yf P N ro ops Q QP l none ρ ds w:=by
 subst hu0;exact MD n j want S (λ ρ w=>K0 (ρ x0) w) hok hv (λ T hT=>Up h (hc K0 T hT) λ h=>hT _ _ hf h) hJ
end
section
variable {P:Program} {f:FuncId} {fn:Func} {c:Code} {args:List Vl} {w:Wd} {R:RT}
def yD (hf:P.funcs[f]?=some fn) (h:den P fn.ntmps none c (Un P fn R) (xh R) (Ao args) [] w) (hb:fn.body=some c:=by exact rfl) (hn:args.length≤fn.ntmps:=by exact Nat.le_of_ble_eq_true rfl):Calls P f args.toArray w R:=D7 hf hb hn h
def yE (hf:P.funcs[f]?=some fn) (h:den P fn.ntmps none c (Aa P fn R) (jF P fn R) (Ao args) [] w) (hb:fn.body=some c:=by exact rfl) (hn:args.length≤fn.ntmps:=by exact Nat.le_of_ble_eq_true rfl):Calls P f args.toArray w R:=Ch hf hb hn h
end
end Go.Sw
namespace Go.Proofs.YtgalpdihjbinjaaGreatDoor
open Sw
def c3:=Qqy func3
def c4:=Qqy func4
def c5:=Qqy func5
def c6:=Qqy func6
def c7:=Qqy func7
def c8:=Qqy func8
def c9:=Qqy func9
def c10:=Qqy func10
def c11:=Qqy func11
def c12:=Qqy func12
def c13:=Qqy func13
def c14:=Qqy func14
def c16:=Qqy func16
def c17:=Qqy func17
def c18:=Qqy func18
def c20:=Qqy func20
def c21:=Qqy func21
def c22:=Qqy func22
def c23:=Qqy func23
def c25:=Qqy func25
def c30:=Qqy func30
def c31:=Qqy func31
def c32:=Qqy func32
def c33:=Qqy func33
def c34:=Qqy func34
def c35:=Qqy func35
def c36:=Qqy func36
def c37:=Qqy func37
def c39:=Qqy func39
def c41:=Qqy func41
def c42:=Qqy func42
def c43:=Qqy func43
def c44:=Qqy func44
def c46:=Qqy func46
def c47:=Qqy func47
def c48:=Qqy func48
def c49:=Qqy func49
def c50:=Qqy func50
def c51:=Qqy func51
def c52:=Qqy func52
def c53:=Qqy func53
def c54:=Qqy func54
def c57:=Qqy func57
def c58:=Qqy func58
def c59:=Qqy func59
def c60:=Qqy func60
def c61:=Qqy func61
def c64:=Qqy func64
def c68:=Qqy func68
def c70:=Qqy func70
def c71:=Qqy func71
def c72:=Qqy func72
def c73:=Qqy func73
def c74:=Qqy func74
def c75:=Qqy func75
def c76:=Qqy func76
def c77:=Qqy func77
def c78:=Qqy func78
def c79:=Qqy func79
def c80:=Qqy func80
def c81:=Qqy func81
def c82:=Qqy func82
def c85:=Qqy func85
def c87:=Qqy func87
def c88:=Qqy func88
def c89:=Qqy func89
def c90:=Qqy func90
def c91:=Qqy func91
def c92:=Qqy func92
def c93:=Qqy func93
def c94:=Qqy func94
def c95:=Qqy func95
def c96:=Qqy func96
def c97:=Qqy func97
def c99:=Qqy func99
def Zji:=Qqy func100
def Pk:=Qqy func101
def Zjj:=Qqy func102
def Zjk:=Qqy func103
def Zjl:=Qqy func104
def IC:=Qqy func105
def Zjm:=Qqy func106
def Zjn:=Qqy func107
def Zjo:=Qqy func108
def Zjp:=Qqy func109
def Zfv:=Qqy func110
def Zjq:=Qqy func111
def Zjr:=Qqy func112
def Zjs:=Qqy func113
def Zjt:=Qqy func114
def Zju:=Qqy func125
def Zjv:=Qqy func126
def c127:=Qqy func127
def Zfw:=Qqy func128
def Zjw:=Qqy func129
def Zfx:=Qqy func133
def Zfy:=Qqy func134
def Uk:=Qqy func135
def Zjx:=Qqy func136
def Zjy:=Qqy func137
def Zjz:=Qqy func138
def ZjA:=Qqy func139
def Zek:=Qqy func140
def Zfz:=Qqy func141
def ZfA:=Qqy func142
def c143:=Qqy func143
def c145:=Qqy func145
def ZjB:=Qqy func153
def ZjC:=Qqy func154
def ZjD:=Qqy func155
def ZjE:=Qqy func160
def ZjF:=Qqy func161
def ZfB:=Qqy func162
def ZjG:=Qqy func163
def ZjH:=Qqy func164
def ZjI:=Qqy func165
def ZjJ:=Qqy func166
def c167:=Qqy func167
def c168:=Qqy func168
def c171:=Qqy func171
def c173:=Qqy func173
def c175:=Qqy func175
def NP:=Qqy func188
def ZjK:=Qqy func189
def ZjL:=Qqy func191
def ZjM:=Qqy func192
def ZjN:=Qqy func193
def ZjO:=Qqy func194
def NQ:=Qqy func195
def ZfC:=Qqy func196
def ZjP:=Qqy func197
def ZfD:=Qqy func198
def ZfE:=Qqy func199
def ZjQ:=Qqy func200
def c210:=Qqy func210
def ZjR:=Qqy func211
def c212:=Qqy func212
def c213:=Qqy func213
def ZfF:=Qqy func214
def D6:=Qqy func215
def ZjS:=Qqy func216
def ZjT:=Qqy func217
def ZjU:=Qqy func218
def ZjV:=Qqy func219
def ZjW:=Qqy func220
def Zel:=Qqy func221
def ZjX:=Qqy func222
def ZjY:=Qqy func223
def ZjZ:=Qqy func224
def Zj0:=Qqy func225
def Zj1:=Qqy func226
def Zj2:=Qqy func227
def Zem:=Qqy func228
def Zj3:=Qqy func229
def Zj4:=Qqy func230
def Zj5:=Qqy func231
def c232:=Qqy func232
def c233:=Qqy func233
def Zj6:=Qqy func234
def Zj7:=Qqy func235
def Zj8:=Qqy func236
def Zj9:=Qqy func237
def Zka:=Qqy func238
def ZfG:=Qqy func239
def Zkb:=Qqy func240
def Zkc:=Qqy func241
def Zkd:=Qqy func244
def Zke:=Qqy func245
def Zen:=Qqy func246
def ZaA:=Qqy func247
def ZfH:=Qqy func248
def Zkf:=Qqy func249
def Zkg:=Qqy func250
def Zkh:=Qqy func251
def Zki:=Qqy func252
def ZfI:=Qqy func253
def Zkj:=Qqy func254
def Zkk:=Qqy func255
def Zkl:=Qqy func256
def ZfJ:=Qqy func257
def Zkm:=Qqy func258
def Zkn:=Qqy func259
def ZfK:=Qqy func260
def Zko:=Qqy func261
def Zkp:=Qqy func262
def Zkq:=Qqy func263
def Zkr:=Qqy func264
def HH a b c (ds:LDf) (R:RT) w:=
 opV Pg (build 131 #[]) (ZD Pg ds [(none,c),(some 131,a),(some 4,b)] R) w λ d w=>
 opU Pg (storeAt 131 a d) (ZD Pg ds [(none,c),(some 131,a),(some 4,b)] R) w λ w=>
 opU Pg (storeAt 4 b (.bool false)) (ZD Pg ds [(none,c),(some 131,a),(some 4,b)] R) w λ w=>
 Ul Pg ds [(none,c),(some 131,a),(some 4,b)] R w
def HI f c d b (a:WPr) (ds:LDf) (R:RT) w:=
 qN Pg a (Y0 b) λ g=>
 J0 201 g 1 a λ h=>
 I0 198 h a λ i=>
 J0 27 f 2 a λ j=>
 I0 9 j a λ k=>
 qV Pg a (lookup 198 i k true) λ e=>
 qV Pg a (extract e 0) λ m=>
 qV Pg a (extract e 1) λ l=>
 ZU Pg 135 #[b,l,(QqQ 11)] (ZD Pg ds [(none,b),(some 131,c),(some 4,d)] R) w λ n w=>
 HH c d b ds R w
def HJ d b c a (ds:LDf) (R:RT) w:=
 opN Pg (Y0 a) (ZD Pg ds [(none,a),(some 131,b),(some 4,c)] R) w λ e w=>
 opV Pg (fieldAt 201 e 3) (ZD Pg ds [(none,a),(some 131,b),(some 4,c)] R) w λ f w=>
 opU Pg (storeAt 3 f (.int .i64 (-1))) (ZD Pg ds [(none,a),(some 131,b),(some 4,c)] R) w λ w=>
 Z4 w λ g w=>
 HI d b c a g ds R w
def HK b c a f d (Ys:KV) (ds:LDf) (R:RT) w:=
 opV Pg (indexAt 25 f d) (ZD Pg ds [(none,a),(some 131,b),(some 4,c)] R) w λ g w=>
 opV Pg (loadAt 74 g) (ZD Pg ds [(none,a),(some 131,b),(some 4,c)] R) w λ h w=>
 opV Pg (alloc 74 true (.tuple #[])) (ZD Pg ds [(none,a),(some 131,b),(some 4,c)] R) w λ e w=>
 opU Pg (storeAt 74 e h) (ZD Pg ds [(none,a),(some 131,b),(some 4,c)] R) w λ w=>
 opN Pg (Y0 a) (ZD Pg ds [(none,a),(some 131,b),(some 4,c)] R) w λ i w=>
 opV Pg (fieldAt 201 i 3) (ZD Pg ds [(none,a),(some 131,b),(some 4,c)] R) w λ j w=>
 opU Pg (storeAt 3 j d) (ZD Pg ds [(none,a),(some 131,b),(some 4,c)] R) w λ w=>
 opV Pg (loadAt 74 e) (ZD Pg ds [(none,a),(some 131,b),(some 4,c)] R) w λ k w=>
 ZU Pg 136 #[a,k] (ZD Pg ds [(none,a),(some 131,b),(some 4,c)] R) w λ m w=>
 opV Pg (ZA .add 3 true d (QqQ 1)) (ZD Pg ds [(none,a),(some 131,b),(some 4,c)] R) w λ l w=>
 Ys l w
def DD e a b c f g d (Ys:KV) (ds:LDf) (R:RT) w:=
 opV Pg (ZA .lss 3 false d g) (ZD Pg ds [(none,c),(some 131,a),(some 4,b)] R) w λ h w=>
 Zr h (
 HK a b c f d Ys ds R w) (
 HJ e a b c ds R w)
def Bu d a b c (ds:LDf) (R:RT) w:=
 opV Pg (fieldAt 27 d 1) (ZD Pg ds [(none,c),(some 131,a),(some 4,b)] R) w λ f w=>
 opV Pg (loadAt 25 f) (ZD Pg ds [(none,c),(some 131,a),(some 4,b)] R) w λ e w=>
 opV Pg (Builtin.len_ #[25] 3 #[e]) (ZD Pg ds [(none,c),(some 131,a),(some 4,b)] R) w λ g w=>
 YW (λ h w Ys=>
 DD d a b c e g h Ys ds R w) (QqQ 0) w
def Nm d b c a e f (ds:LDf) (R:RT) w:=
 Zx e f (.bool false) λ g=>
 ZU Pg 135 #[a,g,(QqQ 3)] (ZD Pg ds [(none,a),(some 131,b),(some 4,c)] R) w λ h w=>
 Bu d b c a ds R w
def Nn d a b c (e:KV) (ds:LDf) (R:RT) w:=
 opV Pg (fieldAt 27 d 1) (ZD Pg ds [(none,c),(some 131,a),(some 4,b)] R) w λ f w=>
 opV Pg (loadAt 25 f) (ZD Pg ds [(none,c),(some 131,a),(some 4,b)] R) w λ g w=>
 opV Pg (Builtin.len_ #[25] 3 #[g]) (ZD Pg ds [(none,c),(some 131,a),(some 4,b)] R) w λ h w=>
 opV Pg (ZA .leq 3 true h (QqQ 60)) (ZD Pg ds [(none,c),(some 131,a),(some 4,b)] R) w λ i w=>
 e i w
def HL d a b c (ds:LDf) (R:RT) w:=
 opV Pg (fieldAt 27 d 1) (ZD Pg ds [(none,c),(some 131,a),(some 4,b)] R) w λ g w=>
 opV Pg (loadAt 25 g) (ZD Pg ds [(none,c),(some 131,a),(some 4,b)] R) w λ h w=>
 opV Pg (Builtin.len_ #[25] 3 #[h]) (ZD Pg ds [(none,c),(some 131,a),(some 4,b)] R) w λ i w=>
 opV Pg (ZA .geq 3 true i (QqQ 1)) (ZD Pg ds [(none,c),(some 131,a),(some 4,b)] R) w λ e w=>
 Zp (λ (j:Vl) (w:Wd)=>
 Nm d a b c e j ds R w) λ f=>
 Zm e true (
 Nn d a b c f ds R w) (
 f undef w)
abbrev QqX0 (f:FuncId) (n:RT→Wd→Prop):Prop:=∀ {R:RT} {w:Wd},n R w→Calls Pg f #[] w R
abbrev QqX1 (f:FuncId) (n:Vl→RT→Wd→Prop):Prop:=∀ {t0:Vl} {R:RT} {w:Wd},n t0 R w→Calls Pg f #[t0] w R
abbrev QqX2 (f:FuncId) (n:Vl→Vl→RT→Wd→Prop):Prop:=∀ {t0 t1:Vl} {R:RT} {w:Wd},n t0 t1 R w→Calls Pg f #[t0,t1] w R
abbrev QqX3 (f:FuncId) (n:Vl→Vl→Vl→RT→Wd→Prop):Prop:=∀ {t0 t1 t2:Vl} {R:RT} {w:Wd},n t0 t1 t2 R w→Calls Pg f #[t0,t1,t2] w R
abbrev QqX4 (f:FuncId) (n:Vl→Vl→Vl→Vl→RT→Wd→Prop):Prop:=∀ {t0 t1 t2 t3:Vl} {R:RT} {w:Wd},n t0 t1 t2 t3 R w→Calls Pg f #[t0,t1,t2,t3] w R
abbrev QqX5 (f:FuncId) (n:Vl→Vl→Vl→Vl→Vl→RT→Wd→Prop):Prop:=∀ {t0 t1 t2 t3 t4:Vl} {R:RT} {w:Wd},n t0 t1 t2 t3 t4 R w→Calls Pg f #[t0,t1,t2,t3,t4] w R
def n92 e (R:RT) w:=
 (λ (ds:LDf)=>
 opV Pg (box 27 e) (ZD Pg ds [(none,undef),(some 131,undef),(some 4,undef)] R) w λ d w=>
 opV Pg (alloc 131 true (.tuple #[])) (ZD Pg ds [(none,(Value.pointer none)),(some 131,undef),(some 4,undef)] R) w λ a w=>
 opV Pg (alloc 4 true (.tuple #[])) (ZD Pg ds [(none,(Value.pointer none)),(some 131,a),(some 4,undef)] R) w λ b w=>
 opV Pg (loadAt 27 d) (ZD Pg ds [(none,(Value.pointer none)),(some 131,a),(some 4,b)] R) w λ f w=>
 opV Pg (Instr.makeMap 198 none) (ZD Pg ds [(none,(Value.pointer none)),(some 131,a),(some 4,b)] R) w λ g w=>
 opV Pg (Instr.makeMap 199 none) (ZD Pg ds [(none,(Value.pointer none)),(some 131,a),(some 4,b)] R) w λ h w=>
 opV Pg (build 201 #[(0,f),(1,g),(2,h),(3,(.int .i64 (-1))),(4,(.int .i64 (-1)))]) (ZD Pg ds [(none,(Value.pointer none)),(some 131,a),(some 4,b)] R) w λ i w=>
 opV Pg (box 201 i) (ZD Pg ds [(none,(Value.pointer none)),(some 131,a),(some 4,b)] R) w λ c w=>
 opV Pg (makeFunc (.func 134) #[] #[a,b]) (ZD Pg ds [(none,c),(some 131,a),(some 4,b)] R) w λ j w=>
 Zep Pg j #[] ds w λ ds w=>
 opV Pg (fieldAt 27 d 0) (ZD Pg ds [(none,c),(some 131,a),(some 4,b)] R) w λ k w=>
 opV Pg (loadAt 9 k) (ZD Pg ds [(none,c),(some 131,a),(some 4,b)] R) w λ l w=>
 ZU Pg 35 #[l] (ZD Pg ds [(none,c),(some 131,a),(some 4,b)] R) w λ m w=>
 ZU Pg 135 #[c,m,(QqQ 1)] (ZD Pg ds [(none,c),(some 131,a),(some 4,b)] R) w λ n w=>
 HL d a b c ds R w) []
def ZlM:QqX1 106 n92:=λ h=>by
 refine yE func106 ?_
 unfold n92 at h
 dsimp only at h
 refine zs<|zr<|yv h λ h=>zm<|yv h λ h=>yv h λ h=>zn<|zk<|zs<|zr<|yv h λ h=>yv h λ h=>yv h λ h=>yB h λ h=>yv h λ h=>?_
 refine zm<|zn<|zk<|zs<|zr<|yF h λ h=>?_
 refine DR h rfl rfl ?_;intro ds w h
 refine zn<|zk<|zs<|zr<|zm<|yv h λ h=>yv h λ h=>yc h c35 λ h=>yc h Uk λ h=>zn<|zk<|zs<|Zq<|yG 6<|zm ?_
 refine yv h λ h=>yv h λ h=>yx h λ h=>yb h λ h=>zm<|zn<|yg1 4 5 true [26,27,28,29] 29 h (λ _ T hT h=>?_) λ σ w h=>?_
 · refine yv h λ h=>yv h λ h=>yx h λ h=>yb h λ h=>zn ?_
   exact zt hT h
 refine yG 2<|yp h λ h=>yc h Uk λ h=>zn<|ZG<|zk<|zs<|zs<|zr<|yv h λ h=>yv h λ h=>yx h λ h=>zm<|zn<|zk ?_
 refine Zl<|yl1 [5,6,35,36,37,38,39,40,41,42,43,44,45,46,47] 35 h λ σ w next h=>zs<|zr<|yb h λ h=>zn<|zk<|zs<|yC h (λ h=>?_) λ h=>?_
 · refine Zk<|zk<|zs<|Zl<|zs<|zr<|zm<|yv h λ h=>yv h λ h=>yv h λ h=>zm<|yu h λ h=>zn<|zk<|zs ?_
   refine zr<|zm<|zm<|yN h λ h=>yv h λ h=>yu h λ h=>zn<|zk<|zr<|zm<|yv h λ h=>yc h Zjx λ h=>zn<|Zf<|zk ?_
   exact zr<|yb h λ h=>zm<|zn<|zk<|⟨rfl,h⟩
 refine ZN<|Ze<|Ze<|Zs<|zk<|zs<|zr<|zm<|yN h λ h=>yv h λ h=>yu h λ h=>zn<|zk<|zs<|yh [7,8,51,52,53,54,55,56,57,58,59,60] h λ C hC h=>?_
 refine yw 0 hC ?_
 refine yn 1 hC h λ h=>?_
 refine ye 2 hC h λ h=>?_
 refine ye 3 hC h λ h=>?_
 refine ye 4 hC h λ h=>?_
 refine ye 5 hC h λ h=>?_
 refine ye 6 hC h λ h=>?_
 refine yw 7 hC ?_
 refine ye 8 hC h λ h=>?_
 refine ye 9 hC h λ h=>?_
 refine yw 10 hC ?_
 refine yw 11 hC ?_
 refine yz<|zk<|zs<|zr<|zm<|zm<|yc h Uk λ h=>zn<|zk<|zs<|zr<|zm<|yB h λ h=>zm<|yu h λ h=>?_
 exact yu h λ h=>zn<|zk<|Zg<|X8 rfl h
def Zhv a b (R:RT) w:=
 C0 137 #[a,b] R w λ c w=>
 B0 .geq 3 true c (QqQ 0) R w λ d w=>
 R (.returned d) w
def Zhw:QqX2 107 Zhv:=λ h=>by
 refine yD func107 ?_
 refine zs<|zr<|zm<|zn<|zk<|zs<|zr<|zm<|zm<|yc h Zjy λ h=>yb h λ h=>zm<|zn<|zk<|Zg ?_
 exact Zj rfl rfl h
def Rr b c a (Zz:KV) R w:=
 X0 40 b a R w λ d w=>
 L0 5 d R w λ e w=>
 X9 Pg c #[e] (Zc R) w λ f w=>
 Zr f (
 R (.returned a) w) (
 B0 .add 3 true a (QqQ 1) R w λ g w=>
 Zz g w)
def ZhQ a c R w:=
 G0 40 3 a R w λ d w=>
 YW (λ b w Zz=>
 B0 .lss 3 false b d R w λ e w=>
 Zr e (
 Rr a c b Zz R w) (
 R (.returned (.int .i64 (-1))) w)) (QqQ 0) w
def ZhR:QqX2 108 ZhQ:=λ h=>by
 refine yD func108 ?_
 refine zs<|zr<|zm<|zn<|zk<|zs<|zs<|zr<|zm<|yx h λ h=>zm<|zn<|zk<|Zl<|yl1 [4,5,8,9,10,11,12,13,14,15,16,17,18] 8 h λ σ w next h=>?_
 refine zs<|zr<|yb h λ h=>zn<|zk<|zs<|yC h (λ h=>?_) λ h=>?_
 · refine Zk<|zk<|zs<|Zl<|zs<|zr<|zm<|zm<|zn<|zk<|zs<|zr<|zm<|zm<|zm ?_
   refine yv h λ h=>yv h λ h=>yV h λ h=>zn<|zk<|yC h (λ h=>zs<|zr<|zm<|zm<|zn<|zk<|Zg<|Zh<|Zb<|Zb<|Zh<|Zb<|Zj rfl rfl h) λ h=>Zk<|Zf<|zk<|zr<|yb h λ h=>zm<|zn<|zk ?_
   exact ⟨rfl,h⟩
 exact ZN<|Ze<|Ze<|Zs<|zk<|zs<|zr<|zm<|zn<|zk<|Zg<|Zj rfl rfl h
def n75 b c R w:=
 opV Pg (box 27 b) (Zc R) w λ d w=>
 opV Pg (box 9 c) (Zc R) w λ e w=>
 F0 27 d 1 R w λ f w=>
 L0 25 f R w λ g w=>
 opV Pg (makeFunc (.func 139) #[] #[e]) (Zc R) w λ h w=>
 C0 138 #[g,h] R w λ a w=>
 E0q a 0 R w λ i w=>
 E0q a 1 R w λ j w=>
 R (.returned (.tuple #[i,j])) w
def Zlu:QqX2 109 n75:=λ h=>by
 refine yD func109 ?_
 refine zs<|zr<|yv h λ h=>yv h λ h=>zm<|zm<|zn<|zk<|zs<|zr<|yv h λ h=>yv h λ h=>yF h λ h=>yc h Zjz λ h=>yv h λ h=>?_
 exact yv h λ h=>zm<|zm<|zn<|zk<|Zg<|Yg rfl rfl rfl h
def Zck b c d (a:WPr) (R:RT) w:=
 J0 74 b 1 a λ e=>
 I0 72 e a λ f=>
 M0 72 f d a λ g=>
 I0 123 g a λ h=>
 J0 74 b 1 a λ i=>
 I0 72 i a λ j=>
 M0 72 j d a λ k=>
 I0 123 k a λ l=>
 C0 68 #[l] R w λ m w=>
 a w∧(
 S0 123 c h R w λ w=>
 WB w λ n w=>
 qW Pg 123 c w λ r0=>
 R (.returned (.tuple #[r0,m])) w)
def Zcl a R w:=
 opV Pg (build 123 #[]) (Zc R) w λ b w=>
 S0 123 a b R w λ w=>
 qW Pg 123 a w λ r0=>
 R (.returned (.tuple #[r0,(QqQ 0)])) w
def Zcm c a b R w:=
 E0q b 0 R w λ d w=>
 E0q b 1 R w λ e w=>
 N0 e R w λ f w=>
 Zr f (
 Zcl a R w) (
 Z4 w λ g w=>
 Zck c a d g R w)
def n37 b c R w:=
 opV Pg (box 74 b) (Zc R) w λ a w=>
 opV Pg (alloc 123 true (.tuple #[])) (Zc R) w λ d w=>
 L0 74 a R w λ e w=>
 C0 140 #[e,c] R w λ f w=>
 Zcm a d f R w
def ZkT:QqX2 110 n37:=λ h=>by
 refine yD func110 ?_
 refine zs<|zr<|yv h λ h=>yv h λ h=>zm<|zn<|zk<|zs<|zr<|yv h λ h=>zm<|yc h Zek λ h=>zm<|yv h λ h=>yv h λ h=>?_
 refine zm<|zm<|zn<|zk<|zs<|zs<|zr<|zm<|yv h λ h=>zn<|zk<|yC h (λ h=>zs<|zr<|yB h λ h=>yu h λ h=>zm<|zn<|zk<|Zg<|Zb<|YD rfl rfl rfl h) λ h=>Zk<|zk ?_
 refine zs<|yh [5,17,18,19,20,21,22,23,24,25,26,27] h λ C hC h=>ye 0 hC h λ h=>?_
 refine ye 1 hC h λ h=>?_
 refine yw 2 hC ?_
 refine ye 3 hC h λ h=>?_
 refine ye 4 hC h λ h=>?_
 refine ye 5 hC h λ h=>?_
 refine ye 6 hC h λ h=>?_
 refine yw 7 hC ?_
 refine ye 8 hC h λ h=>?_
 refine ye 9 hC h λ h=>?_
 refine yo 10 ?_
 refine yc h c68 λ h=>zn ?_
 obtain ⟨hC,h⟩:=h
 refine ⟨hC,?_⟩
 refine yq 11 5 ?_
 refine yu h λ h=>zn ?_
 obtain ⟨C2,hC,h⟩:=h
 refine ⟨C2,hC,?_⟩
 refine yw 12 hC ?_
 exact yz<|zk<|Zg<|YD rfl rfl rfl h
def n32 a b R w:=
 opV Pg (box 43 a) (Zc R) w λ c w=>
 F0 43 c 0 R w λ d w=>
 L0 9 d R w λ e w=>
 F0 43 b 0 R w λ f w=>
 L0 9 f R w λ g w=>
 B0 .eql 9 false e g R w λ h w=>
 R (.returned h) w
def ZkO:QqX2 111 n32:=λ h=>by
 refine yD func111 ?_
 refine zs<|zr<|yv h λ h=>zm<|zn<|zk<|zs<|zr<|yv h λ h=>yv h λ h=>yv h λ h=>yv h λ h=>yb h λ h=>zm<|zn ?_
 exact zk<|Zg<|Zj rfl rfl h
def qR a b (Ys:KW) R w:=
 F0 78 a 1 R w λ c w=>
 L0 3 c R w λ d w=>
 B0 .add 3 true b (QqQ 1) R w λ e w=>
 Ys d e w
def Dj e b f g h (Ys:KW) (R:RT) w:=
 Zx g h (.bool false) λ c=>
 Zp (λ (a:Vl) (w:Wd)=>
 Zx c a (.bool false) λ i=>
 C0 33 #[e,i,(QqQ 8)] R w λ l w=>
 qR b f Ys R w) λ d=>
 Zm c true (
 F0 78 b 2 R w λ j w=>
 L0 3 j R w λ k w=>
 C0 42 #[k] R w λ a w=>
 d a w) (
 d undef w)
def Dk e b f g h (Ys:KW) R w:=
 Zx g h (.bool false) λ c=>
 Zp (λ (a:Vl) (w:Wd)=>
 Dj e b f c a Ys R w) λ d=>
 Zm c true (
 F0 78 b 1 R w λ i w=>
 L0 3 i R w λ j w=>
 C0 42 #[j] R w λ a w=>
 d a w) (
 d undef w)
def Bg f g h c (Ys:KW) R w:=
 X0 41 g c R w λ i w=>
 L0 78 i R w λ j w=>
 opV Pg (alloc 78 true (.tuple #[])) (Zc R) w λ a w=>
 S0 78 a j R w λ w=>
 F0 78 a 0 R w λ k w=>
 L0 3 k R w λ l w=>
 B0 .gtr 3 false l h R w λ d w=>
 Zp (λ (b:Vl) (w:Wd)=>
 Dk f a c d b Ys R w) λ e=>
 Zm d true (
 F0 78 a 0 R w λ m w=>
 L0 3 m R w λ n w=>
 F0 78 a 1 R w λ o w=>
 L0 3 o R w λ p w=>
 B0 .leq 3 false n p R w λ b w=>
 e b w) (
 e undef w)
def qS c a R w:=
 G0 41 3 a R w λ d w=>
 Wy (λ e b w Ys=>
 B0 .lss 3 false b d R w λ f w=>
 Zr f (
 Bg c a e b Ys R w) (
 R (.returned (.tuple #[])) w)) (.int .i64 (-1)) (QqQ 0) w
def n33 c a R w:=
 G0 41 3 a R w λ f w=>
 B0 .geq 3 true f (QqQ 1) R w λ d w=>
 Zp (λ (b:Vl) (w:Wd)=>
 Zx d b (.bool false) λ g=>
 C0 33 #[c,g,(QqQ 2)] R w λ i w=>
 qS c a R w) λ e=>
 Zm d true (
 G0 41 3 a R w λ h w=>
 B0 .leq 3 true h (QqQ 40) R w λ b w=>
 e b w) (
 e undef w)
def ZkP:QqX2 112 n33:=λ h=>by
 refine yD func112 ?_
 refine zs<|Zq<|yG 5<|zm<|zm<|yx h λ h=>yb h λ h=>zm<|zn<|yg1 3 4 true [12,13,14] 14 h (λ _ T hT h=>?_) λ σ w h=>?_
 · refine zm<|yx h λ h=>yb h λ h=>zn ?_
   exact zt hT h
 refine yG 2<|yp h λ h=>yc h c33 λ h=>zn<|ZG<|zk<|zs<|zr<|zm<|zn<|zk<|zs<|zr<|zm<|yx h λ h=>?_
 refine zm<|zn<|zk<|Zl<|yl2 [4,6,19,20,21,22,23,24,25,26,27,28,29,30,31,32,33,34,35,36,37,38,39,40,41,42,43,44,45,46,47,48] 4 19 h λ σ w next h=>zs<|zr<|yb h λ h=>zn<|zk<|zs<|yC h (λ h=>?_) λ h=>?_
 · refine Zk<|zk<|zs<|Zl<|zs<|zr<|yv h λ h=>yv h λ h=>yv h λ h=>yu h λ h=>zn<|zk<|zs<|Zq<|yG 6 ?_
   refine zm<|yv h λ h=>yv h λ h=>zm<|yb h λ h=>zm<|zn<|yg1 5 5 true [29,30,31,32,33] 33 h (λ _ T hT h=>?_) λ σ w h=>?_
   · refine yv h λ h=>yv h λ h=>yv h λ h=>yv h λ h=>yb h λ h=>zn ?_
     exact zt hT h
   refine yG 2<|yp h λ h=>zm<|zn<|yg1 3 12 true [36,37,38] 38 h (λ _ T hT h=>?_) λ σ w h=>?_
   · refine yv h λ h=>yv h λ h=>yc h c42 λ h=>zn ?_
     exact zt hT h
   refine yG 2<|yp h λ h=>zm<|zn<|yg1 3 17 true [41,42,43] 43 h (λ _ T hT h=>?_) λ σ w h=>?_
   · refine yv h λ h=>yv h λ h=>yc h c42 λ h=>zn ?_
     exact zt hT h
   refine yG 2<|yp h λ h=>yc h c33 λ h=>zn<|ZG<|zk<|zr<|yv h λ h=>yv h λ h=>zm<|zn<|Zf<|zk<|zr<|yb h λ h=>?_
   exact zm<|zn<|zk<|⟨rfl,h⟩
 exact ZN<|Ze<|Ze<|Zs<|ZJ<|ZR rfl h
def RE a b c d (e:WPr) (Zz:KV) (R:RT) w:=
 Zx c d (.bool false) λ f=>
 C0 33 #[a,f,(QqQ 9)] R w λ h w=>
 e w∧(
 B0 .add 3 true b (QqQ 1) R w λ g w=>
 Zz g w)
def Zcb b c d (a:WPr) (e:KV) (R:RT) w:=
 I0 123 c a λ f=>
 qN Pg a (Y0 b) λ g=>
 J0 81 g 0 a λ h=>
 J0 24 h 1 a λ i=>
 I0 22 i a λ j=>
 M0 22 j d a λ k=>
 J0 60 k 1 a λ l=>
 I0 9 l a λ m=>
 C0 141 #[f] R w λ n w=>
 a w∧(
 C0 142 #[n,m] R w λ o w=>
 a w∧(
 e o w))
def Zcc a f g b (Zz:KV) R w:=
 E0q b 0 R w λ h w=>
 E0q b 1 R w λ c w=>
 Z4 w λ d w=>
 Zp (λ (i:Vl) (w:Wd)=>
 RE a g c i d Zz R w) λ e=>
 Zm c true (
 Zcb a f h d e R w) (
 e undef w)
def Zcd a c d b (Zz:KV) R w:=
 X0 94 d b R w λ e w=>
 L0 9 e R w λ f w=>
 opN Pg (Y0 a) (Zc R) w λ g w=>
 F0 81 g 0 R w λ h w=>
 L0 24 h R w λ i w=>
 C0 20 #[i,f] R w λ j w=>
 Zcc a c b j Zz R w
def Zce c d a R w:=
 G0 94 3 a R w λ e w=>
 YW (λ b w Zz=>
 B0 .lss 3 false b e R w λ f w=>
 Zr f (
 Zcd c d a b Zz R w) (
 R (.returned (.tuple #[])) w)) (QqQ 0) w
def n30 a b c R w:=
 opV Pg (box 123 b) (Zc R) w λ d w=>
 opV Pg (box 123 c) (Zc R) w λ e w=>
 L0 123 d R w λ f w=>
 C0 141 #[f] R w λ g w=>
 Zce a e g R w
def ZkM:QqX3 113 n30:=λ h=>by
 refine yD func113 ?_
 refine zs<|zr<|yv h λ h=>yv h λ h=>zn<|zk<|zs<|zr<|yv h λ h=>yc h Zfz λ h=>yx h λ h=>zm<|zn<|zk<|Zl ?_
 refine yl1 [7,8,9,13,14,15,16,17,18,19,20,21,22,23,24,25,26,27,28,29,30,31,32,33,34,35,36,37,38,39,40,41,42,43] 13 h λ σ w next h=>zs<|zr<|yb h λ h=>zn<|zk<|zs<|yC h (λ h=>?_) λ h=>?_
 · refine Zk<|zk<|zs<|Zl<|zs<|zr<|yv h λ h=>yv h λ h=>zm<|zn<|zk<|zs<|zr<|zm<|yN h λ h=>?_
   refine yv h λ h=>yv h λ h=>zm<|yc h c20 λ h=>zm<|yv h λ h=>yv h λ h=>zm<|zm<|zn<|zk<|yh [26,27,28,29,30,31,32,33,34,35,36,37,38,39,40,41,42] h λ C hC h=>yw 0 hC ?_
   refine yw 1 hC ?_
   refine yw 2 hC ?_
   refine yj1 2 [14,4,13,12,11,10,9,8,7,6,5,3,2,1,0] [29,30,31,32,33,34,35,36,37,38,39,40] 40 h (λ _ hT hb h=>?_) (λ _ hT hb h=>?_) λ σ w hC h=>?_
   · refine ye 3 hC h λ h=>?_
     refine yw 5 hC ?_
     refine yn 6 hC h λ h=>?_
     refine ye 7 hC h λ h=>?_
     refine ye 8 hC h λ h=>?_
     refine ye 9 hC h λ h=>?_
     refine yw 10 hC ?_
     refine ye 11 hC h λ h=>?_
     refine ye 12 hC h λ h=>?_
     refine ye 13 hC h λ h=>?_
     refine yo 4 ?_
     refine yc h Zfz λ h=>zn ?_
     obtain ⟨hC,h⟩:=h
     refine ⟨hC,?_⟩
     refine yo 14 ?_
     refine yc h ZfA λ h=>zn ?_
     obtain ⟨hC,h⟩:=h
     refine ⟨hC,?_⟩
     exact yt hT hC h
   · refine yi 3 hC ?_
     refine yi 5 hC ?_
     refine yi 6 hC ?_
     refine yi 7 hC ?_
     refine yi 8 hC ?_
     refine yi 9 hC ?_
     refine yi 10 hC ?_
     refine yi 11 hC ?_
     refine yi 12 hC ?_
     refine yi 13 hC ?_
     refine yi 4 hC ?_
     refine yi 14 hC ?_
     exact yt hT hC h
   refine yP 15 hC h λ _ h=>?_
   refine yo 16 ?_
   refine yc h c33 λ h=>zn ?_
   obtain ⟨hC,h⟩:=h
   refine ⟨hC,?_⟩
   exact yz<|Zf<|zk<|zr<|yb h λ h=>zm<|zn<|zk<|⟨rfl,h⟩
 exact ZN<|Ze<|Ze<|Zs<|ZJ<|ZR rfl h
def Rm b c a (Zz:KV) R w:=
 X0 58 b a R w λ d w=>
 L0 43 d R w λ e w=>
 X9 Pg c #[e] (Zc R) w λ f w=>
 Zr f (
 R (.returned a) w) (
 B0 .add 3 true a (QqQ 1) R w λ g w=>
 Zz g w)
def ZhF a c R w:=
 G0 58 3 a R w λ d w=>
 YW (λ b w Zz=>
 B0 .lss 3 false b d R w λ e w=>
 Zr e (
 Rm a c b Zz R w) (
 R (.returned (.int .i64 (-1))) w)) (QqQ 0) w
def ZhG:QqX2 114 ZhF:=λ h=>by
 refine yD func114 ?_
 refine zs<|zr<|zm<|zn<|zk<|zs<|zs<|zr<|zm<|yx h λ h=>zm<|zn<|zk<|Zl<|yl1 [4,5,8,9,10,11,12,13,14,15,16,17,18] 8 h λ σ w next h=>?_
 refine zs<|zr<|yb h λ h=>zn<|zk<|zs<|yC h (λ h=>?_) λ h=>?_
 · refine Zk<|zk<|zs<|Zl<|zs<|zr<|zm<|zm<|zn<|zk<|zs<|zr<|zm<|zm<|zm ?_
   refine yv h λ h=>yv h λ h=>yV h λ h=>zn<|zk<|yC h (λ h=>zs<|zr<|zm<|zm<|zn<|zk<|Zg<|Zh<|Zb<|Zb<|Zh<|Zb<|Zj rfl rfl h) λ h=>Zk<|Zf<|zk<|zr<|yb h λ h=>zm<|zn<|zk ?_
   exact ⟨rfl,h⟩
 exact ZN<|Ze<|Ze<|Zs<|zk<|zs<|zr<|zm<|zn<|zk<|Zg<|Zj rfl rfl h
def La a b c (Zz:KV) R w:=
 N0 c R w λ d w=>
 Zr d (
 R (.returned (.tuple #[])) w) (
 L0 3 a R w λ e w=>
 B0 .add 3 false b e R w λ f w=>
 Zz f w)
def Ri f c d a (b:WPr) (Zz:KV) R w:=
 I0 3 d b λ g=>
 I0 40 c b λ h=>
 qV Pg b (sliceAt 40 h (some a) none none) λ i=>
 qV Pg b (Builtin.len_ #[40] 3 #[i]) λ j=>
 qV Pg b (Builtin.min_ #[3,3] 3 #[g,j]) λ e=>
 L0 40 c R w λ k w=>
 B0 .add 3 false a e R w λ l w=>
 B0 .add 3 false a e R w λ m w=>
 opV Pg (sliceAt 40 k (some a) (some l) (some m)) (Zc R) w λ n w=>
 X9 Pg f #[n] (Zc R) w λ o w=>
 La d a o Zz R w
def Rj c a d b (Zz:KV) R w:=
 L0 40 a R w λ e w=>
 G0 40 3 e R w λ f w=>
 B0 .lss 3 false b f R w λ g w=>
 Zr g (
 Z4 w λ h w=>
 Ri c a d b h Zz R w) (
 R (.returned (.tuple #[])) w)
def Zhf a b c R w:=
 YW (λ d w Zz=>
 Rj a b c d Zz R w) (QqQ 0) w
def Zhg:QqX3 154 Zhf:=λ h=>by
 refine yD func154 ?_
 refine zs<|zr<|zm<|zn<|zk<|Zl<|yl1 [4,5,6,7,8,9,10,11,12,13,14,15,16,17,18,19,20,21,22,23,24,25,26,27,28,29,30] 4 h λ σ w next h=>zs<|zs<|zr<|zm<|yv h λ h=>yx h λ h=>yb h λ h=>zn ?_
 refine zk<|yC h (λ h=>?_) λ h=>?_
 · refine Zk<|zk<|zs<|Zl<|zs<|yh [5,13,14,15,16,17,18] h λ C hC h=>ye 0 hC h λ h=>?_
   refine ye 1 hC h λ h=>?_
   refine yw 2 hC ?_
   refine ye 3 hC h λ h=>?_
   refine ye 4 hC h λ h=>?_
   refine ye 5 hC h λ h=>?_
   refine yw 6 hC ?_
   refine yz<|zk<|zs<|zr<|zm<|yv h λ h=>zm<|zm<|zm<|yb h λ h=>zm<|zm<|yb h λ h=>yv h λ h=>yV h λ h=>?_
   refine yv h λ h=>zn<|zk<|yC h (λ h=>Zg<|Zh<|Zb<|Zb<|Zh<|ZR rfl h) λ h=>Zk<|Zf<|zk<|zr<|zm<|yv h λ h=>yb h λ h=>zm<|zn<|zk ?_
   exact ⟨rfl,h⟩
 exact ZN<|Ze<|Ze<|Zs<|ZJ<|ZR rfl h
def ZdR a b c R w:=
 F0 255 c 1 R w λ d w=>
 L0 253 d R w λ e w=>
 L0 123 b R w λ f w=>
 X9 Pg e #[a,f] (Zc R) w λ g w=>
 R (.returned (.tuple #[])) w
def ZdS b a c d R w:=
 L0 123 d R w λ e w=>
 F0 123 a 0 R w λ f w=>
 L0 9 f R w λ g w=>
 F0 123 a 1 R w λ h w=>
 L0 117 h R w λ i w=>
 opV Pg (build 123 #[(0,g),(1,i)]) (Zc R) w λ j w=>
 C0 197 #[e,j] R w λ k w=>
 C0 135 #[b,k,(QqQ 5)] R w λ l w=>
 ZdR b a c R w
def HF d b c R w:=
 L0 123 b R w λ e w=>
 opV Pg (alloc 123 true (.tuple #[])) (Zc R) w λ a w=>
 S0 123 a e R w λ w=>
 F0 255 c 0 R w λ f w=>
 L0 252 f R w λ g w=>
 X9 Pg g #[a] (Zc R) w λ h w=>
 ZdS d b c a R w
def ZdT d e (a:WPr) (f:KW) R w:=
 qV Pg a (lookup 257 d e true) λ b=>
 qV Pg a (extract b 0) λ g=>
 qV Pg a (extract b 1) λ h=>
 opV Pg (alloc 255 true (.tuple #[])) (Zc R) w λ c w=>
 a w∧(
 S0 255 c g R w λ w=>
 a w∧(
 f h c w))
def Nh b d e (a:WPr) (f:KW) R w:=
 qV Pg a (lookup 257 d e true) λ c=>
 qV Pg a (extract c 0) λ g=>
 qV Pg a (extract c 1) λ h=>
 S0 255 b g R w λ w=>
 a w∧(
 f h b w)
def ZdU d e (a:WPr) (R:RT) w:=
 J0 123 e 1 a λ h=>
 I0 117 h a λ f=>
 Zp (λ (i:Vl) (b:Vl) (w:Wd)=>
 C0 135 #[d,i,(QqQ 4)] R w λ l w=>
 HF d e b R w) λ g=>
 (
 C0 196 #[] R w λ c w=>
 XS a w λ j w=>
 ZdT c f j g R w)∧(
 opV Pg (alloc 255 true (.tuple #[])) (Zc R) w λ b w=>
 a w∧(
 C0 196 #[] R w λ c w=>
 XS a w λ k w=>
 Nh b c f k g R w))
def ZdV a d b (c:WPr) R w:=
 qV Pg c (extract b 0) λ h=>
 qV Pg c (extract b 1) λ e=>
 N0 e R w λ f w=>
 C0 135 #[a,f,(QqQ 2)] R w λ i w=>
 Z4 w λ g w=>
 ZdU a d g R w
def ZdW b c (a:WPr) (R:RT) w:=
 J0 123 c 0 a λ d=>
 I0 9 d a λ e=>
 C0 195 #[b] R w λ f w=>
 a w∧(
 qV Pg a (build 74 #[(1,f)]) λ g=>
 C0 140 #[g,e] R w λ h w=>
 a w∧(
 ZdV b c h a R w))
def n86 a c R w:=
 opV Pg (box 123 c) (Zc R) w λ b w=>
 F0 123 b 0 R w λ d w=>
 L0 9 d R w λ e w=>
 C0 35 #[e] R w λ f w=>
 C0 135 #[a,f,(QqQ 1)] R w λ h w=>
 Z4 w λ g w=>
 ZdW a b g R w
def ZlG:QqX2 161 n86:=λ h=>by
 refine yD func161 ?_
 refine zs<|zr<|yv h λ h=>zn<|zk<|zs<|zr<|zm<|yv h λ h=>yv h λ h=>yc h c35 λ h=>yc h Uk λ h=>zn<|zk<|zs ?_
 refine yh [4,5,13,14,15,16,17,18,19,20,21] h λ C hC h=>yw 0 hC ?_
 refine ye 3 hC h λ h=>?_
 refine ye 4 hC h λ h=>?_
 refine yo 1 ?_
 refine yc h NQ λ h=>zn ?_
 obtain ⟨hC,h⟩:=h
 refine ⟨hC,?_⟩
 refine ye 2 hC h λ h=>?_
 refine yo 5 ?_
 refine yc h Zek λ h=>zn ?_
 obtain ⟨hC,h⟩:=h
 refine ⟨hC,?_⟩
 refine yw 6 hC ?_
 refine ye 7 hC h λ h=>?_
 refine ye 8 hC h λ h=>?_
 refine yw 9 hC ?_
 refine yw 10 hC ?_
 refine yz<|zk<|zs<|zr<|zm<|zm<|yv h λ h=>yc h Uk λ h=>zn<|zk<|zs<|yh [5,6,26,27,28,29,30,31,32] h λ C hC h=>ye 1 hC h λ h=>?_
 refine ye 2 hC h λ h=>?_
 refine X1 h (λ K3 hK h=>?_)
 refine Qx [5,6,26,27,30,31,32] (λ ρ w=>K3 (ρ 5) (ρ 6) w) (λ T hT=>?_) (λ σ w h=>?_)
 · obtain ⟨h0,h1⟩:=h
   refine Y5 0 7 rfl rfl K5 (λ _ _=>rfl) (λ _ _=>rfl) ?_ ?_
   · have h:=h0
     refine yc h ZfC λ h=>zn ?_
     obtain ⟨C4,hs,hC,h⟩:=h
     refine ⟨C4,hs,hC,?_⟩
     refine ye 3 hC h λ h=>?_
     refine yw 4 hC ?_
     refine ye 5 hC h λ h=>?_
     refine ye 6 hC h λ h=>?_
     refine yo 7 ?_
     refine yv h λ h=>zn ?_
     obtain ⟨hC,h⟩:=h
     refine ⟨hC,?_⟩
     refine yo 8 ?_
     refine yu h λ h=>zn ?_
     obtain ⟨hC,h⟩:=h
     refine ⟨hC,?_⟩
     refine yw 9 hC ?_
     refine yz ?_
     exact zt hT h
   have h:=h1
   refine yv h λ h=>zn ?_
   obtain ⟨hC,h⟩:=h
   refine ⟨_,λ _ h=>h,hC,?_⟩
   refine yr 0 ?_
   refine yc h ZfC λ h=>zn ?_
   obtain ⟨C5,hs,hC,h⟩:=h
   refine ⟨C5,hs,hC,?_⟩
   refine ye 3 hC h λ h=>?_
   refine yw 4 hC ?_
   refine ye 5 hC h λ h=>?_
   refine ye 6 hC h λ h=>?_
   refine yo 8 ?_
   refine yu h λ h=>zn ?_
   obtain ⟨hC,h⟩:=h
   refine ⟨hC,?_⟩
   refine yw 9 hC ?_
   refine yz ?_
   exact zt hT h
 subst hK
 refine zk<|zs<|zr<|zm<|zm<|yc h Uk λ h=>zn<|zk<|zs<|zr<|yv h λ h=>yv h λ h=>yu h λ h=>zn<|zk ?_
 refine zs<|zr<|yv h λ h=>yv h λ h=>yV h λ h=>zn<|zk<|zs<|zr<|zm<|yv h λ h=>yv h λ h=>yv h λ h=>yv h λ h=>yv h λ h=>?_
 exact yB h λ h=>yc h ZjP λ h=>yc h Uk λ h=>zn<|zk<|zr<|yv h λ h=>yv h λ h=>zm<|yv h λ h=>yV h λ h=>zn<|ZJ<|ZR rfl h
def jb a d b (Qt:KV) R w:=
 X0 121 d b R w λ e w=>
 L0 213 e R w λ f w=>
 opV Pg (alloc 213 true (.tuple #[])) (Zc R) w λ c w=>
 S0 213 c f R w λ w=>
 L0 94 a R w λ g w=>
 F0 213 c 2 R w λ h w=>
 L0 9 h R w λ i w=>
 opV Pg (buildSlice 94 1 #[(0,i)]) (Zc R) w λ j w=>
 opV Pg (Builtin.append_ #[94,94] 94 #[g,j]) (Zc R) w λ k w=>
 S0 94 a k R w λ w=>
 B0 .add 3 true b (QqQ 1) R w λ l w=>
 Qt l w
def jc c d (e:WPr) R w:=
 F0 123 d 11 R w λ f w=>
 L0 121 f R w λ a w=>
 G0 121 3 a R w λ g w=>
 YW (λ b w Qt=>
 B0 .lss 3 false b g R w λ h w=>
 Zr h (
 jb c a b Qt R w) (
 e w)) (QqQ 0) w
def jd a b (c:WPr) R w:=
 L0 94 a R w λ d w=>
 F0 123 b 8 R w λ e w=>
 L0 9 e R w λ f w=>
 opV Pg (buildSlice 94 1 #[(0,f)]) (Zc R) w λ g w=>
 opV Pg (Builtin.append_ #[94,94] 94 #[d,g]) (Zc R) w λ h w=>
 S0 94 a h R w λ w=>
 c w
def yH b c d e f (Zz:KV) R w:=
 Zp (λ (w:Wd)=>
 B0 .add 3 true d (QqQ 1) R w λ g w=>
 Zz g w) λ a=>
 Zr f (
 jd b c a R w) (
 B0 .eql 117 true e (QqQ 9) R w λ h w=>
 Zr h (
 jc b c a R w) (
 a w))
def GE a (b:KV) R w:=
 B0 .eql 117 true a (QqQ 8) R w λ c w=>
 Zr c (
 b c w) (
 B0 .eql 117 true a (QqQ 12) R w λ d w=>
 b d w)
def je f g c (Zz:KV) R w:=
 X0 72 g c R w λ h w=>
 L0 123 h R w λ i w=>
 opV Pg (alloc 123 true (.tuple #[])) (Zc R) w λ a w=>
 S0 123 a i R w λ w=>
 F0 123 a 1 R w λ j w=>
 L0 117 j R w λ b w=>
 B0 .eql 117 true b (QqQ 7) R w λ d w=>
 Zp (λ (k:Vl) (w:Wd)=>
 yH f a c b k Zz R w) λ e=>
 Zr d (
 e d w) (
 GE b e R w)
def jf a c d b (Zz:KV) R w:=
 B0 .lss 3 false b d R w λ e w=>
 Zr e (
 je a c b Zz R w) (
 opV Pg (makeFunc (.func 198) #[] #[a]) (Zc R) w λ f w=>
 R (.returned f) w)
def n79 b R w:=
 opV Pg (box 74 b) (Zc R) w λ c w=>
 opV Pg (alloc 94 true (.tuple #[])) (Zc R) w λ d w=>
 F0 74 c 1 R w λ e w=>
 L0 72 e R w λ a w=>
 G0 72 3 a R w λ f w=>
 YW (λ g w Zz=>
 jf d a f g Zz R w) (QqQ 0) w
def Zly:QqX1 162 n79:=λ h=>by
 refine yD func162 ?_
 refine zs<|zr<|yv h λ h=>zm<|zn<|zk<|zs<|zr<|yv h λ h=>zn<|zk<|zs<|zs<|zr<|yv h λ h=>?_
 refine yv h λ h=>yx h λ h=>zm<|zn<|zk<|Zl<|yl1 [5,7,11,12,13,14,15,16,17,18,19,20,21,22,23,24,25,26,27,28,29,30,31,32,33,34,35,36,37,38,39,40,41] 11 h λ σ w next h=>zs<|zr<|yb h λ h=>zn<|zk<|zs<|yC h (λ h=>?_) λ h=>?_
 · refine Zk<|zk<|zs<|Zl<|zs<|zr<|yv h λ h=>yv h λ h=>yv h λ h=>yu h λ h=>zn<|zk<|zs<|zr<|yv h λ h=>?_
   refine yv h λ h=>zn<|zk<|Zl<|zs<|zs<|zr<|yb h λ h=>zm<|zn<|zk<|yJ1 [17,19,20] 17 h (λ _ _ hkK2 h=>?_) λ σ w h=>?_
   · refine yC h (λ h=>?_) λ h=>?_
     · refine Zk<|zk ?_
       exact zt hkK2 h
     refine zs<|zr<|yb h λ h=>zm<|zn<|zk<|yC h (λ h=>?_) λ h=>?_
     · refine Zk<|zk ?_
       exact zt hkK2 h
     refine zr<|yb h λ h=>zm<|zn<|zk ?_
     exact zt hkK2 h
   refine zk<|yJ0 [7,21,22,23,24,25,26,27,28,29,30,31,32,33,34,35,36,37,38,39,40] h (λ _ _ hkK3 h=>?_) λ σ w h=>?_
   · refine yC h (λ h=>?_) λ h=>?_
     · refine zr<|yv h λ h=>yv h λ h=>yv h λ h=>yS h λ h=>yx h λ h=>yu h λ h=>zn<|zk ?_
       exact zt hkK3 h
     refine zs<|zr<|yb h λ h=>zm<|zn<|zk<|yC h (λ h=>?_) λ h=>?_
     · refine zs<|zr<|yv h λ h=>yv h λ h=>yx h λ h=>zm<|zn<|zk<|Zl<|yl1 [7,31,32,33,34,35,36,37,38,39,40] 31 h λ σ w next h=>zs<|zr<|yb h λ h=>zn<|zk ?_
       refine zs<|yC h (λ h=>?_) λ h=>?_
       · refine Zk<|zk<|zs<|Zl<|zs<|zr<|yv h λ h=>yv h λ h=>yv h λ h=>yu h λ h=>zn<|zk<|zr<|yv h λ h=>yv h λ h=>?_
         exact yv h λ h=>yS h λ h=>yx h λ h=>yu h λ h=>zn<|Zf<|zk<|zr<|yb h λ h=>zm<|zn<|zk<|⟨rfl,h⟩
       refine ZN<|Ze<|Ze<|Zs<|zk ?_
       exact zt hkK3 h
     refine Zk<|zk ?_
     exact zt hkK3 h
   exact Zf<|Zf<|zk<|zr<|yb h λ h=>zm<|zn<|zk<|⟨rfl,h⟩
 exact ZN<|Ze<|Ze<|Zs<|zk<|zs<|zr<|yF h λ h=>zm<|zn<|zk<|Zg<|Zj rfl rfl h
def Rn b c a (Zz:KV) R w:=
 X0 25 b a R w λ d w=>
 L0 74 d R w λ e w=>
 X9 Pg c #[e] (Zc R) w λ f w=>
 Zr f (
 R (.returned a) w) (
 B0 .add 3 true a (QqQ 1) R w λ g w=>
 Zz g w)
def ZhH a c R w:=
 G0 25 3 a R w λ d w=>
 YW (λ b w Zz=>
 B0 .lss 3 false b d R w λ e w=>
 Zr e (
 Rn a c b Zz R w) (
 R (.returned (.int .i64 (-1))) w)) (QqQ 0) w
def ZhI:QqX2 163 ZhH:=λ h=>by
 refine yD func163 ?_
 refine zs<|zr<|zm<|zn<|zk<|zs<|zs<|zr<|zm<|yx h λ h=>zm<|zn<|zk<|Zl<|yl1 [4,5,8,9,10,11,12,13,14,15,16,17,18] 8 h λ σ w next h=>?_
 refine zs<|zr<|yb h λ h=>zn<|zk<|zs<|yC h (λ h=>?_) λ h=>?_
 · refine Zk<|zk<|zs<|Zl<|zs<|zr<|zm<|zm<|zn<|zk<|zs<|zr<|zm<|zm<|zm ?_
   refine yv h λ h=>yv h λ h=>yV h λ h=>zn<|zk<|yC h (λ h=>zs<|zr<|zm<|zm<|zn<|zk<|Zg<|Zh<|Zb<|Zb<|Zh<|Zb<|Zj rfl rfl h) λ h=>Zk<|Zf<|zk<|zr<|yb h λ h=>zm<|zn<|zk ?_
   exact ⟨rfl,h⟩
 exact ZN<|Ze<|Ze<|Zs<|zk<|zs<|zr<|zm<|zn<|zk<|Zg<|Zj rfl rfl h
def Zd6 a R w:=
 opV Pg (Builtin.max_ #[3,3] 3 #[a,(QqQ 0)]) (Zc R) w λ b w=>
 B0 .geq 3 true a (QqQ 0) R w λ c w=>
 R (.returned (.tuple #[b,c])) w
def n94 a b (R:RT) w:=
 C0 199 #[a,b] R w λ c w=>
 Zd6 c R w
def ZlN:QqX2 164 n94:=λ h=>by
 refine yD func164 ?_
 refine zs<|zr<|zm<|zm<|zn<|zk<|zs<|zr<|zm<|zm<|yc h ZfE λ h=>zm<|zn<|zk<|zs ?_
 exact zr<|zm<|yx h λ h=>zm<|yb h λ h=>zm<|zm<|zn<|zk<|Zg<|Yg rfl rfl rfl h
def n74 a b R w:=
 opV Pg (box 123 a) (Zc R) w λ c w=>
 F0 123 c 0 R w λ d w=>
 L0 9 d R w λ e w=>
 L0 9 b R w λ f w=>
 B0 .eql 9 false e f R w λ g w=>
 R (.returned g) w
def Zlt:QqX2 165 n74:=λ h=>by
 refine yD func165 ?_
 refine zs<|zr<|yv h λ h=>zm<|zn<|zk<|zs<|zr<|yv h λ h=>yv h λ h=>yv h λ h=>yb h λ h=>zm<|zn<|zk ?_
 exact Zg<|Zj rfl rfl h
def Zhj a (R:RT) w:=
 C0 200 #[(Value.slice none 0 0),a] R w λ b w=>
 R (.returned b) w
def Zhk:QqX1 166 Zhj:=λ h=>by
 refine yD func166 ?_
 exact zs<|zr<|zm<|zn<|zk<|zs<|zr<|zm<|yc h ZjQ λ h=>zm<|zn<|zk<|Zg<|Zj rfl rfl h
def Lc b c a (Zz:KV) R w:=
 X0 94 b a R w λ d w=>
 L0 9 d R w λ e w=>
 B0 .eql 9 false c e R w λ f w=>
 Zr f (
 R (.returned a) w) (
 B0 .add 3 true a (QqQ 1) R w λ g w=>
 Zz g w)
def ZhW a c R w:=
 G0 94 3 a R w λ d w=>
 YW (λ b w Zz=>
 B0 .lss 3 false b d R w λ e w=>
 Zr e (
 Lc a c b Zz R w) (
 R (.returned (.int .i64 (-1))) w)) (QqQ 0) w
def ZhX:QqX2 167 ZhW:=λ h=>by
 refine yD func167 ?_
 refine zs<|zr<|zm<|zn<|zk<|zs<|zs<|zr<|zm<|yx h λ h=>zm<|zn<|zk<|Zl<|yl1 [4,5,8,9,10,11,12,13,14,15,16,17,18] 8 h λ σ w next h=>?_
 refine zs<|zr<|yb h λ h=>zn<|zk<|zs<|yC h (λ h=>?_) λ h=>?_
 · refine Zk<|zk<|zs<|Zl<|zs<|zr<|zm<|zm<|zn<|zk<|zs<|zr<|zm<|zm<|zm ?_
   refine yv h λ h=>yv h λ h=>yb h λ h=>zn<|zk<|yC h (λ h=>zs<|zr<|zm<|zm<|zn<|zk<|Zg<|Zh<|Zb<|Zb<|Zh<|Zb<|Zj rfl rfl h) λ h=>Zk<|Zf<|zk<|zr<|yb h λ h=>zm<|zn<|zk ?_
   exact ⟨rfl,h⟩
 exact ZN<|Ze<|Ze<|Zs<|zk<|zs<|zr<|zm<|zn<|zk<|Zg<|Zj rfl rfl h
end Go.Proofs.YtgalpdihjbinjaaGreatDoor
namespace Go.Sw
open Go.RowKit (Below)
structure LW3 (B:Nat) (w w':Wd):Prop where
 os:w'.os=w.os
 tape:w'.tape=w.tape
 output:w'.output=w.output
 size:w.heap.size≤w'.heap.size
 block:∀ b,b < B→b < w.heap.size→w'.heap[b]?=w.heap[b]?
end Go.Sw
namespace Go.Sw
open Go.RowKit (Below)
def KR5 (_B:Nat) (w w':Wd):Prop:=w.heap.size≤w'.heap.size∧(∀ (b:Nat) (r:Loop),w.heap[b]?=some (.loop r)→∃ st p,w'.heap[b]?=some (.loop { r with state:=st,pending:=p })) ∧
 (∀ (b:Nat),w.heap[b]?=some (.deferred (some []))→w'.heap[b]?=some (.deferred (some [])))
section
variable {B:Nat} {w w1 w2:Wd}
def KR5.of2 (h:KR B w w1):KR5 B w w1:=⟨h.1,h.2.1,h.2.2.1⟩
def KR5.refl (B:Nat) (w:Wd):KR5 B w w := .of2 (KR.refl B w)
def KR5.trans (h:KR5 B w w1) (k:KR5 B w1 w2):KR5 B w w2:=⟨Nat.le_trans h.1 k.1,λ b r hb=>by
 obtain ⟨st,p,h1⟩:=h.2.1 b r hb
 obtain ⟨st',p',h2⟩:=k.2.1 b _ h1
 exact ⟨st',p',h2⟩,λ b hb=>k.2.2 b (h.2.2 b hb)⟩
def KR5.of (e:Ext w w1):KR5 B w w1 := .of2 (.of e)
def KR5.setCell (h:KR5 B w w1) (b o:Nat) (v:Vl):KR5 B w (w1.setCell ⟨b,o,none⟩ v):=h.trans ⟨by simp,λ b r hb=>⟨r.state,r.pending,(KeepsOthers.setCell w1 _ v).same _ _ hb rfl⟩,λ b hb=>(KeepsOthers.setCell w1 _ v).same _ _ hb rfl⟩
def KR5.turn {l:Nat} {r:Loop} (hl:w.heap[l]?=some (.loop r)) (st:LoopState) (p:Option Code):KR5 B w (w.putObj l (.loop { r with state:=st,pending:=p })) := .of2 (.turn hl st p)
def KR5.grown {row:Option Nat} (h:KR5 B w w1) (hg:w1.grownBy w2 row) (hr:∀ g,row=some g→∃ cs T f,w1.heap[g]?=some (.cells cs T f)):KR5 B w w2:=h.trans ⟨hg.size,λ b r hb=>⟨r.state,r.pending,(hg.block b (Qqj hb).1 (λ e=>by
 obtain ⟨cs,T,f,hc⟩:=hr b e.symm
 rw [hb] at hc;cases hc)).trans hb⟩,λ b hb=>(hg.block b (Qqj hb).1 (λ e=>by
 obtain ⟨cs,T,f,hc⟩:=hr b e.symm
 rw [hb] at hc;cases hc)).trans hb⟩
end
def Zfl (B:Nat) (R:WPr):Prop:=∀ w w',KR5 B w w'→R w→R w'
def Xk.firm5 (rec:Loop) (B b:Nat):Zfl B (Xk rec b):=λ w w' h ⟨h1,st,p,h2⟩=>by
 obtain ⟨st',p',h3⟩:=h.2.1 _ _ h2
 exact ⟨h.2.2 _ h1,st',p',h3⟩
end Go.Sw
namespace Go.Sw
variable {α:Type}
def TR (cs:AVl) (o:Nat):List Vl→AVl
 | []=>cs
 | v::vs=>TR (cs.setIfInBounds o v) (o+1) vs
def Ie:∀ (vs:List Vl) (cs:AVl) (o j:Nat),o+vs.length≤cs.size→(TR cs o vs)[j]?=if o≤j∧j < o+vs.length then vs[j - o]? else cs[j]?
 | [],cs,o,j,_=>by rw [if_neg (by simp only [List.length_nil];omega)];rfl
 | v::vs,cs,o,j,h=>by
  rw [List.length_cons] at h
  rw [TR,Ie vs _ (o+1) j (by rw [Array.size_setIfInBounds];omega),List.length_cons]
  by_cases h1:j=o
  · subst h1
    rw [if_neg C1,if_pos C1,Nat.sub_self,Array.getElem?_setIfInBounds_self_of_lt C1]
    rfl
  · by_cases h2:o+1≤j∧j < o+1+vs.length
    · rw [if_pos h2,if_pos C1,show j - o=(j - (o+1))+1 by omega,List.getElem?_cons_succ]
    · rw [if_neg h2,if_neg C1,Array.getElem?_setIfInBounds_ne C1]
def JW {vs:List Vl} {cs:AVl} (h:vs.length=cs.size):TR cs 0 vs=vs.toArray:=by
 apply Array.ext_getElem?
 intro j
 rw [Ie vs cs 0 j C1]
 by_cases hj:j < vs.length
 · rw [if_pos C1,Nat.sub_zero,List.getElem?_toArray]
 · have hs:vs.toArray.size=vs.length:=List.size_toArray ..
   rw [if_neg C1,Array.getElem?_eq_none C1,Array.getElem?_eq_none C1]
def X3 {T:TypeId} {b:Nat}:∀ (vs:List Vl) {w:Wd} {cs:AVl} (o:Nat),w.heap[b]?=some (.cells cs T (0,0))→(Yn w b o vs).heap[b]?=some (.cells (TR cs o vs) T (0,0))
 | [],_,_,_,h=>h
 | v::vs,_,_,o,h=>X3 vs (o+1) (Zy h v)
def Qw {b:Nat}:∀ (vs:List Vl) (w:Wd) (o:Nat) (g:Nat),g≠b→(Yn w b o vs).heap[g]?=w.heap[g]?
 | [],_,_,_,_=>rfl
 | v::vs,w,o,g,h=>(Qw vs _ (o+1) g h).trans (YA.setCell w b o v g h)
def Wl {b:Nat}:∀ (vs:List Vl) (w:Wd) (o:Nat),(Yn w b o vs).heap.size=w.heap.size
 | [],_,_=>rfl
 | v::vs,w,o=>by rw [Yn,Wl vs,World.size_setCell]
def Ks {b:Nat}:∀ (vs:List Vl) (w:Wd) (o:Nat) (a:Wd),Ext a w→a.heap.size≤b→Ext a (Yn w b o vs)
 | [],_,_,_,e,_=>e
 | v::vs,w,o,a,e,hb=>Ks vs _ (o+1) a (e.setCell (p:=⟨b,o,none⟩) hb v) hb
def Va {P:Program} {w:Wd} {QP:PEn} {ku:WPr} {T T':TypeId} {n m b:Nat} {z:Vl} {cs:AVl} (h:ZF P T true n m z) (ho:w.heap[b]?=some (.cells cs T' (0,0))) {vs:List Vl} (hn:vs.length=n) (hc:n≤cs.size) (hv:∀ v∈vs,v.oneCell'=true) :
 opU P (storeAt T (Qq5 b) (.agg vs.toArray)) QP w ku=ku (Yn w b 0 vs):=by
 refine qb (u:=()) ?_
 have hq:=Za ho
 have hcc:∀ j,j < vs.length→∃ u,w.cell? ⟨b,0+(0+j),none⟩=some u:=λ j hj=>by
  rw [hq.1]
  exact ⟨cs[j]'C1,by rw [Nat.zero_add,Nat.zero_add];exact Array.getElem?_eq_getElem C1⟩
 have hff:∀ j,j < vs.length→w.frozen? ⟨b,0+(0+j),none⟩=false:=λ j _=>hq.2 _
 have:=Vz (P:=P) b 0 vs 0 w hcc hff hv
 simp [storeAt,Instr.sureAddr,storeVar,run_sizeOf h,ZC,hn,this]
end Go.Sw
namespace Go.Sw
open Go.RowKit (Below)
def T4:Obj→Bool
 | .loop _=>true
 | .deferred _=>true
 | .mapIter .. => true
 | _=>false
structure LW6 (B:Nat) (w w':Wd):Prop where
 os:w'.os=w.os
 tape:w'.tape=w.tape
 output:w'.output=w.output
 size:w.heap.size≤w'.heap.size
 block:∀ b,b < w.heap.size→w'.heap[b]?=w.heap[b]?∨(B≤b∧∃ o,w.heap[b]?=some o∧T4 o=true)
def LW6.mono {B B':Nat} {w w':Wd} (h:LW6 B w w') (hb:B'≤B):LW6 B' w w':=⟨h.os,h.tape,h.output,h.size,λ b hl=>(h.block b hl).imp_right λ h=>⟨by omega,h.2⟩⟩
def LW6.of {B:Nat} {w w':Wd} (e:Ext w w'):LW6 B w w':=⟨e.os,e.tape,e.output,e.size,λ b hb => .inl (e.block b hb)⟩
def LW6.put {B l:Nat} {w:Wd} {o1:Obj} (hb:B≤l) (hl:w.heap[l]?=some o1) (hs:T4 o1=true) (o:Obj):LW6 B w (w.putObj l o):=⟨rfl,rfl,rfl,by simp,λ b _=>by
 by_cases e:b=l
 · exact .inr ⟨by omega,o1,by rw [e];exact hl,hs⟩
 · exact .inl (World.putObj_heap_other e)⟩
def Yd (B:Nat) (I:WPr):Prop:=∀ w w',LW6 B w w'→I w→I w'
def Yd.ext {B:Nat} {I:WPr} (h:Yd B I) {w w':Wd} (hI:I w) (e:Ext w w'):I w':=h _ _ (.of e) hI
def Yd.loop {B l:Nat} {I:WPr} (h:Yd B I) {w:Wd} {r:Loop} (hb:B≤l) (hI:I w) (hl:w.heap[l]?=some (.loop r)) (o:Obj):I (w.putObj l o):=h _ _ (.put hb hl rfl o) hI
def Yd.busied {B l:Nat} {I:WPr} {w w':Wd} (h:Yd B I) (hb:jP l w w') (hl:B≤l) (hI:I w):I w':=by
 obtain ⟨r,hr,rfl⟩:=hb
 exact h.loop hl hI hr _
def Yd.mono {B B':Nat} {I:WPr} (h:Yd B I) (hb:B≤B'):Yd B' I:=λ _ _ hl=>h _ _ (hl.mono hb)
def Yd.and {B:Nat} {I J:WPr} (h:Yd B I) (k:Yd B J):Yd B (λ w=>I w∧J w):=λ w w' hl hh=>⟨h _ _ hl hh.1,k _ _ hl hh.2⟩
def Yd.ex {B:Nat} {α:Sort _} {I:α→Wd→Prop} (h:∀ x,Yd B (I x)):Yd B (λ w=>∃ x,I x w):=λ w w' hl ⟨x,hx⟩=>⟨x,h x _ _ hl hx⟩
def Yd.const (B:Nat) (p:Prop):Yd B (λ _=>p):=λ _ _ _ h=>h
def Yd.from {B:Nat} {w0:Wd} (hb:w0.heap.size≤B):Yd B (Ext w0):=λ w w' hl e=>⟨hl.os.trans e.os,hl.tape.trans e.tape,hl.output.trans e.output,Nat.le_trans e.size hl.size,λ k hk=>by
 have:=e.size
 rcases hl.block k C1 with h | ⟨h,_⟩
 · rw [h];exact e.block k hk
 · omega⟩
def Yd.has (B:Nat) {b:Nat} {o:Obj} (h1:T4 o=false):Yd B (λ w=>w.heap[b]?=some o):=λ w w' hl h=>by
 rcases hl.block b (Qqj h).1 with e | ⟨_,o',e,hs⟩
 · rw [e];exact h
 · rw [h] at e;injection e with e;subst e;rw [h1] at hs;cases hs
def Yd.low {B b:Nat} (hb:b < B) (o:Obj):Yd B (λ w=>w.heap[b]?=some o):=λ w w' hl h=>by
 rcases hl.block b (Qqj h).1 with e | ⟨e,_⟩
 · rw [e];exact h
 · omega
def Yd.own {α:Type} {B base n:Nat} {T:TypeId} {enc:α→List Vl} {v:Vl} {l:List α}:Yd B (λ w=>ZM w base T n enc v l):=λ w w' hl h=>by
 obtain ⟨h1,h2⟩:=h
 refine ⟨h1,?_⟩
 rcases h2 with h2 | ⟨g,cap,cur,hv,a1,a2,a3⟩
 · exact .inl h2
 · exact .inr ⟨g,cap,cur,hv,a1,Yd.has B (o := .cells _ _ _) rfl w w' hl a2,a3⟩
def ZfW:Obj→Bool
 | .mapIter .. => true
 | .map .. => true
 | _=>false
def KR6 (B:Nat) (w w':Wd):Prop:=KR5 B w w'∧∀ (b:Nat) (o:Obj),w.heap[b]?=some o→ZfW o=true→w'.heap[b]?=some o
section
variable {B:Nat} {w w1 w2:Wd}
def KR6.refl (B:Nat) (w:Wd):KR6 B w w:=⟨KR5.refl B w,λ _ _ h _=>h⟩
def KR6.trans (h:KR6 B w w1) (k:KR6 B w1 w2):KR6 B w w2:=⟨h.1.trans k.1,λ b o hb ho=>k.2 b o (h.2 b o hb ho) ho⟩
def KR6.of (e:Ext w w1):KR6 B w w1:=⟨KR5.of e,λ b o hb _=>e.obj hb⟩
def KR6.ext (h:KR6 B w w1) (e:Ext w1 w2):KR6 B w w2:=h.trans (.of e)
def KR6.turn {l:Nat} {r:Loop} (hl:w.heap[l]?=some (.loop r)) (st:LoopState) (p:Option Code):KR6 B w (w.putObj l (.loop { r with state:=st,pending:=p })):=⟨KR5.turn hl st p,λ b o hb ho=>by
 by_cases e:b=l
 · subst e;rw [hl] at hb;injection hb with hb;subst hb;cases ho
 · rw [World.putObj_heap_other e];exact hb⟩
def KR6.busied {l:Nat} (h:jP l w w1):KR6 B w w1:=by
 obtain ⟨r,hr,rfl⟩:=h
 exact KR6.turn hr .busy r.pending
def KR6.cell (h:KR6 B w w1) {b:Nat} {cs:AVl} {T:TypeId} {f:Nat×Nat} (hb:w1.heap[b]?=some (.cells cs T f)) (o:Nat) (v:Vl):KR6 B w (w1.setCell ⟨b,o,none⟩ v):=h.trans ⟨(KR5.refl B w1).setCell b o v,λ b' o' hb' ho=>by
 by_cases e:b'=b
 · subst e;rw [hb] at hb';injection hb' with hb';subst hb';cases ho
 · rw [CZ e];exact hb'⟩
def KR6.grown {row:Option Nat} (h:KR6 B w w1) (hg:w1.grownBy w2 row) (hr:∀ g,row=some g→∃ cs T f,w1.heap[g]?=some (.cells cs T f)):KR6 B w w2:=h.trans ⟨(KR5.refl B w1).grown hg hr,λ b o hb ho=>(hg.block b (Qqj hb).1 (λ e=>by
 obtain ⟨cs,T,f,hc⟩:=hr b e.symm
 rw [hb] at hc;injection hc with hc;subst hc;cases ho)).trans hb⟩
end
def Gy (B:Nat) (R:WPr):Prop:=∀ w w',KR6 B w w'→R w→R w'
def Xk.firm6 (rec:Loop) (B b:Nat):Gy B (Xk rec b):=λ w w' h hr=>Xk.firm5 rec B b w w' h.1 hr
def Gy.and {B:Nat} {R S:WPr} (h:Gy B R) (k:Gy B S):Gy B (λ w=>R w∧S w):=λ w w' e hh=>⟨h _ _ e hh.1,k _ _ e hh.2⟩
def Gy.true {B:Nat}:Gy B (λ _=>True):=λ _ _ _ _=>trivial
def Pf (P:Program) (f:FuncId) (caps:AVl) (Al:List Vl→Vl→Prop) (Fin:List Vl→Prop) (FP:WPr):Prop:=
 ∀ (yv:Vl) (J:List Vl→Wd→Prop) (Jx:WPr) (Jp:PEn) (w:Wd),yv.oneCell'=true→(∀ k w,J k w→FP w)→(∀ k,Yd w.heap.size (J k))→Yd w.heap.size Jx→(∀ ch,Yd w.heap.size (Jp ch)) →
  (∀ k x,Al k x→∀ Rk,Gy w.heap.size Rk→∀ w,J k w→Rk w→X9 P yv #[x] (λ ch w'=>Rk w'∧Jp ch w') w (λ v w'=>Rk w'∧((v = .bool true∧J (k++[x]) w')∨(v = .bool false∧Jx w'))))→J [] w →
  Calls P f (#[yv]++caps) w (λ e w'=>match e with
   | .returned _=>(∃ k,Fin k∧J k w')∨Jx w'
   | .panicked ch=>Jp ch w'
   | .outgrown=>False)
def rangeN6 (P:Program) (fv:Vl) (ds:LDf) (body:Nat→Vl→Wd→(Wd→Prop)→(Nat→Wd→Prop)→(List PanicEntry→Wd→Prop)→Prop) (QP:List PanicEntry→LDf→Wd→Prop) (w:Wd)
 (k:LDf→Wd→Prop) (kx:List (LDf→Wd→Prop)):Prop:=
 ∃ (f:FuncId) (caps:AVl) (Al:List Vl→Vl→Prop) (Fin:List Vl→Prop) (FP:WPr) (I:List Vl→Wd→Prop) (Ix:Nat→Wd→Prop) (Ip:PEn),
  fv = .func (.func f) #[] caps∧Callable P f∧Pf P f caps Al Fin FP∧I [] w∧(∀ k w,I k w→FP w)∧(∀ k,Yd w.heap.size (I k))∧(∀ c,Yd w.heap.size (Ix c))∧(∀ ch,Yd w.heap.size (Ip ch)) ∧
  (∀ (Rk:WPr),Gy (w.heap.size+1+1) Rk→∀ (j:List Vl) (x:Vl) (w':Wd),Al j x→I j w'→Rk w'→w.heap.size+1 < w'.heap.size→D1 (w.heap.size+1) w' →
   body (w.heap.size+1) x w' (λ w''=>Rk w''∧I (j++[x]) w'') (λ c w''=>Rk w''∧Ix c w'') (λ ch w''=>Rk w''∧Ip ch w'')) ∧
  (∀ j w',Fin j→I j w'→Z9 w.heap.size w'→k (mark w.heap.size::ds) w') ∧
  (∀ c w',Ix c w'→Z9 w.heap.size w'→Te kx c (mark w.heap.size::ds) w') ∧
  (∀ ch w',Ip ch w'→Z9 w.heap.size w'→QP ch (mark w.heap.size::ds) w')
section
variable {P:Program} {N:Nat}
def ME {g:Operand} {p:Nat} {asg body:Code} {Q:K} {QP:KP} {ρ:Env} {ds:LDf} {w:Wd} {fv:Vl} {nbody:Nat→Vl→Wd→(Wd→Prop)→(Nat→Wd→Prop)→(List PanicEntry→Wd→Prop)→Prop} {QPn:List PanicEntry→LDf→Wd→Prop}
 {k:LDf→Wd→Prop} {kx:List (LDf→Wd→Prop)} (js:List Code) (h:rangeN6 P fv ds nbody QPn w k kx) (hg:ev ρ g=fv)
 (hbody:∀ l x w K X QPr,nbody l x w K X QPr→den P N (some l) asg (QZ (λ ρ' ds' w'=>ds'=[]∧Ad l w' (λ w''=>den P N (some l) body (TL js K X) (Nx QPr) ρ' [] w'')) (λ _ _ _ _=>False)) (λ _ _ _ _=>False) (put N ρ (some p) x) [] w)
 (hk:∀ ds w,k ds w→Q .normal ρ ds w) (hx:∀ c ds w,Te kx c ds w→∃ code,js[c]?=some code∧((code = .ret∧Q .ret ρ ds w)∨(∃ id,code = .exit id∧Q (.exit id) ρ ds w))) (hp:∀ ch ds w,QPn ch ds w→QP ch ρ ds w) :
 den P N none (.rangeFunc g #[p] asg body) Q QP ρ ds w:=by
 intro a ha hds
 subst hds
 obtain ⟨f,caps,Al,Fin,FP,I,Ix,Ip,hfv,hcal,hseq,h0,hFP,hL,hLx,hLp,hround,hend,hjump,hpan⟩:=h
 refine GS λ fn hfn=>?_
 obtain ⟨rec,hrec⟩:∃ rec:Loop,rec={ state := .ready,pending:=none,fn,tmps:=a.tmps,params := #[p],assign:=asg,body,defers:=w.heap.size }:=⟨_,rfl⟩
 obtain ⟨W1,hW1⟩:∃ W1,(w.alloc (.deferred (some []))).alloc (.loop rec)=W1:=⟨_,rfl⟩
 have hE1:Ext w W1:=by rw [← hW1];exact ((Ext.refl w).alloc _).alloc _
 have hW1s:W1.heap.size=w.heap.size+1+1:=by rw [← hW1];simp
 have hL1:W1.heap[w.heap.size+1]?=some (.loop rec):=by
  rw [← hW1];have:=World.alloc_heap_new (w.alloc (.deferred (some []))) (.loop rec);rwa [World.size_alloc] at this
 have hK1:Z9 w.heap.size W1:=by
  rw [← hW1];exact Z9.alloc (World.alloc_heap_new w _) _
 have hev:a.eval g=fv:=by rw [ha.eval];exact hg
 refine ⟨w.heap.size+1,[mark w.heap.size],W1,{ target := .fn (.func f) caps,args := #[.func (.yield (w.heap.size+1)) #[] #[]] },W1,f,#[.func (.yield (w.heap.size+1)) #[] #[]]++caps,W1,?_,?_,?_,?_⟩
 · rw [← hW1,hrec];exact run_enterLoop_outer _ _ _ _ _
 · simp only [resolve,hev,hfv]
   simp [go_sem]
 · simp only [invoke]
   exact Qi hcal _ _
 · refine Calls.mono (hseq (.func (.yield (w.heap.size+1)) #[] #[]) (λ j w'=>I j w'∧Z9 w.heap.size w'∧∃ p,w'.heap[w.heap.size+1]?=some (.loop { rec with state := .ready,pending:=p })∧p=none)
    (λ w'=>Z9 w.heap.size w'∧∃ c code,Ix c w'∧js[c]?=some code∧w'.heap[w.heap.size+1]?=some (.loop { rec with state := .done,pending:=some code }))
    (λ ch w'=>Z9 w.heap.size w'∧Ip ch w') W1 rfl (λ j w' hj=>hFP j w' hj.1) (λ j=>((hL j).mono C1).and ((Yd.low C1 _).and (.ex λ q=>(Yd.low C1 _).and (.const _ _))))
    ((Yd.low C1 _).and (.ex λ c => .ex λ code=>((hLx c).mono C1).and ((Yd.const _ _).and (Yd.low C1 _)))) (λ ch=>(Yd.low C1 _).and ((hLp ch).mono C1)) ?_ ⟨(hL []).ext h0 hE1,hK1,none,by rw [hL1,hrec],rfl⟩) ?_
   · rintro j x hj Rk hF w' ⟨hi,hm,q,hl,rfl⟩ hR
     have Yo:w.heap.size+1 < w'.heap.size:=(Qqj hl).1
     have hy:=run_yield (P:=P) (args := #[x]) hl (by rw [hrec];rfl)
     show V9 P _ _ _ _
     have hcs:zR (.func (.yield (w.heap.size+1)) #[] #[]) #[x]=Instr.yield (w.heap.size+1) #[x]:=by
      simp [zR,Deferred.ofValue,invoke,go_sem,bind,pure,Sem.bind]
     rw [hcs,hy]
     have key:∀ R,wpV (some (w.heap.size+1)) P asg (Exit.then (λ a₁ w₁=>∃ w₂,(Instr.beginRound (w.heap.size+1)).run P w₁ = .ok () w₂∧wpV (some (w.heap.size+1)) P body (Zeq P (w.heap.size+1) R) a₁ w₂) (λ _ _ _=>False)) { tmps:=((#[p].zip #[x]).foldl (λ tmps (t,a)=>tmps.setIfInBounds t a) a.tmps),defers:=[] } w' →
      Ka P (w.heap.size+1) rec.fn ((rec.params.zip #[x]).foldl (λ tmps (t,a)=>tmps.setIfInBounds t a) rec.tmps) rec.assign rec.body w' R:=by
      intro R h;rw [hrec];exact GK hfn h
     refine key _ ?_
     have hb:=hbody _ _ _ _ _ _ (hround _ ((Xk.firm6 rec _ w.heap.size).and (hW1s ▸ hF)) j x w' hj hi ⟨⟨hm,_,_,hl⟩,hR⟩ Yo ⟨_,hl,rfl⟩)
     have hagr:YG N ({ tmps:=((#[p].zip #[x]).foldl (λ tmps (t,a)=>tmps.setIfInBounds t a) a.tmps),defers:=[] }:Act) (put N ρ (some p) x):=by
      have:=(YG.defers ha []).put (some p) x
      simpa [Act.put] using this
     refine Qc (WY asg _ _ _ _ _ hagr hb) ?_
     intro e a1 w1 hl1
     cases e with
     | panic ch=>obtain ⟨_,_,hf⟩:=hl1;exact hf.elim
     | outgrown=>exact hl1
     | exit id=>obtain ⟨_,_,_,hf⟩:=hl1;exact hf.elim
     | goto l=>obtain ⟨_,_,_,hf⟩:=hl1;exact hf.elim
     | ret=>obtain ⟨_,_,_,hf⟩:=hl1;exact hf.elim
     | normal=>
      obtain ⟨ρ1,ha1,_,hd1,hbz⟩:=hl1
      obtain ⟨⟨r,hr1,hr2⟩,hbz⟩:=hbz
      refine ⟨_,run_beginRound hr1 hr2,?_⟩
      rw [show a1={ a1 with defers:=[] } by rw [← hd1]]
      refine Qc (WY body _ _ _ _ _ (YG.defers ha1 []) (hbz _ ⟨_,hr1,rfl⟩)) ?_
      have fin:∀ (jump:Option Code) (w2:Wd),Xk rec w.heap.size w2→(Instr.endRound (w.heap.size+1) jump).run P w2 = .ok (.bool jump.isNone) (w2.putObj (w.heap.size+1) (.loop { rec with state:=if jump.isNone then .ready else .done,pending:=jump })) ∧
       (w2.putObj (w.heap.size+1) (.loop { rec with state:=if jump.isNone then .ready else .done,pending:=jump })).heap[w.heap.size+1]?=some (.loop { rec with state:=if jump.isNone then .ready else .done,pending:=jump }) ∧
       Z9 w.heap.size (w2.putObj (w.heap.size+1) (.loop { rec with state:=if jump.isNone then .ready else .done,pending:=jump })):=by
       rintro jump w2 ⟨hm2,st,q,hq⟩
       refine ⟨by have:=run_endRound (P:=P) jump hq;exact this,World.putObj_heap_same (Qqj hq).1,?_⟩
       unfold Z9
       rw [World.putObj_heap_other C1];exact hm2
      intro e a2 w2 hl2
      cases e with
      | normal=>
       obtain ⟨_,_,_,_,⟨Wc,hR2⟩,hi2⟩:=hl2
       obtain ⟨f1,f2,f3⟩:=fin none w2 Wc
       obtain ⟨_,st,q,hq⟩:=Wc
       exact ⟨_,_,f1,hF _ _ (KR6.turn hq _ _) hR2,.inl ⟨rfl,(hL _).loop (Nat.le_succ _) hi2 hq _,f3,none,f2,rfl⟩⟩
      | ret=>
       obtain ⟨_,_,_,_,c,hc,⟨Wc,hR2⟩,hi2⟩:=hl2
       obtain ⟨f1,f2,f3⟩:=fin (some .ret) w2 Wc
       obtain ⟨_,st,q,hq⟩:=Wc
       exact ⟨_,_,f1,hF _ _ (KR6.turn hq _ _) hR2,.inr ⟨rfl,f3,c,_,(hLx _).loop (Nat.le_succ _) hi2 hq _,hc,f2⟩⟩
      | exit id=>
       obtain ⟨_,_,_,_,c,hc,⟨Wc,hR2⟩,hi2⟩:=hl2
       obtain ⟨f1,f2,f3⟩:=fin (some (.exit id)) w2 Wc
       obtain ⟨_,st,q,hq⟩:=Wc
       exact ⟨_,_,f1,hF _ _ (KR6.turn hq _ _) hR2,.inr ⟨rfl,f3,c,_,(hLx _).loop (Nat.le_succ _) hi2 hq _,hc,f2⟩⟩
      | panic ch=>
       obtain ⟨_,_,hd2,⟨Wc,hR2⟩,hi2⟩:=hl2
       exact ⟨hd2,hR2,Wc.1,hi2⟩
      | goto l=>obtain ⟨_,_,_,hf⟩:=hl2;exact hf.elim
      | outgrown=>exact hl2
   · have hagr:YG N ({ a with defers:=[mark w.heap.size]++a.defers }:Act) ρ:=ha
     have exh:∀ (st:LoopState) (q:Option Code) (w':Wd),w'.heap[w.heap.size+1]?=some (.loop { rec with state:=st,pending:=q })→st ≠ .busy→Z9 w.heap.size w' →
      (Instr.endLoop (w.heap.size+1)).run P w' = .ok q (w'.putObj (w.heap.size+1) (.loop { rec with state := .exhausted,pending:=q }))∧Z9 w.heap.size (w'.putObj (w.heap.size+1) (.loop { rec with state := .exhausted,pending:=q })):=by
      intro st q w' hq Y7 hm
      refine ⟨by have:=run_endLoop (P:=P) hq Y7;exact this,?_⟩
      unfold Z9
      rw [World.putObj_heap_other C1];exact hm
     rintro e w' he
     cases e with
     | returned v=>
      rcases he with ⟨j,hfin,hi,hm,q,hl,rfl⟩ | ⟨hm,c,code,hi,hc,hl⟩
      · obtain ⟨e1,e2⟩:=exh _ _ w' hl (by simp) hm
        exact ⟨none,_,e1,hagr,hk _ _ (hend j _ hfin ((hL _).loop (Nat.le_succ _) hi hl _) e2)⟩
      · obtain ⟨e1,e2⟩:=exh _ _ w' hl (by simp) hm
        refine ⟨some code,_,e1,?_⟩
        obtain ⟨code',hc',hden⟩:=hx c _ _ (hjump c _ ((hLx _).loop (Nat.le_succ _) hi hl _) e2)
        rw [hc] at hc';cases hc'
        rcases hden with ⟨rfl,hq⟩ | ⟨id,rfl,hq⟩
        · exact Fz ⟨hagr,hq⟩
        · exact Ca ⟨hagr,hq⟩
     | panicked ch=>exact ⟨hagr,hp _ _ _ (hpan ch _ he.2 he.1)⟩
     | outgrown=>exact he.elim
end
end Go.Sw
namespace Go.Proofs.YtgalpdihjbinjaaGreatDoor
open Sw
def U0 d e f g (Zz:KV) R w:=
 N0 g R w λ b w=>
 Zp (λ (a:Vl) (w:Wd)=>
 Zx b a (.bool false) λ h=>
 Zr h (
 R (.returned (.tuple #[])) w) (
 B0 .add 3 true e (QqQ 1) R w λ i w=>
 Zz i w)) λ c=>
 Zm b true (
 X9 Pg d #[f] (Zc R) w λ j w=>
 N0 j R w λ a w=>
 c a w) (
 c undef w)
def U1 c d e a (Zz:KV) R w:=
 X0 94 e a R w λ f w=>
 L0 9 f R w λ b w=>
 L0 94 d R w λ g w=>
 opV Pg (sliceAt 94 g none (some a) none) (Zc R) w λ h w=>
 C0 142 #[h,b] R w λ i w=>
 U0 c a b i Zz R w
def n80 d a R w:=
 L0 94 a R w λ b w=>
 G0 94 3 b R w λ e w=>
 YW (λ c w Zz=>
 B0 .lss 3 false c e R w λ f w=>
 Zr f (
 U1 d a b c Zz R w) (
 R (.returned (.tuple #[])) w)) (QqQ 0) w
def Zh7:QqX2 198 n80:=λ h=>by
 refine yD func198 ?_
 refine zs<|zr<|yv h λ h=>yx h λ h=>zm<|zn<|zk<|Zl<|yl1 [3,4,7,8,9,10,11,12,13,14,15,16,17,18,19,20,21,22,23,24] 7 h λ σ w next h=>zs<|zr<|yb h λ h=>zn<|zk<|zs ?_
 refine yC h (λ h=>?_) λ h=>?_
 · refine Zk<|zk<|zs<|Zl<|zs<|zr<|zm<|yv h λ h=>yv h λ h=>zm<|zm<|zn<|zk<|zs<|Zq ?_
   refine yG 7<|yv h λ h=>zm<|yv h λ h=>zm<|yc h ZfA λ h=>yv h λ h=>zm<|zn<|yg1 4 6 true [19,20,21,22] 22 h (λ _ T hT h=>?_) λ σ w h=>?_
   · refine zm<|zm<|yV h λ h=>yv h λ h=>zn ?_
     exact zt hT h
   refine yG 1<|yp h λ h=>zn<|ZG<|zk<|yC h (λ h=>Zg<|Zh<|Zb<|Zb<|Zh<|ZR rfl h) λ h=>Zk<|Zf<|zk<|zr<|yb h λ h=>zm<|zn<|zk ?_
   exact ⟨rfl,h⟩
 exact ZN<|Ze<|Ze<|Zs<|ZJ<|ZR rfl h
def Rl b c a (Zz:KV) R w:=
 X0 72 b a R w λ d w=>
 L0 123 d R w λ e w=>
 X9 Pg c #[e] (Zc R) w λ f w=>
 Zr f (
 R (.returned a) w) (
 B0 .add 3 true a (QqQ 1) R w λ g w=>
 Zz g w)
def ZhD a c R w:=
 G0 72 3 a R w λ d w=>
 YW (λ b w Zz=>
 B0 .lss 3 false b d R w λ e w=>
 Zr e (
 Rl a c b Zz R w) (
 R (.returned (.int .i64 (-1))) w)) (QqQ 0) w
def ZhE:QqX2 199 ZhD:=λ h=>by
 refine yD func199 ?_
 refine zs<|zr<|zm<|zn<|zk<|zs<|zs<|zr<|zm<|yx h λ h=>zm<|zn<|zk<|Zl<|yl1 [4,5,8,9,10,11,12,13,14,15,16,17,18] 8 h λ σ w next h=>?_
 refine zs<|zr<|yb h λ h=>zn<|zk<|zs<|yC h (λ h=>?_) λ h=>?_
 · refine Zk<|zk<|zs<|Zl<|zs<|zr<|zm<|zm<|zn<|zk<|zs<|zr<|zm<|zm<|zm ?_
   refine yv h λ h=>yv h λ h=>yV h λ h=>zn<|zk<|yC h (λ h=>zs<|zr<|zm<|zm<|zn<|zk<|Zg<|Zh<|Zb<|Zb<|Zh<|Zb<|Zj rfl rfl h) λ h=>Zk<|Zf<|zk<|zr<|yb h λ h=>zm<|zn<|zk ?_
   exact ⟨rfl,h⟩
 exact ZN<|Ze<|Ze<|Zs<|zk<|zs<|zr<|zm<|zn<|zk<|Zg<|Zj rfl rfl h
def Rh b c (d:WPr) (a:PEn) (R:RT) w:=
 opV Pg (loadAt 94 b) a w λ e w=>
 opV Pg (buildSlice 94 1 #[(0,c)]) a w λ f w=>
 opV Pg (Builtin.append_ #[94,94] 94 #[e,f]) a w λ g w=>
 opU Pg (storeAt 94 b g) a w λ w=>
 d w
def ZeK b c (R:RT) w:=
 (λ (ds:LDf)=>
 opV Pg (box 94 b) (ZD Pg ds [(none,undef)] R) w λ a w=>
 Sw.rangeN6 Pg c ds (λ l1 d w e h f=>
 Ad l1 w λ w=>
 Rh a d e f R w) (λ ch ds w=>ZD Pg ds [(none,(Value.slice none 0 0))] R ch w) w (λ ds w=>
 opV Pg (loadAt 94 a) (ZD Pg ds [(none,(Value.slice none 0 0))] R) w λ g w=>
 Ul Pg ds [(none,g)] R w) []) []
def Zhc:QqX2 200 ZeK:=λ h=>by
 refine yE func200 ?_
 unfold ZeK at h
 dsimp only at h
 refine zs<|zr<|yv h λ h=>zm<|zn<|zk<|zs<|zs<|zr<|zm<|zn<|zk<|Zl<|ME [] h rfl (λ l1 t7 w Kr1 Xr1 Qr1 h=>?_) (λ ds w h=>?_) (λ c ds w h=>?_) (λ ch ds w h=>X7 rfl h)
 · refine zr<|zm<|zn<|zk ?_
   obtain ⟨hr,h⟩:=h
   refine ⟨rfl,hr,λ w hb=>?_⟩
   have h:=h w hb
   exact Zl<|zr<|yv h λ h=>zm<|yS h λ h=>yx h λ h=>yu h λ h=>zn<|Zf<|⟨rfl,h⟩
 · exact Zf<|zk<|zs<|zr<|yv h λ h=>zm<|zn<|zk<|Zg<|X8 rfl h
 exact h.elim
def xJ b c d e (a:WPr) (Zz:KW) R w:=
 qV Pg a (ZA .mul 3 false d e) λ f=>
 qV Pg a (ZA .add 3 false b f) λ g=>
 B0 .add 3 true c (QqQ 1) R w λ h w=>
 Zz g h w
def xK c d b e (a:WPr) (Zz:KW) R w:=
 J0 128 b 1 a λ f=>
 I0 3 f a λ g=>
 I0 128 b a λ h=>
 X9 Pg c #[h] (Zc R) w λ i w=>
 a w∧(
 xJ d e g i a Zz R w)
def xL c d e a (Zz:KW) R w:=
 X0 118 e a R w λ f w=>
 L0 128 f R w λ g w=>
 opV Pg (alloc 128 true (.tuple #[])) (Zc R) w λ b w=>
 S0 128 b g R w λ w=>
 Z4 w λ h w=>
 xK c d b a h Zz R w
def Zg8 e f R w:=
 opV Pg (box 120 e) (Zc R) w λ a w=>
 F0 120 a 0 R w λ g w=>
 L0 3 g R w λ h w=>
 F0 120 a 1 R w λ i w=>
 L0 118 i R w λ b w=>
 G0 118 3 b R w λ j w=>
 Wy (λ c d w Zz=>
 B0 .lss 3 false d j R w λ k w=>
 Zr k (
 xL f c b d Zz R w) (
 R (.returned c) w)) h (QqQ 0) w
def Zg9:QqX2 261 Zg8:=λ h=>by
 refine yD func261 ?_
 refine zs<|zr<|yv h λ h=>zm<|zn<|zk<|zs<|zr<|yv h λ h=>yv h λ h=>zm<|zn<|zk<|zs<|zs ?_
 refine zr<|yv h λ h=>yv h λ h=>yx h λ h=>zm<|zn<|zk<|Zl<|yl2 [5,7,13,14,15,16,17,18,19,20,21,22,23,24,25] 5 13 h λ σ w next h=>zs<|zr<|yb h λ h=>zn<|zk<|zs ?_
 refine yC h (λ h=>?_) λ h=>?_
 · refine Zk<|zk<|zs<|Zl<|zs<|zr<|yv h λ h=>yv h λ h=>yv h λ h=>yu h λ h=>zn<|zk<|yh [5,17,18,19,20,21,22,23,24] h λ C hC h=>yw 0 hC ?_
   refine ye 1 hC h λ h=>?_
   refine ye 2 hC h λ h=>?_
   refine yw 3 hC ?_
   refine ye 4 hC h λ h=>?_
   refine yo 5 ?_
   refine yV h λ h=>zn ?_
   obtain ⟨hC,h⟩:=h
   refine ⟨hC,?_⟩
   refine ye 6 hC h λ h=>?_
   refine ye 7 hC h λ h=>?_
   refine yw 8 hC ?_
   exact yz<|Zf<|zk<|zr<|yb h λ h=>zm<|zn<|zk<|⟨rfl,h⟩
 exact ZN<|Ze<|Ze<|Zs<|zk<|zs<|zr<|zm<|zm<|zn<|zk<|Zg<|Zj rfl rfl h
def Kh a b R w:=
 L0 296 a R w λ c w=>
 F0 128 b 0 R w λ d w=>
 L0 9 d R w λ e w=>
 opV Pg (lookup 296 c e false) (Zc R) w λ f w=>
 opV Pg (Instr.field 300 f 1) (Zc R) w λ g w=>
 R (.returned g) w
def ZgN d b e R w:=
 opV Pg (box 128 d) (Zc R) w λ a w=>
 L0 296 b R w λ f w=>
 F0 128 a 0 R w λ g w=>
 L0 9 g R w λ h w=>
 opV Pg (lookup 296 f h false) (Zc R) w λ i w=>
 opV Pg (alloc 300 true (.tuple #[])) (Zc R) w λ c w=>
 S0 300 c i R w λ w=>
 L0 4 e R w λ j w=>
 F0 128 a 1 R w λ k w=>
 L0 3 k R w λ l w=>
 B0 .gtr 3 true l (QqQ 0) R w λ m w=>
 B0 .eql 4 false j m R w λ n w=>
 Zr n (
 F0 300 c 0 R w λ o w=>
 L0 3 o R w λ p w=>
 R (.returned p) w) (
 Kh b a R w)
def ZgO:QqX3 262 ZgN:=λ h=>by
 refine yD func262 ?_
 refine zs<|zr<|yv h λ h=>zm<|zn<|zk<|zs<|zs<|zr<|yv h λ h=>yv h λ h=>yv h λ h=>yv h λ h=>yv h λ h=>yu h λ h=>?_
 refine zn<|zk<|zs<|zr<|yv h λ h=>yv h λ h=>yv h λ h=>yb h λ h=>yb h λ h=>zn<|zk<|yC h (λ h=>zs<|zr<|yv h λ h=>yv h λ h=>zm<|zn<|zk<|Zg<|Zb<|Zj rfl rfl h) λ h=>Zk<|zk ?_
 exact zs<|zr<|yv h λ h=>yv h λ h=>yv h λ h=>yv h λ h=>yv h λ h=>zm<|zn<|zk<|Zg<|Zj rfl rfl h
def Rq b c a (Zz:KV) R w:=
 X0 118 b a R w λ d w=>
 L0 128 d R w λ e w=>
 X9 Pg c #[e] (Zc R) w λ f w=>
 Zr f (
 R (.returned a) w) (
 B0 .add 3 true a (QqQ 1) R w λ g w=>
 Zz g w)
def ZhO a c R w:=
 G0 118 3 a R w λ d w=>
 YW (λ b w Zz=>
 B0 .lss 3 false b d R w λ e w=>
 Zr e (
 Rq a c b Zz R w) (
 R (.returned (.int .i64 (-1))) w)) (QqQ 0) w
def ZhP:QqX2 263 ZhO:=λ h=>by
 refine yD func263 ?_
 refine zs<|zr<|zm<|zn<|zk<|zs<|zs<|zr<|zm<|yx h λ h=>zm<|zn<|zk<|Zl<|yl1 [4,5,8,9,10,11,12,13,14,15,16,17,18] 8 h λ σ w next h=>?_
 refine zs<|zr<|yb h λ h=>zn<|zk<|zs<|yC h (λ h=>?_) λ h=>?_
 · refine Zk<|zk<|zs<|Zl<|zs<|zr<|zm<|zm<|zn<|zk<|zs<|zr<|zm<|zm<|zm ?_
   refine yv h λ h=>yv h λ h=>yV h λ h=>zn<|zk<|yC h (λ h=>zs<|zr<|zm<|zm<|zn<|zk<|Zg<|Zh<|Zb<|Zb<|Zh<|Zb<|Zj rfl rfl h) λ h=>Zk<|Zf<|zk<|zr<|yb h λ h=>zm<|zn<|zk ?_
   exact ⟨rfl,h⟩
 exact ZN<|Ze<|Ze<|Zs<|zk<|zs<|zr<|zm<|zn<|zk<|Zg<|Zj rfl rfl h
def ZdO d e f (R:RT) w:=
 Zx e (.bool true) f λ b=>
 Zp (λ (a:Vl) (w:Wd)=>
 Zx b (.bool true) a λ g=>
 R (.returned g) w) λ c=>
 Zm b false (
 F0 123 d 1 R w λ h w=>
 L0 117 h R w λ i w=>
 B0 .eql 117 true i (QqQ 3) R w λ a w=>
 c a w) (
 c undef w)
def n77 e R w:=
 opV Pg (box 123 e) (Zc R) w λ a w=>
 F0 123 a 1 R w λ f w=>
 L0 117 f R w λ g w=>
 B0 .eql 117 true g (QqQ 1) R w λ c w=>
 Zp (λ (b:Vl) (w:Wd)=>
 ZdO a c b R w) λ d=>
 Zm c false (
 F0 123 a 1 R w λ h w=>
 L0 117 h R w λ i w=>
 B0 .eql 117 true i (QqQ 2) R w λ b w=>
 d b w) (
 d undef w)
def Zlw:QqX1 264 n77:=λ h=>by
 refine yD func264 ?_
 refine zs<|zr<|yv h λ h=>zm<|zn<|zk<|zs<|Zq<|yG 4<|yv h λ h=>yv h λ h=>yb h λ h=>zm<|zn<|yg1 3 3 false [7,8,9] 9 h (λ _ T hT h=>?_) λ σ w h=>?_
 · refine yv h λ h=>yv h λ h=>yb h λ h=>zn ?_
   exact zt hT h
 refine yG 2<|yp h λ h=>zm<|zn<|yg1 3 8 false [12,13,14] 14 h (λ _ T hT h=>?_) λ σ w h=>?_
 · refine yv h λ h=>yv h λ h=>yb h λ h=>zn ?_
   exact zt hT h
 exact yG 2<|yp h λ h=>zm<|zn<|ZG<|zk<|Zg<|Zj rfl rfl h
open Go.RowKit (intOf)
def VA (w0:Wd) (v:Vl) (l:List Zv) (g:FuncId) (caps:AVl) (p:Zv→Bool) (hs:YR w0 v l) (hg:Callable Pg g) (hc:US w0 Z8 g caps p l) :
 Ret Pg 199 #[v,.func (.func g) #[] caps] w0 λ r w'=>r = .int .i64 (idx p l)∧Ext w0 w':=by
 obtain ⟨A,c,rfl,hlc,hcm,hlm,Xj⟩:=Zd.open hs
 refine ZhE (R:=ZE _) ?_
 unfold ZhD
 refine Qqv ?_
 refine ZL (λ i w=>∃ k:Nat,i = .int .i64 k∧k≤l.length∧Ext w0 w∧∀ (j:Nat) y,j < k→l[j]?=some y→p y=false) (λ i _=>l.length - (intOf i).toNat) ⟨0,rfl,by omega,Ext.refl _,λ j y h=>by omega⟩ ?_
 rintro i w ⟨k,rfl,hk,e,hb⟩
 by_cases Yo:k < l.length
 · obtain ⟨x,hx⟩:=getElem?_lt Yo
   obtain ⟨b,o,cs,rfl,hl,hA,hE⟩:=Xj k x hx
   have hd:decide ((k:Int) < (l.length:Int))=true:=by simp;omega
   refine Qqh hd ?_
   unfold Rl
   refine Qqv ?_
   unfold jS at hE
   obtain ⟨tv,cv,hcs,hT,hC⟩:=hE
   subst hcs
   have hV:Z8 w0 (.agg (Zw x tv cv).toArray) x:=⟨tv,cv,rfl,hT,hC⟩
   simp (disch:=try exact DI) only [↓PR,QR,simprocAttr,hA.c15]
   rw [Y3 hg]
   simp only [Array.empty_append]
   refine Zi (hc w _ x (List.mem_of_getElem? hx) e (hV.ext e)) ?_
   rintro r w' ⟨rfl,e'⟩
   cases hp:p x with
   | true => 
    refine Qqv ?_
    exact ⟨by rw [We hx hp hb],e.trans e'⟩
   | false=>
    refine Qqv ?_
    refine ⟨⟨k+1,rfl,by omega,e.trans e',λ j y hj hy=>?_⟩,by simp [intOf];omega⟩
    by_cases hjk:j=k
    · subst hjk;rw [hx] at hy;injection hy with hy;subst hy;exact hp
    · exact hb j y C1 hy
 · have hd:decide ((k:Int) < (l.length:Int))=false:=by simp;omega
   refine Qqh hd ?_
   exact ⟨by rw [Wf λ j y hy=>hb j y (by have:=(Qqx hy).1;omega) hy],e⟩
def KI (w0:Wd) (v:Vl) (l:List Xr) (g:FuncId) (caps:AVl) (p:Xr→Bool) (hs:VN w0 v l) (hg:Callable Pg g) (hc:US w0 Wo g caps p l) :
 Ret Pg 163 #[v,.func (.func g) #[] caps] w0 λ r w'=>r = .int .i64 (idx p l)∧Ext w0 w':=by
 obtain ⟨A,c,rfl,hlc,hcm,hlm,Xj⟩:=Zd.open hs
 refine ZhI (R:=ZE _) ?_
 unfold ZhH
 refine Qqv ?_
 refine ZL (λ i w=>∃ k:Nat,i = .int .i64 k∧k≤l.length∧Ext w0 w∧∀ (j:Nat) y,j < k→l[j]?=some y→p y=false) (λ i _=>l.length - (intOf i).toNat) ⟨0,rfl,by omega,Ext.refl _,λ j y h=>by omega⟩ ?_
 rintro i w ⟨k,rfl,hk,e,hb⟩
 by_cases Yo:k < l.length
 · obtain ⟨x,hx⟩:=getElem?_lt Yo
   obtain ⟨b,o,cs,rfl,hl,hA,hE⟩:=Xj k x hx
   have hd:decide ((k:Int) < (l.length:Int))=true:=by simp;omega
   refine Qqh hd ?_
   unfold Rn
   refine Qqv ?_
   unfold Pb at hE
   obtain ⟨fv,hcs,hF⟩:=hE
   subst hcs
   have hV:Wo w0 (.agg (Yj x fv).toArray) x:=⟨fv,rfl,hF⟩
   simp (disch:=try exact DI) only [↓PR,QR,simprocAttr,hA.c2]
   rw [Y3 hg]
   simp only [Array.empty_append]
   refine Zi (hc w _ x (List.mem_of_getElem? hx) e (hV.ext e)) ?_
   rintro r w' ⟨rfl,e'⟩
   cases hp:p x with
   | true => 
    refine Qqv ?_
    exact ⟨by rw [We hx hp hb],e.trans e'⟩
   | false=>
    refine Qqv ?_
    refine ⟨⟨k+1,rfl,by omega,e.trans e',λ j y hj hy=>?_⟩,by simp [intOf];omega⟩
    by_cases hjk:j=k
    · subst hjk;rw [hx] at hy;injection hy with hy;subst hy;exact hp
    · exact hb j y C1 hy
 · have hd:decide ((k:Int) < (l.length:Int))=false:=by simp;omega
   refine Qqh hd ?_
   exact ⟨by rw [Wf λ j y hy=>hb j y (by have:=(Qqx hy).1;omega) hy],e⟩
def GT (w0:Wd) (v:Vl) (l:List UInt8) (g:FuncId) (caps:AVl) (p:UInt8→Bool) (hs:(λ w v l=>Zd w 1 MO v l) w0 v l) (hg:Callable Pg g) (hc:US w0 (λ _ v x=>v = .int .u8 (x.toNat:Int)) g caps p l) :
 Ret Pg 108 #[v,.func (.func g) #[] caps] w0 λ r w'=>r = .int .i64 (idx p l)∧Ext w0 w':=by
 obtain ⟨A,c,rfl,hlc,hcm,hlm,Xj⟩:=Zd.open hs
 refine ZhR (R:=ZE _) ?_
 unfold ZhQ
 refine Qqv ?_
 refine ZL (λ i w=>∃ k:Nat,i = .int .i64 k∧k≤l.length∧Ext w0 w∧∀ (j:Nat) y,j < k→l[j]?=some y→p y=false) (λ i _=>l.length - (intOf i).toNat) ⟨0,rfl,by omega,Ext.refl _,λ j y h=>by omega⟩ ?_
 rintro i w ⟨k,rfl,hk,e,hb⟩
 by_cases Yo:k < l.length
 · obtain ⟨x,hx⟩:=getElem?_lt Yo
   obtain ⟨b,o,cs,rfl,hl,hA,hE⟩:=Xj k x hx
   have hd:decide ((k:Int) < (l.length:Int))=true:=by simp;omega
   refine Qqh hd ?_
   unfold Rr
   refine Qqv ?_
   obtain rfl:=hE
   have hV:(.int .u8 (x.toNat:Int):Vl) = .int .u8 (x.toNat:Int):=rfl
   simp (disch:=try exact DI) only [↓PR,QR,simprocAttr,hA.c1]
   rw [Y3 hg]
   simp only [Array.empty_append]
   refine Zi (hc w _ x (List.mem_of_getElem? hx) e (hV)) ?_
   rintro r w' ⟨rfl,e'⟩
   cases hp:p x with
   | true => 
    refine Qqv ?_
    exact ⟨by rw [We hx hp hb],e.trans e'⟩
   | false=>
    refine Qqv ?_
    refine ⟨⟨k+1,rfl,by omega,e.trans e',λ j y hj hy=>?_⟩,by simp [intOf];omega⟩
    by_cases hjk:j=k
    · subst hjk;rw [hx] at hy;injection hy with hy;subst hy;exact hp
    · exact hb j y C1 hy
 · have hd:decide ((k:Int) < (l.length:Int))=false:=by simp;omega
   refine Qqh hd ?_
   exact ⟨by rw [Wf λ j y hy=>hb j y (by have:=(Qqx hy).1;omega) hy],e⟩
def zN (w0 w1:Wd) (v:Vl) (l:List Xc) (g:FuncId) (caps:AVl) (p:Nat→Bool) (J:Nat→Wd→Prop) (hs:Z6 w0 v l) (hg:Callable Pg g) (hJ:∀ k w,J k w→Ext w0 w) (h0:J 0 w1)
 (hc:∀ k x w u,l[k]?=some x→J k w→(λ _ v x=>v=UB x) w u x→Ret Pg g (#[u]++caps) w λ r w'=>r = .bool (p k)∧J (k+1) w') :
 Ret Pg 263 #[v,.func (.func g) #[] caps] w1 λ r w'=>r = .int .i64 (idx p (List.range l.length))∧∃ k,J k w':=by
 obtain ⟨A,c,rfl,hlc,hcm,hlm,Xj⟩:=Zd.open hs
 refine ZhP (R:=ZE _) ?_
 unfold ZhO
 refine Qqv ?_
 refine ZL (λ i w=>∃ k:Nat,i = .int .i64 k∧k≤l.length∧J k w∧∀ (j:Nat) y,j < k→(List.range l.length)[j]?=some y→p y=false) (λ i _=>l.length - (intOf i).toNat) ⟨0,rfl,by omega,h0,λ j y h=>by omega⟩ ?_
 rintro i w ⟨k,rfl,hk,hj,hb⟩
 have e:=hJ _ _ hj
 by_cases Yo:k < l.length
 · obtain ⟨x,hx⟩:=getElem?_lt Yo
   have hr:(List.range l.length)[k]?=some k:=by simp [Yo]
   obtain ⟨b,o,cs,rfl,hl,hA,hE⟩:=Xj k x hx
   have hd:decide ((k:Int) < (l.length:Int))=true:=by simp;omega
   refine Qqh hd ?_
   unfold Rq
   refine Qqv ?_
   obtain rfl:=hE
   have hV:(.agg (qo x).toArray:Vl)=UB x:=rfl
   simp (disch:=try exact DI) only [↓PR,QR,simprocAttr,hA.c2]
   rw [Y3 hg]
   simp only [Array.empty_append]
   refine Zi (hc k x w _ hx hj hV) ?_
   rintro r w' ⟨rfl,hj'⟩
   cases hp:p k with
   | true => 
    refine Qqv ?_
    exact ⟨by rw [We hr hp hb],_,hj'⟩
   | false=>
    refine Qqv ?_
    exact ⟨⟨k+1,rfl,by omega,hj',before_succ hb hr hp⟩,by simp [intOf];omega⟩
 · have hd:decide ((k:Int) < (l.length:Int))=false:=by simp;omega
   refine Qqh hd ?_
   exact ⟨by rw [Wf λ j y hy=>hb j y (by have:=(Qqx hy).1;simp at this;omega) hy],_,hj⟩
def n53 R w:=
 opV Pg (alloc 24 true (.tuple #[])) (Zc R) w λ a w=>
 opV Pg (build 43 #[(0,(.string { data := #[110] })),(1,(QqQ 7))]) (Zc R) w λ b w=>
 opV Pg (build 43 #[(0,(.string { data := #[98] })),(1,(QqQ 1)),(2,(.string { data := #[98] }))]) (Zc R) w λ c w=>
 opV Pg (buildSlice 58 2 #[(0,b),(1,c)]) (Zc R) w λ d w=>
 opV Pg (build 60 #[(0,(.string { data := #[65] })),(1,(.string { data := #[65] })),(2,d)]) (Zc R) w λ e w=>
 opV Pg (buildSlice 22 1 #[(0,e)]) (Zc R) w λ f w=>
 opV Pg (build 24 #[(0,(.string { data := #[109] })),(1,f)]) (Zc R) w λ g w=>
 S0 24 a g R w λ w=>
 qW Pg 24 a w λ r0=>
 R (.returned r0) w
def Zk8:QqX0 30 n53:=λ h=>by
 refine yD func30 ?_
 refine zs<|zr<|yv h λ h=>zn<|zk<|zs<|zr<|yB h λ h=>yB h λ h=>yS h λ h=>yB h λ h=>yS h λ h=>yB h λ h=>yu h λ h=>zn ?_
 exact zk<|Zg<|Gb rfl rfl h
def n54 R w:=
 opV Pg (alloc 27 true (.tuple #[])) (Zc R) w λ a w=>
 opV Pg (build 123 #[(0,(.string { data := #[110] })),(1,(QqQ 1)),(2,(QqQ 8)),(6,(QqQ 255))]) (Zc R) w λ d w=>
 opV Pg (alloc 123 true (.tuple #[])) (Zc R) w λ b w=>
 S0 123 b d R w λ w=>
 opV Pg (build 128 #[(0,(.string { data := #[110] })),(1,(QqQ 1))]) (Zc R) w λ e w=>
 opV Pg (buildSlice 118 1 #[(0,e)]) (Zc R) w λ f w=>
 opV Pg (build 120 #[(1,f)]) (Zc R) w λ g w=>
 opV Pg (build 123 #[(0,(.string { data := #[98] })),(1,(QqQ 4)),(7,g)]) (Zc R) w λ h w=>
 opV Pg (alloc 123 true (.tuple #[])) (Zc R) w λ c w=>
 S0 123 c h R w λ w=>
 L0 123 b R w λ i w=>
 L0 123 c R w λ j w=>
 opV Pg (buildSlice 72 2 #[(0,i),(1,j)]) (Zc R) w λ k w=>
 opV Pg (build 74 #[(0,(.string { data := #[65] })),(1,k)]) (Zc R) w λ l w=>
 opV Pg (buildSlice 25 1 #[(0,l)]) (Zc R) w λ m w=>
 opV Pg (build 27 #[(0,(.string { data := #[100] })),(1,m),(2,(.string { data := #[65] }))]) (Zc R) w λ n w=>
 S0 27 a n R w λ w=>
 qW Pg 27 a w λ r0=>
 R (.returned r0) w
def Zk9:QqX0 31 n54:=λ h=>by
 refine yD func31 ?_
 refine zs<|zr<|yv h λ h=>zn<|zk<|zs<|zr<|yB h λ h=>yv h λ h=>yu h λ h=>zn<|zk<|zs<|zr<|yB h λ h=>?_
 refine yS h λ h=>yB h λ h=>yB h λ h=>yv h λ h=>yu h λ h=>zn<|zk<|zs<|zr<|yv h λ h=>yv h λ h=>yS h λ h=>yB h λ h=>yS h λ h=>yB h λ h=>?_
 exact yu h λ h=>zn<|zk<|Zg<|Gb rfl rfl h
def ZbS a b c (d:WPr) R w:=
 opV Pg (Instr.typeAssert c 20 82 false) (Zc R) w λ e w=>
 S0 34 a e R w λ w=>
 opU Pg (storeAt 4 b (.bool true)) (Zc R) w λ w=>
 d w
def n15 c d a R w:=
 opV Pg (ZA .neq 20 true a .nilIface) (Zc R) w λ e w=>
 Zp (λ (w:Wd)=>
 R (.returned (.tuple #[])) w) λ b=>
 Zr e (
 ZbS c d a b R w) (
 b w)
def ZhL {t0 t1:Vl} {u:FrameMode} {R:Ending→FrameMode→Wd→Prop} {w:Wd} (h:n15 t0 t1 (Sw.recM u).1 (λ e w=>R e (Sw.recM u).2 w) w):CallsDIn Fence.wide 0 Pg 32 #[t0,t1] u w R:=by
 refine GB (args:=[t0,t1]) (d:=3) func32 rfl (Nat.le_of_ble_eq_true rfl) rfl rfl rfl rfl ?_
 generalize (recM u).1=t3 at h ⊢
 generalize hR:(λ e w=>R e (recM u).2 w)=R' at h ⊢
 clear hR
 revert h
 generalize R'=R
 intro h
 unfold n15 at h
 refine zm<|zn<|zs<|zr<|zm<|yb h λ h=>zn<|zk<|yJ0 [6,7] h (λ _ _ hkK1 h=>?_) λ σ w h=>?_
 · refine yC h (λ h=>?_) λ h=>?_
   · refine zr<|zm<|yv h λ h=>yu h λ h=>yu h λ h=>zn<|zk ?_
     exact zt hkK1 h
   refine Zk<|zk ?_
   exact zt hkK1 h
 exact ZJ<|ZR rfl h
def M7 b c (a:WPr) R w:=
 qN Pg a (Y0 b) λ d=>
 J0 81 d 3 a λ e=>
 I0 3 e a λ f=>
 qN Pg a (Y0 b) λ g=>
 J0 81 g 4 a λ h=>
 I0 3 h a λ i=>
 qV Pg a (build 82 #[(0,f),(1,i),(2,c)]) λ j=>
 qV Pg a (makeInterface 82 j) λ k=>
 opV Pg (Instr.panic k) (Zc R) w λ _ w=>
 False
def n29 a b c R w:=
 N0 b R w λ d w=>
 Zr d (
 Z4 w λ e w=>
 M7 a c e R w) (
 R (.returned (.tuple #[])) w)
def ZkL:QqX3 33 n29:=λ h=>by
 refine yD func33 ?_
 refine zs<|zr<|zm<|yv h λ h=>zn<|zk<|yC h (λ h=>?_) λ h=>?_
 · refine yh [8,9,10,11,12,13,14,15,16,17,18] h λ C hC h=>yw 0 hC ?_
   refine yn 1 hC h λ h=>?_
   refine ye 2 hC h λ h=>?_
   refine ye 3 hC h λ h=>?_
   refine yw 4 hC ?_
   refine yn 5 hC h λ h=>?_
   refine ye 6 hC h λ h=>?_
   refine ye 7 hC h λ h=>?_
   refine yw 8 hC ?_
   refine ye 9 hC h λ h=>?_
   refine ye 10 hC h λ h=>?_
   refine yo 11 ?_
   exact yv h λ h=>zn<|h.elim
 exact Zk<|ZJ<|ZR rfl h
def ZdP a R w:=
 E0q a 0 R w λ b w=>
 E0q a 1 R w λ c w=>
 opV Pg (alloc 131 true (.tuple #[])) (Zc R) w λ d w=>
 S0 131 d b R w λ w=>
 N0 c R w λ e w=>
 R (.returned e) w
def n81 a R w:=
 opV Pg (box 27 a) (Zc R) w λ b w=>
 L0 27 b R w λ c w=>
 C0 70 #[c] R w λ d w=>
 ZdP d R w
def ZlB:QqX1 34 n81:=λ h=>by
 refine yD func34 ?_
 refine zs<|zr<|yv h λ h=>zm<|zn<|zk<|zs<|zr<|yv h λ h=>yc h c70 λ h=>zm<|yv h λ h=>yv h λ h=>yv h λ h=>yu h λ h=>?_
 exact zm<|zn<|zk<|zs<|zr<|zm<|yv h λ h=>zm<|zn<|zk<|Zg<|Zj rfl rfl h
def za d e f (R:RT) w:=
 Zx e f (.bool false) λ b=>
 Zp (λ (a:Vl) (w:Wd)=>
 Zx b a (.bool false) λ g=>
 R (.returned g) w) λ c=>
 Zm b true (
 opV Pg (Go.convert 9 40 d) (Zc R) w λ h w=>
 ZU Pg 75 #[h,(.func (.func 71) #[] #[])] (Zc R) w λ i w=>
 N0 i R w λ a w=>
 c a w) (
 c undef w)
def zb b c R w:=
 Zp (λ (a:Vl) (w:Wd)=>
 za b c a R w) λ d=>
 Zm c true (
 opV Pg (Instr.index 9 b (QqQ 0)) (Zc R) w λ e w=>
 C0 72 #[e] R w λ a w=>
 d a w) (
 d undef w)
def ZgP a R w:=
 G0 9 3 a R w λ b w=>
 B0 .geq 3 true b (QqQ 1) R w λ c w=>
 G0 9 3 a R w λ d w=>
 B0 .leq 3 true d (QqQ 32) R w λ e w=>
 opV Pg (buildSlice 170 2 #[(0,c),(1,e)]) (Zc R) w λ f w=>
 C0 74 #[f] R w λ g w=>
 zb a g R w
def ZgQ:QqX1 35 ZgP:=λ h=>by
 refine yD func35 ?_
 refine zs<|zr<|zm<|zn<|zk<|zs<|zr<|zm<|zn<|zk<|zs<|Zq<|yG 9<|zm<|yx h λ h=>?_
 refine yb h λ h=>zm<|yx h λ h=>yb h λ h=>yS h λ h=>yc h c74 λ h=>zm<|zn<|yg1 3 8 true [13,14,15] 15 h (λ _ T hT h=>?_) λ σ w h=>?_
 · refine zm<|yv h λ h=>yc h c72 λ h=>zn ?_
   exact zt hT h
 refine yG 2<|yp h λ h=>zm<|zn<|yg1 5 13 true [18,19,20,21,22] 22 h (λ _ T hT h=>?_) λ σ w h=>?_
 · refine zm<|yv h λ h=>zm<|yc h c75 λ h=>yv h λ h=>zn ?_
   exact zt hT h
 exact yG 2<|yp h λ h=>zm<|zn<|ZG<|zk<|Zg<|Zj rfl rfl h
def RF a b (R:RT) w:=
 Zr b (
 R (.returned (QqQ 5)) w) (
 B0 .eql 117 true a (QqQ 9) R w λ c w=>
 Zr c (
 R (.returned (QqQ 6)) w) (
 R (.returned (QqQ 0)) w))
def RG a R w:=
 B0 .eql 117 true a (QqQ 8) R w λ b w=>
 Zp (λ (d:Vl) (w:Wd)=>
 RF a d R w) λ c=>
 Zr b (
 c b w) (
 B0 .eql 117 true a (QqQ 12) R w λ e w=>
 c e w)
def RH a R w:=
 B0 .eql 117 true a (QqQ 6) R w λ b w=>
 Zr b (
 R (.returned (QqQ 3)) w) (
 B0 .eql 117 true a (QqQ 7) R w λ c w=>
 Zr c (
 R (.returned (QqQ 4)) w) (
 RG a R w))
def RI a R w:=
 B0 .eql 117 true a (QqQ 4) R w λ b w=>
 Zp (λ (d:Vl) (w:Wd)=>
 Zr d (
 R (.returned (QqQ 2)) w) (
 RH a R w)) λ c=>
 Zr b (
 c b w) (
 B0 .eql 117 true a (QqQ 5) R w λ e w=>
 c e w)
def n34 d R w:=
 opV Pg (box 123 d) (Zc R) w λ e w=>
 F0 123 e 1 R w λ f w=>
 L0 117 f R w λ a w=>
 B0 .eql 117 true a (QqQ 1) R w λ b w=>
 Zp (λ (g:Vl) (w:Wd)=>
 Zr g (
 R (.returned (QqQ 1)) w) (
 RI a R w)) λ c=>
 Zr b (
 c b w) (
 B0 .eql 117 true a (QqQ 3) R w λ h w=>
 c h w)
def ZkQ:QqX1 68 n34:=λ h=>by
 refine yD func68 ?_
 refine zs<|zr<|yv h λ h=>zm<|zn<|zk<|zs<|zs<|zr<|yv h λ h=>yv h λ h=>zn<|zk<|Zl<|zs ?_
 refine zs<|zr<|yb h λ h=>zm<|zn<|zk<|yJ1 [5,7] 5 h (λ _ _ hkK1 h=>?_) λ σ w h=>?_
 · refine yC h (λ h=>?_) λ h=>?_
   · refine Zk<|zk ?_
     exact zt hkK1 h
   refine zr<|yb h λ h=>zm<|zn<|zk ?_
   exact zt hkK1 h
 refine zk<|yC h (λ h=>zs<|zr<|zm<|zn<|zk<|Zg<|Zh<|Zb<|Zj rfl rfl h) λ h=>zs<|zs<|zr<|yb h λ h=>zm<|zn<|zk<|yJ1 [8,10] 8 h (λ _ _ hkK2 h=>?_) λ σ w h=>?_
 · refine yC h (λ h=>?_) λ h=>?_
   · refine Zk<|zk ?_
     exact zt hkK2 h
   refine zr<|yb h λ h=>zm<|zn<|zk ?_
   exact zt hkK2 h
 refine zk<|yC h (λ h=>zs<|zr<|zm<|zn<|zk<|Zg<|Zh<|Zb<|Zj rfl rfl h) λ h=>zs<|zr<|yb h λ h=>zm<|zn<|zk<|yC h (λ h=>zs<|zr<|zm<|zn<|zk<|Zg<|Zh<|Zb<|Zj rfl rfl h) λ h=>zs<|zr<|yb h λ h=>zm ?_
 refine zn<|zk<|yC h (λ h=>zs<|zr<|zm<|zn<|zk<|Zg<|Zh<|Zb<|Zj rfl rfl h) λ h=>zs<|zs<|zr<|yb h λ h=>zm<|zn<|zk<|yJ1 [15,17] 15 h (λ _ _ hkK3 h=>?_) λ σ w h=>?_
 · refine yC h (λ h=>?_) λ h=>?_
   · refine Zk<|zk ?_
     exact zt hkK3 h
   refine zr<|yb h λ h=>zm<|zn<|zk ?_
   exact zt hkK3 h
 refine zk<|yC h (λ h=>zs<|zr<|zm<|zn<|zk<|Zg<|Zh<|Zb<|Zj rfl rfl h) λ h=>zs<|zr<|yb h λ h=>zm<|zn<|zk<|yC h (λ h=>zs<|zr<|zm<|zn<|zk<|Zg<|Zh<|Zb<|Zj rfl rfl h) λ h=>Zk<|Zf<|zk<|zs ?_
 exact zr<|zm<|zn<|zk<|Zg<|Zj rfl rfl h
def ZdN b a R w:=
 E0q a 0 R w λ g w=>
 E0q a 1 R w λ d w=>
 E0q a 2 R w λ e w=>
 opV Pg (alloc 131 true (.tuple #[])) (Zc R) w λ c w=>
 S0 131 c d R w λ w=>
 L0 131 c R w λ f w=>
 S0 131 b f R w λ w=>
 qW Pg 131 b w λ r0=>
 R (.returned (.tuple #[r0,e])) w
def n72 a R w:=
 opV Pg (box 27 a) (Zc R) w λ b w=>
 opV Pg (alloc 131 true (.tuple #[])) (Zc R) w λ c w=>
 L0 27 b R w λ d w=>
 C0 106 #[d] R w λ e w=>
 ZdN c e R w
def Zlr:QqX1 70 n72:=λ h=>by
 refine yD func70 ?_
 refine zs<|zr<|yv h λ h=>yv h λ h=>zm<|zn<|zk<|zs<|zr<|yv h λ h=>yc h Zjm λ h=>zm<|yv h λ h=>yv h λ h=>yv h λ h=>?_
 refine yv h λ h=>zm<|yu h λ h=>zm<|zn<|zk<|zs<|zr<|yv h λ h=>zm<|yu h λ h=>zm<|zn<|zk<|Zg ?_
 exact YD rfl rfl rfl h
def xE d e f (R:RT) w:=
 Zx e f (.bool false) λ b=>
 Zp (λ (a:Vl) (w:Wd)=>
 Zx b a (.bool false) λ g=>
 R (.returned g) w) λ c=>
 Zm b true (
 opV Pg (ZA .neq 5 true d (.int .u8 95)) (Zc R) w λ a w=>
 c a w) (
 c undef w)
def xF b e R w:=
 N0 e R w λ c w=>
 Zp (λ (a:Vl) (w:Wd)=>
 xE b c a R w) λ d=>
 Zm c true (
 C0 73 #[b] R w λ f w=>
 N0 f R w λ a w=>
 d a w) (
 d undef w)
def ZgR a (R:RT) w:=
 C0 72 #[a] R w λ b w=>
 xF a b R w
def ZgS:QqX1 71 ZgR:=λ h=>by
 refine yD func71 ?_
 refine zs<|zr<|zm<|zn<|zk<|zs<|Zq<|yG 4<|zm<|yc h c72 λ h=>yv h λ h=>zm<|zn<|yg1 3 3 true [7,8,9] 9 h (λ _ T hT h=>?_) λ σ w h=>?_
 · refine zm<|yc h c73 λ h=>yv h λ h=>zn ?_
   exact zt hT h
 refine yG 2<|yp h λ h=>zm<|zn<|yg1 2 8 true [12,13] 13 h (λ _ T hT h=>?_) λ σ w h=>?_
 · refine zm<|yb h λ h=>zn ?_
   exact zt hT h
 exact yG 2<|yp h λ h=>zm<|zn<|ZG<|zk<|Zg<|Zj rfl rfl h
def I8 g c d (R:RT) w:=
 Zp (λ (a:Vl) (w:Wd)=>
 Zp (λ (b:Vl) (w:Wd)=>
 Zx c (.bool true) b λ h=>
 R (.returned h) w) λ e=>
 Zm c false (
 Zx d a (.bool false) λ b=>
 e b w) (
 e undef w)) λ f=>
 Zm d true (
 opV Pg (ZA .leq 5 true g (.int .u8 122)) (Zc R) w λ a w=>
 f a w) (
 f undef w)
def I9 a d e R w:=
 Zx d e (.bool false) λ b=>
 Zp (λ (f:Vl) (w:Wd)=>
 I8 a b f R w) λ c=>
 Zm b false (
 opV Pg (ZA .geq 5 true a (.int .u8 97)) (Zc R) w λ g w=>
 c g w) (
 c undef w)
def Zg6 a R w:=
 opV Pg (ZA .geq 5 true a (.int .u8 65)) (Zc R) w λ c w=>
 Zp (λ (b:Vl) (w:Wd)=>
 I9 a c b R w) λ d=>
 Zm c true (
 opV Pg (ZA .leq 5 true a (.int .u8 90)) (Zc R) w λ b w=>
 d b w) (
 d undef w)
def Zg7:QqX1 72 Zg6:=λ h=>by
 refine yD func72 ?_
 refine zs<|zr<|zm<|zn<|zk<|zs<|Zq<|yG 3<|zm<|yb h λ h=>zm<|zn<|yg1 2 2 true [6,7] 7 h (λ _ T hT h=>?_) λ σ w h=>?_
 · refine zm<|yb h λ h=>zn ?_
   exact zt hT h
 refine yG 2<|yp h λ h=>zm<|zn<|yg1 3 6 false [10,11,12] 12 h (λ _ T hT h=>?_) λ σ w h=>?_
 · refine zm<|yb h λ h=>zm<|zn ?_
   exact zt hT h
 refine yg1 2 9 true [13,14] 14 h (λ _ T hT h=>?_) λ σ w h=>?_
 · refine zm<|yb h λ h=>zn ?_
   exact zt hT h
 refine yg1 1 6 false [15] 15 h (λ _ T hT h=>?_) λ σ w h=>?_
 · refine yp h λ h=>zn ?_
   exact zt hT h
 exact yG 2<|yp h λ h=>zm<|zn<|ZG<|zk<|Zg<|Zj rfl rfl h
def Zg4 b R w:=
 opV Pg (ZA .geq 5 true b (.int .u8 48)) (Zc R) w λ c w=>
 Zp (λ (a:Vl) (w:Wd)=>
 Zx c a (.bool false) λ e=>
 R (.returned e) w) λ d=>
 Zm c true (
 opV Pg (ZA .leq 5 true b (.int .u8 57)) (Zc R) w λ a w=>
 d a w) (
 d undef w)
def Zg5:QqX1 73 Zg4:=λ h=>by
 refine yD func73 ?_
 refine zs<|zr<|zm<|zn<|zk<|zs<|Zq<|yG 3<|zm<|yb h λ h=>zm<|zn<|yg1 2 2 true [6,7] 7 h (λ _ T hT h=>?_) λ σ w h=>?_
 · refine zm<|yb h λ h=>zn ?_
   exact zt hT h
 exact yG 2<|yp h λ h=>zm<|zn<|ZG<|zk<|Zg<|Zj rfl rfl h
def Zg1 a (R:RT) w:=
 C0 107 #[a,(.bool false)] R w λ b w=>
 N0 b R w λ c w=>
 R (.returned c) w
def Zg2:QqX1 74 Zg1:=λ h=>by
 refine yD func74 ?_
 exact zs<|zr<|zm<|zn<|zk<|zs<|zr<|zm<|yc h Zjn λ h=>yv h λ h=>zm<|zn<|zk<|Zg<|Zj rfl rfl h
def Zhr a b (R:RT) w:=
 C0 108 #[a,b] R w λ c w=>
 B0 .geq 3 true c (QqQ 0) R w λ d w=>
 R (.returned d) w
def Zhs:QqX2 75 Zhr:=λ h=>by
 refine yD func75 ?_
 refine zs<|zr<|zm<|zn<|zk<|zs<|zr<|zm<|zm<|yc h Zjo λ h=>yb h λ h=>zm<|zn<|zk<|Zg ?_
 exact Zj rfl rfl h
def Zco a R w:=
 opV Pg (build 74 #[]) (Zc R) w λ b w=>
 S0 74 a b R w λ w=>
 qW Pg 74 a w λ r0=>
 R (.returned (.tuple #[r0,(.bool false)])) w
def Zcp b a c R w:=
 F0 27 b 1 R w λ d w=>
 L0 25 d R w λ e w=>
 X0 25 e c R w λ f w=>
 L0 74 f R w λ g w=>
 S0 74 a g R w λ w=>
 qW Pg 74 a w λ r0=>
 R (.returned (.tuple #[r0,(.bool true)])) w
def Zcq c a b R w:=
 E0q b 0 R w λ d w=>
 E0q b 1 R w λ e w=>
 N0 e R w λ f w=>
 Zr f (
 Zco a R w) (
 Zcp c a d R w)
def n40 b c R w:=
 opV Pg (box 27 b) (Zc R) w λ a w=>
 opV Pg (alloc 74 true (.tuple #[])) (Zc R) w λ d w=>
 L0 27 a R w λ e w=>
 C0 109 #[e,c] R w λ f w=>
 Zcq a d f R w
def ZkW:QqX2 76 n40:=λ h=>by
 refine yD func76 ?_
 refine zs<|zr<|yv h λ h=>yv h λ h=>zm<|zn<|zk<|zs<|zr<|yv h λ h=>zm<|yc h Zjp λ h=>zm<|yv h λ h=>yv h λ h=>?_
 refine zm<|zm<|zn<|zk<|zs<|zs<|zr<|zm<|yv h λ h=>zn<|zk<|yC h (λ h=>zs<|zr<|yB h λ h=>yu h λ h=>zm<|zn<|zk<|Zg<|Zb<|YD rfl rfl rfl h) λ h=>Zk<|zk ?_
 exact zs<|zr<|yv h λ h=>yv h λ h=>zm<|yv h λ h=>yv h λ h=>yu h λ h=>zm<|zn<|zk<|Zg<|YD rfl rfl rfl h
def A7 b a (c:WPr) R w:=
 F0 43 a 3 R w λ d w=>
 L0 3 d R w λ e w=>
 F0 43 a 3 R w λ f w=>
 L0 3 f R w λ g w=>
 opV Pg (Op.unary .neg g) (Zc R) w λ h w=>
 opV Pg (Builtin.max_ #[3,3] 3 #[e,h]) (Zc R) w λ i w=>
 C0 42 #[i] R w λ j w=>
 C0 33 #[b,j,(QqQ 8)] R w λ k w=>
 c w
def A8 a b (c:WPr) R w:=
 F0 43 b 4 R w λ d w=>
 L0 3 d R w λ e w=>
 C0 42 #[e] R w λ f w=>
 C0 33 #[a,f,(QqQ 8)] R w λ g w=>
 c w
def A9 a b (c:WPr) R w:=
 F0 43 b 5 R w λ d w=>
 L0 40 d R w λ e w=>
 G0 40 3 e R w λ f w=>
 B0 .leq 3 true f (QqQ 1000) R w λ g w=>
 C0 33 #[a,g,(QqQ 2)] R w λ h w=>
 c w
def Ba a b (c:WPr) R w:=
 F0 43 b 6 R w λ d w=>
 L0 41 d R w λ e w=>
 C0 112 #[a,e] R w λ f w=>
 c w
def Bb a b c (d:WPr) R w:=
 L0 123 c R w λ e w=>
 L0 123 b R w λ f w=>
 C0 113 #[a,e,f] R w λ g w=>
 d w
def Bc b f g c h (i:WPr) R w:=
 B0 .eql 124 false c h R w λ d w=>
 Zp (λ (a:Vl) (w:Wd)=>
 Zx d a (.bool false) λ j=>
 C0 33 #[b,j,(QqQ 5)] R w λ k w=>
 Bb b f g i R w) λ e=>
 Zm d true (
 B0 .geq 124 true c (QqQ 4) R w λ a w=>
 e a w) (
 e undef w)
def Bd b c d (a:WPr) R w:=
 B0 .eql 39 true d (QqQ 7) R w λ e w=>
 Zr e (
 B0 .eql 124 true c (QqQ 1) R w λ f w=>
 C0 33 #[b,f,(QqQ 5)] R w λ g w=>
 a w) (
 a w)
def Be b e f g (h:WPr) R w:=
 B0 .eql 124 true f (QqQ 1) R w λ c w=>
 Zp (λ (a:Vl) (w:Wd)=>
 Zx c a (.bool false) λ i=>
 C0 33 #[b,i,(QqQ 5)] R w λ j w=>
 Ba b e h R w) λ d=>
 Zm c true (
 B0 .eql 124 true g (QqQ 1) R w λ a w=>
 d a w) (
 d undef w)
def Bf a f g h b e c (d:WPr) R w:=
 B0 .eql 39 true c (QqQ 5) R w λ i w=>
 Zr i (
 Be a f b e d R w) (
 B0 .eql 39 true c (QqQ 6) R w λ j w=>
 Zr j (
 Bc a g h b e d R w) (
 Bd a b c d R w))
def ze a b f g c h d (e:WPr) R w:=
 B0 .eql 39 true d (QqQ 4) R w λ i w=>
 Zr i (
 B0 .eql 124 true c (QqQ 2) R w λ j w=>
 C0 33 #[a,j,(QqQ 5)] R w λ k w=>
 A9 a b e R w) (
 Bf a b f g c h d e R w)
def zf b e f g (h:WPr) R w:=
 B0 .eql 124 true f (QqQ 1) R w λ c w=>
 Zp (λ (a:Vl) (w:Wd)=>
 Zx c a (.bool false) λ i=>
 C0 33 #[b,i,(QqQ 5)] R w λ j w=>
 A7 b e h R w) λ d=>
 Zm c true (
 B0 .eql 124 true g (QqQ 1) R w λ a w=>
 d a w) (
 d undef w)
def zg a b f g c h d (e:WPr) R w:=
 B0 .eql 39 true d (QqQ 3) R w λ i w=>
 Zr i (
 B0 .eql 124 true c (QqQ 1) R w λ j w=>
 C0 33 #[a,j,(QqQ 5)] R w λ k w=>
 A8 a b e R w) (
 ze a b f g c h d e R w)
def zh e b f (g:WPr) R w:=
 B0 .eql 124 false b f R w λ c w=>
 Zp (λ (a:Vl) (w:Wd)=>
 Zx c a (.bool false) λ h=>
 C0 33 #[e,h,(QqQ 5)] R w λ i w=>
 g w) λ d=>
 Zm c true (
 B0 .leq 124 true b (QqQ 3) R w λ a w=>
 d a w) (
 d undef w)
def zi a b g h c d e (f:WPr) R w:=
 B0 .eql 39 true e (QqQ 2) R w λ i w=>
 Zr i (
 zf a b c d f R w) (
 zg a b g h c d e f R w)
def Ki a b i c d R w:=
 E0q d 0 R w λ j w=>
 E0q d 1 R w λ e w=>
 opV Pg (alloc 123 true (.tuple #[])) (Zc R) w λ f w=>
 S0 123 f j R w λ w=>
 F0 43 b 1 R w λ k w=>
 L0 39 k R w λ g w=>
 B0 .eql 39 true g (QqQ 1) R w λ l w=>
 Zp (λ (w:Wd)=>
 R (.returned (.tuple #[])) w) λ h=>
 Zr l (
 zh a c e h R w) (
 zi a b i f c e g h R w)
def Jv b a c d e R w:=
 L0 74 c R w λ f w=>
 F0 43 a 2 R w λ g w=>
 L0 9 g R w λ h w=>
 C0 110 #[f,h] R w λ i w=>
 Ki b a d e i R w
def Kj a b c d e f R w:=
 L0 43 b R w λ g w=>
 L0 105 e R w λ h w=>
 C0 97 #[g,h] R w λ i w=>
 C0 33 #[a,i,(QqQ 7)] R w λ j w=>
 Jv a b c d f R w
def Jw d e (a:WPr) (f:KW) R w:=
 qV Pg a (lookup 106 d e true) λ b=>
 qV Pg a (extract b 0) λ g=>
 qV Pg a (extract b 1) λ h=>
 opV Pg (alloc 105 true (.tuple #[])) (Zc R) w λ c w=>
 a w∧(
 S0 105 c g R w λ w=>
 a w∧(
 f c h w))
def Jy b d e (a:WPr) (f:KW) R w:=
 qV Pg a (lookup 106 d e true) λ c=>
 qV Pg a (extract c 0) λ g=>
 qV Pg a (extract c 1) λ h=>
 S0 105 b g R w λ w=>
 a w∧(
 f b h w)
def Jz d e h i j (a:WPr) (R:RT) w:=
 J0 43 e 1 a λ k=>
 I0 39 k a λ f=>
 Zp (λ (b:Vl) (l:Vl) (w:Wd)=>
 C0 33 #[d,l,(QqQ 6)] R w λ o w=>
 Kj d e h i b j R w) λ g=>
 (
 C0 57 #[] R w λ c w=>
 XS a w λ m w=>
 Jw c f m g R w)∧(
 opV Pg (alloc 105 true (.tuple #[])) (Zc R) w λ b w=>
 a w∧(
 C0 57 #[] R w λ c w=>
 XS a w λ n w=>
 Jy b c f n g R w))
def JA a b c d e f R w:=
 N0 f R w λ g w=>
 C0 33 #[a,g,(QqQ 4)] R w λ i w=>
 Z4 w λ h w=>
 Jz a b c d e h R w
def JB a f b g c R w:=
 E0q c 0 R w λ h w=>
 E0q c 1 R w λ d w=>
 opV Pg (alloc 123 true (.tuple #[])) (Zc R) w λ e w=>
 S0 123 e h R w λ w=>
 B0 .neq 124 true d (QqQ 0) R w λ i w=>
 C0 33 #[a,i,(QqQ 5)] R w λ l w=>
 opV Pg (makeFunc (.func 111) #[] #[b]) (Zc R) w λ j w=>
 C0 78 #[f,j] R w λ k w=>
 JA a b g e d k R w
def n31 b c d e f R w:=
 opV Pg (box 43 c) (Zc R) w λ a w=>
 opV Pg (box 74 d) (Zc R) w λ g w=>
 opV Pg (box 74 e) (Zc R) w λ h w=>
 L0 74 h R w λ i w=>
 F0 43 a 0 R w λ j w=>
 L0 9 j R w λ k w=>
 C0 110 #[i,k] R w λ l w=>
 JB b f a g l R w
def ZkN:QqX5 77 n31:=λ h=>by
 refine yD func77 ?_
 refine zs<|zr<|yv h λ h=>yv h λ h=>yv h λ h=>zn<|zk<|zs<|zr<|yv h λ h=>yv h λ h=>yv h λ h=>yc h Zfv λ h=>zm<|yv h λ h=>?_
 refine yv h λ h=>yv h λ h=>yu h λ h=>zm<|zn<|zk<|zs<|zr<|zm<|zm<|yb h λ h=>yc h c33 λ h=>zn<|zk<|zs ?_
 refine zr<|zm<|zm<|yF h λ h=>yc h c78 λ h=>yv h λ h=>yc h c33 λ h=>zn<|zk<|zs<|yh [12,13,33,34,35,36,37,38,39] h λ C hC h=>ye 1 hC h λ h=>?_
 refine ye 2 hC h λ h=>?_
 refine X1 h (λ K2 hK h=>?_)
 refine Qx [12,13,33,34,37,38,39] (λ ρ w=>K2 (ρ 12) (ρ 13) w) (λ T hT=>?_) (λ σ w h=>?_)
 · obtain ⟨h0,h1⟩:=h
   refine Y5 0 7 rfl rfl K5 (λ _ _=>rfl) (λ _ _=>rfl) ?_ ?_
   · have h:=h0
     refine yc h c57 λ h=>zn ?_
     obtain ⟨C8,hs,hC,h⟩:=h
     refine ⟨C8,hs,hC,?_⟩
     refine ye 3 hC h λ h=>?_
     refine yw 4 hC ?_
     refine ye 5 hC h λ h=>?_
     refine ye 6 hC h λ h=>?_
     refine yo 7 ?_
     refine yv h λ h=>zn ?_
     obtain ⟨hC,h⟩:=h
     refine ⟨hC,?_⟩
     refine yo 8 ?_
     refine yu h λ h=>zn ?_
     obtain ⟨hC,h⟩:=h
     refine ⟨hC,?_⟩
     refine yw 9 hC ?_
     refine yz ?_
     exact zt hT h
   have h:=h1
   refine yv h λ h=>zn ?_
   obtain ⟨hC,h⟩:=h
   refine ⟨_,λ _ h=>h,hC,?_⟩
   refine yr 0 ?_
   refine yc h c57 λ h=>zn ?_
   obtain ⟨C9,hs,hC,h⟩:=h
   refine ⟨C9,hs,hC,?_⟩
   refine ye 3 hC h λ h=>?_
   refine yw 4 hC ?_
   refine ye 5 hC h λ h=>?_
   refine ye 6 hC h λ h=>?_
   refine yo 8 ?_
   refine yu h λ h=>zn ?_
   obtain ⟨hC,h⟩:=h
   refine ⟨hC,?_⟩
   refine yw 9 hC ?_
   refine yz ?_
   exact zt hT h
 subst hK
 refine zk<|zs<|zr<|zm<|zm<|yc h c33 λ h=>zn<|zk<|zs<|zr<|zm<|yv h λ h=>yv h λ h=>yc h c97 λ h=>yc h c33 λ h=>?_
 refine zn<|zk<|zs<|zr<|yv h λ h=>yv h λ h=>yv h λ h=>yc h Zfv λ h=>zm<|yv h λ h=>yv h λ h=>yv h λ h=>yu h λ h=>zm<|zn ?_
 refine zk<|zs<|zr<|yv h λ h=>yv h λ h=>zn<|zk<|Zl<|zs<|zr<|yb h λ h=>zm<|zn<|zk<|yJ0 [59,60,61,62,63,64,65,66,67,68,69,70,71,72,73,74,75,76,77,78,79,80,81,82,83,84,85,86,87,88,89,90,91,92,93,94,95,96,97,98,99,100,101,102,103,104,105,106,107,108,109,110,111,112,113,114,115,116,117,118,119,120,121,122,123,124,125,126,127,128,129,130,131,132,133,134,135,136,137,138,139,140,141,142,143,144] h (λ _ _ hkK3 h=>?_) λ σ w h=>?_
 · refine yC h (λ h=>?_) λ h=>?_
   · refine Zq<|yG 5<|zm<|zm<|zm<|yb h λ h=>zm<|zn<|yg1 2 4 true [64,65] 65 h (λ _ T hT h=>?_) λ σ w h=>?_
     · refine zm<|yb h λ h=>zn ?_
       exact zt hT h
     refine yG 2<|yp h λ h=>yc h c33 λ h=>zn<|ZG<|zk ?_
     exact zt hkK3 h
   refine zs<|zr<|yb h λ h=>zm<|zn<|zk<|yC h (λ h=>?_) λ h=>?_
   · refine zs<|Zq<|yG 4<|zm<|zm<|yb h λ h=>zm<|zn<|yg1 2 3 true [74,75] 75 h (λ _ T hT h=>?_) λ σ w h=>?_
     · refine zm<|yb h λ h=>zn ?_
       exact zt hT h
     refine yG 2<|yp h λ h=>yc h c33 λ h=>zn<|ZG<|zk<|zr<|zm<|yv h λ h=>yv h λ h=>yv h λ h=>yv h λ h=>yv h λ h=>yx h λ h=>yc h c42 λ h=>?_
     refine yc h c33 λ h=>zn<|zk ?_
     exact zt hkK3 h
   refine zs<|zr<|yb h λ h=>zm<|zn<|zk<|yC h (λ h=>?_) λ h=>?_
   · refine zs<|zr<|zm<|zm<|yb h λ h=>yc h c33 λ h=>zn<|zk<|zr<|zm<|yv h λ h=>yv h λ h=>yc h c42 λ h=>yc h c33 λ h=>zn ?_
     refine zk ?_
     exact zt hkK3 h
   refine zs<|zr<|yb h λ h=>zm<|zn<|zk<|yC h (λ h=>?_) λ h=>?_
   · refine zs<|zr<|zm<|zm<|yb h λ h=>yc h c33 λ h=>zn<|zk<|zr<|zm<|yv h λ h=>yv h λ h=>yx h λ h=>yb h λ h=>yc h c33 λ h=>?_
     refine zn<|zk ?_
     exact zt hkK3 h
   refine zs<|zr<|yb h λ h=>zm<|zn<|zk<|yC h (λ h=>?_) λ h=>?_
   · refine zs<|Zq<|yG 4<|zm<|zm<|yb h λ h=>zm<|zn<|yg1 2 3 true [116,117] 117 h (λ _ T hT h=>?_) λ σ w h=>?_
     · refine zm<|yb h λ h=>zn ?_
       exact zt hT h
     refine yG 2<|yp h λ h=>yc h c33 λ h=>zn<|ZG<|zk<|zr<|zm<|yv h λ h=>yv h λ h=>yc h Zjr λ h=>zn<|zk ?_
     exact zt hkK3 h
   refine zs<|zr<|yb h λ h=>zm<|zn<|zk<|yC h (λ h=>?_) λ h=>?_
   · refine zs<|Zq<|yG 5<|zm<|zm<|zm<|yb h λ h=>zm<|zn<|yg1 2 4 true [131,132] 132 h (λ _ T hT h=>?_) λ σ w h=>?_
     · refine zm<|yb h λ h=>zn ?_
       exact zt hT h
     refine yG 2<|yp h λ h=>yc h c33 λ h=>zn<|ZG<|zk<|zr<|zm<|yv h λ h=>yv h λ h=>yc h Zjs λ h=>zn<|zk ?_
     exact zt hkK3 h
   refine zs<|zr<|yb h λ h=>zm<|zn<|zk<|yC h (λ h=>?_) λ h=>?_
   · refine zr<|zm<|zm<|yb h λ h=>yc h c33 λ h=>zn<|zk ?_
     exact zt hkK3 h
   refine Zk<|zk ?_
   exact zt hkK3 h
 exact Zf<|ZJ<|ZR rfl h
def Zhn a b (R:RT) w:=
 C0 114 #[a,b] R w λ c w=>
 B0 .geq 3 true c (QqQ 0) R w λ d w=>
 R (.returned d) w
def Zho:QqX2 78 Zhn:=λ h=>by
 refine yD func78 ?_
 refine zs<|zr<|zm<|zn<|zk<|zs<|zr<|zm<|zm<|yc h Zjt λ h=>yb h λ h=>zm<|zn<|zk<|Zg ?_
 exact Zj rfl rfl h
def n28 a b R w:=
 opV Pg (box 43 a) (Zc R) w λ c w=>
 F0 43 c 0 R w λ d w=>
 L0 9 d R w λ e w=>
 F0 123 b 0 R w λ f w=>
 L0 9 f R w λ g w=>
 B0 .eql 9 false e g R w λ h w=>
 R (.returned h) w
def ZkK:QqX2 79 n28:=λ h=>by
 refine yD func79 ?_
 refine zs<|zr<|yv h λ h=>zm<|zn<|zk<|zs<|zr<|yv h λ h=>yv h λ h=>yv h λ h=>yv h λ h=>yb h λ h=>zm<|zn ?_
 exact zk<|Zg<|Zj rfl rfl h
def SD g c d (R:RT) w:=
 Zp (λ (a:Vl) (w:Wd)=>
 Zp (λ (b:Vl) (w:Wd)=>
 Zx c (.bool true) b λ h=>
 R (.returned h) w) λ e=>
 Zm c false (
 Zx d a (.bool false) λ b=>
 e b w) (
 e undef w)) λ f=>
 Zm d true (
 opV Pg (ZA .leq 5 true g (.int .u8 122)) (Zc R) w λ a w=>
 f a w) (
 f undef w)
def SE a d e R w:=
 Zx d e (.bool false) λ b=>
 Zp (λ (f:Vl) (w:Wd)=>
 SD a b f R w) λ c=>
 Zm b false (
 opV Pg (ZA .geq 5 true a (.int .u8 97)) (Zc R) w λ g w=>
 c g w) (
 c undef w)
def n57 a R w:=
 opV Pg (ZA .geq 5 true a (.int .u8 65)) (Zc R) w λ c w=>
 Zp (λ (b:Vl) (w:Wd)=>
 SE a c b R w) λ d=>
 Zm c true (
 opV Pg (ZA .leq 5 true a (.int .u8 90)) (Zc R) w λ b w=>
 d b w) (
 d undef w)
def Zlc:QqX1 81 n57:=λ h=>by
 refine yD func81 ?_
 refine zs<|zr<|zm<|zn<|zk<|zs<|Zq<|yG 3<|zm<|yb h λ h=>zm<|zn<|yg1 2 2 true [6,7] 7 h (λ _ T hT h=>?_) λ σ w h=>?_
 · refine zm<|yb h λ h=>zn ?_
   exact zt hT h
 refine yG 2<|yp h λ h=>zm<|zn<|yg1 3 6 false [10,11,12] 12 h (λ _ T hT h=>?_) λ σ w h=>?_
 · refine zm<|yb h λ h=>zm<|zn ?_
   exact zt hT h
 refine yg1 2 9 true [13,14] 14 h (λ _ T hT h=>?_) λ σ w h=>?_
 · refine zm<|yb h λ h=>zn ?_
   exact zt hT h
 refine yg1 1 6 false [15] 15 h (λ _ T hT h=>?_) λ σ w h=>?_
 · refine yp h λ h=>zn ?_
   exact zt hT h
 exact yG 2<|yp h λ h=>zm<|zn<|ZG<|zk<|Zg<|Zj rfl rfl h
def n56 b R w:=
 opV Pg (ZA .geq 5 true b (.int .u8 48)) (Zc R) w λ c w=>
 Zp (λ (a:Vl) (w:Wd)=>
 Zx c a (.bool false) λ e=>
 R (.returned e) w) λ d=>
 Zm c true (
 opV Pg (ZA .leq 5 true b (.int .u8 57)) (Zc R) w λ a w=>
 d a w) (
 d undef w)
def Zlb:QqX1 82 n56:=λ h=>by
 refine yD func82 ?_
 refine zs<|zr<|zm<|zn<|zk<|zs<|Zq<|yG 3<|zm<|yb h λ h=>zm<|zn<|yg1 2 2 true [6,7] 7 h (λ _ T hT h=>?_) λ σ w h=>?_
 · refine zm<|yb h λ h=>zn ?_
   exact zt hT h
 exact yG 2<|yp h λ h=>zm<|zn<|ZG<|zk<|Zg<|Zj rfl rfl h
def HG a b c d (V8:KV) (ds:LDf) (R:RT) w:=
 Zx c d (.bool false) λ e=>
 opU Pg (storeAt 4 a e) (ZD Pg ds [] R) w λ w=>
 opV Pg (ZA .add 3 true b (QqQ 1)) (ZD Pg ds [] R) w λ f w=>
 V8 f w
def S4 b e f (V8:KV) (ds:LDf) (R:RT) w:=
 opV Pg (loadAt 4 b) (ZD Pg ds [] R) w λ c w=>
 Zp (λ (a:Vl) (w:Wd)=>
 HG b f c a V8 ds R w) λ d=>
 Zm c true (
 opV Pg (fieldAt 123 e 4) (ZD Pg ds [] R) w λ g w=>
 opV Pg (loadAt 4 g) (ZD Pg ds [] R) w λ h w=>
 opV Pg (Op.unary .not h) (ZD Pg ds [] R) w λ a w=>
 d a w) (
 d undef w)
def S5 f c g (h:WPr) (a:PEn) (R:RT) w:=
 opV Pg (loadAt 4 c) a w λ d w=>
 Zp (λ (b:Vl) (w:Wd)=>
 Zx d b (.bool false) λ i=>
 opU Pg (storeAt 4 c i) a w λ w=>
 h w) λ e=>
 Zm d true (
 opV Pg (loadAt 167 f) a w λ j w=>
 opN Pg (Y0 j) a w λ k w=>
 opV Pg (fieldAt 201 k 2) a w λ l w=>
 opV Pg (loadAt 199 l) a w λ m w=>
 opV Pg (lookup 199 m g false) a w λ b w=>
 e b w) (
 e undef w)
def S6 b f c d (a g:WPr) (e:PEn) R w:=
 I0 3 c a λ h=>
 I0 167 b a λ i=>
 qN Pg a (Y0 i) λ j=>
 J0 201 j 1 a λ k=>
 I0 198 k a λ l=>
 qV Pg a (lookup 198 l d false) λ m=>
 qV Pg a (Builtin.max_ #[3,3] 3 #[h,m]) λ n=>
 opU Pg (storeAt 3 c n) e w λ w=>
 WB w λ o w=>
 S5 b f d g e R w
def S7 a b (ds:LDf) (R:RT) w:=
 opV Pg (loadAt 167 a) (ZD Pg ds [] R) w λ c w=>
 opV Pg (loadAt 3 b) (ZD Pg ds [] R) w λ d w=>
 opV Pg (ZA .lss 3 true d (QqQ 16)) (ZD Pg ds [] R) w λ e w=>
 ZU Pg 135 #[c,e,(QqQ 10)] (ZD Pg ds [] R) w λ f w=>
 Ul Pg ds [] R w
def S8 a b c d e (f:WPr) (ds:LDf) (R:RT) w:=
 qV Pg f (extract e 1) λ g=>
 opU Pg (Instr.entryStore 199 c g d) (ZD Pg ds [] R) w λ w=>
 WB w λ h w=>
 S7 a b ds R w
def S9 c d e b f g h i (a:WPr) (ds:LDf) (R:RT) w:=
 qV Pg a (extract i 1) λ j=>
 opU Pg (Instr.entryStore 198 e j g) (ZD Pg ds [] R) w λ w=>
 a w∧(
 opV Pg (Instr.mapEntry 199 b f) (ZD Pg ds [] R) w λ k w=>
 a w∧(
 S8 c d b h k a ds R w))
def Nj b c f d (a:WPr) (ds:LDf) (R:RT) w:=
 I0 167 b a λ g=>
 qN Pg a (Y0 g) λ h=>
 J0 201 h 1 a λ i=>
 I0 198 i a λ e=>
 J0 74 c 0 a λ j=>
 I0 9 j a λ k=>
 I0 167 b a λ l=>
 qN Pg a (Y0 l) λ m=>
 J0 201 m 2 a λ n=>
 I0 199 n a λ o=>
 J0 74 c 0 a λ p=>
 I0 9 p a λ q=>
 I0 3 d a λ r=>
 qV Pg a (ZA .add 3 true r (QqQ 1)) λ s=>
 I0 4 f a λ t=>
 opV Pg (Instr.mapEntry 198 e k) (ZD Pg ds [] R) w λ u w=>
 a w∧(
 S9 b d e o q s t u a ds R w)
def Ta a d b c e (ds:LDf) R w:=
 BF Pg e ds (λ l8 f w g k h=>
 Ad l8 w λ w=>
 Z4 w λ i w=>
 S6 a b c f i g h R w) (λ ch ds w=>ZD Pg ds [] R ch w) w (λ ds w=>
 Z4 w λ j w=>
 Nj a d b c j ds R w) []
def ET a b d (ds:LDf) (R:RT) w:=
 opV Pg (loadAt 167 a) (ZD Pg ds [] R) w λ e w=>
 opN Pg (Y0 e) (ZD Pg ds [] R) w λ f w=>
 opV Pg (fieldAt 201 f 4) (ZD Pg ds [] R) w λ g w=>
 opU Pg (storeAt 3 g (.int .i64 (-1))) (ZD Pg ds [] R) w λ w=>
 opV Pg (alloc 3 true (.tuple #[])) (ZD Pg ds [] R) w λ c w=>
 opU Pg (storeAt 3 c (QqQ 0)) (ZD Pg ds [] R) w λ w=>
 opV Pg (loadAt 74 b) (ZD Pg ds [] R) w λ h w=>
 ZU Pg 162 #[h] (ZD Pg ds [] R) w λ i w=>
 Ta a b d c i ds R w
def LC c d e a (V8:KV) (ds:LDf) (R:RT) w:=
 opV Pg (indexAt 72 e a) (ZD Pg ds [] R) w λ f w=>
 opV Pg (loadAt 123 f) (ZD Pg ds [] R) w λ g w=>
 opV Pg (alloc 123 true (.tuple #[])) (ZD Pg ds [] R) w λ b w=>
 opU Pg (storeAt 123 b g) (ZD Pg ds [] R) w λ w=>
 opV Pg (loadAt 167 c) (ZD Pg ds [] R) w λ h w=>
 opN Pg (Y0 h) (ZD Pg ds [] R) w λ i w=>
 opV Pg (fieldAt 201 i 4) (ZD Pg ds [] R) w λ j w=>
 opU Pg (storeAt 3 j a) (ZD Pg ds [] R) w λ w=>
 opV Pg (loadAt 167 c) (ZD Pg ds [] R) w λ k w=>
 opV Pg (loadAt 123 b) (ZD Pg ds [] R) w λ l w=>
 ZU Pg 161 #[k,l] (ZD Pg ds [] R) w λ m w=>
 S4 d b a V8 ds R w
def EU a d b e f c (V8:KV) (ds:LDf) (R:RT) w:=
 opV Pg (ZA .lss 3 false c f) (ZD Pg ds [] R) w λ g w=>
 Zr g (
 LC a b e c V8 ds R w) (
 ET a d b ds R w)
def Bt d a (ds:LDf) (R:RT) w:=
 opV Pg (alloc 4 true (.tuple #[])) (ZD Pg ds [] R) w λ b w=>
 opU Pg (storeAt 4 b (.bool true)) (ZD Pg ds [] R) w λ w=>
 opV Pg (fieldAt 74 a 1) (ZD Pg ds [] R) w λ e w=>
 opV Pg (loadAt 72 e) (ZD Pg ds [] R) w λ c w=>
 opV Pg (Builtin.len_ #[72] 3 #[c]) (ZD Pg ds [] R) w λ f w=>
 YW (λ g w V8=>
 EU d a b c f g V8 ds R w) (QqQ 0) w
def LD c a (ds:LDf) (R:RT) w:=
 opV Pg (loadAt 167 c) (ZD Pg ds [] R) w λ f w=>
 opV Pg (fieldAt 74 a 1) (ZD Pg ds [] R) w λ g w=>
 opV Pg (loadAt 72 g) (ZD Pg ds [] R) w λ h w=>
 opV Pg (Builtin.len_ #[72] 3 #[h]) (ZD Pg ds [] R) w λ i w=>
 opV Pg (ZA .geq 3 true i (QqQ 1)) (ZD Pg ds [] R) w λ d w=>
 Zp (λ (b:Vl) (w:Wd)=>
 Zx d b (.bool false) λ j=>
 ZU Pg 135 #[f,j,(QqQ 3)] (ZD Pg ds [] R) w λ n w=>
 Bt c a ds R w) λ e=>
 Zm d true (
 opV Pg (fieldAt 74 a 1) (ZD Pg ds [] R) w λ k w=>
 opV Pg (loadAt 72 k) (ZD Pg ds [] R) w λ l w=>
 opV Pg (Builtin.len_ #[72] 3 #[l]) (ZD Pg ds [] R) w λ m w=>
 opV Pg (ZA .leq 3 true m (QqQ 40)) (ZD Pg ds [] R) w λ b w=>
 e b w) (
 e undef w)
def LF b c (a:WPr) (ds:LDf) (R:RT) w:=
 I0 167 b a λ e=>
 qN Pg a (Y0 e) λ f=>
 J0 201 f 1 a λ g=>
 I0 198 g a λ h=>
 J0 74 c 0 a λ i=>
 I0 9 i a λ j=>
 qV Pg a (lookup 198 h j true) λ d=>
 qV Pg a (extract d 0) λ n=>
 qV Pg a (extract d 1) λ k=>
 opV Pg (loadAt 167 b) (ZD Pg ds [] R) w λ l w=>
 opV Pg (Op.unary .not k) (ZD Pg ds [] R) w λ m w=>
 ZU Pg 135 #[l,m,(QqQ 2)] (ZD Pg ds [] R) w λ o w=>
 LD b c ds R w
def LG b c (a:WPr) (ds:LDf) (R:RT) w:=
 I0 167 b a λ d=>
 J0 74 c 0 a λ e=>
 I0 9 e a λ f=>
 ZU Pg 35 #[f] (ZD Pg ds [] R) w λ g w=>
 a w∧(
 ZU Pg 135 #[d,g,(QqQ 1)] (ZD Pg ds [] R) w λ i w=>
 a w∧(
 Z4 w λ h w=>
 LF b c h ds R w))
def EW b c d (a:WPr) (ds:LDf) (R:RT) w:=
 qN Pg a (Y0 d) λ e=>
 J0 201 e 4 a λ f=>
 opU Pg (storeAt 3 f (.int .i64 (-1))) (ZD Pg ds [] R) w λ w=>
 WB w λ h w=>
 Z4 w λ g w=>
 LG b c g ds R w
def LH b c (a:WPr) (ds:LDf) (R:RT) w:=
 I0 167 b a λ d=>
 I0 167 b a λ e=>
 I0 74 c a λ f=>
 qN Pg a (Y0 d) λ g=>
 J0 201 g 5 a λ h=>
 opU Pg (storeAt 74 h f) (ZD Pg ds [] R) w λ w=>
 a w∧(
 EW b c e a ds R w)
def n88 a b (R:RT) w:=
 (λ (ds:LDf)=>
 opV Pg (box 167 a) (ZD Pg ds [] R) w λ c w=>
 opV Pg (box 74 b) (ZD Pg ds [] R) w λ d w=>
 Z4 w λ e w=>
 LH c d e ds R w) []
def ZlI:QqX2 136 n88:=λ h=>by
 refine yE func136 ?_
 unfold n88 at h
 dsimp only at h
 refine zs<|zr<|yv h λ h=>yv h λ h=>zn<|zk<|zs<|yh [11,12,13,14,15,16,17] h λ C hC h=>ye 0 hC h λ h=>?_
 refine ye 1 hC h λ h=>?_
 refine ye 2 hC h λ h=>?_
 refine yn 3 hC h λ h=>?_
 refine ye 4 hC h λ h=>?_
 refine yo 5 ?_
 refine yu h λ h=>zn ?_
 obtain ⟨hC,h⟩:=h
 refine ⟨hC,?_⟩
 refine yn 6 hC h λ h=>?_
 refine ye 7 hC h λ h=>?_
 refine yq 8 2 ?_
 refine yu h λ h=>zn ?_
 obtain ⟨C2,hC,h⟩:=h
 refine ⟨C2,hC,?_⟩
 refine yz<|zk<|zs<|yh [18,19,20,21,22] h λ C hC h=>ye 0 hC h λ h=>?_
 refine ye 1 hC h λ h=>?_
 refine ye 2 hC h λ h=>?_
 refine yo 3 ?_
 refine yc h c35 λ h=>zn ?_
 obtain ⟨hC,h⟩:=h
 refine ⟨hC,?_⟩
 refine yo 4 ?_
 refine yc h Uk λ h=>zn ?_
 obtain ⟨hC,h⟩:=h
 refine ⟨hC,?_⟩
 refine yz<|zk<|zs<|yh [4,5,23,24,25,26,27,28,29,30,31,32] h λ C hC h=>ye 0 hC h λ h=>?_
 refine yn 1 hC h λ h=>?_
 refine ye 2 hC h λ h=>?_
 refine ye 3 hC h λ h=>?_
 refine ye 4 hC h λ h=>?_
 refine ye 5 hC h λ h=>?_
 refine ye 6 hC h λ h=>?_
 refine yw 7 hC ?_
 refine ye 8 hC h λ h=>?_
 refine ye 9 hC h λ h=>?_
 refine yw 10 hC ?_
 refine yw 11 hC ?_
 refine yz<|zk<|zs<|zr<|yv h λ h=>zm<|yv h λ h=>yc h Uk λ h=>zn<|zk<|zs<|Zq<|yG 6<|yv h λ h=>yv h λ h=>?_
 refine yv h λ h=>yx h λ h=>yb h λ h=>zm<|zn<|yg1 4 5 true [43,44,45,46] 46 h (λ _ T hT h=>?_) λ σ w h=>?_
 · refine yv h λ h=>yv h λ h=>yx h λ h=>yb h λ h=>zn ?_
   exact zt hT h
 refine yG 2<|yp h λ h=>yc h Uk λ h=>zn<|ZG<|zk<|zs<|zr<|yv h λ h=>yu h λ h=>zn<|zk<|zs<|zs<|zr ?_
 refine yv h λ h=>yv h λ h=>yx h λ h=>zm<|zn<|zk<|Zl<|yl1 [7,8,52,53,54,55,56,57,58,59,60,61,62,63,64,65,66,67,68,69,70] 52 h λ σ w next h=>zs<|zr<|yb h λ h=>zn<|zk<|zs<|yC h (λ h=>?_) λ h=>?_
 · refine Zk<|zk<|zs<|Zl<|zs<|zr<|zm<|yv h λ h=>yv h λ h=>yv h λ h=>zm<|yu h λ h=>zn<|zk<|zs ?_
   refine zr<|yv h λ h=>zm<|yN h λ h=>yv h λ h=>yu h λ h=>zn<|zk<|zs<|zr<|yv h λ h=>yv h λ h=>yc h ZjF λ h=>zn<|zk ?_
   refine Zq<|yG 2<|yv h λ h=>zm<|zn<|yg1 3 1 true [66,67,68] 68 h (λ _ T hT h=>?_) λ σ w h=>?_
   · refine yv h λ h=>yv h λ h=>yv h λ h=>zn ?_
     exact zt hT h
   exact yG 2<|yp h λ h=>yu h λ h=>zn<|ZG<|Zf<|zk<|zr<|yb h λ h=>zm<|zn<|zk<|⟨rfl,h⟩
 refine ZN<|Ze<|Ze<|Zs<|zk<|zs<|zr<|yv h λ h=>yN h λ h=>yv h λ h=>yu h λ h=>zn<|zk<|zs<|zr ?_
 refine yv h λ h=>yu h λ h=>zn<|zk<|zs<|zs<|zr<|yv h λ h=>yc h ZfB λ h=>zn<|zk<|Zl<|Gr [] h rfl (λ l8 t76 w Kr8 Xr8 Qr8 h=>?_) (λ ds w h=>?_) (λ c ds w h=>?_) (λ ch ds w h=>X7 rfl h)
 · refine zr<|zm<|zn<|zk ?_
   obtain ⟨hr,h⟩:=h
   refine ⟨rfl,hr,λ w hb=>?_⟩
   have h:=h w hb
   refine Zl<|zs<|yh [77,78,79,80,81,82,83,84] h λ C hC h=>ye 0 hC h λ h=>?_
   refine ye 1 hC h λ h=>?_
   refine yn 2 hC h λ h=>?_
   refine ye 3 hC h λ h=>?_
   refine ye 4 hC h λ h=>?_
   refine yw 5 hC ?_
   refine ye 6 hC h λ h=>?_
   refine ye 7 hC h λ h=>?_
   refine yq 8 1 ?_
   refine yu h λ h=>zn ?_
   obtain ⟨C10,hC,h⟩:=h
   refine ⟨C10,hC,?_⟩
   refine yz<|zk<|Zq<|yG 2<|yv h λ h=>zm<|zn<|yg1 6 1 true [87,88,89,90,91,92] 92 h (λ _ T hT h=>?_) λ σ w h=>?_
   · refine yv h λ h=>yN h λ h=>yv h λ h=>yv h λ h=>zm<|yv h λ h=>zn ?_
     exact zt hT h
   exact yG 2<|yp h λ h=>yu h λ h=>zn<|ZG<|Zf<|⟨rfl,h⟩
 · refine Zf<|zk<|zs<|yh [94,95,96,97,98,99,100,101,102,103,104,105,106,107,108,109,110,111,112] h λ C hC h=>ye 0 hC h λ h=>?_
   refine yn 1 hC h λ h=>?_
   refine ye 2 hC h λ h=>?_
   refine ye 3 hC h λ h=>?_
   refine ye 4 hC h λ h=>?_
   refine ye 5 hC h λ h=>?_
   refine ye 6 hC h λ h=>?_
   refine yn 7 hC h λ h=>?_
   refine ye 8 hC h λ h=>?_
   refine ye 9 hC h λ h=>?_
   refine ye 10 hC h λ h=>?_
   refine ye 11 hC h λ h=>?_
   refine ye 12 hC h λ h=>?_
   refine ye 13 hC h λ h=>?_
   refine ye 14 hC h λ h=>?_
   refine yo 15 ?_
   refine yv h λ h=>zn ?_
   obtain ⟨hC,h⟩:=h
   refine ⟨hC,?_⟩
   refine ye 16 hC h λ h=>?_
   refine yo 17 ?_
   refine yu h λ h=>zn ?_
   obtain ⟨hC,h⟩:=h
   refine ⟨hC,?_⟩
   refine yo 18 ?_
   refine yv h λ h=>zn ?_
   obtain ⟨hC,h⟩:=h
   refine ⟨hC,?_⟩
   refine ye 19 hC h λ h=>?_
   refine yq 20 1 ?_
   refine yu h λ h=>zn ?_
   obtain ⟨C13,hC,h⟩:=h
   refine ⟨C13,hC,?_⟩
   exact yz<|zk<|zr<|yv h λ h=>yv h λ h=>yb h λ h=>yc h Uk λ h=>zn<|zQ<|X8 rfl h
 exact h.elim
def Lb b c a (Zz:KV) R w:=
 X0 170 b a R w λ d w=>
 L0 4 d R w λ e w=>
 B0 .eql 4 false c e R w λ f w=>
 Zr f (
 R (.returned a) w) (
 B0 .add 3 true a (QqQ 1) R w λ g w=>
 Zz g w)
def ZhU a c R w:=
 G0 170 3 a R w λ d w=>
 YW (λ b w Zz=>
 B0 .lss 3 false b d R w λ e w=>
 Zr e (
 Lb a c b Zz R w) (
 R (.returned (.int .i64 (-1))) w)) (QqQ 0) w
def ZhV:QqX2 137 ZhU:=λ h=>by
 refine yD func137 ?_
 refine zs<|zr<|zm<|zn<|zk<|zs<|zs<|zr<|zm<|yx h λ h=>zm<|zn<|zk<|Zl<|yl1 [4,5,8,9,10,11,12,13,14,15,16,17,18] 8 h λ σ w next h=>?_
 refine zs<|zr<|yb h λ h=>zn<|zk<|zs<|yC h (λ h=>?_) λ h=>?_
 · refine Zk<|zk<|zs<|Zl<|zs<|zr<|zm<|zm<|zn<|zk<|zs<|zr<|zm<|zm<|zm ?_
   refine yv h λ h=>yv h λ h=>yb h λ h=>zn<|zk<|yC h (λ h=>zs<|zr<|zm<|zm<|zn<|zk<|Zg<|Zh<|Zb<|Zb<|Zh<|Zb<|Zj rfl rfl h) λ h=>Zk<|Zf<|zk<|zr<|yb h λ h=>zm<|zn<|zk ?_
   exact ⟨rfl,h⟩
 exact ZN<|Ze<|Ze<|Zs<|zk<|zs<|zr<|zm<|zn<|zk<|Zg<|Zj rfl rfl h
def Zd7 a R w:=
 opV Pg (Builtin.max_ #[3,3] 3 #[a,(QqQ 0)]) (Zc R) w λ b w=>
 B0 .geq 3 true a (QqQ 0) R w λ c w=>
 R (.returned (.tuple #[b,c])) w
def n95 a b (R:RT) w:=
 C0 163 #[a,b] R w λ c w=>
 Zd7 c R w
def ZlO:QqX2 138 n95:=λ h=>by
 refine yD func138 ?_
 refine zs<|zr<|zm<|zm<|zn<|zk<|zs<|zr<|zm<|zm<|yc h ZjG λ h=>zm<|zn<|zk<|zs ?_
 exact zr<|zm<|yx h λ h=>zm<|yb h λ h=>zm<|zm<|zn<|zk<|Zg<|Yg rfl rfl rfl h
def n76 a b R w:=
 opV Pg (box 74 a) (Zc R) w λ c w=>
 F0 74 c 0 R w λ d w=>
 L0 9 d R w λ e w=>
 L0 9 b R w λ f w=>
 B0 .eql 9 false e f R w λ g w=>
 R (.returned g) w
def Zlv:QqX2 139 n76:=λ h=>by
 refine yD func139 ?_
 refine zs<|zr<|yv h λ h=>zm<|zn<|zk<|zs<|zr<|yv h λ h=>yv h λ h=>yv h λ h=>yb h λ h=>zm<|zn<|zk ?_
 exact Zg<|Zj rfl rfl h
def n73 b c R w:=
 opV Pg (box 74 b) (Zc R) w λ d w=>
 opV Pg (box 9 c) (Zc R) w λ e w=>
 F0 74 d 1 R w λ f w=>
 L0 72 f R w λ g w=>
 opV Pg (makeFunc (.func 165) #[] #[e]) (Zc R) w λ h w=>
 C0 164 #[g,h] R w λ a w=>
 E0q a 0 R w λ i w=>
 E0q a 1 R w λ j w=>
 R (.returned (.tuple #[i,j])) w
def Zls:QqX2 140 n73:=λ h=>by
 refine yD func140 ?_
 refine zs<|zr<|yv h λ h=>yv h λ h=>zm<|zm<|zn<|zk<|zs<|zr<|yv h λ h=>yv h λ h=>yF h λ h=>yc h ZjH λ h=>yv h λ h=>?_
 exact yv h λ h=>zm<|zm<|zn<|zk<|Zg<|Yg rfl rfl rfl h
def n45 a R w:=
 opV Pg (box 123 a) (Zc R) w λ b w=>
 L0 123 b R w λ c w=>
 opV Pg (buildSlice 72 1 #[(0,c)]) (Zc R) w λ d w=>
 opV Pg (build 74 #[(1,d)]) (Zc R) w λ e w=>
 C0 162 #[e] R w λ f w=>
 C0 166 #[f] R w λ g w=>
 R (.returned g) w
def Zk0:QqX1 141 n45:=λ h=>by
 refine yD func141 ?_
 refine zs<|zr<|yv h λ h=>zm<|zn<|zk<|zs<|zr<|yv h λ h=>yS h λ h=>yB h λ h=>yc h ZfB λ h=>yc h ZjJ λ h=>zm<|zn ?_
 exact zk<|Zg<|Zj rfl rfl h
def Zhx a b (R:RT) w:=
 C0 167 #[a,b] R w λ c w=>
 B0 .geq 3 true c (QqQ 0) R w λ d w=>
 R (.returned d) w
def Zhy:QqX2 142 Zhx:=λ h=>by
 refine yD func142 ?_
 refine zs<|zr<|zm<|zn<|zk<|zs<|zr<|zm<|zm<|yc h c167 λ h=>yb h λ h=>zm<|zn<|zk<|Zg ?_
 exact Zj rfl rfl h
def Zf9 a R w:=
 opN Pg (Y0 a) (Zc R) w λ b w=>
 F0 123 b 2 R w λ c w=>
 opU Pg (storeAt 3 c (QqQ 0)) (Zc R) w λ w=>
 R (.returned (.tuple #[])) w
def Zga:QqX1 233 Zf9:=λ h=>by
 refine yD func233 ?_
 exact zr<|zm<|yN h λ h=>yv h λ h=>yu h λ h=>zn<|ZJ<|ZR rfl h
def I4 d b e f (R:RT) w:=
 Zp (λ (a:Vl) (w:Wd)=>
 Zx b (.bool true) a λ g=>
 C0 135 #[d,g,(QqQ 6)] R w λ h w=>
 R (.returned (.tuple #[])) w) λ c=>
 Zm b false (
 Zx e f (.bool false) λ a=>
 c a w) (
 c undef w)
def I5 d e f b R w:=
 Zp (λ (a:Vl) (w:Wd)=>
 I4 d f b a R w) λ c=>
 Zm b true (
 F0 123 e 2 R w λ g w=>
 L0 3 g R w λ h w=>
 B0 .rem 3 true h (QqQ 8) R w λ i w=>
 B0 .eql 3 true i (QqQ 0) R w λ a w=>
 c a w) (
 c undef w)
def I6 g b c d R w:=
 Zp (λ (a:Vl) (w:Wd)=>
 Zp (λ (h:Vl) (w:Wd)=>
 I5 g b c h R w) λ e=>
 Zm c false (
 Zx d a (.bool false) λ i=>
 e i w) (
 e undef w)) λ f=>
 Zm d true (
 F0 123 b 2 R w λ j w=>
 L0 3 j R w λ k w=>
 B0 .leq 3 true k (QqQ 512) R w λ a w=>
 f a w) (
 f undef w)
def I7 d a e f R w:=
 Zx e (.bool true) f λ b=>
 Zp (λ (g:Vl) (w:Wd)=>
 I6 d a b g R w) λ c=>
 Zm b false (
 F0 123 a 2 R w λ h w=>
 L0 3 h R w λ i w=>
 B0 .geq 3 true i (QqQ 8) R w λ j w=>
 c j w) (
 c undef w)
def Zgb e f R w:=
 opV Pg (box 123 f) (Zc R) w λ a w=>
 F0 123 a 2 R w λ g w=>
 L0 3 g R w λ h w=>
 B0 .eql 3 true h (QqQ 2) R w λ c w=>
 Zp (λ (b:Vl) (w:Wd)=>
 I7 e a c b R w) λ d=>
 Zm c false (
 F0 123 a 2 R w λ i w=>
 L0 3 i R w λ j w=>
 B0 .eql 3 true j (QqQ 4) R w λ b w=>
 d b w) (
 d undef w)
def Zgc:QqX2 234 Zgb:=λ h=>by
 refine yD func234 ?_
 refine zs<|zr<|yv h λ h=>zn<|zk<|Zq<|yG 5<|zm<|yv h λ h=>yv h λ h=>yb h λ h=>zm<|zn<|yg1 3 4 false [9,10,11] 11 h (λ _ T hT h=>?_) λ σ w h=>?_
 · refine yv h λ h=>yv h λ h=>yb h λ h=>zn ?_
   exact zt hT h
 refine yG 2<|yp h λ h=>zm<|zn<|yg1 4 9 false [14,15,16,17] 17 h (λ _ T hT h=>?_) λ σ w h=>?_
 · refine yv h λ h=>yv h λ h=>yb h λ h=>zm<|zn ?_
   exact zt hT h
 refine yg1 3 13 true [18,19,20] 20 h (λ _ T hT h=>?_) λ σ w h=>?_
 · refine yv h λ h=>yv h λ h=>yb h λ h=>zn ?_
   exact zt hT h
 refine yg1 2 9 false [21,22] 22 h (λ _ T hT h=>?_) λ σ w h=>?_
 · refine yp h λ h=>zm<|zn ?_
   exact zt hT h
 refine yg1 4 18 true [23,24,25,26] 26 h (λ _ T hT h=>?_) λ σ w h=>?_
 · refine yv h λ h=>yv h λ h=>yb h λ h=>yb h λ h=>zn ?_
   exact zt hT h
 refine yg1 1 9 false [27] 27 h (λ _ T hT h=>?_) λ σ w h=>?_
 · refine yp h λ h=>zn ?_
   exact zt hT h
 exact yG 2<|yp h λ h=>yc h Uk λ h=>zn<|ZG<|ZJ<|ZR rfl h
def Zgd a R w:=
 opN Pg (Y0 a) (Zc R) w λ b w=>
 F0 123 b 10 R w λ c w=>
 opU Pg (storeAt 9 c (.string { data := #[] })) (Zc R) w λ w=>
 opN Pg (Y0 a) (Zc R) w λ d w=>
 F0 123 d 12 R w λ e w=>
 opU Pg (storeAt 3 e (QqQ 0)) (Zc R) w λ w=>
 R (.returned (.tuple #[])) w
def Zge:QqX1 235 Zgd:=λ h=>by
 refine yD func235 ?_
 exact zr<|zm<|zm<|yN h λ h=>yv h λ h=>yu h λ h=>yN h λ h=>yv h λ h=>yu h λ h=>zn<|ZJ<|ZR rfl h
def EF c a (b:WPr) (R:RT) w:=
 qV Pg b (extract a 0) λ e=>
 qV Pg b (extract a 1) λ d=>
 C0 135 #[c,d,(QqQ 8)] R w λ f w=>
 R (.returned (.tuple #[])) w
def EG b c (a:WPr) (R:RT) w:=
 J0 123 c 10 a λ d=>
 I0 9 d a λ e=>
 C0 195 #[b] R w λ f w=>
 a w∧(
 qV Pg a (build 74 #[(1,f)]) λ g=>
 C0 140 #[g,e] R w λ h w=>
 a w∧(
 EF b h a R w))
def Zgh a c R w:=
 opV Pg (box 123 c) (Zc R) w λ b w=>
 F0 123 b 12 R w λ d w=>
 L0 3 d R w λ e w=>
 opV Pg (buildSlice 61 1 #[(0,e)]) (Zc R) w λ f w=>
 C0 215 #[a,(QqQ 1),(QqQ 3),f] R w λ h w=>
 Z4 w λ g w=>
 EG a b g R w
def Zgi:QqX2 236 Zgh:=λ h=>by
 refine yD func236 ?_
 refine zs<|zr<|yv h λ h=>zn<|zk<|zs<|zr<|zm<|yv h λ h=>yv h λ h=>yS h λ h=>yc h D6 λ h=>zn<|zk<|zs ?_
 refine yh [4,5,11,12,13,14,15,16,17,18,19] h λ C hC h=>yw 0 hC ?_
 refine ye 3 hC h λ h=>?_
 refine ye 4 hC h λ h=>?_
 refine yo 1 ?_
 refine yc h NQ λ h=>zn ?_
 obtain ⟨hC,h⟩:=h
 refine ⟨hC,?_⟩
 refine ye 2 hC h λ h=>?_
 refine yo 5 ?_
 refine yc h Zek λ h=>zn ?_
 obtain ⟨hC,h⟩:=h
 refine ⟨hC,?_⟩
 refine yw 6 hC ?_
 refine ye 7 hC h λ h=>?_
 refine ye 8 hC h λ h=>?_
 refine yw 9 hC ?_
 refine yw 10 hC ?_
 exact yz<|zk<|zr<|zm<|zm<|yc h Uk λ h=>zn<|ZJ<|ZR rfl h
def Zgj a R w:=
 opV Pg (build 120 #[]) (Zc R) w λ b w=>
 opN Pg (Y0 a) (Zc R) w λ c w=>
 F0 123 c 8 R w λ d w=>
 opU Pg (storeAt 9 d (.string { data := #[] })) (Zc R) w λ w=>
 opN Pg (Y0 a) (Zc R) w λ e w=>
 F0 123 e 7 R w λ f w=>
 S0 120 f b R w λ w=>
 opN Pg (Y0 a) (Zc R) w λ g w=>
 F0 123 g 13 R w λ h w=>
 opU Pg (storeAt 3 h (QqQ 0)) (Zc R) w λ w=>
 R (.returned (.tuple #[])) w
def Zgk:QqX1 237 Zgj:=λ h=>by
 refine yD func237 ?_
 refine zr<|zm<|zm<|zm<|yB h λ h=>yN h λ h=>yv h λ h=>yu h λ h=>yN h λ h=>yv h λ h=>yu h λ h=>yN h λ h=>yv h λ h=>yu h λ h=>zn ?_
 exact ZJ<|ZR rfl h
def Re b c (a:WPr) (R:RT) w:=
 qN Pg a (Y0 b) λ d=>
 J0 201 d 2 a λ e=>
 I0 199 e a λ f=>
 J0 123 c 8 a λ g=>
 I0 9 g a λ h=>
 qV Pg a (lookup 199 f h false) λ i=>
 C0 135 #[b,i,(QqQ 8)] R w λ k w=>
 a w∧(
 L0 123 c R w λ j w=>
 C0 221 #[b,j] R w λ l w=>
 R (.returned (.tuple #[])) w)
def Zgl a c R w:=
 opV Pg (box 123 c) (Zc R) w λ b w=>
 F0 123 b 13 R w λ d w=>
 L0 3 d R w λ e w=>
 opV Pg (buildSlice 61 1 #[(0,e)]) (Zc R) w λ f w=>
 C0 215 #[a,(QqQ 0),(QqQ 4294967295),f] R w λ h w=>
 Z4 w λ g w=>
 Re a b g R w
def Zgm:QqX2 238 Zgl:=λ h=>by
 refine yD func238 ?_
 refine zs<|zr<|yv h λ h=>zn<|zk<|zs<|zr<|zm<|yv h λ h=>yv h λ h=>yS h λ h=>yc h D6 λ h=>zn<|zk<|zs ?_
 refine yh [9,10,11,12,13,14,15,16,17] h λ C hC h=>yw 0 hC ?_
 refine yw 1 hC ?_
 refine yn 2 hC h λ h=>?_
 refine ye 3 hC h λ h=>?_
 refine ye 4 hC h λ h=>?_
 refine ye 5 hC h λ h=>?_
 refine ye 6 hC h λ h=>?_
 refine ye 7 hC h λ h=>?_
 refine yo 8 ?_
 refine yc h Uk λ h=>zn ?_
 obtain ⟨hC,h⟩:=h
 refine ⟨hC,?_⟩
 exact yz<|zk<|zr<|zm<|yv h λ h=>yc h Zel λ h=>zn<|ZJ<|ZR rfl h
def ZgB c R w:=
 opV Pg (box 123 c) (Zc R) w λ a w=>
 opV Pg (alloc 287 true (.tuple #[])) (Zc R) w λ b w=>
 F0 123 a 0 R w λ d w=>
 L0 9 d R w λ e w=>
 F0 123 a 8 R w λ f w=>
 L0 9 f R w λ g w=>
 F0 123 a 9 R w λ h w=>
 L0 9 h R w λ i w=>
 F0 123 a 10 R w λ j w=>
 L0 9 j R w λ k w=>
 F0 123 a 1 R w λ l w=>
 L0 117 l R w λ m w=>
 F0 123 a 2 R w λ n w=>
 L0 3 n R w λ o w=>
 F0 123 a 5 R w λ p w=>
 L0 3 p R w λ q w=>
 F0 123 a 6 R w λ r w=>
 L0 3 r R w λ s w=>
 F0 123 a 7 R w λ t w=>
 F0 120 t 0 R w λ u w=>
 L0 3 u R w λ v w=>
 F0 123 a 12 R w λ x w=>
 L0 3 x R w λ y w=>
 F0 123 a 13 R w λ z w=>
 L0 3 z R w λ A w=>
 F0 123 a 3 R w λ B w=>
 L0 4 B R w λ C w=>
 F0 123 a 4 R w λ D w=>
 L0 4 D R w λ E w=>
 opV Pg (build 287 #[(0,e),(1,g),(2,i),(3,k),(4,m),(5,o),(6,q),(7,s),(8,v),(9,y),(10,A),(11,C),(12,E)]) (Zc R) w λ G w=>
 S0 287 b G R w λ w=>
 qW Pg 287 b w λ r0=>
 R (.returned r0) w
def ZgC:QqX1 239 ZgB:=λ h=>by
 refine yD func239 ?_
 refine zs<|zr<|yv h λ h=>yv h λ h=>zn<|zk<|zs<|zr<|yv h λ h=>yv h λ h=>yv h λ h=>yv h λ h=>yv h λ h=>yv h λ h=>yv h λ h=>?_
 refine yv h λ h=>yv h λ h=>yv h λ h=>yv h λ h=>yv h λ h=>yv h λ h=>yv h λ h=>yv h λ h=>yv h λ h=>yv h λ h=>yv h λ h=>yv h λ h=>yv h λ h=>yv h λ h=>yv h λ h=>?_
 exact yv h λ h=>yv h λ h=>yv h λ h=>yv h λ h=>yv h λ h=>yB h λ h=>yu h λ h=>zn<|zk<|Zg<|Gb rfl rfl h
def Jt c d b (a:WPr) (Zz:KV) (R:RT) w:=
 M0 118 c b a λ e=>
 I0 128 e a λ f=>
 M0 118 d b a λ g=>
 I0 128 g a λ h=>
 qV Pg a (ZA .neq 128 false f h) λ i=>
 Zr i (
 R (.returned (.bool false)) w) (
 B0 .add 3 true b (QqQ 1) R w λ j w=>
 Zz j w)
def Ju a c R w:=
 G0 118 3 a R w λ d w=>
 YW (λ b w Zz=>
 B0 .lss 3 false b d R w λ e w=>
 Zr e (
 Z4 w λ f w=>
 Jt a c b f Zz R w) (
 R (.returned (.bool true)) w)) (QqQ 0) w
def ZhB a b R w:=
 G0 118 3 a R w λ c w=>
 G0 118 3 b R w λ d w=>
 B0 .neq 3 false c d R w λ e w=>
 Zr e (
 R (.returned (.bool false)) w) (
 Ju a b R w)
def ZhC:QqX2 240 ZhB:=λ h=>by
 refine yD func240 ?_
 refine zs<|zr<|zm<|zn<|zk<|zs<|zs<|zr<|zm<|yx h λ h=>zm<|yx h λ h=>yb h λ h=>zn<|zk ?_
 refine yC h (λ h=>zs<|zr<|zm<|zn<|zk<|Zg<|Zb<|Zj rfl rfl h) λ h=>Zk<|zk<|zs<|zs<|zr<|zm<|yx h λ h=>zm<|zn<|zk<|Zl<|yl1 [4,5,13,14,15,16,17,18,19,20,21,22,23,24,25] 13 h λ σ w next h=>zs ?_
 refine zr<|yb h λ h=>zn<|zk<|zs<|yC h (λ h=>?_) λ h=>?_
 · refine Zk<|zk<|zs<|Zl<|zs<|zr<|zm<|zm<|zn<|zk<|zs<|yh [16,17,18,19,20,21,22,23,24] h λ C hC h=>yw 0 hC ?_
   refine yw 1 hC ?_
   refine ye 2 hC h λ h=>?_
   refine ye 3 hC h λ h=>?_
   refine yw 4 hC ?_
   refine yw 5 hC ?_
   refine ye 6 hC h λ h=>?_
   refine ye 7 hC h λ h=>?_
   refine ye 8 hC h λ h=>?_
   exact yz<|zk<|yC h (λ h=>zs<|zr<|zm<|zn<|zk<|Zg<|Zh<|Zb<|Zb<|Zh<|Zb<|Zj rfl rfl h) λ h=>Zk<|Zf<|zk<|zr<|yb h λ h=>zm<|zn<|zk<|⟨rfl,h⟩
 exact ZN<|Ze<|Ze<|Zs<|zk<|zs<|zr<|zm<|zn<|zk<|Zg<|Zj rfl rfl h
def Jr c d b (a:WPr) (Zz:KV) (R:RT) w:=
 M0 121 c b a λ e=>
 I0 213 e a λ f=>
 M0 121 d b a λ g=>
 I0 213 g a λ h=>
 qV Pg a (ZA .neq 213 false f h) λ i=>
 Zr i (
 R (.returned (.bool false)) w) (
 B0 .add 3 true b (QqQ 1) R w λ j w=>
 Zz j w)
def Js a c R w:=
 G0 121 3 a R w λ d w=>
 YW (λ b w Zz=>
 B0 .lss 3 false b d R w λ e w=>
 Zr e (
 Z4 w λ f w=>
 Jr a c b f Zz R w) (
 R (.returned (.bool true)) w)) (QqQ 0) w
def Zhz a b R w:=
 G0 121 3 a R w λ c w=>
 G0 121 3 b R w λ d w=>
 B0 .neq 3 false c d R w λ e w=>
 Zr e (
 R (.returned (.bool false)) w) (
 Js a b R w)
def ZhA:QqX2 241 Zhz:=λ h=>by
 refine yD func241 ?_
 refine zs<|zr<|zm<|zn<|zk<|zs<|zs<|zr<|zm<|yx h λ h=>zm<|yx h λ h=>yb h λ h=>zn<|zk ?_
 refine yC h (λ h=>zs<|zr<|zm<|zn<|zk<|Zg<|Zb<|Zj rfl rfl h) λ h=>Zk<|zk<|zs<|zs<|zr<|zm<|yx h λ h=>zm<|zn<|zk<|Zl<|yl1 [4,5,13,14,15,16,17,18,19,20,21,22,23,24,25] 13 h λ σ w next h=>zs ?_
 refine zr<|yb h λ h=>zn<|zk<|zs<|yC h (λ h=>?_) λ h=>?_
 · refine Zk<|zk<|zs<|Zl<|zs<|zr<|zm<|zm<|zn<|zk<|zs<|yh [16,17,18,19,20,21,22,23,24] h λ C hC h=>yw 0 hC ?_
   refine yw 1 hC ?_
   refine ye 2 hC h λ h=>?_
   refine ye 3 hC h λ h=>?_
   refine yw 4 hC ?_
   refine yw 5 hC ?_
   refine ye 6 hC h λ h=>?_
   refine ye 7 hC h λ h=>?_
   refine ye 8 hC h λ h=>?_
   exact yz<|zk<|yC h (λ h=>zs<|zr<|zm<|zn<|zk<|Zg<|Zh<|Zb<|Zb<|Zh<|Zb<|Zj rfl rfl h) λ h=>Zk<|Zf<|zk<|zr<|yb h λ h=>zm<|zn<|zk<|⟨rfl,h⟩
 exact ZN<|Ze<|Ze<|Zs<|zk<|zs<|zr<|zm<|zn<|zk<|Zg<|Zj rfl rfl h
def ZcR a R w:=
 opV Pg (Op.unary .neg a) (Zc R) w λ b w=>
 B0 .and 191 false a b R w λ c w=>
 opV Pg (ZA .mul 191 true c (.int .u64 285870213051353865)) (Zc R) w λ d w=>
 opV Pg (ZA .shr 191 true d (.int .u64 58)) (Zc R) w λ e w=>
 opV Pg (indexAt 306 (Qq5 7) e) (Zc R) w λ f w=>
 L0 5 f R w λ g w=>
 opV Pg (Go.convert 5 3 g) (Zc R) w λ h w=>
 R (.returned h) w
def n50 a R w:=
 opV Pg (ZA .eql 191 true a (.int .u64 0)) (Zc R) w λ b w=>
 Zr b (
 R (.returned (QqQ 64)) w) (
 ZcR a R w)
def Zk5:QqX1 245 n50:=λ h=>by
 refine yD func245 ?_
 refine zs<|zr<|zm<|zn<|zk<|zs<|zs<|zr<|zm<|yb h λ h=>zn<|zk<|yC h (λ h=>zs<|zr<|zm<|zn<|zk<|Zg<|Zb<|Zj rfl rfl h) λ h=>Zk ?_
 refine zk<|zs<|zr<|zm<|zm<|yv h λ h=>yb h λ h=>yb h λ h=>yb h λ h=>yv h λ h=>yv h λ h=>yv h λ h=>zm<|zn<|zk ?_
 exact Zg<|Zj rfl rfl h
def xG e f c (a:WPr) (R:RT) w:=
 Zp (λ (b:Vl) (w:Wd)=>
 Zx c b (.bool false) λ g=>
 R (.returned g) w) λ d=>
 Zm c true (
 J0 120 e 1 a λ h=>
 I0 118 h a λ i=>
 C0 254 #[i,f] R w λ j w=>
 a w∧(
 qV Pg a (Op.unary .not j) λ b=>
 d b w)) (
 d undef w)
def xH b c d e (a:WPr) R w:=
 a w∧(
 opV Pg (buildSlice 170 2 #[(0,d),(1,e)]) (Zc R) w λ f w=>
 a w∧(
 C0 74 #[f] R w λ g w=>
 a w∧(
 xG b c g a R w)))
def xI b c (a:WPr) (R:RT) w:=
 J0 120 b 0 a λ d=>
 I0 3 d a λ e=>
 J0 120 b 1 a λ f=>
 I0 118 f a λ g=>
 qV Pg a (Builtin.len_ #[118] 3 #[g]) λ h=>
 qV Pg a (ZA .leq 3 true h (QqQ 4)) λ i=>
 C0 253 #[e] R w λ j w=>
 xH b c j i a R w
def ZgX b R w:=
 opV Pg (box 120 b) (Zc R) w λ c w=>
 opV Pg (Instr.makeMap 199 none) (Zc R) w λ d w=>
 opV Pg (alloc 199 true (.tuple #[])) (Zc R) w λ a w=>
 S0 199 a d R w λ w=>
 opV Pg (makeFunc (.func 252) #[] #[a]) (Zc R) w λ e w=>
 Z4 w λ f w=>
 xI c e f R w
def ZgY:QqX1 246 ZgX:=λ h=>by
 refine yD func246 ?_
 refine zs<|zr<|yv h λ h=>zm<|zn<|zk<|zs<|zr<|yv h λ h=>yv h λ h=>yu h λ h=>zn<|zk<|zs<|zr ?_
 refine yF h λ h=>zm<|zn<|zk<|zs<|yh [2,7,8,9,10,11,12,13,14,15,16,17,18,19,20,21,22] h λ C hC h=>ye 0 hC h λ h=>?_
 refine ye 1 hC h λ h=>?_
 refine ye 3 hC h λ h=>?_
 refine ye 4 hC h λ h=>?_
 refine ye 5 hC h λ h=>?_
 refine ye 6 hC h λ h=>?_
 refine yo 2 ?_
 refine yc h ZfI λ h=>zn ?_
 obtain ⟨hC,h⟩:=h
 refine ⟨hC,?_⟩
 refine yo 7 ?_
 refine yS h λ h=>zn ?_
 obtain ⟨hC,h⟩:=h
 refine ⟨hC,?_⟩
 refine yo 8 ?_
 refine yc h c74 λ h=>zn ?_
 obtain ⟨hC,h⟩:=h
 refine ⟨hC,?_⟩
 refine yw 9 hC ?_
 refine yj1 2 [14,13,12,11,10,9,8,7,2,6,5,4,3,1,0] [17,18,19,20,21] 21 h (λ _ hT hb h=>?_) (λ _ hT hb h=>?_) λ σ w hC h=>?_
 · refine ye 10 hC h λ h=>?_
   refine ye 11 hC h λ h=>?_
   refine yw 12 hC ?_
   refine yo 13 ?_
   refine yc h Zkj λ h=>zn ?_
   obtain ⟨hC,h⟩:=h
   refine ⟨hC,?_⟩
   refine ye 14 hC h λ h=>?_
   exact yt hT hC h
 · refine yi 10 hC ?_
   refine yi 11 hC ?_
   refine yi 12 hC ?_
   refine yi 13 hC ?_
   refine yi 14 hC ?_
   exact yt hT hC h
 refine yP 15 hC h λ _ h=>?_
 refine yw 16 hC ?_
 exact yz<|zk<|Zg<|Zj rfl rfl h
end Go.Proofs.YtgalpdihjbinjaaGreatDoor
