/-
  Lemmas for the claim.
-/
import Derived.Test.YtgalpdihjbinjaaGreatDoorXb1
set_option linter.all false
set_option maxHeartbeats 4000000
set_option maxRecDepth 100000
open Go.Instr (loadAt storeAt fieldAt indexAt buildSlice mapUpdate makeFunc alloc build box extract fill sliceAt lookup makeInterface)
open Go.Proofs.Tryz
namespace Go.Proofs.YtgalpdihjbinjaaGreatDoor
open Sw
noncomputable abbrev Pg:=Tryz.prog
def L0 (T:TypeId) (a:Vl) (R:RT) (w:Wd) (k:KV):Prop:=opV Pg (loadAt T a) (Zd R) w k
theorem ZeU (T:TypeId) (a:Vl) (R:RT) (w:Wd) (k:KV):L0 T a R w k=opV Pg (loadAt T a) (Zd R) w k:=rfl
def F0 (T:TypeId) (a:Vl) (i:Nat) (R:RT) (w:Wd) (k:KV):Prop:=opV Pg (fieldAt T a i) (Zd R) w k
theorem ZeO (T:TypeId) (a:Vl) (i:Nat) (R:RT) (w:Wd) (k:KV):F0 T a i R w k=opV Pg (fieldAt T a i) (Zd R) w k:=rfl
def X0 (T:TypeId) (a i:Vl) (R:RT) (w:Wd) (k:KV):Prop:=opV Pg (indexAt T a i) (Zd R) w k
theorem ZeY (T:TypeId) (a i:Vl) (R:RT) (w:Wd) (k:KV):X0 T a i R w k=opV Pg (indexAt T a i) (Zd R) w k:=rfl
def B0 (o:BinOp) (T:TypeId) (c:Bool) (a b:Vl) (R:RT) (w:Wd) (k:KV):Prop:=opV Pg (ZF o T c a b) (Zd R) w k
theorem ZeL (o:BinOp) (T:TypeId) (c:Bool) (a b:Vl) (R:RT) (w:Wd) (k:KV):B0 o T c a b R w k=opV Pg (ZF o T c a b) (Zd R) w k:=rfl
def C0 (f:FuncId) (a:AVl) (R:RT) (w:Wd) (k:KV):Prop:=ZV Pg f a (Zd R) w k
theorem ZeM (f:FuncId) (a:AVl) (R:RT) (w:Wd) (k:KV):C0 f a R w k=ZV Pg f a (Zd R) w k:=rfl
def G0 (T U:TypeId) (a:Vl) (R:RT) (w:Wd) (k:KV):Prop:=opV Pg (Builtin.len_ #[T] U #[a]) (Zd R) w k
theorem ZeR (T U:TypeId) (a:Vl) (R:RT) (w:Wd) (k:KV):G0 T U a R w k=opV Pg (Builtin.len_ #[T] U #[a]) (Zd R) w k:=rfl
def E0q (a:Vl) (i:Nat) (R:RT) (w:Wd) (k:KV):Prop:=opV Pg (extract a i) (Zd R) w k
theorem ZdD (a:Vl) (i:Nat) (R:RT) (w:Wd) (k:KV):E0q a i R w k=opV Pg (extract a i) (Zd R) w k:=rfl
def N0 (a:Vl) (R:RT) (w:Wd) (k:KV):Prop:=opV Pg (Op.unary .not a) (Zd R) w k
theorem ZeW (a:Vl) (R:RT) (w:Wd) (k:KV):N0 a R w k=opV Pg (Op.unary .not a) (Zd R) w k:=rfl
def S0 (T:TypeId) (a b:Vl) (R:RT) (w:Wd) (k:WPr):Prop:=opU Pg (storeAt T a b) (Zd R) w k
theorem ZeX (T:TypeId) (a b:Vl) (R:RT) (w:Wd) (k:WPr):S0 T a b R w k=opU Pg (storeAt T a b) (Zd R) w k:=rfl
def I0 (T:TypeId) (a:Vl) (C:WPr) (k:Vl→Prop):Prop:=qV Pg C (loadAt T a) k
theorem ZeS (T:TypeId) (a:Vl) (C:WPr) (k:Vl→Prop):I0 T a C k=qV Pg C (loadAt T a) k:=rfl
def J0 (T:TypeId) (a:Vl) (i:Nat) (C:WPr) (k:Vl→Prop):Prop:=qV Pg C (fieldAt T a i) k
theorem ZeT (T:TypeId) (a:Vl) (i:Nat) (C:WPr) (k:Vl→Prop):J0 T a i C k=qV Pg C (fieldAt T a i) k:=rfl
def M0 (T:TypeId) (a i:Vl) (C:WPr) (k:Vl→Prop):Prop:=qV Pg C (indexAt T a i) k
theorem ZeV (T:TypeId) (a i:Vl) (C:WPr) (k:Vl→Prop):M0 T a i C k=qV Pg C (indexAt T a i) k:=rfl
abbrev OQ0 (ds:LDf) (T:TypeId) (a:Vl) (R:RT):List PanicEntry→Wd→Prop:=ZB Pg ds [(some T,a)] R
def ZdY (d:TypeDesc):Bool:=match d with | .struct _ | .array _ _=>true | _=>false
theorem YF {P:Program} {T:TypeId} {agg:Bool} {n:Nat} {z:Vl} {d:TypeDesc} (h:(P.info? T).map (λ i=>(i.size,i.zero))=some (n,some z)) (hu:P.underlying T=some d) (ha:ZdY d=agg):ZD P T agg n (P.bytesOf T) z:=by
 obtain ⟨i,hi,he⟩:=Option.map_eq_some_iff.1 h
 simp only [Prod.mk.injEq] at he
 exact ⟨⟨i,hi,he.1,by simp [Program.bytesOf,hi],he.2⟩,d,hu,ha⟩
theorem ty3:ZD Pg 3 false 1 (Pg.bytesOf 3) (.int .i64 0):=YF (by kernel_rfl) underlying3 rfl
theorem ty4:ZD Pg 4 false 1 (Pg.bytesOf 4) (.bool false):=YF (by kernel_rfl) underlying4 rfl
theorem ty5:ZD Pg 5 false 1 (Pg.bytesOf 5) (.int .u8 0):=YF (by kernel_rfl) underlying5 rfl
theorem by5:Pg.bytesOf 5≤4096:=Nat.le_of_ble_eq_true (by kernel_rfl)
theorem ty9:ZD Pg 9 false 1 (Pg.bytesOf 9) (.string ByteArray.empty):=YF (by kernel_rfl) underlying9 rfl
theorem by9:Pg.bytesOf 9≤4096:=Nat.le_of_ble_eq_true (by kernel_rfl)
theorem Il:ZD Pg 22 false 1 (Pg.bytesOf 22) (.slice none 0 0):=YF (by kernel_rfl) underlying22 rfl
theorem CE:ZD Pg 24 true 2 (Pg.bytesOf 24) (.agg #[.string ByteArray.empty,.slice none 0 0]):=YF (by kernel_rfl) underlying24 rfl
theorem ZeC:ZD Pg 25 false 1 (Pg.bytesOf 25) (.slice none 0 0):=YF (by kernel_rfl) underlying25 rfl
theorem CF:ZD Pg 27 true 3 (Pg.bytesOf 27) (.agg #[.string ByteArray.empty,.slice none 0 0,.string ByteArray.empty]):=YF (by kernel_rfl) underlying27 rfl
theorem OG:ZD Pg 32 false 1 (Pg.bytesOf 32) (.int .i64 0):=YF (by kernel_rfl) underlying32 rfl
theorem Mn:ZD Pg 34 true 3 (Pg.bytesOf 34) (.agg #[.int .i64 0,.int .i64 0,.int .i64 0]):=YF (by kernel_rfl) underlying34 rfl
theorem Io:ZD Pg 39 false 1 (Pg.bytesOf 39) (.int .i64 0):=YF (by kernel_rfl) underlying39 rfl
theorem CG:ZD Pg 40 false 1 (Pg.bytesOf 40) (.slice none 0 0):=YF (by kernel_rfl) underlying40 rfl
theorem Mo:ZD Pg 41 false 1 (Pg.bytesOf 41) (.slice none 0 0):=YF (by kernel_rfl) underlying41 rfl
theorem Ud:ZD Pg 43 true 7 (Pg.bytesOf 43) (.agg #[.string ByteArray.empty,.int .i64 0,.string ByteArray.empty,.int .i64 0,.int .i64 0,.slice none 0 0,.slice none 0 0]):=YF (by kernel_rfl) underlying43 rfl
theorem Ze0:Pg.bytesOf 43≤4096:=Nat.le_of_ble_eq_true (by kernel_rfl)
theorem ZeD:ZD Pg 49 false 1 (Pg.bytesOf 49) (.int .i64 0):=YF (by kernel_rfl) underlying49 rfl
theorem Mp:ZD Pg 58 false 1 (Pg.bytesOf 58) (.slice none 0 0):=YF (by kernel_rfl) underlying58 rfl
theorem B6:ZD Pg 60 true 3 (Pg.bytesOf 60) (.agg #[.string ByteArray.empty,.string ByteArray.empty,.slice none 0 0]):=YF (by kernel_rfl) underlying60 rfl
theorem Ziz:Pg.bytesOf 60≤4096:=Nat.le_of_ble_eq_true (by kernel_rfl)
theorem OH:ZD Pg 72 false 1 (Pg.bytesOf 72) (.slice none 0 0):=YF (by kernel_rfl) underlying72 rfl
theorem qn:ZD Pg 74 true 2 (Pg.bytesOf 74) (.agg #[.string ByteArray.empty,.slice none 0 0]):=YF (by kernel_rfl) underlying74 rfl
theorem Ft:ZD Pg 78 true 3 (Pg.bytesOf 78) (.agg #[.int .i64 0,.int .i64 0,.int .i64 0]):=YF (by kernel_rfl) underlying78 rfl
theorem ZiA:Pg.bytesOf 78≤4096:=Nat.le_of_ble_eq_true (by kernel_rfl)
theorem Znc:ZD Pg 81 true 10 (Pg.bytesOf 81) (.agg #[.string ByteArray.empty,.slice none 0 0,.string ByteArray.empty,.slice none 0 0,.string ByteArray.empty,.string ByteArray.empty,.slice none 0 0,.string ByteArray.empty,.int .i64 0,.int .i64 0]):=YF (by kernel_rfl) underlying81 rfl
theorem Znd:ZD Pg 82 true 3 (Pg.bytesOf 82) (.agg #[.int .i64 0,.int .i64 0,.int .i64 0]):=YF (by kernel_rfl) underlying82 rfl
theorem ZeE:ZD Pg 88 false 1 (Pg.bytesOf 88) (.nilFunc):=YF (by kernel_rfl) underlying88 rfl
theorem Zbr:ZD Pg 94 false 1 (Pg.bytesOf 94) (.slice none 0 0):=YF (by kernel_rfl) underlying94 rfl
theorem U7:ZD Pg 105 true 5 (Pg.bytesOf 105) (.agg #[.bool false,.bool false,.bool false,.bool false,.bool false]):=YF (by kernel_rfl) underlying105 rfl
theorem GN:ZD Pg 117 false 1 (Pg.bytesOf 117) (.int .i64 0):=YF (by kernel_rfl) underlying117 rfl
theorem B4:ZD Pg 118 false 1 (Pg.bytesOf 118) (.slice none 0 0):=YF (by kernel_rfl) underlying118 rfl
theorem GO:ZD Pg 120 true 2 (Pg.bytesOf 120) (.agg #[.int .i64 0,.slice none 0 0]):=YF (by kernel_rfl) underlying120 rfl
theorem jj:ZD Pg 121 false 1 (Pg.bytesOf 121) (.slice none 0 0):=YF (by kernel_rfl) underlying121 rfl
theorem Ve:ZD Pg 123 true 15 (Pg.bytesOf 123) (.agg #[.string ByteArray.empty,.int .i64 0,.int .i64 0,.bool false,.bool false,.int .i64 0,.int .i64 0,.int .i64 0,.slice none 0 0,.string ByteArray.empty,.string ByteArray.empty,.string ByteArray.empty,.slice none 0 0,.int .i64 0,.int .i64 0]):=YF (by kernel_rfl) underlying123 rfl
theorem GP:ZD Pg 128 true 2 (Pg.bytesOf 128) (.agg #[.string ByteArray.empty,.int .i64 0]):=YF (by kernel_rfl) underlying128 rfl
theorem ZeZ:Pg.bytesOf 128≤4096:=Nat.le_of_ble_eq_true (by kernel_rfl)
theorem ZdB:ZD Pg 129 false 1 (Pg.bytesOf 129) (.int .i64 0):=YF (by kernel_rfl) underlying129 rfl
theorem DO:ZD Pg 131 true 3 (Pg.bytesOf 131) (.agg #[.int .i64 0,.int .i64 0,.int .i64 0]):=YF (by kernel_rfl) underlying131 rfl
theorem Zik:ZD Pg 159 true 2 (Pg.bytesOf 159) (.agg #[.pointer none,.slice none 0 0]):=YF (by kernel_rfl) underlying159 rfl
theorem TL:ZD Pg 167 false 1 (Pg.bytesOf 167) (.pointer none):=YF (by kernel_rfl) underlying167 rfl
theorem Ij:ZD Pg 198 false 1 (Pg.bytesOf 198) (.map none):=YF (by kernel_rfl) underlying198 rfl
theorem B5:ZD Pg 199 false 1 (Pg.bytesOf 199) (.map none):=YF (by kernel_rfl) underlying199 rfl
theorem Zil:ZD Pg 201 true 9 (Pg.bytesOf 201) (.agg #[.string ByteArray.empty,.slice none 0 0,.string ByteArray.empty,.map none,.map none,.int .i64 0,.int .i64 0,.string ByteArray.empty,.slice none 0 0]):=YF (by kernel_rfl) underlying201 rfl
theorem Ik:ZD Pg 213 true 3 (Pg.bytesOf 213) (.agg #[.int .i64 0,.int .i64 0,.string ByteArray.empty]):=YF (by kernel_rfl) underlying213 rfl
theorem TM:ZD Pg 252 false 1 (Pg.bytesOf 252) (.nilFunc):=YF (by kernel_rfl) underlying252 rfl
theorem TN:ZD Pg 253 false 1 (Pg.bytesOf 253) (.nilFunc):=YF (by kernel_rfl) underlying253 rfl
theorem Im:ZD Pg 255 true 2 (Pg.bytesOf 255) (.agg #[.nilFunc,.nilFunc]):=YF (by kernel_rfl) underlying255 rfl
theorem Nh:ZD Pg 266 true 3 (Pg.bytesOf 266) (.agg #[.string ByteArray.empty,.int .i64 0,.int .i64 0]):=YF (by kernel_rfl) underlying266 rfl
theorem Ni:ZD Pg 287 true 13 (Pg.bytesOf 287) (.agg #[.string ByteArray.empty,.string ByteArray.empty,.string ByteArray.empty,.string ByteArray.empty,.int .i64 0,.int .i64 0,.int .i64 0,.int .i64 0,.int .i64 0,.int .i64 0,.int .i64 0,.bool false,.bool false]):=YF (by kernel_rfl) underlying287 rfl
theorem TO:ZD Pg 296 false 1 (Pg.bytesOf 296) (.map none):=YF (by kernel_rfl) underlying296 rfl
theorem Uu:ZD Pg 300 true 2 (Pg.bytesOf 300) (.agg #[.int .i64 0,.int .i64 0]):=YF (by kernel_rfl) underlying300 rfl
theorem Zim:ZD Pg 311 false 1 (Pg.bytesOf 311) (.nilFunc):=YF (by kernel_rfl) underlying311 rfl
theorem ZjJ {w:Wd} (a0 b0:Int) (a1 b1:Int) (a2 b2:Int):(Op.equalIn (9999+1) 34 (.agg #[.int .i64 a0,.int .i64 a1,.int .i64 a2]) (.agg #[.int .i64 b0,.int .i64 b1,.int .i64 b2])).run Pg w = .ok (decide (a0=b0)&&(decide (a1=b1)&&(decide (a2=b2)&&true))) w:=
 QG underlying34 (by kernel_rfl) (ZU rfl (YD ty3 rfl) (YD ty3 rfl) (Vn underlying3) (ZU rfl (YD ty3 rfl) (YD ty3 rfl) (Vn underlying3) (ZU rfl (YD OG rfl) (YD OG rfl) (Vn underlying32) Wu)))
theorem ZjK {w:Wd} (a0 b0:Int) (a1 b1:Int) (a2 b2:Int):(Op.equalIn (9999+1) 78 (.agg #[.int .i64 a0,.int .i64 a1,.int .i64 a2]) (.agg #[.int .i64 b0,.int .i64 b1,.int .i64 b2])).run Pg w = .ok (decide (a0=b0)&&(decide (a1=b1)&&(decide (a2=b2)&&true))) w:=
 QG underlying78 (by kernel_rfl) (ZU rfl (YD ty3 rfl) (YD ty3 rfl) (Vn underlying3) (ZU rfl (YD ty3 rfl) (YD ty3 rfl) (Vn underlying3) (ZU rfl (YD ty3 rfl) (YD ty3 rfl) (Vn underlying3) Wu)))
theorem Zfl {w:Wd} (a0 b0:BAr) (a1 b1:Int):(Op.equalIn (9999+1) 128 (.agg #[.string a0,.int .i64 a1]) (.agg #[.string b0,.int .i64 b1])).run Pg w = .ok (decide (a0=b0)&&(decide (a1=b1)&&true)) w:=
 QG underlying128 (by kernel_rfl) (ZU rfl (YD ty9 rfl) (YD ty9 rfl) (US underlying9) (ZU rfl (YD ty3 rfl) (YD ty3 rfl) (Vn underlying3) Wu))
theorem Zfm {w:Wd} (a0 b0:Int) (a1 b1:Int) (a2 b2:BAr):(Op.equalIn (9999+1) 213 (.agg #[.int .i64 a0,.int .i64 a1,.string a2]) (.agg #[.int .i64 b0,.int .i64 b1,.string b2])).run Pg w = .ok (decide (a0=b0)&&(decide (a1=b1)&&(decide (a2=b2)&&true))) w:=
 QG underlying213 (by kernel_rfl) (ZU rfl (YD ty3 rfl) (YD ty3 rfl) (Vn underlying3) (ZU rfl (YD ty3 rfl) (YD ty3 rfl) (Vn underlying3) (ZU rfl (YD ty9 rfl) (YD ty9 rfl) (US underlying9) Wu)))
theorem Zfn {w:Wd} (a0 b0:BAr) (a1 b1:BAr) (a2 b2:BAr) (a3 b3:BAr) (a4 b4:Int) (a5 b5:Int) (a6 b6:Int) (a7 b7:Int) (a8 b8:Int) (a9 b9:Int) (a10 b10:Int) (a11 b11:Bool) (a12 b12:Bool):(Op.equalIn (9999+1) 287 (.agg #[.string a0,.string a1,.string a2,.string a3,.int .i64 a4,.int .i64 a5,.int .i64 a6,.int .i64 a7,.int .i64 a8,.int .i64 a9,.int .i64 a10,.bool a11,.bool a12]) (.agg #[.string b0,.string b1,.string b2,.string b3,.int .i64 b4,.int .i64 b5,.int .i64 b6,.int .i64 b7,.int .i64 b8,.int .i64 b9,.int .i64 b10,.bool b11,.bool b12])).run Pg w = .ok (decide (a0=b0)&&(decide (a1=b1)&&(decide (a2=b2)&&(decide (a3=b3)&&(decide (a4=b4)&&(decide (a5=b5)&&(decide (a6=b6)&&(decide (a7=b7)&&(decide (a8=b8)&&(decide (a9=b9)&&(decide (a10=b10)&&(decide (a11=b11)&&(decide (a12=b12)&&true))))))))))))) w:=
 QG underlying287 (by kernel_rfl) (ZU rfl (YD ty9 rfl) (YD ty9 rfl) (US underlying9) (ZU rfl (YD ty9 rfl) (YD ty9 rfl) (US underlying9) (ZU rfl (YD ty9 rfl) (YD ty9 rfl) (US underlying9) (ZU rfl (YD ty9 rfl) (YD ty9 rfl) (US underlying9) (ZU rfl (YD GN rfl) (YD GN rfl) (Vn underlying117) (ZU rfl (YD ty3 rfl) (YD ty3 rfl) (Vn underlying3) (ZU rfl (YD ty3 rfl) (YD ty3 rfl) (Vn underlying3) (ZU rfl (YD ty3 rfl) (YD ty3 rfl) (Vn underlying3) (ZU rfl (YD ty3 rfl) (YD ty3 rfl) (Vn underlying3) (ZU rfl (YD ty3 rfl) (YD ty3 rfl) (Vn underlying3) (ZU rfl (YD ty3 rfl) (YD ty3 rfl) (Vn underlying3) (ZU rfl (YD ty4 rfl) (YD ty4 rfl) (Pk underlying4) (ZU rfl (YD ty4 rfl) (YD ty4 rfl) (Pk underlying4) Wu)))))))))))))
section
variable {QP:PEn} {w:Wd} {k:KV}
def o0:=YL (QP:=QP) (w:=w) (k:=k) ty3
theorem o1:(∀ u,opV Pg (alloc 3 true u) QP w k=k (.pointer (some ⟨w.heap.size,0,none⟩)) (w.alloc (.cells ((.int .i64 0):Vl).cells 3))):=(Ys ty3)
def o2:=YL (QP:=QP) (w:=w) (k:=k) ty4
theorem o3:(∀ c a b,opV Pg (ZF .eql 4 c (.bool a) (.bool b)) QP w k=k (.bool (a == b)) w):=(Za1 underlying4)
theorem o4:(∀ c a b,opV Pg (ZF .neq 4 c (.bool a) (.bool b)) QP w k=k (.bool (a != b)) w):=(Za2 underlying4)
theorem o5:(∀ u,opV Pg (alloc 4 true u) QP w k=k (.pointer (some ⟨w.heap.size,0,none⟩)) (w.alloc (.cells ((.bool false):Vl).cells 4))):=(Ys ty4)
def o6:=YL (QP:=QP) (w:=w) (k:=k) ty5
def o7:=YL (QP:=QP) (w:=w) (k:=k) ty9
theorem o8:(∀ r s,opV Pg (Builtin.len_ #[9] r #[.string s]) QP w k=k (.int .i64 (s.size:Int)) w):=(λ r=>Cx (r:=r) underlying9)
def o9:=YL (QP:=QP) (w:=w) (k:=k) Il
theorem o10:(∀ r a n c,opV Pg (Builtin.len_ #[22] r #[.slice a n c]) QP w k=k (.int .i64 (n:Int)) w):=(λ r=>Y3 (r:=r) underlying22)
theorem o11:(∀ b o len cap ik (i:Nat),i < len→opV Pg (indexAt 22 (.slice (some ⟨b,o,none⟩) len cap) (.int ik (i:Int))) QP w k=k (.pointer (some ⟨b,o+i*3,none⟩)) w):=(XH underlying22 B6)
def o12:=Xl (QP:=QP) (w:=w) (k:=k) (i:=0) (ft:=9) (n:=1) underlying24 rfl ty9 rfl
def o13:=ZH (QP:=QP) (w:=w) (k:=k) (i:=1) (ft:=22) (off:=1) (n:=1) underlying24 rfl Il rfl
theorem o14:(∀ b o,opV Pg (loadAt 24 (.pointer (some ⟨b,o,none⟩))) QP w k=ZN [w.cell? ⟨b,o,none⟩,w.cell? ⟨b,o+1,none⟩] (λ vs=>k (.agg vs.toArray) w) (Ko Pg (loadAt 24 (.pointer (some ⟨b,o,none⟩))) QP w k)):=(by intro b o;exact XL CE b o _ rfl)
theorem o15:(∀ u,opV Pg (alloc 24 true u) QP w k=k (.pointer (some ⟨w.heap.size,0,none⟩)) (w.alloc (.cells ((.agg #[.string ByteArray.empty,.slice none 0 0]):Vl).cells 24))):=(Ys CE)
def o16:=YL (QP:=QP) (w:=w) (k:=k) ZeC
theorem o17:(∀ r a n c,opV Pg (Builtin.len_ #[25] r #[.slice a n c]) QP w k=k (.int .i64 (n:Int)) w):=(λ r=>Y3 (r:=r) underlying25)
theorem o18:(∀ b o len cap ik (i:Nat),i < len→opV Pg (indexAt 25 (.slice (some ⟨b,o,none⟩) len cap) (.int ik (i:Int))) QP w k=k (.pointer (some ⟨b,o+i*2,none⟩)) w):=(XH underlying25 qn)
def o19:=Xl (QP:=QP) (w:=w) (k:=k) (i:=0) (ft:=9) (n:=1) underlying27 rfl ty9 rfl
def o20:=ZH (QP:=QP) (w:=w) (k:=k) (i:=1) (ft:=25) (off:=1) (n:=1) underlying27 rfl ZeC rfl
def o21:=ZH (QP:=QP) (w:=w) (k:=k) (i:=2) (ft:=9) (off:=2) (n:=1) underlying27 rfl ty9 rfl
theorem o22:(∀ b o,opV Pg (loadAt 27 (.pointer (some ⟨b,o,none⟩))) QP w k=ZN [w.cell? ⟨b,o,none⟩,w.cell? ⟨b,o+1,none⟩,w.cell? ⟨b,o+2,none⟩] (λ vs=>k (.agg vs.toArray) w) (Ko Pg (loadAt 27 (.pointer (some ⟨b,o,none⟩))) QP w k)):=(by intro b o;exact XL CF b o _ rfl)
theorem o23:(∀ u,opV Pg (alloc 27 true u) QP w k=k (.pointer (some ⟨w.heap.size,0,none⟩)) (w.alloc (.cells ((.agg #[.string ByteArray.empty,.slice none 0 0,.string ByteArray.empty]):Vl).cells 27))):=(Ys CF)
theorem o26:(∀ b o,opV Pg (loadAt 34 (.pointer (some ⟨b,o,none⟩))) QP w k=ZN [w.cell? ⟨b,o,none⟩,w.cell? ⟨b,o+1,none⟩,w.cell? ⟨b,o+2,none⟩] (λ vs=>k (.agg vs.toArray) w) (Ko Pg (loadAt 34 (.pointer (some ⟨b,o,none⟩))) QP w k)):=(by intro b o;exact XL Mn b o _ rfl)
theorem o27:(∀ u,opV Pg (alloc 34 true u) QP w k=k (.pointer (some ⟨w.heap.size,0,none⟩)) (w.alloc (.cells ((.agg #[.int .i64 0,.int .i64 0,.int .i64 0]):Vl).cells 34))):=(Ys Mn)
def o28:=YL (QP:=QP) (w:=w) (k:=k) Io
def o29:=YL (QP:=QP) (w:=w) (k:=k) CG
theorem o30:(∀ r a n c,opV Pg (Builtin.len_ #[40] r #[.slice a n c]) QP w k=k (.int .i64 (n:Int)) w):=(λ r=>Y3 (r:=r) underlying40)
theorem o31:(∀ b o len cap ik (i:Nat),i < len→opV Pg (indexAt 40 (.slice (some ⟨b,o,none⟩) len cap) (.int ik (i:Int))) QP w k=k (.pointer (some ⟨b,o+i*1,none⟩)) w):=(XH underlying40 ty5)
theorem o32:(∀ u,opV Pg (alloc 40 true u) QP w k=k (.pointer (some ⟨w.heap.size,0,none⟩)) (w.alloc (.cells ((.slice none 0 0):Vl).cells 40))):=(Ys CG)
def o33:=YL (QP:=QP) (w:=w) (k:=k) Mo
theorem o34:(∀ r a n c,opV Pg (Builtin.len_ #[41] r #[.slice a n c]) QP w k=k (.int .i64 (n:Int)) w):=(λ r=>Y3 (r:=r) underlying41)
theorem o35:(∀ b o len cap ik (i:Nat),i < len→opV Pg (indexAt 41 (.slice (some ⟨b,o,none⟩) len cap) (.int ik (i:Int))) QP w k=k (.pointer (some ⟨b,o+i*3,none⟩)) w):=(XH underlying41 Ft)
def o36:=Xl (QP:=QP) (w:=w) (k:=k) (i:=0) (ft:=9) (n:=1) underlying43 rfl ty9 rfl
def o37:=ZH (QP:=QP) (w:=w) (k:=k) (i:=1) (ft:=39) (off:=1) (n:=1) underlying43 rfl Io rfl
def o38:=ZH (QP:=QP) (w:=w) (k:=k) (i:=2) (ft:=9) (off:=2) (n:=1) underlying43 rfl ty9 rfl
def o39:=ZH (QP:=QP) (w:=w) (k:=k) (i:=3) (ft:=3) (off:=3) (n:=1) underlying43 rfl ty3 rfl
def o40:=ZH (QP:=QP) (w:=w) (k:=k) (i:=4) (ft:=3) (off:=4) (n:=1) underlying43 rfl ty3 rfl
def o41:=ZH (QP:=QP) (w:=w) (k:=k) (i:=5) (ft:=40) (off:=5) (n:=1) underlying43 rfl CG rfl
def o42:=ZH (QP:=QP) (w:=w) (k:=k) (i:=6) (ft:=41) (off:=6) (n:=1) underlying43 rfl Mo rfl
theorem o43:(∀ b o,opV Pg (loadAt 43 (.pointer (some ⟨b,o,none⟩))) QP w k=ZN [w.cell? ⟨b,o,none⟩,w.cell? ⟨b,o+1,none⟩,w.cell? ⟨b,o+2,none⟩,w.cell? ⟨b,o+3,none⟩,w.cell? ⟨b,o+4,none⟩,w.cell? ⟨b,o+5,none⟩,w.cell? ⟨b,o+6,none⟩] (λ vs=>k (.agg vs.toArray) w) (Ko Pg (loadAt 43 (.pointer (some ⟨b,o,none⟩))) QP w k)):=(by intro b o;exact XL Ud b o _ rfl)
theorem o44:(∀ u,opV Pg (alloc 43 true u) QP w k=k (.pointer (some ⟨w.heap.size,0,none⟩)) (w.alloc (.cells ((.agg #[.string ByteArray.empty,.int .i64 0,.string ByteArray.empty,.int .i64 0,.int .i64 0,.slice none 0 0,.slice none 0 0]):Vl).cells 43))):=(Ys Ud)
theorem o45:(∀ u,opV Pg (alloc 49 true u) QP w k=k (.pointer (some ⟨w.heap.size,0,none⟩)) (w.alloc (.cells ((.int .i64 0):Vl).cells 49))):=(Ys ZeD)
def o46:=YL (QP:=QP) (w:=w) (k:=k) Mp
theorem o47:(∀ r a n c,opV Pg (Builtin.len_ #[58] r #[.slice a n c]) QP w k=k (.int .i64 (n:Int)) w):=(λ r=>Y3 (r:=r) underlying58)
theorem o48:(∀ b o len cap ik (i:Nat),i < len→opV Pg (indexAt 58 (.slice (some ⟨b,o,none⟩) len cap) (.int ik (i:Int))) QP w k=k (.pointer (some ⟨b,o+i*7,none⟩)) w):=(XH underlying58 Ud)
def o50:=Xl (QP:=QP) (w:=w) (k:=k) (i:=0) (ft:=9) (n:=1) underlying60 rfl ty9 rfl
def o51:=ZH (QP:=QP) (w:=w) (k:=k) (i:=1) (ft:=9) (off:=1) (n:=1) underlying60 rfl ty9 rfl
def o52:=ZH (QP:=QP) (w:=w) (k:=k) (i:=2) (ft:=58) (off:=2) (n:=1) underlying60 rfl Mp rfl
theorem o53:(∀ b o,opV Pg (loadAt 60 (.pointer (some ⟨b,o,none⟩))) QP w k=ZN [w.cell? ⟨b,o,none⟩,w.cell? ⟨b,o+1,none⟩,w.cell? ⟨b,o+2,none⟩] (λ vs=>k (.agg vs.toArray) w) (Ko Pg (loadAt 60 (.pointer (some ⟨b,o,none⟩))) QP w k)):=(by intro b o;exact XL B6 b o _ rfl)
theorem o54:(∀ u,opV Pg (alloc 60 true u) QP w k=k (.pointer (some ⟨w.heap.size,0,none⟩)) (w.alloc (.cells ((.agg #[.string ByteArray.empty,.string ByteArray.empty,.slice none 0 0]):Vl).cells 60))):=(Ys B6)
theorem o56:(∀ r a n c,opV Pg (Builtin.len_ #[61] r #[.slice a n c]) QP w k=k (.int .i64 (n:Int)) w):=(λ r=>Y3 (r:=r) underlying61)
theorem o57:(∀ b o len cap ik (i:Nat),i < len→opV Pg (indexAt 61 (.slice (some ⟨b,o,none⟩) len cap) (.int ik (i:Int))) QP w k=k (.pointer (some ⟨b,o+i*1,none⟩)) w):=(XH underlying61 ty3)
def o59:=YL (QP:=QP) (w:=w) (k:=k) OH
theorem o60:(∀ r a n c,opV Pg (Builtin.len_ #[72] r #[.slice a n c]) QP w k=k (.int .i64 (n:Int)) w):=(λ r=>Y3 (r:=r) underlying72)
theorem o61:(∀ b o len cap ik (i:Nat),i < len→opV Pg (indexAt 72 (.slice (some ⟨b,o,none⟩) len cap) (.int ik (i:Int))) QP w k=k (.pointer (some ⟨b,o+i*15,none⟩)) w):=(XH underlying72 Ve)
def o62:=Xl (QP:=QP) (w:=w) (k:=k) (i:=0) (ft:=9) (n:=1) underlying74 rfl ty9 rfl
def o63:=ZH (QP:=QP) (w:=w) (k:=k) (i:=1) (ft:=72) (off:=1) (n:=1) underlying74 rfl OH rfl
theorem o64:(∀ b o,opV Pg (loadAt 74 (.pointer (some ⟨b,o,none⟩))) QP w k=ZN [w.cell? ⟨b,o,none⟩,w.cell? ⟨b,o+1,none⟩] (λ vs=>k (.agg vs.toArray) w) (Ko Pg (loadAt 74 (.pointer (some ⟨b,o,none⟩))) QP w k)):=(by intro b o;exact XL qn b o _ rfl)
theorem o65:(∀ u,opV Pg (alloc 74 true u) QP w k=k (.pointer (some ⟨w.heap.size,0,none⟩)) (w.alloc (.cells ((.agg #[.string ByteArray.empty,.slice none 0 0]):Vl).cells 74))):=(Ys qn)
def o66:=Xl (QP:=QP) (w:=w) (k:=k) (i:=0) (ft:=3) (n:=1) underlying78 rfl ty3 rfl
def o67:=ZH (QP:=QP) (w:=w) (k:=k) (i:=1) (ft:=3) (off:=1) (n:=1) underlying78 rfl ty3 rfl
def o68:=ZH (QP:=QP) (w:=w) (k:=k) (i:=2) (ft:=3) (off:=2) (n:=1) underlying78 rfl ty3 rfl
theorem o69:(∀ b o,opV Pg (loadAt 78 (.pointer (some ⟨b,o,none⟩))) QP w k=ZN [w.cell? ⟨b,o,none⟩,w.cell? ⟨b,o+1,none⟩,w.cell? ⟨b,o+2,none⟩] (λ vs=>k (.agg vs.toArray) w) (Ko Pg (loadAt 78 (.pointer (some ⟨b,o,none⟩))) QP w k)):=(by intro b o;exact XL Ft b o _ rfl)
theorem o70:(∀ u,opV Pg (alloc 78 true u) QP w k=k (.pointer (some ⟨w.heap.size,0,none⟩)) (w.alloc (.cells ((.agg #[.int .i64 0,.int .i64 0,.int .i64 0]):Vl).cells 78))):=(Ys Ft)
def o71:=Xl (QP:=QP) (w:=w) (k:=k) (i:=0) (ft:=24) (n:=2) underlying81 rfl CE rfl
def o72:=ZH (QP:=QP) (w:=w) (k:=k) (i:=1) (ft:=27) (off:=2) (n:=3) underlying81 rfl CF rfl
def o73:=ZH (QP:=QP) (w:=w) (k:=k) (i:=2) (ft:=27) (off:=5) (n:=3) underlying81 rfl CF rfl
def o74:=ZH (QP:=QP) (w:=w) (k:=k) (i:=3) (ft:=3) (off:=8) (n:=1) underlying81 rfl ty3 rfl
def o75:=ZH (QP:=QP) (w:=w) (k:=k) (i:=4) (ft:=3) (off:=9) (n:=1) underlying81 rfl ty3 rfl
def o76:=YL (QP:=QP) (w:=w) (k:=k) ZeE
theorem o77:(∀ u,opV Pg (alloc 88 true u) QP w k=k (.pointer (some ⟨w.heap.size,0,none⟩)) (w.alloc (.cells ((.nilFunc):Vl).cells 88))):=(Ys ZeE)
def o78:=YL (QP:=QP) (w:=w) (k:=k) Zbr
theorem o79:(∀ r a n c,opV Pg (Builtin.len_ #[94] r #[.slice a n c]) QP w k=k (.int .i64 (n:Int)) w):=(λ r=>Y3 (r:=r) underlying94)
theorem o80:(∀ b o len cap ik (i:Nat),i < len→opV Pg (indexAt 94 (.slice (some ⟨b,o,none⟩) len cap) (.int ik (i:Int))) QP w k=k (.pointer (some ⟨b,o+i*1,none⟩)) w):=(XH underlying94 ty9)
theorem o81:(∀ u,opV Pg (alloc 94 true u) QP w k=k (.pointer (some ⟨w.heap.size,0,none⟩)) (w.alloc (.cells ((.slice none 0 0):Vl).cells 94))):=(Ys Zbr)
def o82:=Xl (QP:=QP) (w:=w) (k:=k) (i:=0) (ft:=4) (n:=1) underlying105 rfl ty4 rfl
def o83:=ZH (QP:=QP) (w:=w) (k:=k) (i:=1) (ft:=4) (off:=1) (n:=1) underlying105 rfl ty4 rfl
def o84:=ZH (QP:=QP) (w:=w) (k:=k) (i:=2) (ft:=4) (off:=2) (n:=1) underlying105 rfl ty4 rfl
def o85:=ZH (QP:=QP) (w:=w) (k:=k) (i:=3) (ft:=4) (off:=3) (n:=1) underlying105 rfl ty4 rfl
def o86:=ZH (QP:=QP) (w:=w) (k:=k) (i:=4) (ft:=4) (off:=4) (n:=1) underlying105 rfl ty4 rfl
theorem o88:(∀ b o,opV Pg (loadAt 105 (.pointer (some ⟨b,o,none⟩))) QP w k=ZN [w.cell? ⟨b,o,none⟩,w.cell? ⟨b,o+1,none⟩,w.cell? ⟨b,o+2,none⟩,w.cell? ⟨b,o+3,none⟩,w.cell? ⟨b,o+4,none⟩] (λ vs=>k (.agg vs.toArray) w) (Ko Pg (loadAt 105 (.pointer (some ⟨b,o,none⟩))) QP w k)):=(by intro b o;exact XL U7 b o _ rfl)
theorem o89:(∀ u,opV Pg (alloc 105 true u) QP w k=k (.pointer (some ⟨w.heap.size,0,none⟩)) (w.alloc (.cells ((.agg #[.bool false,.bool false,.bool false,.bool false,.bool false]):Vl).cells 105))):=(Ys U7)
def o90:=YL (QP:=QP) (w:=w) (k:=k) GN
def o91:=YL (QP:=QP) (w:=w) (k:=k) B4
theorem o92:(∀ r a n c,opV Pg (Builtin.len_ #[118] r #[.slice a n c]) QP w k=k (.int .i64 (n:Int)) w):=(λ r=>Y3 (r:=r) underlying118)
theorem o93:(∀ b o len cap ik (i:Nat),i < len→opV Pg (indexAt 118 (.slice (some ⟨b,o,none⟩) len cap) (.int ik (i:Int))) QP w k=k (.pointer (some ⟨b,o+i*2,none⟩)) w):=(XH underlying118 GP)
theorem o94:(∀ u,opV Pg (alloc 118 true u) QP w k=k (.pointer (some ⟨w.heap.size,0,none⟩)) (w.alloc (.cells ((.slice none 0 0):Vl).cells 118))):=(Ys B4)
def o95:=Xl (QP:=QP) (w:=w) (k:=k) (i:=0) (ft:=3) (n:=1) underlying120 rfl ty3 rfl
def o96:=ZH (QP:=QP) (w:=w) (k:=k) (i:=1) (ft:=118) (off:=1) (n:=1) underlying120 rfl B4 rfl
theorem o97:(∀ b o,opV Pg (loadAt 120 (.pointer (some ⟨b,o,none⟩))) QP w k=ZN [w.cell? ⟨b,o,none⟩,w.cell? ⟨b,o+1,none⟩] (λ vs=>k (.agg vs.toArray) w) (Ko Pg (loadAt 120 (.pointer (some ⟨b,o,none⟩))) QP w k)):=(by intro b o;exact XL GO b o _ rfl)
def o99:=YL (QP:=QP) (w:=w) (k:=k) jj
theorem Zlh:(∀ r a n c,opV Pg (Builtin.len_ #[121] r #[.slice a n c]) QP w k=k (.int .i64 (n:Int)) w):=(λ r=>Y3 (r:=r) underlying121)
theorem ZhP:(∀ b o len cap ik (i:Nat),i < len→opV Pg (indexAt 121 (.slice (some ⟨b,o,none⟩) len cap) (.int ik (i:Int))) QP w k=k (.pointer (some ⟨b,o+i*3,none⟩)) w):=(XH underlying121 Ik)
def ZhQ:=Xl (QP:=QP) (w:=w) (k:=k) (i:=0) (ft:=9) (n:=1) underlying123 rfl ty9 rfl
def ZhR:=ZH (QP:=QP) (w:=w) (k:=k) (i:=1) (ft:=117) (off:=1) (n:=1) underlying123 rfl GN rfl
def ZhS:=ZH (QP:=QP) (w:=w) (k:=k) (i:=2) (ft:=3) (off:=2) (n:=1) underlying123 rfl ty3 rfl
def Zli:=ZH (QP:=QP) (w:=w) (k:=k) (i:=3) (ft:=4) (off:=3) (n:=1) underlying123 rfl ty4 rfl
def Zlj:=ZH (QP:=QP) (w:=w) (k:=k) (i:=4) (ft:=4) (off:=4) (n:=1) underlying123 rfl ty4 rfl
def ZhT:=ZH (QP:=QP) (w:=w) (k:=k) (i:=5) (ft:=3) (off:=5) (n:=1) underlying123 rfl ty3 rfl
def ZhU:=ZH (QP:=QP) (w:=w) (k:=k) (i:=6) (ft:=3) (off:=6) (n:=1) underlying123 rfl ty3 rfl
def ZhV:=ZH (QP:=QP) (w:=w) (k:=k) (i:=7) (ft:=120) (off:=7) (n:=2) underlying123 rfl GO rfl
def ZhW:=ZH (QP:=QP) (w:=w) (k:=k) (i:=8) (ft:=9) (off:=9) (n:=1) underlying123 rfl ty9 rfl
def ZhX:=ZH (QP:=QP) (w:=w) (k:=k) (i:=9) (ft:=9) (off:=10) (n:=1) underlying123 rfl ty9 rfl
def ZhY:=ZH (QP:=QP) (w:=w) (k:=k) (i:=10) (ft:=9) (off:=11) (n:=1) underlying123 rfl ty9 rfl
def ZhZ:=ZH (QP:=QP) (w:=w) (k:=k) (i:=11) (ft:=121) (off:=12) (n:=1) underlying123 rfl jj rfl
def Zlk:=ZH (QP:=QP) (w:=w) (k:=k) (i:=12) (ft:=3) (off:=13) (n:=1) underlying123 rfl ty3 rfl
def Zll:=ZH (QP:=QP) (w:=w) (k:=k) (i:=13) (ft:=3) (off:=14) (n:=1) underlying123 rfl ty3 rfl
theorem Zlm:(∀ b o,opV Pg (loadAt 123 (.pointer (some ⟨b,o,none⟩))) QP w k=ZN [w.cell? ⟨b,o,none⟩,w.cell? ⟨b,o+1,none⟩,w.cell? ⟨b,o+2,none⟩,w.cell? ⟨b,o+3,none⟩,w.cell? ⟨b,o+4,none⟩,w.cell? ⟨b,o+5,none⟩,w.cell? ⟨b,o+6,none⟩,w.cell? ⟨b,o+7,none⟩,w.cell? ⟨b,o+8,none⟩,w.cell? ⟨b,o+9,none⟩,w.cell? ⟨b,o+10,none⟩,w.cell? ⟨b,o+11,none⟩,w.cell? ⟨b,o+12,none⟩,w.cell? ⟨b,o+13,none⟩,w.cell? ⟨b,o+14,none⟩] (λ vs=>k (.agg vs.toArray) w) (Ko Pg (loadAt 123 (.pointer (some ⟨b,o,none⟩))) QP w k)):=(by intro b o;exact XL Ve b o _ rfl)
theorem Zln:(∀ u,opV Pg (alloc 123 true u) QP w k=k (.pointer (some ⟨w.heap.size,0,none⟩)) (w.alloc (.cells ((.agg #[.string ByteArray.empty,.int .i64 0,.int .i64 0,.bool false,.bool false,.int .i64 0,.int .i64 0,.int .i64 0,.slice none 0 0,.string ByteArray.empty,.string ByteArray.empty,.string ByteArray.empty,.slice none 0 0,.int .i64 0,.int .i64 0]):Vl).cells 123))):=(Ys Ve)
def Zh0:=Xl (QP:=QP) (w:=w) (k:=k) (i:=0) (ft:=9) (n:=1) underlying128 rfl ty9 rfl
def Zh1:=ZH (QP:=QP) (w:=w) (k:=k) (i:=1) (ft:=3) (off:=1) (n:=1) underlying128 rfl ty3 rfl
theorem Zlo:(∀ b o,opV Pg (loadAt 128 (.pointer (some ⟨b,o,none⟩))) QP w k=ZN [w.cell? ⟨b,o,none⟩,w.cell? ⟨b,o+1,none⟩] (λ vs=>k (.agg vs.toArray) w) (Ko Pg (loadAt 128 (.pointer (some ⟨b,o,none⟩))) QP w k)):=(by intro b o;exact XL GP b o _ rfl)
theorem Zlp:(∀ u,opV Pg (alloc 128 true u) QP w k=k (.pointer (some ⟨w.heap.size,0,none⟩)) (w.alloc (.cells ((.agg #[.string ByteArray.empty,.int .i64 0]):Vl).cells 128))):=(Ys GP)
theorem Zlq:(∀ b o,opV Pg (loadAt 131 (.pointer (some ⟨b,o,none⟩))) QP w k=ZN [w.cell? ⟨b,o,none⟩,w.cell? ⟨b,o+1,none⟩,w.cell? ⟨b,o+2,none⟩] (λ vs=>k (.agg vs.toArray) w) (Ko Pg (loadAt 131 (.pointer (some ⟨b,o,none⟩))) QP w k)):=(by intro b o;exact XL DO b o _ rfl)
theorem Zlr:(∀ u,opV Pg (alloc 131 true u) QP w k=k (.pointer (some ⟨w.heap.size,0,none⟩)) (w.alloc (.cells ((.agg #[.int .i64 0,.int .i64 0,.int .i64 0]):Vl).cells 131))):=(Ys DO)
theorem Zls:(∀ u,opV Pg (alloc 159 true u) QP w k=k (.pointer (some ⟨w.heap.size,0,none⟩)) (w.alloc (.cells ((.agg #[.pointer none,.slice none 0 0]):Vl).cells 159))):=(Ys Zik)
def Zlt:=YL (QP:=QP) (w:=w) (k:=k) TL
theorem Zlu:(∀ r a n c,opV Pg (Builtin.len_ #[170] r #[.slice a n c]) QP w k=k (.int .i64 (n:Int)) w):=(λ r=>Y3 (r:=r) underlying170)
theorem Zlv:(∀ b o len cap ik (i:Nat),i < len→opV Pg (indexAt 170 (.slice (some ⟨b,o,none⟩) len cap) (.int ik (i:Int))) QP w k=k (.pointer (some ⟨b,o+i*1,none⟩)) w):=(XH underlying170 ty4)
def Zlw:=YL (QP:=QP) (w:=w) (k:=k) Ij
def Zlx:=YL (QP:=QP) (w:=w) (k:=k) B5
theorem Zly:(∀ u,opV Pg (alloc 199 true u) QP w k=k (.pointer (some ⟨w.heap.size,0,none⟩)) (w.alloc (.cells ((.map none):Vl).cells 199))):=(Ys B5)
def Zh2:=ZH (QP:=QP) (w:=w) (k:=k) (i:=1) (ft:=198) (off:=3) (n:=1) underlying201 rfl Ij rfl
def Zh3:=ZH (QP:=QP) (w:=w) (k:=k) (i:=2) (ft:=199) (off:=4) (n:=1) underlying201 rfl B5 rfl
def Zh4:=ZH (QP:=QP) (w:=w) (k:=k) (i:=3) (ft:=3) (off:=5) (n:=1) underlying201 rfl ty3 rfl
def Zh5:=ZH (QP:=QP) (w:=w) (k:=k) (i:=4) (ft:=3) (off:=6) (n:=1) underlying201 rfl ty3 rfl
def Zlz:=ZH (QP:=QP) (w:=w) (k:=k) (i:=5) (ft:=74) (off:=7) (n:=2) underlying201 rfl qn rfl
def ZlA:=Xl (QP:=QP) (w:=w) (k:=k) (i:=0) (ft:=3) (n:=1) underlying213 rfl ty3 rfl
def ZlB:=ZH (QP:=QP) (w:=w) (k:=k) (i:=1) (ft:=3) (off:=1) (n:=1) underlying213 rfl ty3 rfl
def ZlC:=ZH (QP:=QP) (w:=w) (k:=k) (i:=2) (ft:=9) (off:=2) (n:=1) underlying213 rfl ty9 rfl
theorem ZlD:(∀ b o,opV Pg (loadAt 213 (.pointer (some ⟨b,o,none⟩))) QP w k=ZN [w.cell? ⟨b,o,none⟩,w.cell? ⟨b,o+1,none⟩,w.cell? ⟨b,o+2,none⟩] (λ vs=>k (.agg vs.toArray) w) (Ko Pg (loadAt 213 (.pointer (some ⟨b,o,none⟩))) QP w k)):=(by intro b o;exact XL Ik b o _ rfl)
theorem ZlE:(∀ u,opV Pg (alloc 213 true u) QP w k=k (.pointer (some ⟨w.heap.size,0,none⟩)) (w.alloc (.cells ((.agg #[.int .i64 0,.int .i64 0,.string ByteArray.empty]):Vl).cells 213))):=(Ys Ik)
def ZlF:=YL (QP:=QP) (w:=w) (k:=k) TM
def ZlG:=YL (QP:=QP) (w:=w) (k:=k) TN
def ZlH:=Xl (QP:=QP) (w:=w) (k:=k) (i:=0) (ft:=252) (n:=1) underlying255 rfl TM rfl
def ZlI:=ZH (QP:=QP) (w:=w) (k:=k) (i:=1) (ft:=253) (off:=1) (n:=1) underlying255 rfl TN rfl
theorem ZlJ:(∀ u,opV Pg (alloc 255 true u) QP w k=k (.pointer (some ⟨w.heap.size,0,none⟩)) (w.alloc (.cells ((.agg #[.nilFunc,.nilFunc]):Vl).cells 255))):=(Ys Im)
theorem ZlK:(∀ r a n c,opV Pg (Builtin.len_ #[264] r #[.slice a n c]) QP w k=k (.int .i64 (n:Int)) w):=(λ r=>Y3 (r:=r) underlying264)
theorem Zh6:(∀ b o len cap ik (i:Nat),i < len→opV Pg (indexAt 264 (.slice (some ⟨b,o,none⟩) len cap) (.int ik (i:Int))) QP w k=k (.pointer (some ⟨b,o+i*3,none⟩)) w):=(XH underlying264 Nh)
def ZlL:=Xl (QP:=QP) (w:=w) (k:=k) (i:=0) (ft:=9) (n:=1) underlying266 rfl ty9 rfl
def Zh7:=ZH (QP:=QP) (w:=w) (k:=k) (i:=1) (ft:=3) (off:=1) (n:=1) underlying266 rfl ty3 rfl
def Zh8:=ZH (QP:=QP) (w:=w) (k:=k) (i:=2) (ft:=3) (off:=2) (n:=1) underlying266 rfl ty3 rfl
theorem ZlM:(∀ b o,opV Pg (loadAt 266 (.pointer (some ⟨b,o,none⟩))) QP w k=ZN [w.cell? ⟨b,o,none⟩,w.cell? ⟨b,o+1,none⟩,w.cell? ⟨b,o+2,none⟩] (λ vs=>k (.agg vs.toArray) w) (Ko Pg (loadAt 266 (.pointer (some ⟨b,o,none⟩))) QP w k)):=(by intro b o;exact XL Nh b o _ rfl)
theorem ZlN:(∀ u,opV Pg (alloc 266 true u) QP w k=k (.pointer (some ⟨w.heap.size,0,none⟩)) (w.alloc (.cells ((.agg #[.string ByteArray.empty,.int .i64 0,.int .i64 0]):Vl).cells 266))):=(Ys Nh)
theorem ZlO:(∀ u,opV Pg (alloc 287 true u) QP w k=k (.pointer (some ⟨w.heap.size,0,none⟩)) (w.alloc (.cells ((.agg #[.string ByteArray.empty,.string ByteArray.empty,.string ByteArray.empty,.string ByteArray.empty,.int .i64 0,.int .i64 0,.int .i64 0,.int .i64 0,.int .i64 0,.int .i64 0,.int .i64 0,.bool false,.bool false]):Vl).cells 287))):=(Ys Ni)
def ZlP:=YL (QP:=QP) (w:=w) (k:=k) TO
theorem ZlQ:(∀ u,opV Pg (alloc 296 true u) QP w k=k (.pointer (some ⟨w.heap.size,0,none⟩)) (w.alloc (.cells ((.map none):Vl).cells 296))):=(Ys TO)
def ZlR:=Xl (QP:=QP) (w:=w) (k:=k) (i:=0) (ft:=3) (n:=1) underlying300 rfl ty3 rfl
def ZlS:=ZH (QP:=QP) (w:=w) (k:=k) (i:=1) (ft:=3) (off:=1) (n:=1) underlying300 rfl ty3 rfl
theorem ZlT:(∀ v0 v1,opV Pg (Instr.field 300 (.agg #[v0,v1]) 1) QP w k=k v1 w):=(by intro v0 v1;exact LB underlying300 rfl ty3 rfl)
theorem ZlU:(∀ b o,opV Pg (loadAt 300 (.pointer (some ⟨b,o,none⟩))) QP w k=ZN [w.cell? ⟨b,o,none⟩,w.cell? ⟨b,o+1,none⟩] (λ vs=>k (.agg vs.toArray) w) (Ko Pg (loadAt 300 (.pointer (some ⟨b,o,none⟩))) QP w k)):=(by intro b o;exact XL Uu b o _ rfl)
theorem ZlV:(∀ u,opV Pg (alloc 300 true u) QP w k=k (.pointer (some ⟨w.heap.size,0,none⟩)) (w.alloc (.cells ((.agg #[.int .i64 0,.int .i64 0]):Vl).cells 300))):=(Ys Uu)
def ZlW:=YL (QP:=QP) (w:=w) (k:=k) Zim
theorem ZlX:(opV Pg (build 24 #[]) QP w k=k (.agg #[.string ByteArray.empty,.slice none 0 0]) w):=(by exact Z2 (places := #[(0,1),(1,1)]) underlying24 CE (by intro w;simp [List.mapM_cons,Sem.run_bind,Sw.run_sizeOf Il,Sw.run_sizeOf ty9]) (by simp [fill,ZA]))
theorem ZlY:(∀ v0:Vl,v0.oneCell'=true→opV Pg (build 24 #[(0,v0)]) QP w k=k (.agg #[v0,.slice none 0 0]) w):=(by intro v0 hv0;exact Z2 (places := #[(0,1),(1,1)]) underlying24 CE (by intro w;simp [List.mapM_cons,Sem.run_bind,Sw.run_sizeOf Il,Sw.run_sizeOf ty9]) (by simp [fill,ZA,Zm hv0]))
theorem ZlZ:(∀ v0 v1:Vl,v0.oneCell'=true→v1.oneCell'=true→opV Pg (build 24 #[(0,v0),(1,v1)]) QP w k=k (.agg #[v0,v1]) w):=(by intro v0 v1 hv0 hv1;exact Z2 (places := #[(0,1),(1,1)]) underlying24 CE (by intro w;simp [List.mapM_cons,Sem.run_bind,Sw.run_sizeOf Il,Sw.run_sizeOf ty9]) (by simp [fill,ZA,Zm hv0,Zm hv1]))
theorem Zl0:(∀ v0 v1 v2:Vl,v0.oneCell'=true→v1.oneCell'=true→v2.oneCell'=true→opV Pg (build 27 #[(0,v0),(1,v1),(2,v2)]) QP w k=k (.agg #[v0,v1,v2]) w):=(by intro v0 v1 v2 hv0 hv1 hv2;exact Z2 (places := #[(0,1),(1,1),(2,1)]) underlying27 CF (by intro w;simp [List.mapM_cons,Sem.run_bind,Sw.run_sizeOf ZeC,Sw.run_sizeOf ty9]) (by simp [fill,ZA,Zm hv0,Zm hv1,Zm hv2]))
theorem Zl1:(opV Pg (build 34 #[]) QP w k=k (.agg #[.int .i64 0,.int .i64 0,.int .i64 0]) w):=(by exact Z2 (places := #[(0,1),(1,1),(2,1)]) underlying34 Mn (by intro w;simp [List.mapM_cons,Sem.run_bind,Sw.run_sizeOf ty3,Sw.run_sizeOf OG]) (by simp [fill,ZA]))
theorem Zl2:(∀ v0 v1 v2:Vl,v0.oneCell'=true→v1.oneCell'=true→v2.oneCell'=true→opV Pg (build 34 #[(0,v0),(1,v1),(2,v2)]) QP w k=k (.agg #[v0,v1,v2]) w):=(by intro v0 v1 v2 hv0 hv1 hv2;exact Z2 (places := #[(0,1),(1,1),(2,1)]) underlying34 Mn (by intro w;simp [List.mapM_cons,Sem.run_bind,Sw.run_sizeOf ty3,Sw.run_sizeOf OG]) (by simp [fill,ZA,Zm hv0,Zm hv1,Zm hv2]))
theorem Zl3:(∀ v2:Vl,v2.oneCell'=true→opV Pg (build 34 #[(2,v2)]) QP w k=k (.agg #[.int .i64 0,.int .i64 0,v2]) w):=(by intro v2 hv2;exact Z2 (places := #[(0,1),(1,1),(2,1)]) underlying34 Mn (by intro w;simp [List.mapM_cons,Sem.run_bind,Sw.run_sizeOf ty3,Sw.run_sizeOf OG]) (by simp [fill,ZA,Zm hv2]))
theorem Zl4:(∀ v0 v1:Vl,v0.oneCell'=true→v1.oneCell'=true→opV Pg (build 43 #[(0,v0),(1,v1)]) QP w k=k (.agg #[v0,v1,.string ByteArray.empty,.int .i64 0,.int .i64 0,.slice none 0 0,.slice none 0 0]) w):=(by intro v0 v1 hv0 hv1;exact Z2 (places := #[(0,1),(1,1),(2,1),(3,1),(4,1),(5,1),(6,1)]) underlying43 Ud (by intro w;simp [List.mapM_cons,Sem.run_bind,Sw.run_sizeOf ty3,Sw.run_sizeOf Io,Sw.run_sizeOf CG,Sw.run_sizeOf Mo,Sw.run_sizeOf ty9]) (by simp [fill,ZA,Zm hv0,Zm hv1]))
theorem Zl5:(∀ v0 v1 v2:Vl,v0.oneCell'=true→v1.oneCell'=true→v2.oneCell'=true→opV Pg (build 43 #[(0,v0),(1,v1),(2,v2)]) QP w k=k (.agg #[v0,v1,v2,.int .i64 0,.int .i64 0,.slice none 0 0,.slice none 0 0]) w):=(by intro v0 v1 v2 hv0 hv1 hv2;exact Z2 (places := #[(0,1),(1,1),(2,1),(3,1),(4,1),(5,1),(6,1)]) underlying43 Ud (by intro w;simp [List.mapM_cons,Sem.run_bind,Sw.run_sizeOf ty3,Sw.run_sizeOf Io,Sw.run_sizeOf CG,Sw.run_sizeOf Mo,Sw.run_sizeOf ty9]) (by simp [fill,ZA,Zm hv0,Zm hv1,Zm hv2]))
theorem Zl6:(∀ v1 v3:Vl,v1.oneCell'=true→v3.oneCell'=true→opV Pg (build 43 #[(1,v1),(3,v3)]) QP w k=k (.agg #[.string ByteArray.empty,v1,.string ByteArray.empty,v3,.int .i64 0,.slice none 0 0,.slice none 0 0]) w):=(by intro v1 v3 hv1 hv3;exact Z2 (places := #[(0,1),(1,1),(2,1),(3,1),(4,1),(5,1),(6,1)]) underlying43 Ud (by intro w;simp [List.mapM_cons,Sem.run_bind,Sw.run_sizeOf ty3,Sw.run_sizeOf Io,Sw.run_sizeOf CG,Sw.run_sizeOf Mo,Sw.run_sizeOf ty9]) (by simp [fill,ZA,Zm hv1,Zm hv3]))
theorem Zl7:(∀ v1 v6:Vl,v1.oneCell'=true→v6.oneCell'=true→opV Pg (build 43 #[(1,v1),(6,v6)]) QP w k=k (.agg #[.string ByteArray.empty,v1,.string ByteArray.empty,.int .i64 0,.int .i64 0,.slice none 0 0,v6]) w):=(by intro v1 v6 hv1 hv6;exact Z2 (places := #[(0,1),(1,1),(2,1),(3,1),(4,1),(5,1),(6,1)]) underlying43 Ud (by intro w;simp [List.mapM_cons,Sem.run_bind,Sw.run_sizeOf ty3,Sw.run_sizeOf Io,Sw.run_sizeOf CG,Sw.run_sizeOf Mo,Sw.run_sizeOf ty9]) (by simp [fill,ZA,Zm hv1,Zm hv6]))
theorem Zh9:(∀ v0 v1:Vl,v0.oneCell'=true→v1.oneCell'=true→opV Pg (build 60 #[(0,v0),(1,v1)]) QP w k=k (.agg #[v0,v1,.slice none 0 0]) w):=(by intro v0 v1 hv0 hv1;exact Z2 (places := #[(0,1),(1,1),(2,1)]) underlying60 B6 (by intro w;simp [List.mapM_cons,Sem.run_bind,Sw.run_sizeOf Mp,Sw.run_sizeOf ty9]) (by simp [fill,ZA,Zm hv0,Zm hv1]))
theorem Zl8:(∀ v0 v1 v2:Vl,v0.oneCell'=true→v1.oneCell'=true→v2.oneCell'=true→opV Pg (build 60 #[(0,v0),(1,v1),(2,v2)]) QP w k=k (.agg #[v0,v1,v2]) w):=(by intro v0 v1 v2 hv0 hv1 hv2;exact Z2 (places := #[(0,1),(1,1),(2,1)]) underlying60 B6 (by intro w;simp [List.mapM_cons,Sem.run_bind,Sw.run_sizeOf Mp,Sw.run_sizeOf ty9]) (by simp [fill,ZA,Zm hv0,Zm hv1,Zm hv2]))
theorem Zl9:(opV Pg (build 74 #[]) QP w k=k (.agg #[.string ByteArray.empty,.slice none 0 0]) w):=(by exact Z2 (places := #[(0,1),(1,1)]) underlying74 qn (by intro w;simp [List.mapM_cons,Sem.run_bind,Sw.run_sizeOf OH,Sw.run_sizeOf ty9]) (by simp [fill,ZA]))
theorem Zma:(∀ v0 v1:Vl,v0.oneCell'=true→v1.oneCell'=true→opV Pg (build 74 #[(0,v0),(1,v1)]) QP w k=k (.agg #[v0,v1]) w):=(by intro v0 v1 hv0 hv1;exact Z2 (places := #[(0,1),(1,1)]) underlying74 qn (by intro w;simp [List.mapM_cons,Sem.run_bind,Sw.run_sizeOf OH,Sw.run_sizeOf ty9]) (by simp [fill,ZA,Zm hv0,Zm hv1]))
theorem Zia:(∀ v1:Vl,v1.oneCell'=true→opV Pg (build 74 #[(1,v1)]) QP w k=k (.agg #[.string ByteArray.empty,v1]) w):=(by intro v1 hv1;exact Z2 (places := #[(0,1),(1,1)]) underlying74 qn (by intro w;simp [List.mapM_cons,Sem.run_bind,Sw.run_sizeOf OH,Sw.run_sizeOf ty9]) (by simp [fill,ZA,Zm hv1]))
theorem Zmb:(∀ v0 v1 v2:Vl,v0.oneCell'=true→v1.oneCell'=true→v2.oneCell'=true→opV Pg (build 78 #[(0,v0),(1,v1),(2,v2)]) QP w k=k (.agg #[v0,v1,v2]) w):=(by intro v0 v1 v2 hv0 hv1 hv2;exact Z2 (places := #[(0,1),(1,1),(2,1)]) underlying78 Ft (by intro w;simp [List.mapM_cons,Sem.run_bind,Sw.run_sizeOf ty3]) (by simp [fill,ZA,Zm hv0,Zm hv1,Zm hv2]))
theorem Zmc:(∀ v0_0 v0_1 v1_0 v1_1 v1_2 v2_0 v2_1 v2_2 v3 v4:Vl,v3.oneCell'=true→v4.oneCell'=true→opV Pg (build 81 #[(0,(.agg #[v0_0,v0_1])),(1,(.agg #[v1_0,v1_1,v1_2])),(2,(.agg #[v2_0,v2_1,v2_2])),(3,v3),(4,v4)]) QP w k=k (.agg #[v0_0,v0_1,v1_0,v1_1,v1_2,v2_0,v2_1,v2_2,v3,v4]) w):=(by intro v0_0 v0_1 v1_0 v1_1 v1_2 v2_0 v2_1 v2_2 v3 v4 hv3 hv4;exact Z2 (places := #[(0,2),(2,3),(5,3),(8,1),(9,1)]) underlying81 Znc (by intro w;simp [List.mapM_cons,Sem.run_bind,Sw.run_sizeOf CE,Sw.run_sizeOf CF,Sw.run_sizeOf ty3]) (by simp [fill,ZA,Zm hv3,Zm hv4]))
theorem Zmd:(∀ v0 v1 v2:Vl,v0.oneCell'=true→v1.oneCell'=true→v2.oneCell'=true→opV Pg (build 82 #[(0,v0),(1,v1),(2,v2)]) QP w k=k (.agg #[v0,v1,v2]) w):=(by intro v0 v1 v2 hv0 hv1 hv2;exact Z2 (places := #[(0,1),(1,1),(2,1)]) underlying82 Znd (by intro w;simp [List.mapM_cons,Sem.run_bind,Sw.run_sizeOf ty3,Sw.run_sizeOf OG]) (by simp [fill,ZA,Zm hv0,Zm hv1,Zm hv2]))
theorem Zme:(opV Pg (build 105 #[]) QP w k=k (.agg #[.bool false,.bool false,.bool false,.bool false,.bool false]) w):=(by exact Z2 (places := #[(0,1),(1,1),(2,1),(3,1),(4,1)]) underlying105 U7 (by intro w;simp [List.mapM_cons,Sem.run_bind,Sw.run_sizeOf ty4]) (by simp [fill,ZA]))
theorem Zmf:(∀ v0:Vl,v0.oneCell'=true→opV Pg (build 105 #[(0,v0)]) QP w k=k (.agg #[v0,.bool false,.bool false,.bool false,.bool false]) w):=(by intro v0 hv0;exact Z2 (places := #[(0,1),(1,1),(2,1),(3,1),(4,1)]) underlying105 U7 (by intro w;simp [List.mapM_cons,Sem.run_bind,Sw.run_sizeOf ty4]) (by simp [fill,ZA,Zm hv0]))
theorem Zmg:(∀ v0 v1:Vl,v0.oneCell'=true→v1.oneCell'=true→opV Pg (build 105 #[(0,v0),(1,v1)]) QP w k=k (.agg #[v0,v1,.bool false,.bool false,.bool false]) w):=(by intro v0 v1 hv0 hv1;exact Z2 (places := #[(0,1),(1,1),(2,1),(3,1),(4,1)]) underlying105 U7 (by intro w;simp [List.mapM_cons,Sem.run_bind,Sw.run_sizeOf ty4]) (by simp [fill,ZA,Zm hv0,Zm hv1]))
theorem Zmh:(∀ v0 v4:Vl,v0.oneCell'=true→v4.oneCell'=true→opV Pg (build 105 #[(0,v0),(4,v4)]) QP w k=k (.agg #[v0,.bool false,.bool false,.bool false,v4]) w):=(by intro v0 v4 hv0 hv4;exact Z2 (places := #[(0,1),(1,1),(2,1),(3,1),(4,1)]) underlying105 U7 (by intro w;simp [List.mapM_cons,Sem.run_bind,Sw.run_sizeOf ty4]) (by simp [fill,ZA,Zm hv0,Zm hv4]))
theorem Zmi:(∀ v2:Vl,v2.oneCell'=true→opV Pg (build 105 #[(2,v2)]) QP w k=k (.agg #[.bool false,.bool false,v2,.bool false,.bool false]) w):=(by intro v2 hv2;exact Z2 (places := #[(0,1),(1,1),(2,1),(3,1),(4,1)]) underlying105 U7 (by intro w;simp [List.mapM_cons,Sem.run_bind,Sw.run_sizeOf ty4]) (by simp [fill,ZA,Zm hv2]))
theorem Zmj:(∀ v3:Vl,v3.oneCell'=true→opV Pg (build 105 #[(3,v3)]) QP w k=k (.agg #[.bool false,.bool false,.bool false,v3,.bool false]) w):=(by intro v3 hv3;exact Z2 (places := #[(0,1),(1,1),(2,1),(3,1),(4,1)]) underlying105 U7 (by intro w;simp [List.mapM_cons,Sem.run_bind,Sw.run_sizeOf ty4]) (by simp [fill,ZA,Zm hv3]))
theorem Zmk:(opV Pg (build 120 #[]) QP w k=k (.agg #[.int .i64 0,.slice none 0 0]) w):=(by exact Z2 (places := #[(0,1),(1,1)]) underlying120 GO (by intro w;simp [List.mapM_cons,Sem.run_bind,Sw.run_sizeOf B4,Sw.run_sizeOf ty3]) (by simp [fill,ZA]))
theorem Zml:(∀ v1:Vl,v1.oneCell'=true→opV Pg (build 120 #[(1,v1)]) QP w k=k (.agg #[.int .i64 0,v1]) w):=(by intro v1 hv1;exact Z2 (places := #[(0,1),(1,1)]) underlying120 GO (by intro w;simp [List.mapM_cons,Sem.run_bind,Sw.run_sizeOf B4,Sw.run_sizeOf ty3]) (by simp [fill,ZA,Zm hv1]))
theorem Zmm:(opV Pg (build 123 #[]) QP w k=k (.agg #[.string ByteArray.empty,.int .i64 0,.int .i64 0,.bool false,.bool false,.int .i64 0,.int .i64 0,.int .i64 0,.slice none 0 0,.string ByteArray.empty,.string ByteArray.empty,.string ByteArray.empty,.slice none 0 0,.int .i64 0,.int .i64 0]) w):=(by exact Z2 (places := #[(0,1),(1,1),(2,1),(3,1),(4,1),(5,1),(6,1),(7,2),(9,1),(10,1),(11,1),(12,1),(13,1),(14,1)]) underlying123 Ve (by intro w;simp [List.mapM_cons,Sem.run_bind,Sw.run_sizeOf GN,Sw.run_sizeOf GO,Sw.run_sizeOf jj,Sw.run_sizeOf ty3,Sw.run_sizeOf ty4,Sw.run_sizeOf ty9]) (by simp [fill,ZA]))
theorem Zmn:(∀ v0 v1:Vl,v0.oneCell'=true→v1.oneCell'=true→opV Pg (build 123 #[(0,v0),(1,v1)]) QP w k=k (.agg #[v0,v1,.int .i64 0,.bool false,.bool false,.int .i64 0,.int .i64 0,.int .i64 0,.slice none 0 0,.string ByteArray.empty,.string ByteArray.empty,.string ByteArray.empty,.slice none 0 0,.int .i64 0,.int .i64 0]) w):=(by intro v0 v1 hv0 hv1;exact Z2 (places := #[(0,1),(1,1),(2,1),(3,1),(4,1),(5,1),(6,1),(7,2),(9,1),(10,1),(11,1),(12,1),(13,1),(14,1)]) underlying123 Ve (by intro w;simp [List.mapM_cons,Sem.run_bind,Sw.run_sizeOf GN,Sw.run_sizeOf GO,Sw.run_sizeOf jj,Sw.run_sizeOf ty3,Sw.run_sizeOf ty4,Sw.run_sizeOf ty9]) (by simp [fill,ZA,Zm hv0,Zm hv1]))
theorem Zmo:(∀ v0 v1 v2 v6:Vl,v0.oneCell'=true→v1.oneCell'=true→v2.oneCell'=true→v6.oneCell'=true→opV Pg (build 123 #[(0,v0),(1,v1),(2,v2),(6,v6)]) QP w k=k (.agg #[v0,v1,v2,.bool false,.bool false,.int .i64 0,v6,.int .i64 0,.slice none 0 0,.string ByteArray.empty,.string ByteArray.empty,.string ByteArray.empty,.slice none 0 0,.int .i64 0,.int .i64 0]) w):=(by intro v0 v1 v2 v6 hv0 hv1 hv2 hv6;exact Z2 (places := #[(0,1),(1,1),(2,1),(3,1),(4,1),(5,1),(6,1),(7,2),(9,1),(10,1),(11,1),(12,1),(13,1),(14,1)]) underlying123 Ve (by intro w;simp [List.mapM_cons,Sem.run_bind,Sw.run_sizeOf GN,Sw.run_sizeOf GO,Sw.run_sizeOf jj,Sw.run_sizeOf ty3,Sw.run_sizeOf ty4,Sw.run_sizeOf ty9]) (by simp [fill,ZA,Zm hv0,Zm hv1,Zm hv2,Zm hv6]))
theorem Zmp:(∀ v0 v1 v7_0 v7_1:Vl,v0.oneCell'=true→v1.oneCell'=true→opV Pg (build 123 #[(0,v0),(1,v1),(7,(.agg #[v7_0,v7_1]))]) QP w k=k (.agg #[v0,v1,.int .i64 0,.bool false,.bool false,.int .i64 0,.int .i64 0,v7_0,v7_1,.string ByteArray.empty,.string ByteArray.empty,.string ByteArray.empty,.slice none 0 0,.int .i64 0,.int .i64 0]) w):=(by intro v0 v1 v7_0 v7_1 hv0 hv1;exact Z2 (places := #[(0,1),(1,1),(2,1),(3,1),(4,1),(5,1),(6,1),(7,2),(9,1),(10,1),(11,1),(12,1),(13,1),(14,1)]) underlying123 Ve (by intro w;simp [List.mapM_cons,Sem.run_bind,Sw.run_sizeOf GN,Sw.run_sizeOf GO,Sw.run_sizeOf jj,Sw.run_sizeOf ty3,Sw.run_sizeOf ty4,Sw.run_sizeOf ty9]) (by simp [fill,ZA,Zm hv0,Zm hv1]))
theorem Zmq:(∀ v0 v1:Vl,v0.oneCell'=true→v1.oneCell'=true→opV Pg (build 128 #[(0,v0),(1,v1)]) QP w k=k (.agg #[v0,v1]) w):=(by intro v0 v1 hv0 hv1;exact Z2 (places := #[(0,1),(1,1)]) underlying128 GP (by intro w;simp [List.mapM_cons,Sem.run_bind,Sw.run_sizeOf ty3,Sw.run_sizeOf ty9]) (by simp [fill,ZA,Zm hv0,Zm hv1]))
theorem Zmr:(opV Pg (build 131 #[]) QP w k=k (.agg #[.int .i64 0,.int .i64 0,.int .i64 0]) w):=(by exact Z2 (places := #[(0,1),(1,1),(2,1)]) underlying131 DO (by intro w;simp [List.mapM_cons,Sem.run_bind,Sw.run_sizeOf ZdB,Sw.run_sizeOf ty3]) (by simp [fill,ZA]))
theorem Zms:(∀ v0 v1 v2:Vl,v0.oneCell'=true→v1.oneCell'=true→v2.oneCell'=true→opV Pg (build 131 #[(0,v0),(1,v1),(2,v2)]) QP w k=k (.agg #[v0,v1,v2]) w):=(by intro v0 v1 v2 hv0 hv1 hv2;exact Z2 (places := #[(0,1),(1,1),(2,1)]) underlying131 DO (by intro w;simp [List.mapM_cons,Sem.run_bind,Sw.run_sizeOf ZdB,Sw.run_sizeOf ty3]) (by simp [fill,ZA,Zm hv0,Zm hv1,Zm hv2]))
theorem Zmt:(∀ v0_0 v0_1 v0_2 v1 v2 v3 v4:Vl,v1.oneCell'=true→v2.oneCell'=true→v3.oneCell'=true→v4.oneCell'=true→opV Pg (build 201 #[(0,(.agg #[v0_0,v0_1,v0_2])),(1,v1),(2,v2),(3,v3),(4,v4)]) QP w k=k (.agg #[v0_0,v0_1,v0_2,v1,v2,v3,v4,.string ByteArray.empty,.slice none 0 0]) w):=(by intro v0_0 v0_1 v0_2 v1 v2 v3 v4 hv1 hv2 hv3 hv4;exact Z2 (places := #[(0,3),(3,1),(4,1),(5,1),(6,1),(7,2)]) underlying201 Zil (by intro w;simp [List.mapM_cons,Sem.run_bind,Sw.run_sizeOf Ij,Sw.run_sizeOf B5,Sw.run_sizeOf CF,Sw.run_sizeOf ty3,Sw.run_sizeOf qn]) (by simp [fill,ZA,Zm hv1,Zm hv2,Zm hv3,Zm hv4]))
theorem Zmu:(∀ v0 v1:Vl,v0.oneCell'=true→v1.oneCell'=true→opV Pg (build 255 #[(0,v0),(1,v1)]) QP w k=k (.agg #[v0,v1]) w):=(by intro v0 v1 hv0 hv1;exact Z2 (places := #[(0,1),(1,1)]) underlying255 Im (by intro w;simp [List.mapM_cons,Sem.run_bind,Sw.run_sizeOf TM,Sw.run_sizeOf TN]) (by simp [fill,ZA,Zm hv0,Zm hv1]))
theorem Zmv:(∀ v0 v1 v2 v3 v4 v5 v6 v7 v8 v9 v10 v11 v12:Vl,v0.oneCell'=true→v1.oneCell'=true→v2.oneCell'=true→v3.oneCell'=true→v4.oneCell'=true→v5.oneCell'=true→v6.oneCell'=true→v7.oneCell'=true→v8.oneCell'=true→v9.oneCell'=true→v10.oneCell'=true→v11.oneCell'=true→v12.oneCell'=true→opV Pg (build 287 #[(0,v0),(1,v1),(2,v2),(3,v3),(4,v4),(5,v5),(6,v6),(7,v7),(8,v8),(9,v9),(10,v10),(11,v11),(12,v12)]) QP w k=k (.agg #[v0,v1,v2,v3,v4,v5,v6,v7,v8,v9,v10,v11,v12]) w):=(by intro v0 v1 v2 v3 v4 v5 v6 v7 v8 v9 v10 v11 v12 hv0 hv1 hv2 hv3 hv4 hv5 hv6 hv7 hv8 hv9 hv10 hv11 hv12;exact Z2 (places := #[(0,1),(1,1),(2,1),(3,1),(4,1),(5,1),(6,1),(7,1),(8,1),(9,1),(10,1),(11,1),(12,1)]) underlying287 Ni (by intro w;simp [List.mapM_cons,Sem.run_bind,Sw.run_sizeOf GN,Sw.run_sizeOf ty3,Sw.run_sizeOf ty4,Sw.run_sizeOf ty9]) (by simp [fill,ZA,Zm hv0,Zm hv1,Zm hv2,Zm hv3,Zm hv4,Zm hv5,Zm hv6,Zm hv7,Zm hv8,Zm hv9,Zm hv10,Zm hv11,Zm hv12]))
theorem Zmw:(opV Pg (build 300 #[]) QP w k=k (.agg #[.int .i64 0,.int .i64 0]) w):=(by exact Z2 (places := #[(0,1),(1,1)]) underlying300 Uu (by intro w;simp [List.mapM_cons,Sem.run_bind,Sw.run_sizeOf ty3]) (by simp [fill,ZA]))
theorem Zmx:(∀ v0 v1:Vl,v0.oneCell'=true→v1.oneCell'=true→opV Pg (build 300 #[(0,v0),(1,v1)]) QP w k=k (.agg #[v0,v1]) w):=(by intro v0 v1 hv0 hv1;exact Z2 (places := #[(0,1),(1,1)]) underlying300 Uu (by intro w;simp [List.mapM_cons,Sem.run_bind,Sw.run_sizeOf ty3]) (by simp [fill,ZA,Zm hv0,Zm hv1]))
theorem Zmy:(∀ v0_0 v0_1 v0_2:Vl,opV Pg (buildSlice 22 1 #[(0,(.agg #[v0_0,v0_1,v0_2]))]) QP w k=k (.slice (some ⟨w.heap.size,0,none⟩) 1 1) (w.alloc (.cells #[v0_0,v0_1,v0_2] 60))):=(by intro v0_0 v0_1 v0_2;exact Z7 underlying22 B6 (by decide) (base := #[.string ByteArray.empty,.string ByteArray.empty,.slice none 0 0]) (by kernel_rfl) (by simp [fill,ZA]))
theorem Zmz:(∀ v0_0 v0_1:Vl,opV Pg (buildSlice 25 1 #[(0,(.agg #[v0_0,v0_1]))]) QP w k=k (.slice (some ⟨w.heap.size,0,none⟩) 1 1) (w.alloc (.cells #[v0_0,v0_1] 74))):=(by intro v0_0 v0_1;exact Z7 underlying25 qn (by decide) (base := #[.string ByteArray.empty,.slice none 0 0]) (by kernel_rfl) (by simp [fill,ZA]))
theorem ZmA:(∀ v0:Vl,v0.oneCell'=true→opV Pg (buildSlice 40 1 #[(0,v0)]) QP w k=k (.slice (some ⟨w.heap.size,0,none⟩) 1 1) (w.alloc (.cells #[v0] 5))):=(by intro v0 hv0;exact Z7 underlying40 ty5 (by decide) (base := #[.int .u8 0]) (by kernel_rfl) (by simp [fill,ZA,Zm hv0]))
theorem ZmB:(∀ v0_0 v0_1 v0_2:Vl,opV Pg (buildSlice 41 1 #[(0,(.agg #[v0_0,v0_1,v0_2]))]) QP w k=k (.slice (some ⟨w.heap.size,0,none⟩) 1 1) (w.alloc (.cells #[v0_0,v0_1,v0_2] 78))):=(by intro v0_0 v0_1 v0_2;exact Z7 underlying41 Ft (by decide) (base := #[.int .i64 0,.int .i64 0,.int .i64 0]) (by kernel_rfl) (by simp [fill,ZA]))
theorem ZmC:(∀ v0_0 v0_1 v0_2 v0_3 v0_4 v0_5 v0_6:Vl,opV Pg (buildSlice 58 1 #[(0,(.agg #[v0_0,v0_1,v0_2,v0_3,v0_4,v0_5,v0_6]))]) QP w k=k (.slice (some ⟨w.heap.size,0,none⟩) 1 1) (w.alloc (.cells #[v0_0,v0_1,v0_2,v0_3,v0_4,v0_5,v0_6] 43))):=(by intro v0_0 v0_1 v0_2 v0_3 v0_4 v0_5 v0_6;exact Z7 underlying58 Ud (by decide) (base := #[.string ByteArray.empty,.int .i64 0,.string ByteArray.empty,.int .i64 0,.int .i64 0,.slice none 0 0,.slice none 0 0]) (by kernel_rfl) (by simp [fill,ZA]))
theorem ZmD:(∀ v0_0 v0_1 v0_2 v0_3 v0_4 v0_5 v0_6 v1_0 v1_1 v1_2 v1_3 v1_4 v1_5 v1_6:Vl,opV Pg (buildSlice 58 2 #[(0,(.agg #[v0_0,v0_1,v0_2,v0_3,v0_4,v0_5,v0_6])),(1,(.agg #[v1_0,v1_1,v1_2,v1_3,v1_4,v1_5,v1_6]))]) QP w k=k (.slice (some ⟨w.heap.size,0,none⟩) 2 2) (w.alloc (.cells #[v0_0,v0_1,v0_2,v0_3,v0_4,v0_5,v0_6,v1_0,v1_1,v1_2,v1_3,v1_4,v1_5,v1_6] 43))):=(by intro v0_0 v0_1 v0_2 v0_3 v0_4 v0_5 v0_6 v1_0 v1_1 v1_2 v1_3 v1_4 v1_5 v1_6;exact Z7 underlying58 Ud (by decide) (base := #[.string ByteArray.empty,.int .i64 0,.string ByteArray.empty,.int .i64 0,.int .i64 0,.slice none 0 0,.slice none 0 0,.string ByteArray.empty,.int .i64 0,.string ByteArray.empty,.int .i64 0,.int .i64 0,.slice none 0 0,.slice none 0 0]) (by kernel_rfl) (by simp [fill,ZA]))
theorem ZmE:(∀ v0:Vl,v0.oneCell'=true→opV Pg (buildSlice 61 1 #[(0,v0)]) QP w k=k (.slice (some ⟨w.heap.size,0,none⟩) 1 1) (w.alloc (.cells #[v0] 3))):=(by intro v0 hv0;exact Z7 underlying61 ty3 (by decide) (base := #[.int .i64 0]) (by kernel_rfl) (by simp [fill,ZA,Zm hv0]))
theorem ZmF:(∀ v0 v1:Vl,v0.oneCell'=true→v1.oneCell'=true→opV Pg (buildSlice 61 2 #[(0,v0),(1,v1)]) QP w k=k (.slice (some ⟨w.heap.size,0,none⟩) 2 2) (w.alloc (.cells #[v0,v1] 3))):=(by intro v0 v1 hv0 hv1;exact Z7 underlying61 ty3 (by decide) (base := #[.int .i64 0,.int .i64 0]) (by kernel_rfl) (by simp [fill,ZA,Zm hv0,Zm hv1]))
theorem ZmG:(∀ v0_0 v0_1 v0_2 v0_3 v0_4 v0_5 v0_6 v0_7 v0_8 v0_9 v0_10 v0_11 v0_12 v0_13 v0_14:Vl,opV Pg (buildSlice 72 1 #[(0,(.agg #[v0_0,v0_1,v0_2,v0_3,v0_4,v0_5,v0_6,v0_7,v0_8,v0_9,v0_10,v0_11,v0_12,v0_13,v0_14]))]) QP w k=k (.slice (some ⟨w.heap.size,0,none⟩) 1 1) (w.alloc (.cells #[v0_0,v0_1,v0_2,v0_3,v0_4,v0_5,v0_6,v0_7,v0_8,v0_9,v0_10,v0_11,v0_12,v0_13,v0_14] 123))):=(by intro v0_0 v0_1 v0_2 v0_3 v0_4 v0_5 v0_6 v0_7 v0_8 v0_9 v0_10 v0_11 v0_12 v0_13 v0_14;exact Z7 underlying72 Ve (by decide) (base := #[.string ByteArray.empty,.int .i64 0,.int .i64 0,.bool false,.bool false,.int .i64 0,.int .i64 0,.int .i64 0,.slice none 0 0,.string ByteArray.empty,.string ByteArray.empty,.string ByteArray.empty,.slice none 0 0,.int .i64 0,.int .i64 0]) (by kernel_rfl) (by simp [fill,ZA]))
theorem ZmH:(∀ v0_0 v0_1 v0_2 v0_3 v0_4 v0_5 v0_6 v0_7 v0_8 v0_9 v0_10 v0_11 v0_12 v0_13 v0_14 v1_0 v1_1 v1_2 v1_3 v1_4 v1_5 v1_6 v1_7 v1_8 v1_9 v1_10 v1_11 v1_12 v1_13 v1_14:Vl,opV Pg (buildSlice 72 2 #[(0,(.agg #[v0_0,v0_1,v0_2,v0_3,v0_4,v0_5,v0_6,v0_7,v0_8,v0_9,v0_10,v0_11,v0_12,v0_13,v0_14])),(1,(.agg #[v1_0,v1_1,v1_2,v1_3,v1_4,v1_5,v1_6,v1_7,v1_8,v1_9,v1_10,v1_11,v1_12,v1_13,v1_14]))]) QP w k=k (.slice (some ⟨w.heap.size,0,none⟩) 2 2) (w.alloc (.cells #[v0_0,v0_1,v0_2,v0_3,v0_4,v0_5,v0_6,v0_7,v0_8,v0_9,v0_10,v0_11,v0_12,v0_13,v0_14,v1_0,v1_1,v1_2,v1_3,v1_4,v1_5,v1_6,v1_7,v1_8,v1_9,v1_10,v1_11,v1_12,v1_13,v1_14] 123))):=(by intro v0_0 v0_1 v0_2 v0_3 v0_4 v0_5 v0_6 v0_7 v0_8 v0_9 v0_10 v0_11 v0_12 v0_13 v0_14 v1_0 v1_1 v1_2 v1_3 v1_4 v1_5 v1_6 v1_7 v1_8 v1_9 v1_10 v1_11 v1_12 v1_13 v1_14;exact Z7 underlying72 Ve (by decide) (base := #[.string ByteArray.empty,.int .i64 0,.int .i64 0,.bool false,.bool false,.int .i64 0,.int .i64 0,.int .i64 0,.slice none 0 0,.string ByteArray.empty,.string ByteArray.empty,.string ByteArray.empty,.slice none 0 0,.int .i64 0,.int .i64 0,.string ByteArray.empty,.int .i64 0,.int .i64 0,.bool false,.bool false,.int .i64 0,.int .i64 0,.int .i64 0,.slice none 0 0,.string ByteArray.empty,.string ByteArray.empty,.string ByteArray.empty,.slice none 0 0,.int .i64 0,.int .i64 0]) (by kernel_rfl) (by simp [fill,ZA]))
theorem ZmI:(∀ v0:Vl,v0.oneCell'=true→opV Pg (buildSlice 94 1 #[(0,v0)]) QP w k=k (.slice (some ⟨w.heap.size,0,none⟩) 1 1) (w.alloc (.cells #[v0] 9))):=(by intro v0 hv0;exact Z7 underlying94 ty9 (by decide) (base := #[.string ByteArray.empty]) (by kernel_rfl) (by simp [fill,ZA,Zm hv0]))
theorem ZmJ:(∀ v0 v1:Vl,v0.oneCell'=true→v1.oneCell'=true→opV Pg (buildSlice 94 2 #[(0,v0),(1,v1)]) QP w k=k (.slice (some ⟨w.heap.size,0,none⟩) 2 2) (w.alloc (.cells #[v0,v1] 9))):=(by intro v0 v1 hv0 hv1;exact Z7 underlying94 ty9 (by decide) (base := #[.string ByteArray.empty,.string ByteArray.empty]) (by kernel_rfl) (by simp [fill,ZA,Zm hv0,Zm hv1]))
theorem ZmK:(∀ v0 v1 v2:Vl,v0.oneCell'=true→v1.oneCell'=true→v2.oneCell'=true→opV Pg (buildSlice 94 3 #[(0,v0),(1,v1),(2,v2)]) QP w k=k (.slice (some ⟨w.heap.size,0,none⟩) 3 3) (w.alloc (.cells #[v0,v1,v2] 9))):=(by intro v0 v1 v2 hv0 hv1 hv2;exact Z7 underlying94 ty9 (by decide) (base := #[.string ByteArray.empty,.string ByteArray.empty,.string ByteArray.empty]) (by kernel_rfl) (by simp [fill,ZA,Zm hv0,Zm hv1,Zm hv2]))
theorem ZmL:(∀ v0 v1 v2 v3:Vl,v0.oneCell'=true→v1.oneCell'=true→v2.oneCell'=true→v3.oneCell'=true→opV Pg (buildSlice 94 4 #[(0,v0),(1,v1),(2,v2),(3,v3)]) QP w k=k (.slice (some ⟨w.heap.size,0,none⟩) 4 4) (w.alloc (.cells #[v0,v1,v2,v3] 9))):=(by intro v0 v1 v2 v3 hv0 hv1 hv2 hv3;exact Z7 underlying94 ty9 (by decide) (base := #[.string ByteArray.empty,.string ByteArray.empty,.string ByteArray.empty,.string ByteArray.empty]) (by kernel_rfl) (by simp [fill,ZA,Zm hv0,Zm hv1,Zm hv2,Zm hv3]))
theorem ZmM:(∀ v0 v1 v2 v3 v4 v5 v6 v7 v8 v9 v10 v11 v12:Vl,v0.oneCell'=true→v1.oneCell'=true→v2.oneCell'=true→v3.oneCell'=true→v4.oneCell'=true→v5.oneCell'=true→v6.oneCell'=true→v7.oneCell'=true→v8.oneCell'=true→v9.oneCell'=true→v10.oneCell'=true→v11.oneCell'=true→v12.oneCell'=true→opV Pg (buildSlice 94 13 #[(0,v0),(1,v1),(2,v2),(3,v3),(4,v4),(5,v5),(6,v6),(7,v7),(8,v8),(9,v9),(10,v10),(11,v11),(12,v12)]) QP w k=k (.slice (some ⟨w.heap.size,0,none⟩) 13 13) (w.alloc (.cells #[v0,v1,v2,v3,v4,v5,v6,v7,v8,v9,v10,v11,v12] 9))):=(by intro v0 v1 v2 v3 v4 v5 v6 v7 v8 v9 v10 v11 v12 hv0 hv1 hv2 hv3 hv4 hv5 hv6 hv7 hv8 hv9 hv10 hv11 hv12;exact Z7 underlying94 ty9 (by decide) (base := #[.string ByteArray.empty,.string ByteArray.empty,.string ByteArray.empty,.string ByteArray.empty,.string ByteArray.empty,.string ByteArray.empty,.string ByteArray.empty,.string ByteArray.empty,.string ByteArray.empty,.string ByteArray.empty,.string ByteArray.empty,.string ByteArray.empty,.string ByteArray.empty]) (by kernel_rfl) (by simp [fill,ZA,Zm hv0,Zm hv1,Zm hv2,Zm hv3,Zm hv4,Zm hv5,Zm hv6,Zm hv7,Zm hv8,Zm hv9,Zm hv10,Zm hv11,Zm hv12]))
theorem ZmN:(opV Pg (buildSlice 118 0 #[]) QP w k=k (.slice (some ⟨w.heap.size,0,none⟩) 0 0) (w.alloc (.cells #[] 128))):=(by exact Z7 underlying118 GP (by decide) (base := #[]) (by kernel_rfl) (by simp [fill,ZA]))
theorem ZmO:(∀ v0_0 v0_1:Vl,opV Pg (buildSlice 118 1 #[(0,(.agg #[v0_0,v0_1]))]) QP w k=k (.slice (some ⟨w.heap.size,0,none⟩) 1 1) (w.alloc (.cells #[v0_0,v0_1] 128))):=(by intro v0_0 v0_1;exact Z7 underlying118 GP (by decide) (base := #[.string ByteArray.empty,.int .i64 0]) (by kernel_rfl) (by simp [fill,ZA]))
theorem ZmP:(∀ v0 v1:Vl,v0.oneCell'=true→v1.oneCell'=true→opV Pg (buildSlice 170 2 #[(0,v0),(1,v1)]) QP w k=k (.slice (some ⟨w.heap.size,0,none⟩) 2 2) (w.alloc (.cells #[v0,v1] 4))):=(by intro v0 v1 hv0 hv1;exact Z7 underlying170 ty4 (by decide) (base := #[.bool false,.bool false]) (by kernel_rfl) (by simp [fill,ZA,Zm hv0,Zm hv1]))
theorem ZmQ:(∀ v0 v1 v2:Vl,v0.oneCell'=true→v1.oneCell'=true→v2.oneCell'=true→opV Pg (buildSlice 170 3 #[(0,v0),(1,v1),(2,v2)]) QP w k=k (.slice (some ⟨w.heap.size,0,none⟩) 3 3) (w.alloc (.cells #[v0,v1,v2] 4))):=(by intro v0 v1 v2 hv0 hv1 hv2;exact Z7 underlying170 ty4 (by decide) (base := #[.bool false,.bool false,.bool false]) (by kernel_rfl) (by simp [fill,ZA,Zm hv0,Zm hv1,Zm hv2]))
theorem ZmR:(∀ q n,opV Pg (Go.convert 3 5 (.int q n)) QP w k=k (.int .u8 (IntKind.u8.wrap n)) w):=(WT (by rw [underlying3];rfl) underlying5)
theorem ZmS:(∀ q n,opV Pg (Go.convert 3 191 (.int q n)) QP w k=k (.int .u64 (IntKind.u64.wrap n)) w):=(WT (by rw [underlying3];rfl) underlying191)
theorem ZmT:(∀ q n,opV Pg (Go.convert 3 197 (.int q n)) QP w k=k (.int .u64 (IntKind.u64.wrap n)) w):=(WT (by rw [underlying3];rfl) underlying197)
theorem ZmU:(∀ q n,opV Pg (Go.convert 5 3 (.int q n)) QP w k=k (.int .i64 (IntKind.i64.wrap n)) w):=(WT (by rw [underlying5];rfl) underlying3)
theorem ZmV:(∀ q n,opV Pg (Go.convert 5 191 (.int q n)) QP w k=k (.int .u64 (IntKind.u64.wrap n)) w):=(WT (by rw [underlying5];rfl) underlying191)
theorem ZmW:(∀ q n,opV Pg (Go.convert 191 5 (.int q n)) QP w k=k (.int .u8 (IntKind.u8.wrap n)) w):=(WT (by rw [underlying191];rfl) underlying5)
theorem ZmX:(∀ v,opV Pg (makeInterface 82 v) QP w k=k (.iface 82 v) w):=(Bz underlying82 rfl)
theorem ZmY:(∀ v,opV Pg (makeInterface 131 v) QP w k=k (.iface 131 v) w):=(Bz underlying131 rfl)
theorem ZmZ:(∀ v,opV Pg (makeInterface 239 v) QP w k=k (.iface 239 v) w):=(Bz underlying239 rfl)
theorem Zm0:(∀ c (a0 b0:Int) (a1 b1:Int) (a2 b2:Int),opV Pg (ZF .neq 34 c (.agg #[.int .i64 a0,.int .i64 a1,.int .i64 a2]) (.agg #[.int .i64 b0,.int .i64 b1,.int .i64 b2])) QP w k=k (.bool (!(decide (a0=b0)&&(decide (a1=b1)&&(decide (a2=b2)&&true))))) w):=(by intro c a0 b0 a1 b1 a2 b2;exact yJ (by kernel_rfl) (λ w=>ZjJ a0 b0 a1 b1 a2 b2) c)
theorem Zm1:(∀ c (a0 b0:Int) (a1 b1:Int) (a2 b2:Int),opV Pg (ZF .neq 78 c (.agg #[.int .i64 a0,.int .i64 a1,.int .i64 a2]) (.agg #[.int .i64 b0,.int .i64 b1,.int .i64 b2])) QP w k=k (.bool (!(decide (a0=b0)&&(decide (a1=b1)&&(decide (a2=b2)&&true))))) w):=(by intro c a0 b0 a1 b1 a2 b2;exact yJ (by kernel_rfl) (λ w=>ZjK a0 b0 a1 b1 a2 b2) c)
theorem Zm2:(∀ c A n m,opV Pg (ZF .eql 118 c (.slice A n m) (.slice none 0 0)) QP w k=k (.bool A.isNone) w):=(Od underlying118)
theorem Zm3:(∀ c (a0 b0:BAr) (a1 b1:Int),opV Pg (ZF .neq 128 c (.agg #[.string a0,.int .i64 a1]) (.agg #[.string b0,.int .i64 b1])) QP w k=k (.bool (!(decide (a0=b0)&&(decide (a1=b1)&&true)))) w):=(by intro c a0 b0 a1 b1;exact yJ (by kernel_rfl) (λ w=>Zfl a0 b0 a1 b1) c)
theorem Zm4:(∀ d v,opV Pg (ZF .neq 162 true (.iface d v) .nilIface) QP w k=k (.bool true) w):=(VY underlying162)
theorem Zm5:(opV Pg (ZF .neq 162 true .nilIface .nilIface) QP w k=k (.bool false) w):=(VX underlying162)
theorem Zm6:(∀ c (a0 b0:Int) (a1 b1:Int) (a2 b2:BAr),opV Pg (ZF .neq 213 c (.agg #[.int .i64 a0,.int .i64 a1,.string a2]) (.agg #[.int .i64 b0,.int .i64 b1,.string b2])) QP w k=k (.bool (!(decide (a0=b0)&&(decide (a1=b1)&&(decide (a2=b2)&&true))))) w):=(by intro c a0 b0 a1 b1 a2 b2;exact yJ (by kernel_rfl) (λ w=>Zfm a0 b0 a1 b1 a2 b2) c)
theorem Zm7:(∀ c (a0 b0:BAr) (a1 b1:BAr) (a2 b2:BAr) (a3 b3:BAr) (a4 b4:Int) (a5 b5:Int) (a6 b6:Int) (a7 b7:Int) (a8 b8:Int) (a9 b9:Int) (a10 b10:Int) (a11 b11:Bool) (a12 b12:Bool),opV Pg (ZF .eql 287 c (.agg #[.string a0,.string a1,.string a2,.string a3,.int .i64 a4,.int .i64 a5,.int .i64 a6,.int .i64 a7,.int .i64 a8,.int .i64 a9,.int .i64 a10,.bool a11,.bool a12]) (.agg #[.string b0,.string b1,.string b2,.string b3,.int .i64 b4,.int .i64 b5,.int .i64 b6,.int .i64 b7,.int .i64 b8,.int .i64 b9,.int .i64 b10,.bool b11,.bool b12])) QP w k=k (.bool (decide (a0=b0)&&(decide (a1=b1)&&(decide (a2=b2)&&(decide (a3=b3)&&(decide (a4=b4)&&(decide (a5=b5)&&(decide (a6=b6)&&(decide (a7=b7)&&(decide (a8=b8)&&(decide (a9=b9)&&(decide (a10=b10)&&(decide (a11=b11)&&(decide (a12=b12)&&true)))))))))))))) w):=(by intro c a0 b0 a1 b1 a2 b2 a3 b3 a4 b4 a5 b5 a6 b6 a7 b7 a8 b8 a9 b9 a10 b10 a11 b11 a12 b12;exact SV (by kernel_rfl) (λ w=>Zfn a0 b0 a1 b1 a2 b2 a3 b3 a4 b4 a5 b5 a6 b6 a7 b7 a8 b8 a9 b9 a10 b10 a11 b11 a12 b12) c)
end
theorem Yp {P:Program} {C:WPr} [Yv C] {k:Vl→Prop} {s:Nat→Nat→Sem Vl} {v:Nat→Nat→Vl} (h:∀ QP w k b o,opV P (s b o) QP w k=k (v b o) w) (b o:Nat):qV P C (s b o) k=k (v b o):=Ym λ QP w k=>h QP w k b o
def Ziv {QP:PEn} {w:Wd} {ku:WPr}:=And.intro (Xf (QP:=QP) (w:=w) (ku:=ku) ty3)<|And.intro (Xf (QP:=QP) (w:=w) (ku:=ku) ty4)<|And.intro (Xf (QP:=QP) (w:=w) (ku:=ku) ty5)<|And.intro (Xf (QP:=QP) (w:=w) (ku:=ku) ty9)<|And.intro (Xf (QP:=QP) (w:=w) (ku:=ku) Il)<|And.intro (Xf (QP:=QP) (w:=w) (ku:=ku) Io)<|And.intro (Xf (QP:=QP) (w:=w) (ku:=ku) CG)<|And.intro (Xf (QP:=QP) (w:=w) (ku:=ku) Mo)<|And.intro ((by intro b T' u0 u1 u2 u3 u4 u5 u6 v0 v1 v2 v3 v4 v5 v6 hb h0 h1 h2 h3 h4 h5 h6;exact qc Ud b hb _ T' _ rfl rfl (by intro v hv;simp only [List.mem_cons,List.not_mem_nil,or_false] at hv;rcases hv with rfl | rfl | rfl | rfl | rfl | rfl | rfl<;>assumption)):(∀ (b:Nat) (T':TypeId) u0 u1 u2 u3 u4 u5 u6 v0 v1 v2 v3 v4 v5 v6,b=w.heap.size→v0.oneCell'=true→v1.oneCell'=true→v2.oneCell'=true→v3.oneCell'=true→v4.oneCell'=true→v5.oneCell'=true→v6.oneCell'=true→opU Pg (storeAt 43 (.pointer (some ⟨b,0,none⟩)) (.agg #[v0,v1,v2,v3,v4,v5,v6])) QP (w.alloc (.cells #[u0,u1,u2,u3,u4,u5,u6] T')) ku=ku (w.alloc (.cells #[v0,v1,v2,v3,v4,v5,v6] T'))))<|And.intro (Xf (QP:=QP) (w:=w) (ku:=ku) ZeD)<|And.intro (Xf (QP:=QP) (w:=w) (ku:=ku) Mp)<|And.intro (Xf (QP:=QP) (w:=w) (ku:=ku) ZeE)<|And.intro (Xf (QP:=QP) (w:=w) (ku:=ku) Zbr)<|And.intro (Xf (QP:=QP) (w:=w) (ku:=ku) B4)<|And.intro (Xf (QP:=QP) (w:=w) (ku:=ku) jj)<|And.intro ((by intro b T' u0 u1 u2 u3 u4 u5 u6 u7 u8 u9 u10 u11 u12 u13 u14 v0 v1 v2 v3 v4 v5 v6 v7 v8 v9 v10 v11 v12 v13 v14 hb h0 h1 h2 h3 h4 h5 h6 h7 h8 h9 h10 h11 h12 h13 h14;exact qc Ve b hb _ T' _ rfl rfl (by intro v hv;simp only [List.mem_cons,List.not_mem_nil,or_false] at hv;rcases hv with rfl | rfl | rfl | rfl | rfl | rfl | rfl | rfl | rfl | rfl | rfl | rfl | rfl | rfl | rfl<;>assumption)):(∀ (b:Nat) (T':TypeId) u0 u1 u2 u3 u4 u5 u6 u7 u8 u9 u10 u11 u12 u13 u14 v0 v1 v2 v3 v4 v5 v6 v7 v8 v9 v10 v11 v12 v13 v14,b=w.heap.size→v0.oneCell'=true→v1.oneCell'=true→v2.oneCell'=true→v3.oneCell'=true→v4.oneCell'=true→v5.oneCell'=true→v6.oneCell'=true→v7.oneCell'=true→v8.oneCell'=true→v9.oneCell'=true→v10.oneCell'=true→v11.oneCell'=true→v12.oneCell'=true→v13.oneCell'=true→v14.oneCell'=true→opU Pg (storeAt 123 (.pointer (some ⟨b,0,none⟩)) (.agg #[v0,v1,v2,v3,v4,v5,v6,v7,v8,v9,v10,v11,v12,v13,v14])) QP (w.alloc (.cells #[u0,u1,u2,u3,u4,u5,u6,u7,u8,u9,u10,u11,u12,u13,u14] T')) ku=ku (w.alloc (.cells #[v0,v1,v2,v3,v4,v5,v6,v7,v8,v9,v10,v11,v12,v13,v14] T'))))<|And.intro (Xf (QP:=QP) (w:=w) (ku:=ku) B5)<|And.intro ((by intro b T' u0 u1 u2 u3 u4 u5 u6 u7 u8 u9 u10 u11 u12 v0 v1 v2 v3 v4 v5 v6 v7 v8 v9 v10 v11 v12 hb h0 h1 h2 h3 h4 h5 h6 h7 h8 h9 h10 h11 h12;exact qc Ni b hb _ T' _ rfl rfl (by intro v hv;simp only [List.mem_cons,List.not_mem_nil,or_false] at hv;rcases hv with rfl | rfl | rfl | rfl | rfl | rfl | rfl | rfl | rfl | rfl | rfl | rfl | rfl<;>assumption)):(∀ (b:Nat) (T':TypeId) u0 u1 u2 u3 u4 u5 u6 u7 u8 u9 u10 u11 u12 v0 v1 v2 v3 v4 v5 v6 v7 v8 v9 v10 v11 v12,b=w.heap.size→v0.oneCell'=true→v1.oneCell'=true→v2.oneCell'=true→v3.oneCell'=true→v4.oneCell'=true→v5.oneCell'=true→v6.oneCell'=true→v7.oneCell'=true→v8.oneCell'=true→v9.oneCell'=true→v10.oneCell'=true→v11.oneCell'=true→v12.oneCell'=true→opU Pg (storeAt 287 (.pointer (some ⟨b,0,none⟩)) (.agg #[v0,v1,v2,v3,v4,v5,v6,v7,v8,v9,v10,v11,v12])) QP (w.alloc (.cells #[u0,u1,u2,u3,u4,u5,u6,u7,u8,u9,u10,u11,u12] T')) ku=ku (w.alloc (.cells #[v0,v1,v2,v3,v4,v5,v6,v7,v8,v9,v10,v11,v12] T'))))<|(Xf (QP:=QP) (w:=w) (ku:=ku) TO)
def Zio {QP:PEn} {w:Wd} {ku:WPr}:=And.intro ((by intro b o v0 v1 h0 h1;exact Xr CE b o _ rfl (by intro v hv;simp only [List.mem_cons,List.not_mem_nil,or_false] at hv;rcases hv with rfl | rfl<;>assumption) _ rfl _ rfl):(∀ b o v0 v1,v0.oneCell'=true→v1.oneCell'=true→opU Pg (storeAt 24 (.pointer (some ⟨b,o,none⟩)) (.agg #[v0,v1])) QP w ku=ZN [w.cell? ⟨b,o,none⟩,w.cell? ⟨b,o+1,none⟩] (λ _=>XK [w.frozen? ⟨b,o,none⟩,w.frozen? ⟨b,o+1,none⟩] (ku ((w.setCell ⟨b,o,none⟩ v0).setCell ⟨b,o+1,none⟩ v1)) (QS Pg (storeAt 24 (.pointer (some ⟨b,o,none⟩)) (.agg #[v0,v1])) QP w ku)) (QS Pg (storeAt 24 (.pointer (some ⟨b,o,none⟩)) (.agg #[v0,v1])) QP w ku)))<|And.intro ((by intro b o v0 v1 v2 h0 h1 h2;exact Xr CF b o _ rfl (by intro v hv;simp only [List.mem_cons,List.not_mem_nil,or_false] at hv;rcases hv with rfl | rfl | rfl<;>assumption) _ rfl _ rfl):(∀ b o v0 v1 v2,v0.oneCell'=true→v1.oneCell'=true→v2.oneCell'=true→opU Pg (storeAt 27 (.pointer (some ⟨b,o,none⟩)) (.agg #[v0,v1,v2])) QP w ku=ZN [w.cell? ⟨b,o,none⟩,w.cell? ⟨b,o+1,none⟩,w.cell? ⟨b,o+2,none⟩] (λ _=>XK [w.frozen? ⟨b,o,none⟩,w.frozen? ⟨b,o+1,none⟩,w.frozen? ⟨b,o+2,none⟩] (ku (((w.setCell ⟨b,o,none⟩ v0).setCell ⟨b,o+1,none⟩ v1).setCell ⟨b,o+2,none⟩ v2)) (QS Pg (storeAt 27 (.pointer (some ⟨b,o,none⟩)) (.agg #[v0,v1,v2])) QP w ku)) (QS Pg (storeAt 27 (.pointer (some ⟨b,o,none⟩)) (.agg #[v0,v1,v2])) QP w ku)))<|And.intro ((by intro b o v0 v1 v2 h0 h1 h2;exact Xr Mn b o _ rfl (by intro v hv;simp only [List.mem_cons,List.not_mem_nil,or_false] at hv;rcases hv with rfl | rfl | rfl<;>assumption) _ rfl _ rfl):(∀ b o v0 v1 v2,v0.oneCell'=true→v1.oneCell'=true→v2.oneCell'=true→opU Pg (storeAt 34 (.pointer (some ⟨b,o,none⟩)) (.agg #[v0,v1,v2])) QP w ku=ZN [w.cell? ⟨b,o,none⟩,w.cell? ⟨b,o+1,none⟩,w.cell? ⟨b,o+2,none⟩] (λ _=>XK [w.frozen? ⟨b,o,none⟩,w.frozen? ⟨b,o+1,none⟩,w.frozen? ⟨b,o+2,none⟩] (ku (((w.setCell ⟨b,o,none⟩ v0).setCell ⟨b,o+1,none⟩ v1).setCell ⟨b,o+2,none⟩ v2)) (QS Pg (storeAt 34 (.pointer (some ⟨b,o,none⟩)) (.agg #[v0,v1,v2])) QP w ku)) (QS Pg (storeAt 34 (.pointer (some ⟨b,o,none⟩)) (.agg #[v0,v1,v2])) QP w ku)))<|And.intro ((by intro b o v0 v1 v2 h0 h1 h2;exact Xr B6 b o _ rfl (by intro v hv;simp only [List.mem_cons,List.not_mem_nil,or_false] at hv;rcases hv with rfl | rfl | rfl<;>assumption) _ rfl _ rfl):(∀ b o v0 v1 v2,v0.oneCell'=true→v1.oneCell'=true→v2.oneCell'=true→opU Pg (storeAt 60 (.pointer (some ⟨b,o,none⟩)) (.agg #[v0,v1,v2])) QP w ku=ZN [w.cell? ⟨b,o,none⟩,w.cell? ⟨b,o+1,none⟩,w.cell? ⟨b,o+2,none⟩] (λ _=>XK [w.frozen? ⟨b,o,none⟩,w.frozen? ⟨b,o+1,none⟩,w.frozen? ⟨b,o+2,none⟩] (ku (((w.setCell ⟨b,o,none⟩ v0).setCell ⟨b,o+1,none⟩ v1).setCell ⟨b,o+2,none⟩ v2)) (QS Pg (storeAt 60 (.pointer (some ⟨b,o,none⟩)) (.agg #[v0,v1,v2])) QP w ku)) (QS Pg (storeAt 60 (.pointer (some ⟨b,o,none⟩)) (.agg #[v0,v1,v2])) QP w ku)))<|And.intro ((by intro b o v0 v1 h0 h1;exact Xr qn b o _ rfl (by intro v hv;simp only [List.mem_cons,List.not_mem_nil,or_false] at hv;rcases hv with rfl | rfl<;>assumption) _ rfl _ rfl):(∀ b o v0 v1,v0.oneCell'=true→v1.oneCell'=true→opU Pg (storeAt 74 (.pointer (some ⟨b,o,none⟩)) (.agg #[v0,v1])) QP w ku=ZN [w.cell? ⟨b,o,none⟩,w.cell? ⟨b,o+1,none⟩] (λ _=>XK [w.frozen? ⟨b,o,none⟩,w.frozen? ⟨b,o+1,none⟩] (ku ((w.setCell ⟨b,o,none⟩ v0).setCell ⟨b,o+1,none⟩ v1)) (QS Pg (storeAt 74 (.pointer (some ⟨b,o,none⟩)) (.agg #[v0,v1])) QP w ku)) (QS Pg (storeAt 74 (.pointer (some ⟨b,o,none⟩)) (.agg #[v0,v1])) QP w ku)))<|And.intro ((by intro b o v0 v1 v2 h0 h1 h2;exact Xr Ft b o _ rfl (by intro v hv;simp only [List.mem_cons,List.not_mem_nil,or_false] at hv;rcases hv with rfl | rfl | rfl<;>assumption) _ rfl _ rfl):(∀ b o v0 v1 v2,v0.oneCell'=true→v1.oneCell'=true→v2.oneCell'=true→opU Pg (storeAt 78 (.pointer (some ⟨b,o,none⟩)) (.agg #[v0,v1,v2])) QP w ku=ZN [w.cell? ⟨b,o,none⟩,w.cell? ⟨b,o+1,none⟩,w.cell? ⟨b,o+2,none⟩] (λ _=>XK [w.frozen? ⟨b,o,none⟩,w.frozen? ⟨b,o+1,none⟩,w.frozen? ⟨b,o+2,none⟩] (ku (((w.setCell ⟨b,o,none⟩ v0).setCell ⟨b,o+1,none⟩ v1).setCell ⟨b,o+2,none⟩ v2)) (QS Pg (storeAt 78 (.pointer (some ⟨b,o,none⟩)) (.agg #[v0,v1,v2])) QP w ku)) (QS Pg (storeAt 78 (.pointer (some ⟨b,o,none⟩)) (.agg #[v0,v1,v2])) QP w ku)))<|And.intro ((by intro b o v0 v1 v2 v3 v4 h0 h1 h2 h3 h4;exact Xr U7 b o _ rfl (by intro v hv;simp only [List.mem_cons,List.not_mem_nil,or_false] at hv;rcases hv with rfl | rfl | rfl | rfl | rfl<;>assumption) _ rfl _ rfl):(∀ b o v0 v1 v2 v3 v4,v0.oneCell'=true→v1.oneCell'=true→v2.oneCell'=true→v3.oneCell'=true→v4.oneCell'=true→opU Pg (storeAt 105 (.pointer (some ⟨b,o,none⟩)) (.agg #[v0,v1,v2,v3,v4])) QP w ku=ZN [w.cell? ⟨b,o,none⟩,w.cell? ⟨b,o+1,none⟩,w.cell? ⟨b,o+2,none⟩,w.cell? ⟨b,o+3,none⟩,w.cell? ⟨b,o+4,none⟩] (λ _=>XK [w.frozen? ⟨b,o,none⟩,w.frozen? ⟨b,o+1,none⟩,w.frozen? ⟨b,o+2,none⟩,w.frozen? ⟨b,o+3,none⟩,w.frozen? ⟨b,o+4,none⟩] (ku (((((w.setCell ⟨b,o,none⟩ v0).setCell ⟨b,o+1,none⟩ v1).setCell ⟨b,o+2,none⟩ v2).setCell ⟨b,o+3,none⟩ v3).setCell ⟨b,o+4,none⟩ v4)) (QS Pg (storeAt 105 (.pointer (some ⟨b,o,none⟩)) (.agg #[v0,v1,v2,v3,v4])) QP w ku)) (QS Pg (storeAt 105 (.pointer (some ⟨b,o,none⟩)) (.agg #[v0,v1,v2,v3,v4])) QP w ku)))<|And.intro ((by intro b o v0 v1 h0 h1;exact Xr GO b o _ rfl (by intro v hv;simp only [List.mem_cons,List.not_mem_nil,or_false] at hv;rcases hv with rfl | rfl<;>assumption) _ rfl _ rfl):(∀ b o v0 v1,v0.oneCell'=true→v1.oneCell'=true→opU Pg (storeAt 120 (.pointer (some ⟨b,o,none⟩)) (.agg #[v0,v1])) QP w ku=ZN [w.cell? ⟨b,o,none⟩,w.cell? ⟨b,o+1,none⟩] (λ _=>XK [w.frozen? ⟨b,o,none⟩,w.frozen? ⟨b,o+1,none⟩] (ku ((w.setCell ⟨b,o,none⟩ v0).setCell ⟨b,o+1,none⟩ v1)) (QS Pg (storeAt 120 (.pointer (some ⟨b,o,none⟩)) (.agg #[v0,v1])) QP w ku)) (QS Pg (storeAt 120 (.pointer (some ⟨b,o,none⟩)) (.agg #[v0,v1])) QP w ku)))<|And.intro ((by intro b o v0 v1 h0 h1;exact Xr GP b o _ rfl (by intro v hv;simp only [List.mem_cons,List.not_mem_nil,or_false] at hv;rcases hv with rfl | rfl<;>assumption) _ rfl _ rfl):(∀ b o v0 v1,v0.oneCell'=true→v1.oneCell'=true→opU Pg (storeAt 128 (.pointer (some ⟨b,o,none⟩)) (.agg #[v0,v1])) QP w ku=ZN [w.cell? ⟨b,o,none⟩,w.cell? ⟨b,o+1,none⟩] (λ _=>XK [w.frozen? ⟨b,o,none⟩,w.frozen? ⟨b,o+1,none⟩] (ku ((w.setCell ⟨b,o,none⟩ v0).setCell ⟨b,o+1,none⟩ v1)) (QS Pg (storeAt 128 (.pointer (some ⟨b,o,none⟩)) (.agg #[v0,v1])) QP w ku)) (QS Pg (storeAt 128 (.pointer (some ⟨b,o,none⟩)) (.agg #[v0,v1])) QP w ku)))<|And.intro ((by intro b o v0 v1 v2 h0 h1 h2;exact Xr DO b o _ rfl (by intro v hv;simp only [List.mem_cons,List.not_mem_nil,or_false] at hv;rcases hv with rfl | rfl | rfl<;>assumption) _ rfl _ rfl):(∀ b o v0 v1 v2,v0.oneCell'=true→v1.oneCell'=true→v2.oneCell'=true→opU Pg (storeAt 131 (.pointer (some ⟨b,o,none⟩)) (.agg #[v0,v1,v2])) QP w ku=ZN [w.cell? ⟨b,o,none⟩,w.cell? ⟨b,o+1,none⟩,w.cell? ⟨b,o+2,none⟩] (λ _=>XK [w.frozen? ⟨b,o,none⟩,w.frozen? ⟨b,o+1,none⟩,w.frozen? ⟨b,o+2,none⟩] (ku (((w.setCell ⟨b,o,none⟩ v0).setCell ⟨b,o+1,none⟩ v1).setCell ⟨b,o+2,none⟩ v2)) (QS Pg (storeAt 131 (.pointer (some ⟨b,o,none⟩)) (.agg #[v0,v1,v2])) QP w ku)) (QS Pg (storeAt 131 (.pointer (some ⟨b,o,none⟩)) (.agg #[v0,v1,v2])) QP w ku)))<|And.intro ((by intro b o v0 v1 v2 h0 h1 h2;exact Xr Ik b o _ rfl (by intro v hv;simp only [List.mem_cons,List.not_mem_nil,or_false] at hv;rcases hv with rfl | rfl | rfl<;>assumption) _ rfl _ rfl):(∀ b o v0 v1 v2,v0.oneCell'=true→v1.oneCell'=true→v2.oneCell'=true→opU Pg (storeAt 213 (.pointer (some ⟨b,o,none⟩)) (.agg #[v0,v1,v2])) QP w ku=ZN [w.cell? ⟨b,o,none⟩,w.cell? ⟨b,o+1,none⟩,w.cell? ⟨b,o+2,none⟩] (λ _=>XK [w.frozen? ⟨b,o,none⟩,w.frozen? ⟨b,o+1,none⟩,w.frozen? ⟨b,o+2,none⟩] (ku (((w.setCell ⟨b,o,none⟩ v0).setCell ⟨b,o+1,none⟩ v1).setCell ⟨b,o+2,none⟩ v2)) (QS Pg (storeAt 213 (.pointer (some ⟨b,o,none⟩)) (.agg #[v0,v1,v2])) QP w ku)) (QS Pg (storeAt 213 (.pointer (some ⟨b,o,none⟩)) (.agg #[v0,v1,v2])) QP w ku)))<|And.intro ((by intro b o v0 v1 h0 h1;exact Xr Im b o _ rfl (by intro v hv;simp only [List.mem_cons,List.not_mem_nil,or_false] at hv;rcases hv with rfl | rfl<;>assumption) _ rfl _ rfl):(∀ b o v0 v1,v0.oneCell'=true→v1.oneCell'=true→opU Pg (storeAt 255 (.pointer (some ⟨b,o,none⟩)) (.agg #[v0,v1])) QP w ku=ZN [w.cell? ⟨b,o,none⟩,w.cell? ⟨b,o+1,none⟩] (λ _=>XK [w.frozen? ⟨b,o,none⟩,w.frozen? ⟨b,o+1,none⟩] (ku ((w.setCell ⟨b,o,none⟩ v0).setCell ⟨b,o+1,none⟩ v1)) (QS Pg (storeAt 255 (.pointer (some ⟨b,o,none⟩)) (.agg #[v0,v1])) QP w ku)) (QS Pg (storeAt 255 (.pointer (some ⟨b,o,none⟩)) (.agg #[v0,v1])) QP w ku)))<|And.intro ((by intro b o v0 v1 v2 h0 h1 h2;exact Xr Nh b o _ rfl (by intro v hv;simp only [List.mem_cons,List.not_mem_nil,or_false] at hv;rcases hv with rfl | rfl | rfl<;>assumption) _ rfl _ rfl):(∀ b o v0 v1 v2,v0.oneCell'=true→v1.oneCell'=true→v2.oneCell'=true→opU Pg (storeAt 266 (.pointer (some ⟨b,o,none⟩)) (.agg #[v0,v1,v2])) QP w ku=ZN [w.cell? ⟨b,o,none⟩,w.cell? ⟨b,o+1,none⟩,w.cell? ⟨b,o+2,none⟩] (λ _=>XK [w.frozen? ⟨b,o,none⟩,w.frozen? ⟨b,o+1,none⟩,w.frozen? ⟨b,o+2,none⟩] (ku (((w.setCell ⟨b,o,none⟩ v0).setCell ⟨b,o+1,none⟩ v1).setCell ⟨b,o+2,none⟩ v2)) (QS Pg (storeAt 266 (.pointer (some ⟨b,o,none⟩)) (.agg #[v0,v1,v2])) QP w ku)) (QS Pg (storeAt 266 (.pointer (some ⟨b,o,none⟩)) (.agg #[v0,v1,v2])) QP w ku)))<|((by intro b o v0 v1 h0 h1;exact Xr Uu b o _ rfl (by intro v hv;simp only [List.mem_cons,List.not_mem_nil,or_false] at hv;rcases hv with rfl | rfl<;>assumption) _ rfl _ rfl):(∀ b o v0 v1,v0.oneCell'=true→v1.oneCell'=true→opU Pg (storeAt 300 (.pointer (some ⟨b,o,none⟩)) (.agg #[v0,v1])) QP w ku=ZN [w.cell? ⟨b,o,none⟩,w.cell? ⟨b,o+1,none⟩] (λ _=>XK [w.frozen? ⟨b,o,none⟩,w.frozen? ⟨b,o+1,none⟩] (ku ((w.setCell ⟨b,o,none⟩ v0).setCell ⟨b,o+1,none⟩ v1)) (QS Pg (storeAt 300 (.pointer (some ⟨b,o,none⟩)) (.agg #[v0,v1])) QP w ku)) (QS Pg (storeAt 300 (.pointer (some ⟨b,o,none⟩)) (.agg #[v0,v1])) QP w ku)))
section
def Ziw {w:Wd} {k:Vl→Prop}:=And.intro (XZ (w:=w) (k:=k) ty3)<|And.intro (Wn (w:=w) (k:=k) ty3)<|And.intro (Wn (w:=w) (k:=k) ty4)<|And.intro (XZ (w:=w) (k:=k) ty5)<|And.intro (XZ (w:=w) (k:=k) ty9)<|And.intro (Wn (w:=w) (k:=k) ty9)<|And.intro (XZ (w:=w) (k:=k) Il)<|And.intro (Wn (w:=w) (k:=k) Il)<|And.intro ((by intro b o;exact WB CE b o _ rfl):(∀ b o,qV Pg (EC w) (loadAt 24 (.pointer (some ⟨b,o,none⟩))) k=ZN [w.cell? ⟨b,o,none⟩,w.cell? ⟨b,o+1,none⟩] (λ vs=>k (.agg vs.toArray)) (qVx Pg (EC w) (loadAt 24 (.pointer (some ⟨b,o,none⟩))) k)))<|And.intro ((by intro b o;exact WB CF b o _ rfl):(∀ b o,qV Pg (EC w) (loadAt 27 (.pointer (some ⟨b,o,none⟩))) k=ZN [w.cell? ⟨b,o,none⟩,w.cell? ⟨b,o+1,none⟩,w.cell? ⟨b,o+2,none⟩] (λ vs=>k (.agg vs.toArray)) (qVx Pg (EC w) (loadAt 27 (.pointer (some ⟨b,o,none⟩))) k)))<|And.intro (XZ (w:=w) (k:=k) Io)<|And.intro (XZ (w:=w) (k:=k) CG)<|And.intro ((by intro b o;exact WB Ud b o _ rfl):(∀ b o,qV Pg (EC w) (loadAt 43 (.pointer (some ⟨b,o,none⟩))) k=ZN [w.cell? ⟨b,o,none⟩,w.cell? ⟨b,o+1,none⟩,w.cell? ⟨b,o+2,none⟩,w.cell? ⟨b,o+3,none⟩,w.cell? ⟨b,o+4,none⟩,w.cell? ⟨b,o+5,none⟩,w.cell? ⟨b,o+6,none⟩] (λ vs=>k (.agg vs.toArray)) (qVx Pg (EC w) (loadAt 43 (.pointer (some ⟨b,o,none⟩))) k)))<|And.intro (XZ (w:=w) (k:=k) Mp)<|And.intro (Wn (w:=w) (k:=k) Mp)<|And.intro (XZ (w:=w) (k:=k) OH)<|And.intro ((by intro b o;exact WB qn b o _ rfl):(∀ b o,qV Pg (EC w) (loadAt 74 (.pointer (some ⟨b,o,none⟩))) k=ZN [w.cell? ⟨b,o,none⟩,w.cell? ⟨b,o+1,none⟩] (λ vs=>k (.agg vs.toArray)) (qVx Pg (EC w) (loadAt 74 (.pointer (some ⟨b,o,none⟩))) k)))<|And.intro ((by intro b o;exact WB Ft b o _ rfl):(∀ b o,qV Pg (EC w) (loadAt 78 (.pointer (some ⟨b,o,none⟩))) k=ZN [w.cell? ⟨b,o,none⟩,w.cell? ⟨b,o+1,none⟩,w.cell? ⟨b,o+2,none⟩] (λ vs=>k (.agg vs.toArray)) (qVx Pg (EC w) (loadAt 78 (.pointer (some ⟨b,o,none⟩))) k)))<|(XZ (w:=w) (k:=k) GN)
def Zix {w:Wd} {k:Vl→Prop}:=And.intro (XZ (w:=w) (k:=k) B4)<|And.intro ((by intro b o;exact WB GO b o _ rfl):(∀ b o,qV Pg (EC w) (loadAt 120 (.pointer (some ⟨b,o,none⟩))) k=ZN [w.cell? ⟨b,o,none⟩,w.cell? ⟨b,o+1,none⟩] (λ vs=>k (.agg vs.toArray)) (qVx Pg (EC w) (loadAt 120 (.pointer (some ⟨b,o,none⟩))) k)))<|And.intro (XZ (w:=w) (k:=k) jj)<|And.intro ((by intro b o;exact WB Ve b o _ rfl):(∀ b o,qV Pg (EC w) (loadAt 123 (.pointer (some ⟨b,o,none⟩))) k=ZN [w.cell? ⟨b,o,none⟩,w.cell? ⟨b,o+1,none⟩,w.cell? ⟨b,o+2,none⟩,w.cell? ⟨b,o+3,none⟩,w.cell? ⟨b,o+4,none⟩,w.cell? ⟨b,o+5,none⟩,w.cell? ⟨b,o+6,none⟩,w.cell? ⟨b,o+7,none⟩,w.cell? ⟨b,o+8,none⟩,w.cell? ⟨b,o+9,none⟩,w.cell? ⟨b,o+10,none⟩,w.cell? ⟨b,o+11,none⟩,w.cell? ⟨b,o+12,none⟩,w.cell? ⟨b,o+13,none⟩,w.cell? ⟨b,o+14,none⟩] (λ vs=>k (.agg vs.toArray)) (qVx Pg (EC w) (loadAt 123 (.pointer (some ⟨b,o,none⟩))) k)))<|And.intro ((by intro b o;exact WB GP b o _ rfl):(∀ b o,qV Pg (EC w) (loadAt 128 (.pointer (some ⟨b,o,none⟩))) k=ZN [w.cell? ⟨b,o,none⟩,w.cell? ⟨b,o+1,none⟩] (λ vs=>k (.agg vs.toArray)) (qVx Pg (EC w) (loadAt 128 (.pointer (some ⟨b,o,none⟩))) k)))<|And.intro (XZ (w:=w) (k:=k) TL)<|And.intro (Wn (w:=w) (k:=k) TL)<|And.intro (XZ (w:=w) (k:=k) Ij)<|And.intro (Wn (w:=w) (k:=k) Ij)<|And.intro (XZ (w:=w) (k:=k) B5)<|And.intro (Wn (w:=w) (k:=k) B5)<|And.intro ((by intro b o;exact WB Ik b o _ rfl):(∀ b o,qV Pg (EC w) (loadAt 213 (.pointer (some ⟨b,o,none⟩))) k=ZN [w.cell? ⟨b,o,none⟩,w.cell? ⟨b,o+1,none⟩,w.cell? ⟨b,o+2,none⟩] (λ vs=>k (.agg vs.toArray)) (qVx Pg (EC w) (loadAt 213 (.pointer (some ⟨b,o,none⟩))) k)))<|And.intro (BG (w:=w) (k:=k) ty4)<|And.intro ((by intro b o;exact Q7 CE b o _ rfl):(∀ b o,qW Pg 24 (.pointer (some ⟨b,o,none⟩)) w k=ZN [w.cell? ⟨b,o,none⟩,w.cell? ⟨b,o+1,none⟩] (λ vs=>k (.agg vs.toArray)) (qWx Pg 24 (.pointer (some ⟨b,o,none⟩)) w k)))<|And.intro ((by intro b o;exact Q7 CF b o _ rfl):(∀ b o,qW Pg 27 (.pointer (some ⟨b,o,none⟩)) w k=ZN [w.cell? ⟨b,o,none⟩,w.cell? ⟨b,o+1,none⟩,w.cell? ⟨b,o+2,none⟩] (λ vs=>k (.agg vs.toArray)) (qWx Pg 27 (.pointer (some ⟨b,o,none⟩)) w k)))<|And.intro ((by intro b o;exact Q7 Mn b o _ rfl):(∀ b o,qW Pg 34 (.pointer (some ⟨b,o,none⟩)) w k=ZN [w.cell? ⟨b,o,none⟩,w.cell? ⟨b,o+1,none⟩,w.cell? ⟨b,o+2,none⟩] (λ vs=>k (.agg vs.toArray)) (qWx Pg 34 (.pointer (some ⟨b,o,none⟩)) w k)))<|And.intro (BG (w:=w) (k:=k) CG)<|((by intro b o;exact Q7 Ud b o _ rfl):(∀ b o,qW Pg 43 (.pointer (some ⟨b,o,none⟩)) w k=ZN [w.cell? ⟨b,o,none⟩,w.cell? ⟨b,o+1,none⟩,w.cell? ⟨b,o+2,none⟩,w.cell? ⟨b,o+3,none⟩,w.cell? ⟨b,o+4,none⟩,w.cell? ⟨b,o+5,none⟩,w.cell? ⟨b,o+6,none⟩] (λ vs=>k (.agg vs.toArray)) (qWx Pg 43 (.pointer (some ⟨b,o,none⟩)) w k)))
def Ziy {w:Wd} {k:Vl→Prop}:=And.intro (BG (w:=w) (k:=k) ZeD)<|And.intro ((by intro b o;exact Q7 qn b o _ rfl):(∀ b o,qW Pg 74 (.pointer (some ⟨b,o,none⟩)) w k=ZN [w.cell? ⟨b,o,none⟩,w.cell? ⟨b,o+1,none⟩] (λ vs=>k (.agg vs.toArray)) (qWx Pg 74 (.pointer (some ⟨b,o,none⟩)) w k)))<|And.intro ((by intro b o;exact Q7 Ft b o _ rfl):(∀ b o,qW Pg 78 (.pointer (some ⟨b,o,none⟩)) w k=ZN [w.cell? ⟨b,o,none⟩,w.cell? ⟨b,o+1,none⟩,w.cell? ⟨b,o+2,none⟩] (λ vs=>k (.agg vs.toArray)) (qWx Pg 78 (.pointer (some ⟨b,o,none⟩)) w k)))<|And.intro ((by intro b o;exact Q7 Ve b o _ rfl):(∀ b o,qW Pg 123 (.pointer (some ⟨b,o,none⟩)) w k=ZN [w.cell? ⟨b,o,none⟩,w.cell? ⟨b,o+1,none⟩,w.cell? ⟨b,o+2,none⟩,w.cell? ⟨b,o+3,none⟩,w.cell? ⟨b,o+4,none⟩,w.cell? ⟨b,o+5,none⟩,w.cell? ⟨b,o+6,none⟩,w.cell? ⟨b,o+7,none⟩,w.cell? ⟨b,o+8,none⟩,w.cell? ⟨b,o+9,none⟩,w.cell? ⟨b,o+10,none⟩,w.cell? ⟨b,o+11,none⟩,w.cell? ⟨b,o+12,none⟩,w.cell? ⟨b,o+13,none⟩,w.cell? ⟨b,o+14,none⟩] (λ vs=>k (.agg vs.toArray)) (qWx Pg 123 (.pointer (some ⟨b,o,none⟩)) w k)))<|And.intro ((by intro b o;exact Q7 DO b o _ rfl):(∀ b o,qW Pg 131 (.pointer (some ⟨b,o,none⟩)) w k=ZN [w.cell? ⟨b,o,none⟩,w.cell? ⟨b,o+1,none⟩,w.cell? ⟨b,o+2,none⟩] (λ vs=>k (.agg vs.toArray)) (qWx Pg 131 (.pointer (some ⟨b,o,none⟩)) w k)))<|And.intro ((by intro b o;exact Q7 Ni b o _ rfl):(∀ b o,qW Pg 287 (.pointer (some ⟨b,o,none⟩)) w k=ZN [w.cell? ⟨b,o,none⟩,w.cell? ⟨b,o+1,none⟩,w.cell? ⟨b,o+2,none⟩,w.cell? ⟨b,o+3,none⟩,w.cell? ⟨b,o+4,none⟩,w.cell? ⟨b,o+5,none⟩,w.cell? ⟨b,o+6,none⟩,w.cell? ⟨b,o+7,none⟩,w.cell? ⟨b,o+8,none⟩,w.cell? ⟨b,o+9,none⟩,w.cell? ⟨b,o+10,none⟩,w.cell? ⟨b,o+11,none⟩,w.cell? ⟨b,o+12,none⟩] (λ vs=>k (.agg vs.toArray)) (qWx Pg 287 (.pointer (some ⟨b,o,none⟩)) w k)))<|((by intro b o;exact Q7 Uu b o _ rfl):(∀ b o,qW Pg 300 (.pointer (some ⟨b,o,none⟩)) w k=ZN [w.cell? ⟨b,o,none⟩,w.cell? ⟨b,o+1,none⟩] (λ vs=>k (.agg vs.toArray)) (qWx Pg 300 (.pointer (some ⟨b,o,none⟩)) w k)))
def Ziq {C:WPr} [Yv C] {k:Vl→Prop}:=And.intro ((by intros;apply Ym;intros;apply o11<;>assumption):(∀ b o len cap ik (i:Nat),i < len→qV Pg C (indexAt 22 (.slice (some ⟨b,o,none⟩) len cap) (.int ik (i:Int))) k=k (.pointer (some ⟨b,o+i*3,none⟩))))<|And.intro (Yp (C:=C) (k:=k) λ QP w k => @o13 QP w k)<|And.intro (Yp (C:=C) (k:=k) λ QP w k => @o21 QP w k)<|And.intro ((by intros;apply Ym;intros;apply o30<;>assumption):(∀ r a n c,qV Pg C (Builtin.len_ #[40] r #[.slice a n c]) k=k (.int .i64 (n:Int))))<|And.intro ((by intros;apply Ym;intros;apply o31<;>assumption):(∀ b o len cap ik (i:Nat),i < len→qV Pg C (indexAt 40 (.slice (some ⟨b,o,none⟩) len cap) (.int ik (i:Int))) k=k (.pointer (some ⟨b,o+i*1,none⟩))))<|And.intro ((by intros;apply Ym;intros;apply o35<;>assumption):(∀ b o len cap ik (i:Nat),i < len→qV Pg C (indexAt 41 (.slice (some ⟨b,o,none⟩) len cap) (.int ik (i:Int))) k=k (.pointer (some ⟨b,o+i*3,none⟩))))<|And.intro (Yp (C:=C) (k:=k) λ QP w k => @o36 QP w k)<|And.intro (Yp (C:=C) (k:=k) λ QP w k => @o37 QP w k)<|And.intro (Yp (C:=C) (k:=k) λ QP w k => @o38 QP w k)<|And.intro (Yp (C:=C) (k:=k) λ QP w k => @o39 QP w k)<|And.intro (Yp (C:=C) (k:=k) λ QP w k => @o40 QP w k)<|And.intro (Yp (C:=C) (k:=k) λ QP w k => @o41 QP w k)<|And.intro (Yp (C:=C) (k:=k) λ QP w k => @o50 QP w k)<|And.intro (Yp (C:=C) (k:=k) λ QP w k => @o51 QP w k)<|And.intro (Yp (C:=C) (k:=k) λ QP w k => @o52 QP w k)<|And.intro ((by intros;apply Ym;intros;apply o61<;>assumption):(∀ b o len cap ik (i:Nat),i < len→qV Pg C (indexAt 72 (.slice (some ⟨b,o,none⟩) len cap) (.int ik (i:Int))) k=k (.pointer (some ⟨b,o+i*15,none⟩))))<|And.intro (Yp (C:=C) (k:=k) λ QP w k => @o62 QP w k)<|And.intro (Yp (C:=C) (k:=k) λ QP w k => @o63 QP w k)<|And.intro (Yp (C:=C) (k:=k) λ QP w k => @o66 QP w k)<|And.intro (Yp (C:=C) (k:=k) λ QP w k => @o67 QP w k)<|And.intro (Yp (C:=C) (k:=k) λ QP w k => @o68 QP w k)<|And.intro (Yp (C:=C) (k:=k) λ QP w k => @o71 QP w k)<|(Yp (C:=C) (k:=k) λ QP w k => @o72 QP w k)
def Zir {C:WPr} [Yv C] {k:Vl→Prop}:=And.intro (Yp (C:=C) (k:=k) λ QP w k => @o73 QP w k)<|And.intro (Yp (C:=C) (k:=k) λ QP w k => @o74 QP w k)<|And.intro (Yp (C:=C) (k:=k) λ QP w k => @o75 QP w k)<|And.intro ((by intros;apply Ym;intros;apply o80<;>assumption):(∀ b o len cap ik (i:Nat),i < len→qV Pg C (indexAt 94 (.slice (some ⟨b,o,none⟩) len cap) (.int ik (i:Int))) k=k (.pointer (some ⟨b,o+i*1,none⟩))))<|And.intro ((by intros;apply Ym;intros;apply o92<;>assumption):(∀ r a n c,qV Pg C (Builtin.len_ #[118] r #[.slice a n c]) k=k (.int .i64 (n:Int))))<|And.intro ((by intros;apply Ym;intros;apply o93<;>assumption):(∀ b o len cap ik (i:Nat),i < len→qV Pg C (indexAt 118 (.slice (some ⟨b,o,none⟩) len cap) (.int ik (i:Int))) k=k (.pointer (some ⟨b,o+i*2,none⟩))))<|And.intro (Yp (C:=C) (k:=k) λ QP w k => @o95 QP w k)<|And.intro (Yp (C:=C) (k:=k) λ QP w k => @o96 QP w k)<|And.intro ((by intros;apply Ym;intros;apply ZhP<;>assumption):(∀ b o len cap ik (i:Nat),i < len→qV Pg C (indexAt 121 (.slice (some ⟨b,o,none⟩) len cap) (.int ik (i:Int))) k=k (.pointer (some ⟨b,o+i*3,none⟩))))<|And.intro (Yp (C:=C) (k:=k) λ QP w k => @ZhQ QP w k)<|And.intro (Yp (C:=C) (k:=k) λ QP w k => @ZhR QP w k)<|And.intro (Yp (C:=C) (k:=k) λ QP w k => @ZhS QP w k)<|And.intro (Yp (C:=C) (k:=k) λ QP w k => @ZhT QP w k)<|And.intro (Yp (C:=C) (k:=k) λ QP w k => @ZhU QP w k)<|And.intro (Yp (C:=C) (k:=k) λ QP w k => @ZhV QP w k)<|And.intro (Yp (C:=C) (k:=k) λ QP w k => @ZhW QP w k)<|And.intro (Yp (C:=C) (k:=k) λ QP w k => @ZhX QP w k)<|And.intro (Yp (C:=C) (k:=k) λ QP w k => @ZhY QP w k)<|And.intro (Yp (C:=C) (k:=k) λ QP w k => @ZhZ QP w k)<|And.intro (Yp (C:=C) (k:=k) λ QP w k => @Zh0 QP w k)<|And.intro (Yp (C:=C) (k:=k) λ QP w k => @Zh1 QP w k)<|And.intro (Yp (C:=C) (k:=k) λ QP w k => @Zh2 QP w k)<|And.intro (Yp (C:=C) (k:=k) λ QP w k => @Zh3 QP w k)<|(Yp (C:=C) (k:=k) λ QP w k => @Zh4 QP w k)
def Zis {C:WPr} [Yv C] {k:Vl→Prop}:=And.intro (Yp (C:=C) (k:=k) λ QP w k => @Zh5 QP w k)<|And.intro (Yp (C:=C) (k:=k) λ QP w k => @Zlz QP w k)<|And.intro ((by intros;apply Ym;intros;apply Zh6<;>assumption):(∀ b o len cap ik (i:Nat),i < len→qV Pg C (indexAt 264 (.slice (some ⟨b,o,none⟩) len cap) (.int ik (i:Int))) k=k (.pointer (some ⟨b,o+i*3,none⟩))))<|And.intro (Yp (C:=C) (k:=k) λ QP w k => @Zh7 QP w k)<|And.intro (Yp (C:=C) (k:=k) λ QP w k => @Zh8 QP w k)<|And.intro ((by intros;apply Ym;intros;apply Zh9<;>assumption):(∀ v0 v1:Vl,v0.oneCell'=true→v1.oneCell'=true→qV Pg C (build 60 #[(0,v0),(1,v1)]) k=k (.agg #[v0,v1,.slice none 0 0])))<|And.intro ((by intros;apply Ym;intros;apply Zia<;>assumption):(∀ v1:Vl,v1.oneCell'=true→qV Pg C (build 74 #[(1,v1)]) k=k (.agg #[.string ByteArray.empty,v1])))<|((by intros;apply Ym;intros;apply Zmd<;>assumption):(∀ v0 v1 v2:Vl,v0.oneCell'=true→v1.oneCell'=true→v2.oneCell'=true→qV Pg C (build 82 #[(0,v0),(1,v1),(2,v2)]) k=k (.agg #[v0,v1,v2])))
def Zit {C:WPr} [Yv C] {k:Vl→Prop}:=And.intro ((by intros;apply Ym;intros;apply Zms<;>assumption):(∀ v0 v1 v2:Vl,v0.oneCell'=true→v1.oneCell'=true→v2.oneCell'=true→qV Pg C (build 131 #[(0,v0),(1,v1),(2,v2)]) k=k (.agg #[v0,v1,v2])))<|And.intro ((by intros;apply Ym;intros;apply ZmX<;>assumption):(∀ v,qV Pg C (makeInterface 82 v) k=k (.iface 82 v)))<|((by intros;apply Ym;intros;apply ZmY<;>assumption):(∀ v,qV Pg C (makeInterface 131 v) k=k (.iface 131 v)))
def Ziu {C:WPr} [Yv C] {k:Vl→Prop}:=And.intro ((by intros;apply Ym;intros;apply Zm1<;>assumption):(∀ c (a0 b0:Int) (a1 b1:Int) (a2 b2:Int),qV Pg C (ZF .neq 78 c (.agg #[.int .i64 a0,.int .i64 a1,.int .i64 a2]) (.agg #[.int .i64 b0,.int .i64 b1,.int .i64 b2])) k=k (.bool (!(decide (a0=b0)&&(decide (a1=b1)&&(decide (a2=b2)&&true)))))))<|And.intro ((by intros;apply Ym;intros;apply Zm3<;>assumption):(∀ c (a0 b0:BAr) (a1 b1:Int),qV Pg C (ZF .neq 128 c (.agg #[.string a0,.int .i64 a1]) (.agg #[.string b0,.int .i64 b1])) k=k (.bool (!(decide (a0=b0)&&(decide (a1=b1)&&true))))))<|And.intro ((by intros;apply Ym;intros;apply Zm6<;>assumption):(∀ c (a0 b0:Int) (a1 b1:Int) (a2 b2:BAr),qV Pg C (ZF .neq 213 c (.agg #[.int .i64 a0,.int .i64 a1,.string a2]) (.agg #[.int .i64 b0,.int .i64 b1,.string b2])) k=k (.bool (!(decide (a0=b0)&&(decide (a1=b1)&&(decide (a2=b2)&&true)))))))<|((by intros;apply Ym;intros;apply Zm7<;>assumption):(∀ c (a0 b0:BAr) (a1 b1:BAr) (a2 b2:BAr) (a3 b3:BAr) (a4 b4:Int) (a5 b5:Int) (a6 b6:Int) (a7 b7:Int) (a8 b8:Int) (a9 b9:Int) (a10 b10:Int) (a11 b11:Bool) (a12 b12:Bool),qV Pg C (ZF .eql 287 c (.agg #[.string a0,.string a1,.string a2,.string a3,.int .i64 a4,.int .i64 a5,.int .i64 a6,.int .i64 a7,.int .i64 a8,.int .i64 a9,.int .i64 a10,.bool a11,.bool a12]) (.agg #[.string b0,.string b1,.string b2,.string b3,.int .i64 b4,.int .i64 b5,.int .i64 b6,.int .i64 b7,.int .i64 b8,.int .i64 b9,.int .i64 b10,.bool b11,.bool b12])) k=k (.bool (decide (a0=b0)&&(decide (a1=b1)&&(decide (a2=b2)&&(decide (a3=b3)&&(decide (a4=b4)&&(decide (a5=b5)&&(decide (a6=b6)&&(decide (a7=b7)&&(decide (a8=b8)&&(decide (a9=b9)&&(decide (a10=b10)&&(decide (a11=b11)&&(decide (a12=b12)&&true))))))))))))))))
end
def PR:=And.intro @ZeU<|And.intro @ZeO<|And.intro @ZeY<|And.intro @ZeL<|And.intro @ZeM<|And.intro @ZeR<|And.intro @ZdD<|And.intro @ZeW<|And.intro @ZeX<|And.intro @ZeS<|And.intro @ZeT<|And.intro @ZeV<|And.intro @GEN<|And.intro @LF<|And.intro @CTL<|And.intro @GENQ<|And.intro @o0<|And.intro @o1<|And.intro @o2<|And.intro @o3<|And.intro @o5<|And.intro @o6<|And.intro @o7<|And.intro @o8<|And.intro @o9<|And.intro @o10<|And.intro @o11<|And.intro @o12<|And.intro @o13<|And.intro @o14<|And.intro @o15<|And.intro @o16<|And.intro @o17<|And.intro @o18<|And.intro @o19<|And.intro @o20<|And.intro @o21<|And.intro @o22<|And.intro @o23<|And.intro @o26<|And.intro @o27<|And.intro @o28<|And.intro @o29<|And.intro @o30<|And.intro @o31<|And.intro @o32<|And.intro @o33<|And.intro @o34<|And.intro @o35<|And.intro @o36<|And.intro @o37<|And.intro @o38<|And.intro @o39<|And.intro @o40<|And.intro @o41<|And.intro @o42<|And.intro @o43<|And.intro @o44<|And.intro @o45<|And.intro @o46<|And.intro @o47<|And.intro @o48<|And.intro @o50<|And.intro @o51<|And.intro @o52<|And.intro @o53<|And.intro @o54<|And.intro @o56<|And.intro @o57<|And.intro @o59<|And.intro @o60<|And.intro @o61<|And.intro @o62<|And.intro @o63<|And.intro @o64<|And.intro @o65<|And.intro @o66<|And.intro @o67<|And.intro @o68<|And.intro @o69<|And.intro @o70<|And.intro @o71<|And.intro @o74<|And.intro @o75<|And.intro @o76<|And.intro @o77<|And.intro @o78<|And.intro @o79<|And.intro @o80<|And.intro @o81<|And.intro @o82<|And.intro @o83<|And.intro @o84<|And.intro @o85<|And.intro @o86<|And.intro @o88<|And.intro @o89<|And.intro @o90<|And.intro @o91<|And.intro @o92<|And.intro @o93<|And.intro @o94<|And.intro @o95<|And.intro @o96<|And.intro @o97<|And.intro @o99<|And.intro @Zlh<|And.intro @ZhP<|And.intro @ZhQ<|And.intro @ZhR<|And.intro @ZhS<|And.intro @Zli<|And.intro @Zlj<|And.intro @ZhT<|And.intro @ZhU<|And.intro @ZhV<|And.intro @ZhW<|And.intro @ZhX<|And.intro @ZhY<|And.intro @ZhZ<|And.intro @Zlk<|And.intro @Zll<|And.intro @Zlm<|And.intro @Zln<|And.intro @Zh0<|And.intro @Zh1<|And.intro @Zlo<|And.intro @Zlp<|And.intro @Zlq<|And.intro @Zlr<|And.intro @Zls<|And.intro @Zlt<|And.intro @Zlu<|And.intro @Zlv<|And.intro @Zlw<|And.intro @Zlx<|And.intro @Zly<|And.intro @Zh2<|And.intro @Zh3<|And.intro @Zh4<|And.intro @Zh5<|And.intro @ZlA<|And.intro @ZlB<|And.intro @ZlC<|And.intro @ZlD<|And.intro @ZlE<|And.intro @ZlF<|And.intro @ZlG<|And.intro @ZlH<|And.intro @ZlI<|And.intro @ZlJ<|And.intro @ZlK<|And.intro @Zh6<|And.intro @ZlL<|And.intro @Zh7<|And.intro @Zh8<|And.intro @ZlM<|And.intro @ZlN<|And.intro @ZlO<|And.intro @ZlP<|And.intro @ZlQ<|And.intro @ZlR<|And.intro @ZlS<|And.intro @ZlT<|And.intro @ZlU<|And.intro @ZlV<|And.intro @ZlW<|And.intro @ZlX<|And.intro @ZlY<|And.intro @ZlZ<|And.intro @Zl0<|And.intro @Zl1<|And.intro @Zl2<|And.intro @Zl3<|And.intro @Zl4<|And.intro @Zl5<|And.intro @Zl6<|And.intro @Zl7<|And.intro @Zh9<|And.intro @Zl8<|And.intro @Zl9<|And.intro @Zma<|And.intro @Zia<|And.intro @Zmb<|And.intro @Zmc<|And.intro @Zme<|And.intro @Zmf<|And.intro @Zmg<|And.intro @Zmh<|And.intro @Zmi<|And.intro @Zmj<|And.intro @Zmk<|And.intro @Zml<|And.intro @Zmm<|And.intro @Zmn<|And.intro @Zmo<|And.intro @Zmp<|And.intro @Zmq<|And.intro @Zmr<|And.intro @Zmt<|And.intro @Zmu<|And.intro @Zmv<|And.intro @Zmw<|And.intro @Zmx<|And.intro @Zmy<|And.intro @Zmz<|And.intro @ZmA<|And.intro @ZmB<|And.intro @ZmC<|And.intro @ZmD<|And.intro @ZmE<|And.intro @ZmF<|And.intro @ZmG<|And.intro @ZmH<|And.intro @ZmI<|And.intro @ZmJ<|And.intro @ZmK<|And.intro @ZmL<|And.intro @ZmM<|And.intro @ZmN<|And.intro @ZmO<|And.intro @ZmP<|And.intro @ZmQ<|And.intro @ZmR<|And.intro @ZmS<|And.intro @ZmT<|And.intro @ZmU<|And.intro @ZmV<|And.intro @ZmW<|And.intro @ZmZ<|And.intro @Zm0<|And.intro @Zm2<|And.intro @Zm4<|And.intro @Zm5<|And.intro @Ziv<|And.intro @Ziw<|And.intro @Zix<|And.intro @Ziy<|And.intro @Ziq<|And.intro @Zir<|And.intro @Zis<|And.intro @Zit<|And.intro @Ziu<|And.intro @joinK_eq<|And.intro @Zer<|And.intro @Zex<|And.intro @Ha <| @S8
def QR:=And.intro @Zio<|And.intro @Pj<|And.intro @HL<|And.intro @ET<|And.intro @Lx<|And.intro @EW<|And.intro @Px<|And.intro @NN<|And.intro @STD<|And.intro @CX<|And.intro @CY<|And.intro @CZ<|And.intro @NC<|And.intro @FZ<|And.intro @Tu<|And.intro @O9<|And.intro @IQ<|And.intro @Zbj<|And.intro @OR<|And.intro @List.setIfInBounds_toArray.{0}<|And.intro @List.set_cons_zero.{0}<|And.intro @List.set_cons_succ.{0}<|And.intro @decide_true<|And.intro @decide_false<|And.intro @Bool.false_eq_true<|And.intro @Option.isSome_some.{0}<|And.intro @Option.isSome_none.{0}<|And.intro @Option.getD_some.{0}<|And.intro @Option.getD_none.{0}<|And.intro @D6<|And.intro @YJ<|And.intro @Option.map_some.{0,0}<|And.intro @List.getElem?_toArray.{0}<|And.intro @List.getElem?_cons_succ.{0}<|And.intro @List.getElem?_cons_zero.{0}<|And.intro @Nat.zero_add<|And.intro @World.size_alloc<|And.intro @World.size_setCell<|And.intro @World.size_drew<|And.intro @Bool.not_true<|And.intro @Bool.not_false<|And.intro @Bool.and_true<|And.intro @Bool.true_and<|And.intro @Bool.and_false<|And.intro @Bool.false_and<|And.intro @Bool.or_true<|And.intro @Bool.true_or<|And.intro @Bool.or_false<|And.intro @Bool.false_or <| @Bool.not_not
theorem SZ:type_of% (And.intro @World.size_alloc<|And.intro @World.size_setCell<|And.intro @World.size_drew<|And.intro @World.putObj_size <| @putW_size):=(And.intro @World.size_alloc<|And.intro @World.size_setCell<|And.intro @World.size_drew<|And.intro @World.putObj_size <| @putW_size)
theorem DI {p:Prop} (h:p:=by first | assumption | (simp only [ONE];done) | rfl | (simp only [SZ];done) | omega | (simp only [SZ] at *;omega)):p:=h
theorem ee {a b:Wd} (h:Ext a b:=by repeat' first | exact Ext.refl _ | assumption | apply Ext.alloc | apply Ext.wdrew | apply Ext.drew | (refine Ext.setCell ?_ (by first | omega | (simp only [SZ] at *;omega)) _) | (refine Ext.putObj ?_ (by first | omega | (simp only [SZ] at *;omega)) _) | (refine Ext.trans ?_ (by assumption))):Ext a b:=h
structure Xa where
 field:BAr
 factor:Int
 deriving DecidableEq
structure zF where
 low:Int
 high:Int
 of:BAr
 deriving DecidableEq
structure Zq where
 name:BAr
 kind:Int
 bits:Int
 little:Bool
 loose:Bool
 low:Int
 high:Int
 base:Int
 terms:List Xa
 of:BAr
 tag:BAr
 fr:BAr
 cases:List zF
 check:Int
 key:Int
 deriving DecidableEq
structure YT where
 name:BAr
 fields:List Zq
 deriving DecidableEq
structure Xv where
 name:BAr
 msgs:List YT
 start:BAr
 deriving DecidableEq
abbrev qm (t:Xa):List Vl:=[.string t.field,.int .i64 t.factor]
abbrev Nx (c:zF):List Vl:=[.int .i64 c.low,.int .i64 c.high,.string c.of]
abbrev Zp (f:Zq) (tv cv:Vl):List Vl:=[.string f.name,.int .i64 f.kind,.int .i64 f.bits,.bool f.little,.bool f.loose,.int .i64 f.low,.int .i64 f.high,.int .i64 f.base,tv,.string f.of,.string f.tag,.string f.fr,cv,.int .i64 f.check,.int .i64 f.key]
abbrev Yf (m:YT) (fv:Vl):List Vl:=[.string m.name,fv]
abbrev Yd (d:Xv) (mv:Vl):List Vl:=[.string d.name,mv,.string d.start]
def qo (_:Wd) (cs:List Vl) (t:Xa):Prop:=cs=qm t
def Ms (_:Wd) (cs:List Vl) (c:zF):Prop:=cs=Nx c
def ZZ (w:Wd) (v:Vl) (l:List Xa):Prop:=Zc w 2 qo v l
def Yl (w:Wd) (v:Vl) (l:List zF):Prop:=Zc w 3 Ms v l
def GS (w:Wd) (cs:List Vl) (f:Zq):Prop:=∃ tv cv,cs=Zp f tv cv∧ZZ w tv f.terms∧Yl w cv f.cases
def YR (w:Wd) (v:Vl) (l:List Zq):Prop:=Zc w 15 GS v l
def Ir (w:Wd) (cs:List Vl) (m:YT):Prop:=∃ fv,cs=Yf m fv∧YR w fv m.fields
def Vg (w:Wd) (v:Vl) (l:List YT):Prop:=Zc w 2 Ir v l
def CI (_:Wd) (cs:List Vl) (b:UInt8):Prop:=cs=[.int .u8 b.toNat]
def ZeN (_:Wd) (cs:List Vl) (b:Bool):Prop:=cs=[.bool b]
def zH (_:Wd) (cs:List Vl) (s:BAr):Prop:=cs=[.string s]
def ZdE (_:Wd) (cs:List Vl) (n:Int):Prop:=cs=[.int .i64 n]
theorem Hl:jS qo:=λ _ _ _ _ _ h=>h
theorem Hk:jS Ms:=λ _ _ _ _ _ h=>h
theorem PL:jS CI:=λ _ _ _ _ _ h=>h
theorem Gj:jS zH:=λ _ _ _ _ _ h=>h
theorem xx:jS GS:=λ _ _ _ _ e ⟨tv,cv,h,h1,h2⟩=>⟨tv,cv,h,h1.ext Hl e,h2.ext Hk e⟩
theorem ZaH:jS Ir:=λ _ _ _ _ e ⟨fv,h,h1⟩=>⟨fv,h,h1.ext xx e⟩
theorem ZZ.ext {w w':Wd} {v:Vl} {l:List Xa} (h:ZZ w v l) (e:Ext w w'):ZZ w' v l:=Zc.ext Hl h e
theorem Yl.ext {w w':Wd} {v:Vl} {l:List zF} (h:Yl w v l) (e:Ext w w'):Yl w' v l:=Zc.ext Hk h e
theorem YR.ext {w w':Wd} {v:Vl} {l:List Zq} (h:YR w v l) (e:Ext w w'):YR w' v l:=Zc.ext xx h e
theorem Vg.ext {w w':Wd} {v:Vl} {l:List YT} (h:Vg w v l) (e:Ext w w'):Vg w' v l:=Zc.ext ZaH h e
theorem GS.op {w:Wd} {cs:List Vl} {f:Zq} (h:GS w cs f):∃ tv cv,cs=Zp f tv cv∧ZZ w tv f.terms∧Yl w cv f.cases∧tv.oneCell'=true∧cv.oneCell'=true:=by
 obtain ⟨tv,cv,h1,h2,h3⟩:=h;exact ⟨tv,cv,h1,h2,h3,Zc.oneCell h2,Zc.oneCell h3⟩
def Z0 (w:Wd) (v:Vl) (f:Zq):Prop:=∃ tv cv,v = .agg (Zp f tv cv).toArray∧ZZ w tv f.terms∧Yl w cv f.cases
def Wa (w:Wd) (v:Vl) (m:YT):Prop:=∃ fv,v = .agg (Yf m fv).toArray∧YR w fv m.fields
def Xk (w:Wd) (v:Vl) (d:Xv):Prop:=∃ mv,v = .agg (Yd d mv).toArray∧Vg w mv d.msgs
def zK (w:Wd) (v:Vl) (base:Int) (ts:List Xa):Prop:=∃ tv,v = .agg #[.int .i64 base,tv]∧ZZ w tv ts
def Us (t:Xa):Vl := .agg (qm t).toArray
theorem Z0.ext {w w':Wd} {v:Vl} {f:Zq} (h:Z0 w v f) (e:Ext w w'):Z0 w' v f:=by obtain ⟨tv,cv,h,h1,h2⟩:=h;exact ⟨tv,cv,h,h1.ext e,h2.ext e⟩
theorem Z0.op {w:Wd} {v:Vl} {f:Zq} (h:Z0 w v f):∃ tv cv,v = .agg (Zp f tv cv).toArray∧ZZ w tv f.terms∧Yl w cv f.cases∧tv.oneCell'=true∧cv.oneCell'=true:=by
 obtain ⟨tv,cv,h1,h2,h3⟩:=h;exact ⟨tv,cv,h1,h2,h3,Zc.oneCell h2,Zc.oneCell h3⟩
theorem Wa.ext {w w':Wd} {v:Vl} {m:YT} (h:Wa w v m) (e:Ext w w'):Wa w' v m:=by obtain ⟨fv,h,h1⟩:=h;exact ⟨fv,h,h1.ext e⟩
theorem Xk.ext {w w':Wd} {v:Vl} {d:Xv} (h:Xk w v d) (e:Ext w w'):Xk w' v d:=by obtain ⟨fv,h,h1⟩:=h;exact ⟨fv,h,h1.ext e⟩
def UK {α:Type} (w0:Wd) (V:Wd→Vl→α→Prop) (g:FuncId) (caps:AVl) (p:α→Bool) (l:List α):Prop:=
 ∀ w v x,x∈l→Ext w0 w→V w v x→Ret Pg g (#[v]++caps) w λ r w'=>r = .bool (p x)∧Ext w w'
structure Qx where
 low:Int
 high:Int
 to:Int
 deriving DecidableEq
structure FrD where
 to:BAr
 kind:Int
 fr:BAr
 add:Int
 value:Int
 bytes:List UInt8
 table:List Qx
 deriving DecidableEq
structure MrD where
 fr:BAr
 to:BAr
 fields:List FrD
 deriving DecidableEq
structure Yo where
 name:BAr
 rules:List MrD
 deriving DecidableEq
abbrev Z9 (x:Qx):List Vl:=[.int .i64 x.low,.int .i64 x.high,.int .i64 x.to]
abbrev Zz (x:FrD) (bv tv:Vl):List Vl:=[.string x.to,.int .i64 x.kind,.string x.fr,.int .i64 x.add,.int .i64 x.value,bv,tv]
abbrev Z6 (x:MrD) (fv:Vl):List Vl:=[.string x.fr,.string x.to,fv]
abbrev ZL (m:Yo) (rv:Vl):List Vl:=[.string m.name,rv]
def T0 (_:Wd) (cs:List Vl) (x:Qx):Prop:=cs=Z9 x
theorem ZaJ:jS T0:=λ _ _ _ _ _ h=>h
def zD (w:Wd) (v:Vl) (l:List UInt8):Prop:=Zc w 1 CI v l
def QX (w:Wd) (v:Vl) (l:List Qx):Prop:=Zc w 3 T0 v l
section
variable {w w':Wd} {v:Vl}
theorem zD.ext {l:List UInt8} (h:zD w v l) (e:Ext w w'):zD w' v l:=Zc.ext PL h e
theorem QX.ext {l:List Qx} (h:QX w v l) (e:Ext w w'):QX w' v l:=Zc.ext ZaJ h e
end
def EFr (w:Wd) (cs:List Vl) (x:FrD):Prop:=∃ bv tv,cs=Zz x bv tv∧zD w bv x.bytes∧QX w tv x.table
theorem PM:jS EFr:=λ _ _ _ _ e ⟨bv,tv,h,h1,h2⟩=>⟨bv,tv,h,h1.ext e,h2.ext e⟩
def QZ (w:Wd) (v:Vl) (l:List FrD):Prop:=Zc w 7 EFr v l
theorem QZ.ext {w w':Wd} {v:Vl} {l:List FrD} (h:QZ w v l) (e:Ext w w'):QZ w' v l:=Zc.ext PM h e
def EMr (w:Wd) (cs:List Vl) (x:MrD):Prop:=∃ fv,cs=Z6 x fv∧QZ w fv x.fields
theorem Zd1:jS EMr:=λ _ _ _ _ e ⟨fv,h,h1⟩=>⟨fv,h,h1.ext e⟩
def VC (w:Wd) (v:Vl) (l:List MrD):Prop:=Zc w 3 EMr v l
theorem VC.ext {w w':Wd} {v:Vl} {l:List MrD} (h:VC w v l) (e:Ext w w'):VC w' v l:=Zc.ext Zd1 h e
def Wf (w:Wd) (v:Vl) (x:FrD):Prop:=∃ bv tv,v = .agg (Zz x bv tv).toArray∧zD w bv x.bytes∧QX w tv x.table
def UF (w:Wd) (v:Vl) (x:MrD):Prop:=∃ fv,v = .agg (Z6 x fv).toArray∧QZ w fv x.fields
def YO (w:Wd) (v:Vl) (m:Yo):Prop:=∃ rv,v = .agg (ZL m rv).toArray∧VC w rv m.rules
section
variable {w w':Wd} {v:Vl}
theorem Wf.ext {x:FrD} (h:Wf w v x) (e:Ext w w'):Wf w' v x:=by obtain ⟨bv,tv,h,h1,h2⟩:=h;exact ⟨bv,tv,h,h1.ext e,h2.ext e⟩
theorem UF.ext {x:MrD} (h:UF w v x) (e:Ext w w'):UF w' v x:=by obtain ⟨fv,h,h1⟩:=h;exact ⟨fv,h,h1.ext e⟩
theorem YO.ext {x:Yo} (h:YO w v x) (e:Ext w w'):YO w' v x:=by obtain ⟨fv,h,h1⟩:=h;exact ⟨fv,h,h1.ext e⟩
theorem Wf.op {x:FrD} (h:Wf w v x):∃ bv tv,v = .agg (Zz x bv tv).toArray∧zD w bv x.bytes∧QX w tv x.table∧bv.oneCell'=true∧tv.oneCell'=true:=by
 obtain ⟨bv,tv,h,h1,h2⟩:=h;exact ⟨bv,tv,h,h1,h2,Zc.oneCell h1,Zc.oneCell h2⟩
theorem UF.op {x:MrD} (h:UF w v x):∃ fv,v = .agg (Z6 x fv).toArray∧QZ w fv x.fields∧fv.oneCell'=true:=by
 obtain ⟨fv,h,h1⟩:=h;exact ⟨fv,h,h1,Zc.oneCell h1⟩
theorem YO.op {x:Yo} (h:YO w v x):∃ rv,v = .agg (ZL x rv).toArray∧VC w rv x.rules∧rv.oneCell'=true:=by
 obtain ⟨fv,h,h1⟩:=h;exact ⟨fv,h,h1,Zc.oneCell h1⟩
theorem EFr.op {cs:List Vl} {x:FrD} (h:EFr w cs x):∃ bv tv,cs=Zz x bv tv∧zD w bv x.bytes∧QX w tv x.table∧bv.oneCell'=true∧tv.oneCell'=true:=by
 obtain ⟨bv,tv,h,h1,h2⟩:=h;exact ⟨bv,tv,h,h1,h2,Zc.oneCell h1,Zc.oneCell h2⟩
theorem EMr.op {cs:List Vl} {x:MrD} (h:EMr w cs x):∃ fv,cs=Z6 x fv∧QZ w fv x.fields∧fv.oneCell'=true:=by
 obtain ⟨fv,h,h1⟩:=h;exact ⟨fv,h,h1,Zc.oneCell h1⟩
end
def YU (f:Zq):Int:=if f.kind=1∨f.kind=3 then 1 else if f.kind=4∨f.kind=5 then 2 else if f.kind=6 then 3 else if f.kind=7 then 4 else if f.kind=8∨f.kind=12 then 5 else if f.kind=9 then 6 else 0
def Wy (n:Int):Bool:=decide (0≤n)&&decide (n < 34359738368)
def j5 (n:Int):Bool:=decide (-34359738368 < n)&&decide (n < 34359738368)
structure Ck where
 fr:Bool
 add:Bool
 value:Bool
 bytes:Bool
 table:Bool
def XR (k:Int):Option Ck:=if k=1 then some ⟨true,false,false,false,false⟩ else if k=2 then some ⟨true,true,false,false,false⟩ else if k=3 then some ⟨false,false,true,false,false⟩ else if k=4 then some ⟨false,false,false,true,false⟩ else if k=5 then some ⟨true,false,false,false,true⟩ else if k=6 then some ⟨true,false,false,false,false⟩ else if k=7 then some ⟨false,false,false,false,false⟩ else none
def Ws (r:FrD) (u:Ck):Bool:=(u.fr||decide (r.fr=⟨#[]⟩))&&((u.add||decide (r.add=0))&&((u.value||decide (r.value=0))&&((u.bytes||decide (r.bytes.length=0))&&(u.table||decide (r.table.length=0)))))
def Qa (m:YT) (s:BAr):Option Zq:=m.fields.find? λ f=>decide (f.name=s)
def Co (o:Option Zq):Int:=match o with
 | none=>0
 | some f=>YU f
def J2 (last:Int):List Qx→Bool
 | []=>true
 | x::l=>decide (last < x.low)&&(decide (x.low≤x.high)&&(Wy x.high&&(Wy x.to&&J2 x.high l)))
def QY (l:List Qx):Int:=if l.length < 1∨40 < l.length then 2 else if J2 (-1) l=true then 0 else 8
def M9 (o:Option Zq):List BAr:=match o with
 | none=>[]
 | some f=>if f.kind=9 then f.cases.map (·.of) else [f.of]
def KF (m:Yo) (s:BAr):Option Nat:=m.rules.findIdx? λ r=>decide (r.fr=s)
def okN (m:Yo) (T:List BAr) (s:BAr):Bool:=match m.rules.find? λ r=>decide (r.fr=s) with
 | none=>false
 | some r=>T.any λ y=>decide (r.to=y)
def Dw (m:Yo) (f t:Option Zq):Int:=if (M9 f).all (okN m (M9 t))=true then 0 else 9
def QV (m:Yo) (r:FrD) (f t:Option Zq):Int:=
 let x:=Co f
 let y:=Co t
 if r.kind=1 then (if x≠y∨3 < y then 5 else 0)
 else if r.kind=2 then (if x≠1∨y≠1 then 5 else if j5 r.add=true then 0 else 8)
 else if r.kind=3 then (if y≠1 then 5 else if Wy r.value=true then 0 else 8)
 else if r.kind=4 then (if y≠2 then 5 else if 1000 < r.bytes.length then 2 else 0)
 else if r.kind=5 then (if x≠1∨y≠1 then 5 else QY r.table)
 else if r.kind=6 then (if x≠y∨y < 4 then 5 else Dw m f t)
 else (if y≠1 then 5 else 0)
def x8 (m:Yo) (r:FrD) (a b:YT) (before:List FrD):Int:=
 if Co (Qa b r.to)=0 then 5
 else if (before.any λ x=>decide (x.to=r.to))=true then 4
 else match XR r.kind with
  | none=>6
  | some u=>if Ws r u=false then 7 else QV m r (Qa a r.fr) (Qa b r.to)
def X6 (m:Yo) (a b:YT) (all:List FrD):Nat→List FrD→Int×Int
 | _,[]=>(-1,0)
 | k,r::l=>if x8 m r a b (all.take k)≠0 then ((k:Int),x8 m r a b (all.take k)) else X6 m a b all (k+1) l
def AO (d:Xv) (s:BAr):Option YT:=d.msgs.find? λ x=>decide (x.name=s)
def UW (fs:List FrD) (f:Zq):Bool:=!(fs.any λ x=>decide (x.to=f.name))&&decide (YU f≠0)
def yX (m:Yo) (d e:Xv) (i:Nat) (r:MrD):Int×Int:=match AO d r.fr,AO e r.to with
 | some a,some b=>if KF m r.fr≠some i then (-1,4) else
  let q:=X6 m a b r.fields 0 r.fields
  if q.2≠0 then q else if (b.fields.any (UW r.fields))=true then (-1,10) else (-1,0)
 | _,_=>(-1,3)
def Ku (m:Yo) (d e:Xv):Nat→List MrD→Int×Int×Int
 | _,[]=>(-1,-1,0)
 | i,r::l=>if (yX m d e i r).2≠0 then ((i:Int),yX m d e i r) else Ku m d e (i+1) l
end Go.Proofs.YtgalpdihjbinjaaGreatDoor
namespace Go.Sw
section
variable {P:Program} {N:Nat} {ro:Option Nat} {QP:KP} {T:Env→LDf→Wd→Prop} {o:Oper} {rest:List Oper} {ρ:Env} {ds:LDf} {w:Wd}
theorem zm {v:Vl} (h:ZO P N ro QP T rest (put N ρ o.dst v) ds w) (hs:execOp (ev ρ) o=Sem.pure (.value v):=by exact rfl) (hd:Xz o.op=false:=by exact rfl):ZO P N ro QP T (o::rest) ρ ds w:=TB hd hs h
theorem zt {S:List Nat} {J G:Env→Wd→Prop} (hT:∀ ρ' w,Fr S ρ ρ'→J ρ' w→G ρ' w) {ρ':Env} {w:Wd} (h:J ρ' w) (hf:Fr S ρ ρ':=by repeat (first | exact Fr.refl _ _ | refine Fr.put rfl ?_ | refine Fr.put_none ?_ | refine Fr.mix rfl ?_ | refine Fr.skipAll rfl ?_)):G ρ' w:=hT ρ' w hf h
end
theorem zr {P:Program} {N:Nat} {ro:Option Nat} {id:Nat} {l:List Oper} {Q:K} {QP:KP} {ρ:Env} {ds:LDf} {w:Wd} (h:ZO P N ro QP (λ ρ ds w=>Q .normal ρ ds w) l ρ ds w) (hu:WU l=true:=by exact rfl):den P N ro (.region id l.toArray false) Q QP ρ ds w:=Mi hu h
theorem zn:type_of% @Nc := @Nc
theorem zk:type_of% @Ic := @Ic
theorem zs:type_of% @Nd := @Nd
end Go.Sw
namespace Go.Sw
open Go.RowKit (Below)
structure LW (B:Nat) (w w':Wd):Prop where
 os:w'.os=w.os
 tape:w'.tape=w.tape
 output:w'.output=w.output
 size:w.heap.size≤w'.heap.size
 block:∀ b,b < w.heap.size→w'.heap[b]?=w.heap[b]?∨(B≤b∧((∃ r,w.heap[b]?=some (.loop r))∨∃ d,w.heap[b]?=some (.deferred d)))
def KR (B:Nat) (w w':Wd):Prop:=w.heap.size≤w'.heap.size∧(∀ (b:Nat) (r:Loop),w.heap[b]?=some (.loop r)→∃ st p,w'.heap[b]?=some (.loop { r with state:=st,pending:=p })) ∧
 (∀ (b:Nat),w.heap[b]?=some (.deferred (some []))→w'.heap[b]?=some (.deferred (some [])))∧∀ (b:Nat),B≤b→b < w.heap.size→(∀ r,w.heap[b]?≠some (.loop r))→w'.heap[b]?=w.heap[b]?
section
variable {B:Nat} {w w1 w2:Wd}
theorem KR.refl (B:Nat) (w:Wd):KR B w w:=⟨Nat.le_refl _,λ b r h=>⟨r.state,r.pending,h⟩,λ _ h=>h,λ _ _ _ _=>rfl⟩
theorem KR.of (e:Ext w w1):KR B w w1:=⟨e.size,λ b r h=>⟨r.state,r.pending,e.obj h⟩,λ _ h=>e.obj h,λ b _ hl _=>e.block b hl⟩
theorem KR.turn {l:Nat} {r:Loop} (hl:w.heap[l]?=some (.loop r)) (st:LoopState) (p:Option Code):KR B w (w.putObj l (.loop { r with state:=st,pending:=p })):=⟨by simp,λ b r' hb=>by
 by_cases e:b=l
 · subst e
   rw [hl] at hb;injection hb with hb;injection hb with hb;subst hb
   exact ⟨st,p,World.putObj_heap_same (Array.getElem?_eq_some_iff.1 hl).1⟩
 · rw [World.putObj_heap_other e];exact ⟨r'.state,r'.pending,hb⟩,λ b hb=>by
 by_cases e:b=l
 · subst e;rw [hl] at hb;cases hb
 · rw [World.putObj_heap_other e];exact hb,λ b _ _ hr=>by
 by_cases e:b=l
 · subst e;exact absurd hl (hr _)
 · rw [World.putObj_heap_other e]⟩
end
theorem F8 {b want:Bool} {p q:Prop} (h1:b=true→Zn (.bool true) want p q) (h2:b=false→Zn (.bool false) want p q):Zn (.bool b) want p q:=by
 cases b
 · exact h2 rfl
 · exact h1 rfl
theorem IJ {b:Bool} {p q:Prop} (h1:b=true→p) (h2:b=false→q):Zs (.bool b) p q:=by
 cases b
 · exact h2 rfl
 · exact h1 rfl
section
variable {P:Program} {fn:Func} {R:RT} {ρ:Env} {w:Wd}
theorem BL {t u x:Tmp} {c:TypeId} {v:Vl} (hf:fn.results = #[.cell t c,.tmp u,.tmp x]) (tmps:AVl) (h:(do loadVar c (← asAddr (tmps.getD t undef)):Sem Vl).run P w = .ok v w):(results fn tmps).run P w = .ok (.tuple #[v,tmps.getD u undef,tmps.getD x undef]) w:=by
 rw [Sem.run_bind] at h
 simp [results,hf,Sem.run_bind]
 cases hr:(asAddr (tmps.getD t undef)).run P w with
 | ok a w'=>rw [← Array.getD_eq_getD_getElem?,hr];rw [hr] at h;simp [Result.andThen] at h ⊢;rw [h]
 | halt x w'=>rw [hr] at h;simp [Result.andThen] at h
theorem qu {t u x:Tmp} {c:TypeId} {a b d:Vl} (hf:fn.results = #[.cell t c,.tmp u,.tmp x]) (h1:ρ t=a) (h2:ρ u=b) (h3:ρ x=d) (h:qW P c a w λ v=>R (.returned (.tuple #[v,b,d])) w):Ue P fn R .ret ρ [] w:=by
 obtain ⟨v,hv,h⟩:=h
 exact ⟨rfl,λ tmps ht=>⟨_,BL hf tmps (by rw [ht,h1];exact hv),by rw [ht,ht,h2,h3];exact h⟩⟩
end
end Go.Sw
namespace Go.Sw
section
variable {P:Program} {N:Nat} {ro:Option Nat} {QP:KP} {T:Env→LDf→Wd→Prop} {o:Oper} {rest:List Oper} {ρ:Env} {ds:LDf} {w:Wd} {ty:TypeId} {dst:Option Nat} {d:Nat} {pos:String} {after:Array Edge} {g:Option (Nat×Bool)} {QP':PEn} {k:KV}
theorem yv {s:Sem Vl} (h:opV P s QP' w k) (hk:∀ v w,k v w→ZO P N ro QP T rest (put N ρ o.dst v) ds w) (hs:execOp (ev ρ) o=(do pure (.value (← s))):=by exact rfl) (hd:Xz o.op=false:=by exact rfl) (hp:∀ ch w,QP' ch w→QP ch ρ ds w:=by first | exact λ _ _ h=>⟨rfl,h⟩ | exact λ _ _ h=>X7 rfl h | exact λ _ _ h _ _=>⟨rfl,h⟩ | exact λ _ _ h=>Q5 rfl rfl h | exact λ _ _ h=>h):ZO P N ro QP T (o::rest) ρ ds w:=Gu h hd hs hp hk
theorem yu {s:Sem Unit} {k:WPr} (h:opU P s QP' w k) (hk:∀ w,k w→ZO P N ro QP T rest (put N ρ o.dst undef) ds w) (hs:execOp (ev ρ) o=(do s;pure .skip):=by exact rfl) (hd:Xz o.op=false:=by exact rfl) (hp:∀ ch w,QP' ch w→QP ch ρ ds w:=by first | exact λ _ _ h=>⟨rfl,h⟩ | exact λ _ _ h=>X7 rfl h | exact λ _ _ h _ _=>⟨rfl,h⟩ | exact λ _ _ h=>Q5 rfl rfl h | exact λ _ _ h=>h):ZO P N ro QP T (o::rest) ρ ds w:=TE h hd hs hp hk
theorem yN {s:Sem Next} (h:opN P s QP' w k) (hk:∀ v w,k v w→ZO P N ro QP T rest (put N ρ o.dst v) ds w) (hs:execOp (ev ρ) o=s:=by exact rfl) (hd:Xz o.op=false:=by exact rfl) (hp:∀ ch w,QP' ch w→QP ch ρ ds w:=by first | exact λ _ _ h=>⟨rfl,h⟩ | exact λ _ _ h=>X7 rfl h | exact λ _ _ h _ _=>⟨rfl,h⟩ | exact λ _ _ h=>Q5 rfl rfl h | exact λ _ _ h=>h):ZO P N ro QP T (o::rest) ρ ds w:=TC h hd hs hp hk
theorem yb {op:BinOp} {t:TypeId} {x y:Operand} {t2:TypeId} {c:Bool} {a b:Vl} (h:opV P (ZF op t c a b) QP' w k) (hk:∀ v w',k v w'→ZO P N ro QP T rest (put N ρ (some d) v) ds w') (hc:(Ui x||Ui y)=c:=by exact rfl) (h1:ev ρ x=a:=by exact rfl) (h2:ev ρ y=b:=by exact rfl) (hp:∀ ch w,QP' ch w→QP ch ρ ds w:=by first | exact λ _ _ h=>⟨rfl,h⟩ | exact λ _ _ h=>X7 rfl h | exact λ _ _ h _ _=>⟨rfl,h⟩ | exact λ _ _ h=>Q5 rfl rfl h | exact λ _ _ h=>h) :
 ZO P N ro QP T (⟨some d,.binOp op t x y t2,ty,pos,after,g⟩::rest) ρ ds w:=Zbk h hc h1 h2 hp hk
theorem yc {f:FuncId} {l:List Operand} {ats:Array TypeId} {args:List Vl} (h:ZV P f args.toArray QP' w k) (hf:Callable P f) (hk:∀ v w',k v w'→ZO P N ro QP T rest (put N ρ dst v) ds w') (h2:l.map (ev ρ)=args:=by exact rfl) (hp:∀ ch w,QP' ch w→QP ch ρ ds w:=by first | exact λ _ _ h=>⟨rfl,h⟩ | exact λ _ _ h=>X7 rfl h | exact λ _ _ h _ _=>⟨rfl,h⟩ | exact λ _ _ h=>Q5 rfl rfl h | exact λ _ _ h=>h) :
 ZO P N ro QP T (⟨dst,.call ⟨.value (.func f),l.toArray,ats⟩,ty,pos,after,g⟩::rest) ρ ds w:=Tw h hf h2 hp hk
theorem yV {fo:Operand} {l:List Operand} {ats:Array TypeId} {fv:Vl} {args:List Vl} (h:XW P fv args.toArray QP' w k) (hk:∀ v w',k v w'→ZO P N ro QP T rest (put N ρ dst v) ds w') (h1:ev ρ fo=fv:=by exact rfl) (h2:l.map (ev ρ)=args:=by exact rfl) (hp:∀ ch w,QP' ch w→QP ch ρ ds w:=by first | exact λ _ _ h=>⟨rfl,h⟩ | exact λ _ _ h=>X7 rfl h | exact λ _ _ h _ _=>⟨rfl,h⟩ | exact λ _ _ h=>Q5 rfl rfl h | exact λ _ _ h=>h) :
 ZO P N ro QP T (⟨dst,.call ⟨.value fo,l.toArray,ats⟩,ty,pos,after,g⟩::rest) ρ ds w:=DH h h1 h2 hp hk
theorem yx {b:Builtin} {l:List Operand} {ats:Array TypeId} {s:Sem Vl} (h:opV P s QP' w k) (hk:∀ v w',k v w'→ZO P N ro QP T rest (put N ρ (some d) v) ds w') (hs:builtin b ats ty ((l.map λ | .const _=>true | _=>false).toArray) (l.map (ev ρ)).toArray=(do pure (.value (← s))):=by exact rfl) (hp:∀ ch w,QP' ch w→QP ch ρ ds w:=by first | exact λ _ _ h=>⟨rfl,h⟩ | exact λ _ _ h=>X7 rfl h | exact λ _ _ h _ _=>⟨rfl,h⟩ | exact λ _ _ h=>Q5 rfl rfl h | exact λ _ _ h=>h) :
 ZO P N ro QP T (⟨some d,.call ⟨.builtin b,l.toArray,ats⟩,ty,pos,after,g⟩::rest) ρ ds w:=Ia h hs hp hk
theorem yB {t:TypeId} {ps:List (Nat×Operand)} {vs:List (Nat×Vl)} (h:opV P (build t vs.toArray) QP' w k) (hk:∀ v w',k v w'→ZO P N ro QP T rest (put N ρ (some d) v) ds w') (h2:(ps.map λ (i,x)=>(i,ev ρ x))=vs:=by exact rfl) (hp:∀ ch w,QP' ch w→QP ch ρ ds w:=by first | exact λ _ _ h=>⟨rfl,h⟩ | exact λ _ _ h=>X7 rfl h | exact λ _ _ h _ _=>⟨rfl,h⟩ | exact λ _ _ h=>Q5 rfl rfl h | exact λ _ _ h=>h) :
 ZO P N ro QP T (⟨some d,.build t ps.toArray,ty,pos,after,g⟩::rest) ρ ds w:=Oq h h2 hp hk
theorem yS {t:TypeId} {n:Nat} {ps:List (Nat×Operand)} {vs:List (Nat×Vl)} (h:opV P (buildSlice t n vs.toArray) QP' w k) (hk:∀ v w',k v w'→ZO P N ro QP T rest (put N ρ (some d) v) ds w') (h2:(ps.map λ (i,x)=>(i,ev ρ x))=vs:=by exact rfl) (hp:∀ ch w,QP' ch w→QP ch ρ ds w:=by first | exact λ _ _ h=>⟨rfl,h⟩ | exact λ _ _ h=>X7 rfl h | exact λ _ _ h _ _=>⟨rfl,h⟩ | exact λ _ _ h=>Q5 rfl rfl h | exact λ _ _ h=>h) :
 ZO P N ro QP T (⟨some d,.buildSlice t n ps.toArray,ty,pos,after,g⟩::rest) ρ ds w:=BV h h2 hp hk
theorem yF {fn:Fn} {fs cs:List Operand} {vf vs:List Vl} (h:opV P (makeFunc fn vf.toArray vs.toArray) QP' w k) (hk:∀ v w',k v w'→ZO P N ro QP T rest (put N ρ (some d) v) ds w') (h1:fs.map (ev ρ)=vf:=by exact rfl) (h2:cs.map (ev ρ)=vs:=by exact rfl) (hp:∀ ch w,QP' ch w→QP ch ρ ds w:=by first | exact λ _ _ h=>⟨rfl,h⟩ | exact λ _ _ h=>X7 rfl h | exact λ _ _ h _ _=>⟨rfl,h⟩ | exact λ _ _ h=>Q5 rfl rfl h | exact λ _ _ h=>h) :
 ZO P N ro QP T (⟨some d,.makeFunc fn fs.toArray cs.toArray,ty,pos,after,g⟩::rest) ρ ds w:=Fo h h1 h2 hp hk
theorem yp {c a b:Operand} {vc va vb:Vl} {k:Vl→Prop} (h:Zy vc va vb k) (hk:∀ v,k v→ZO P N ro QP T rest (put N ρ (some d) v) ds w) (h1:ev ρ c=vc:=by exact rfl) (h2:ev ρ a=va:=by exact rfl) (h3:ev ρ b=vb:=by exact rfl):ZO P N ro QP T (⟨some d,.pick c a b,ty,pos,after,g⟩::rest) ρ ds w:=TD h h1 h2 h3 hk
theorem yt {S:List Nat} {J G:Env→Wd→Prop} {C:WPr} (hT:∀ ρ' w,Fr S ρ ρ'→C w→J ρ' w→G ρ' w) {ρ':Env} {w:Wd} (hC:C w) (h:J ρ' w) (hf:Fr S ρ ρ':=by repeat (first | exact Fr.refl _ _ | refine Fr.put rfl ?_ | refine Fr.put_none ?_ | refine Fr.mix rfl ?_ | refine Fr.skipAll rfl ?_)):G ρ' w:=hT ρ' w hf hC h
end
section
variable {P:Program} {N:Nat} {ro:Option Nat} {ops:Array Oper} {Q:Env→LDf→Wd→Prop} {QP0:List PanicEntry→LDf→Wd→Prop} {QP:KP} {C:WPr} {fuel:Nat} {done:List Nat} {o:Oper} {ρ:Env} {ds:LDf} {w:Wd}
theorem ye (i:Nat) {k:Vl→Prop} (hC:C w) {s:Sem Vl} (h:qV P C s k) (hk:∀ v,k v→XS P N ro ops Q (λ ch _ ds w=>QP0 ch ds w) C fuel (i::done) (put N ρ o.dst v) ds w) (hi:ops[i]?=some o:=by exact rfl) (hr:(YM ops done).contains i=true:=by kernel_rfl) (hf:zZ ops done i=true:=by kernel_rfl) (hg:∀ p q,Xj ops o ρ p q=p:=by first | exact λ _ _=>rfl | exact λ _ _=>Xh (by assumption)) (hd:Xz o.op=false:=by exact rfl) (hs:∀ v,(∀ w,C w→s.run P w = .ok v w)→∀ w,C w→(execOp (ev ρ) o).run P w = .ok (.value v) w:=by first | exact λ _ h=>BF rfl h | exact λ _ h=>Zew rfl rfl rfl h | exact λ _ h=>LQ rfl h | exact λ _ h=>Th rfl h | exact λ _ h=>HW rfl rfl h) :
 XS P N ro ops Q (λ ch _ ds w=>QP0 ch ds w) C (fuel+1) done ρ ds w:=let ⟨v,hv,hkv⟩:=h;Ur i hC hi hr hf hg hd (hs v hv) (hk v hkv)
theorem yn (i:Nat) {k:Vl→Prop} (hC:C w) {s:Sem Next} (h:qN P C s k) (hk:∀ v,k v→XS P N ro ops Q (λ ch _ ds w=>QP0 ch ds w) C fuel (i::done) (put N ρ o.dst v) ds w) (hi:ops[i]?=some o:=by exact rfl) (hr:(YM ops done).contains i=true:=by kernel_rfl) (hf:zZ ops done i=true:=by kernel_rfl) (hg:∀ p q,Xj ops o ρ p q=p:=by first | exact λ _ _=>rfl | exact λ _ _=>Xh (by assumption)) (hd:Xz o.op=false:=by exact rfl) (hs:execOp (ev ρ) o=s:=by exact rfl) :
 XS P N ro ops Q (λ ch _ ds w=>QP0 ch ds w) C (fuel+1) done ρ ds w:=let ⟨v,hv,hkv⟩:=h;Ur i hC hi hr hf hg hd (Zev hs hv) (hk v hkv)
theorem yw (i:Nat) {v:Vl} (hC:C w) (h:XS P N ro ops Q (λ ch _ ds w=>QP0 ch ds w) C fuel (i::done) (put N ρ o.dst v) ds w) (hi:ops[i]?=some o:=by exact rfl) (hr:(YM ops done).contains i=true:=by kernel_rfl) (hf:zZ ops done i=true:=by kernel_rfl) (hg:∀ p q,Xj ops o ρ p q=p:=by first | exact λ _ _=>rfl | exact λ _ _=>Xh (by assumption)) (hd:Xz o.op=false:=by exact rfl) (hs:execOp (ev ρ) o=Sem.pure (.value v):=by exact rfl) :
 XS P N ro ops Q (λ ch _ ds w=>QP0 ch ds w) C (fuel+1) done ρ ds w:=Ur i hC hi hr hf hg hd (P1 hs) h
theorem yi (i:Nat) (hC:C w) (h:XS P N ro ops Q (λ ch _ ds w=>QP0 ch ds w) C fuel (i::done) (put N ρ o.dst undef) ds w) (hi:ops[i]?=some o:=by exact rfl) (hr:(YM ops done).contains i=true:=by kernel_rfl) (hf:zZ ops done i=true:=by kernel_rfl) (hg:∀ p q,Xj ops o ρ p q=q:=by exact λ _ _=>QO (by assumption)) :
 XS P N ro ops Q (λ ch _ ds w=>QP0 ch ds w) C (fuel+1) done ρ ds w:=Ov i hC hi hr hf hg h
theorem yP (i:Nat) {c a b:Operand} {d:Nat} {ty:TypeId} {pos:String} {after:Array Edge} {g:Option (Nat×Bool)} {vc va vb:Vl} {k:Vl→Prop} (hC:C w) (h:Zy vc va vb k) (hk:∀ v,k v→XS P N ro ops Q (λ ch _ ds w=>QP0 ch ds w) C fuel (i::done) (put N ρ (some d) v) ds w) (hi:ops[i]?=some ⟨some d,.pick c a b,ty,pos,after,g⟩:=by exact rfl) (hr:(YM ops done).contains i=true:=by kernel_rfl) (hf:zZ ops done i=true:=by kernel_rfl) (hg:∀ p q,Xj ops ⟨some d,.pick c a b,ty,pos,after,g⟩ ρ p q=p:=by first | exact λ _ _=>rfl | exact λ _ _=>Xh (by assumption)) (h1:ev ρ c=vc:=by exact rfl) (h2:ev ρ a=va:=by exact rfl) (h3:ev ρ b=vb:=by exact rfl) :
 XS P N ro ops Q (λ ch _ ds w=>QP0 ch ds w) C (fuel+1) done ρ ds w:=by
 obtain ⟨t,ht,h⟩:=LN h
 exact Ur i hC hi hr hf hg rfl (Te (h1.trans ht) h2 h3) (hk _ h)
theorem yo (i:Nat) (h:ZO P N ro QP (λ ρ ds w=>C w∧XS P N ro ops Q QP C fuel (i::done) ρ ds w) [o] ρ ds w) (hi:ops[i]?=some o:=by exact rfl) (hr:YM ops done=[i]:=by kernel_rfl) (hg:∀ p q,Xj ops o ρ p q=p:=by first | exact λ _ _=>rfl | exact λ _ _=>Xh (by assumption)):XS P N ro ops Q QP C (fuel+1) done ρ ds w:=Ou i hi hr hg h
theorem yr (i:Nat) (h:ZO P N ro QP (λ ρ ds w=>∃ C':Wd→Prop,(∀ x,C' x→C x)∧C' w∧XS P N ro ops Q QP C' fuel (i::done) ρ ds w) [o] ρ ds w) (hi:ops[i]?=some o:=by exact rfl) (hr:YM ops done=[i]:=by kernel_rfl) (hg:∀ p q,Xj ops o ρ p q=p:=by first | exact λ _ _=>rfl | exact λ _ _=>Xh (by assumption)):XS P N ro ops Q QP C (fuel+1) done ρ ds w:=Ib i hi hr hg h
theorem yq (i n:Nat) (h:ZO P N ro QP (λ ρ ds w=>∃ C':Wd→Prop,C' w∧XS P N ro ops Q QP C' fuel (i::done) ρ ds w) [o] ρ ds w) (hi:ops[i]?=some o:=by exact rfl) (hr:YM ops done=[i]:=by kernel_rfl) (hm:Vv ops n done i=true:=by kernel_rfl) (hg:∀ p q,Xj ops o ρ p q=p:=by first | exact λ _ _=>rfl | exact λ _ _=>Xh (by assumption)):XS P N ro ops Q QP C (fuel+1) done ρ ds w:=Ow i n hi hr hm hg h
theorem yz (h:Q ρ ds w) (hr:YM ops done=[]:=by kernel_rfl):XS P N ro ops Q QP C fuel done ρ ds w:=Ty hr h
theorem yh (S:List Nat) {id:Nat} {l:List Oper} {Q:K} {f:(Wd→Prop)→Wd→Prop} (h:Yg w f) (hk:∀ C:Wd→Prop,C (drew w)→f C (drew w)→XS P N ro l.toArray (Q .normal) (λ ch _ ds w=>∀ ρ',Fr S ρ ρ'→QP ch ρ' ds w) C l.length [] ρ ds (drew w)) (hm:P.follows .mixedOrders=true:=by kernel_rfl) (hS:l.all (λ o=>match o.dst with | some d=>S.contains d | none=>true)=true:=by kernel_rfl):den P N ro (.region id l.toArray true) Q QP ρ ds w:=let ⟨C,hC,hf⟩:=h;Tz S hm hS C (hk C hC hf)
theorem yj1 (fuel':Nat) (done' S:List Nat) (x0:Nat) {K0:KV} {A B:(Vl→Wd→Prop)→Prop} {v:Vl} {want:Bool} (h:Zo K0 λ K=>Zn v want (A K) (B K))
 (h1:∀ K:Vl→Wd→Prop,(∀ ρ' w,Fr S ρ ρ'→C w→K (ρ' x0) w→XS P N ro ops Q QP C fuel' done' ρ' ds w)→XJ v=some want→A K→XS P N ro ops Q QP C fuel done ρ ds w) (h2:∀ K:Vl→Wd→Prop,(∀ ρ' w,Fr S ρ ρ'→C w→K (ρ' x0) w→XS P N ro ops Q QP C fuel' done' ρ' ds w)→XJ v≠some want→B K→XS P N ro ops Q QP C fuel done ρ ds w)
 (hJ:∀ σ w,C w→K0 (σ x0) w→XS P N ro ops Q QP C fuel' done' (mix S ρ σ) ds w):XS P N ro ops Q QP C fuel done ρ ds w:=
 Ot fuel' done' S (λ ρ w=>K0 (ρ x0) w) (λ _ hT=>(Es h).elim (λ h=>h1 K0 hT h.1 h.2) (λ h=>h2 K0 hT h.1 h.2)) hJ
end
section
variable {P:Program} {N:Nat} {ro:Option Nat} {c:Code} {Q:K} {QP:KP} {ρ:Env} {ds:LDf} {w:Wd}
theorem yl1 (W:List Nat) (x0:Nat) {body:Vl→Wd→(Vl→Wd→Prop)→Prop} {a0:Vl} (h:Y6 body a0 w) (hr:∀ σ w (k:KV),body (σ x0) w k→den P N ro c (QM (λ ρ' ds' w'=>ds'=ds∧k (ρ' x0) w') Q) QP (mix W ρ σ) ds w) (hW:((Qo c).all (W.contains ·)&&W.all ((Qo c).contains ·))=true:=by kernel_rfl) (h0:ρ x0=a0:=by exact rfl):den P N ro (.loop c) Q QP ρ ds w:=by
 obtain ⟨I,μ,hi,hb⟩:=h
 subst h0
 exact BW W hW (λ ρ w=>I (ρ x0) w) (λ ρ w=>μ (ρ x0) w) hi λ σ w hI=>hr σ w _ (hb _ _ hI)
theorem yl2 (W:List Nat) (x0 x1:Nat) {body:Vl→Vl→Wd→(Vl→Vl→Wd→Prop)→Prop} {a0 a1:Vl} (h:Kz body a0 a1 w) (hr:∀ σ w (k:KW),body (σ x0) (σ x1) w k→den P N ro c (QM (λ ρ' ds' w'=>ds'=ds∧k (ρ' x0) (ρ' x1) w') Q) QP (mix W ρ σ) ds w) (hW:((Qo c).all (W.contains ·)&&W.all ((Qo c).contains ·))=true:=by kernel_rfl) (h0:ρ x0=a0:=by exact rfl) (h1:ρ x1=a1:=by exact rfl):den P N ro (.loop c) Q QP ρ ds w:=by
 obtain ⟨I,μ,hi,hb⟩:=h
 subst h0 h1
 exact BW W hW (λ ρ w=>I (ρ x0) (ρ x1) w) (λ ρ w=>μ (ρ x0) (ρ x1) w) hi λ σ w hI=>hr σ w _ (hb _ _ _ hI)
theorem yl3 (W:List Nat) (x0 x1 x2:Nat) {body:Vl→Vl→Vl→Wd→(Vl→Vl→Vl→Wd→Prop)→Prop} {a0 a1 a2:Vl} (h:GD body a0 a1 a2 w) (hr:∀ σ w (k:Vl→Vl→Vl→Wd→Prop),body (σ x0) (σ x1) (σ x2) w k→den P N ro c (QM (λ ρ' ds' w'=>ds'=ds∧k (ρ' x0) (ρ' x1) (ρ' x2) w') Q) QP (mix W ρ σ) ds w) (hW:((Qo c).all (W.contains ·)&&W.all ((Qo c).contains ·))=true:=by kernel_rfl) (h0:ρ x0=a0:=by exact rfl) (h1:ρ x1=a1:=by exact rfl) (h2:ρ x2=a2:=by exact rfl):den P N ro (.loop c) Q QP ρ ds w:=by
 obtain ⟨I,μ,hi,hb⟩:=h
 subst h0 h1 h2
 exact BW W hW (λ ρ w=>I (ρ x0) (ρ x1) (ρ x2) w) (λ ρ w=>μ (ρ x0) (ρ x1) (ρ x2) w) hi λ σ w hI=>hr σ w _ (hb _ _ _ _ hI)
theorem yJ0 (S:List Nat) {K0:WPr} {f:(Wd→Prop)→Prop} (h:Zo K0 f) (hc:∀ (K:WPr) (k':Env→LDf→Wd→Prop),(∀ ρ' w,Fr S ρ ρ'→K w→k' ρ' ds w)→f K→den P N ro c (QM k' Q) QP ρ ds w) (hJ:∀ σ w,K0 w→Q .normal (mix S ρ σ) ds w):den P N ro c Q QP ρ ds w:=
 qk S (λ ρ w=>K0 w) (λ k' hk=>hc K0 k' hk h) hJ
theorem yJ1 (S:List Nat) (x0:Nat) {K0:KV} {f:(Vl→Wd→Prop)→Prop} (h:Zo K0 f) (hc:∀ (K:KV) (k':Env→LDf→Wd→Prop),(∀ ρ' w,Fr S ρ ρ'→K (ρ' x0) w→k' ρ' ds w)→f K→den P N ro c (QM k' Q) QP ρ ds w) (hJ:∀ σ w,K0 (σ x0) w→Q .normal (mix S ρ σ) ds w):den P N ro c Q QP ρ ds w:=
 qk S (λ ρ w=>K0 (ρ x0) w) (λ k' hk=>hc K0 k' hk h) hJ
theorem yJ2 (S:List Nat) (x0 x1:Nat) {K0:KW} {f:(Vl→Vl→Wd→Prop)→Prop} (h:Zo K0 f) (hc:∀ (K:KW) (k':Env→LDf→Wd→Prop),(∀ ρ' w,Fr S ρ ρ'→K (ρ' x0) (ρ' x1) w→k' ρ' ds w)→f K→den P N ro c (QM k' Q) QP ρ ds w) (hJ:∀ σ w,K0 (σ x0) (σ x1) w→Q .normal (mix S ρ σ) ds w):den P N ro c Q QP ρ ds w:=
 qk S (λ ρ w=>K0 (ρ x0) (ρ x1) w) (λ k' hk=>hc K0 k' hk h) hJ
theorem yC {x:Operand} {A B:Code} {v:Vl} {p q:Prop} (h:Zs v p q) (hp:p→den P N ro A Q QP ρ ds w) (hq:q→den P N ro B Q QP ρ ds w) (hv:ev ρ x=v:=by exact rfl):den P N ro (.cond x A B) Q QP ρ ds w:=Tx h hv hp hq
theorem yG (n:Nat) {ops:Array Oper} {l:List Oper} (h:ZO P N ro QP (λ ρ ds w=>Yb P N ro ops Q QP (l.drop n) none ρ ds w) (l.take n) ρ ds w) (hu:WU (l.take n)=true:=by exact rfl):Yb P N ro ops Q QP l none ρ ds w:=Zbl n hu h
theorem yg1 (n j:Nat) (want:Bool) (S:List Nat) (x0:Nat) {ops:Array Oper} {l:List Oper} {K0:KV} {A:(Vl→Wd→Prop)→Prop} {v:Vl} {u0:Vl} (h:Zo K0 λ K=>Zn v want (A K) (K u0 w))
 (hc:∀ (K:KV) (T:Env→LDf→Wd→Prop),(∀ ρ' w,Fr S ρ ρ'→K (ρ' x0) w→T ρ' ds w)→A K→ZO P N ro QP T (l.take n) ρ ds w) (hJ:∀ σ w,K0 (σ x0) w→Yb P N ro ops Q QP (l.drop n) none (mix S ρ σ) ds w) (hok:F7 ops j want (l.take n) (l.drop n)=true:=by exact rfl) (hv:Qd ops ρ j=v:=by exact rfl) (hf:Fr S ρ (skipAll N (l.take n) ρ):=by exact Fr.skipAll rfl (Fr.refl _ _)) (hu0:skipAll N (l.take n) ρ x0=u0:=by exact rfl):Yb P N ro ops Q QP l none ρ ds w:=by
 subst hu0;exact Mg n j want S (λ ρ w=>K0 (ρ x0) w) hok hv (λ T hT=>Uh h (hc K0 T hT) λ h=>hT _ _ hf h) hJ
end
section
variable {P:Program} {f:FuncId} {fn:Func} {c:Code} {args:List Vl} {w:Wd} {R:RT}
theorem yD (hf:P.funcs[f]?=some fn) (h:den P fn.ntmps none c (Ue P fn R) (xk R) (Ak args) [] w) (hb:fn.body=some c:=by exact rfl) (hn:args.length≤fn.ntmps:=by exact Nat.le_of_ble_eq_true rfl):Calls P f args.toArray w R:=D5 hf hb hn h
theorem yE (hf:P.funcs[f]?=some fn) (h:den P fn.ntmps none c (j8 P fn R) (jB P fn R) (Ak args) [] w) (hb:fn.body=some c:=by exact rfl) (hn:args.length≤fn.ntmps:=by exact Nat.le_of_ble_eq_true rfl):Calls P f args.toArray w R:=Cl hf hb hn h
end
end Go.Sw
namespace Go.Proofs.YtgalpdihjbinjaaGreatDoor
open Sw
theorem c3:Callable Pg 3:=⟨_,func3,by kernel_rfl,rfl⟩
theorem c4:Callable Pg 4:=⟨_,func4,by kernel_rfl,rfl⟩
theorem c5:Callable Pg 5:=⟨_,func5,by kernel_rfl,rfl⟩
theorem c6:Callable Pg 6:=⟨_,func6,by kernel_rfl,rfl⟩
theorem c7:Callable Pg 7:=⟨_,func7,by kernel_rfl,rfl⟩
theorem c8:Callable Pg 8:=⟨_,func8,by kernel_rfl,rfl⟩
theorem c9:Callable Pg 9:=⟨_,func9,by kernel_rfl,rfl⟩
theorem c10:Callable Pg 10:=⟨_,func10,by kernel_rfl,rfl⟩
theorem c11:Callable Pg 11:=⟨_,func11,by kernel_rfl,rfl⟩
theorem c12:Callable Pg 12:=⟨_,func12,by kernel_rfl,rfl⟩
theorem c13:Callable Pg 13:=⟨_,func13,by kernel_rfl,rfl⟩
theorem c14:Callable Pg 14:=⟨_,func14,by kernel_rfl,rfl⟩
theorem c16:Callable Pg 16:=⟨_,func16,by kernel_rfl,rfl⟩
theorem c18:Callable Pg 18:=⟨_,func18,by kernel_rfl,rfl⟩
theorem c20:Callable Pg 20:=⟨_,func20,by kernel_rfl,rfl⟩
theorem c21:Callable Pg 21:=⟨_,func21,by kernel_rfl,rfl⟩
theorem c22:Callable Pg 22:=⟨_,func22,by kernel_rfl,rfl⟩
theorem c25:Callable Pg 25:=⟨_,func25,by kernel_rfl,rfl⟩
theorem c27:Callable Pg 27:=⟨_,func27,by kernel_rfl,rfl⟩
theorem c28:Callable Pg 28:=⟨_,func28,by kernel_rfl,rfl⟩
theorem c30:Callable Pg 30:=⟨_,func30,by kernel_rfl,rfl⟩
theorem c31:Callable Pg 31:=⟨_,func31,by kernel_rfl,rfl⟩
theorem c32:Callable Pg 32:=⟨_,func32,by kernel_rfl,rfl⟩
theorem c33:Callable Pg 33:=⟨_,func33,by kernel_rfl,rfl⟩
theorem c34:Callable Pg 34:=⟨_,func34,by kernel_rfl,rfl⟩
theorem c35:Callable Pg 35:=⟨_,func35,by kernel_rfl,rfl⟩
theorem c36:Callable Pg 36:=⟨_,func36,by kernel_rfl,rfl⟩
theorem c37:Callable Pg 37:=⟨_,func37,by kernel_rfl,rfl⟩
theorem c42:Callable Pg 42:=⟨_,func42,by kernel_rfl,rfl⟩
theorem c43:Callable Pg 43:=⟨_,func43,by kernel_rfl,rfl⟩
theorem c44:Callable Pg 44:=⟨_,func44,by kernel_rfl,rfl⟩
theorem c46:Callable Pg 46:=⟨_,func46,by kernel_rfl,rfl⟩
theorem c47:Callable Pg 47:=⟨_,func47,by kernel_rfl,rfl⟩
theorem c48:Callable Pg 48:=⟨_,func48,by kernel_rfl,rfl⟩
theorem c49:Callable Pg 49:=⟨_,func49,by kernel_rfl,rfl⟩
theorem c50:Callable Pg 50:=⟨_,func50,by kernel_rfl,rfl⟩
theorem c51:Callable Pg 51:=⟨_,func51,by kernel_rfl,rfl⟩
theorem c52:Callable Pg 52:=⟨_,func52,by kernel_rfl,rfl⟩
theorem c53:Callable Pg 53:=⟨_,func53,by kernel_rfl,rfl⟩
theorem c57:Callable Pg 57:=⟨_,func57,by kernel_rfl,rfl⟩
theorem c58:Callable Pg 58:=⟨_,func58,by kernel_rfl,rfl⟩
theorem c59:Callable Pg 59:=⟨_,func59,by kernel_rfl,rfl⟩
theorem c60:Callable Pg 60:=⟨_,func60,by kernel_rfl,rfl⟩
theorem c62:Callable Pg 62:=⟨_,func62,by kernel_rfl,rfl⟩
theorem c63:Callable Pg 63:=⟨_,func63,by kernel_rfl,rfl⟩
theorem c64:Callable Pg 64:=⟨_,func64,by kernel_rfl,rfl⟩
theorem c65:Callable Pg 65:=⟨_,func65,by kernel_rfl,rfl⟩
theorem c66:Callable Pg 66:=⟨_,func66,by kernel_rfl,rfl⟩
theorem c67:Callable Pg 67:=⟨_,func67,by kernel_rfl,rfl⟩
theorem c68:Callable Pg 68:=⟨_,func68,by kernel_rfl,rfl⟩
theorem c70:Callable Pg 70:=⟨_,func70,by kernel_rfl,rfl⟩
theorem c71:Callable Pg 71:=⟨_,func71,by kernel_rfl,rfl⟩
theorem c72:Callable Pg 72:=⟨_,func72,by kernel_rfl,rfl⟩
theorem c73:Callable Pg 73:=⟨_,func73,by kernel_rfl,rfl⟩
theorem c74:Callable Pg 74:=⟨_,func74,by kernel_rfl,rfl⟩
theorem c75:Callable Pg 75:=⟨_,func75,by kernel_rfl,rfl⟩
theorem c76:Callable Pg 76:=⟨_,func76,by kernel_rfl,rfl⟩
theorem c77:Callable Pg 77:=⟨_,func77,by kernel_rfl,rfl⟩
theorem c78:Callable Pg 78:=⟨_,func78,by kernel_rfl,rfl⟩
theorem c79:Callable Pg 79:=⟨_,func79,by kernel_rfl,rfl⟩
theorem c80:Callable Pg 80:=⟨_,func80,by kernel_rfl,rfl⟩
theorem c85:Callable Pg 85:=⟨_,func85,by kernel_rfl,rfl⟩
theorem c87:Callable Pg 87:=⟨_,func87,by kernel_rfl,rfl⟩
theorem c88:Callable Pg 88:=⟨_,func88,by kernel_rfl,rfl⟩
theorem c89:Callable Pg 89:=⟨_,func89,by kernel_rfl,rfl⟩
theorem c90:Callable Pg 90:=⟨_,func90,by kernel_rfl,rfl⟩
theorem c91:Callable Pg 91:=⟨_,func91,by kernel_rfl,rfl⟩
theorem c97:Callable Pg 97:=⟨_,func97,by kernel_rfl,rfl⟩
theorem c99:Callable Pg 99:=⟨_,func99,by kernel_rfl,rfl⟩
theorem ZiB:Callable Pg 100:=⟨_,func100,by kernel_rfl,rfl⟩
theorem O4:Callable Pg 101:=⟨_,func101,by kernel_rfl,rfl⟩
theorem ZiC:Callable Pg 102:=⟨_,func102,by kernel_rfl,rfl⟩
theorem ZiD:Callable Pg 106:=⟨_,func106,by kernel_rfl,rfl⟩
theorem ZiE:Callable Pg 107:=⟨_,func107,by kernel_rfl,rfl⟩
theorem ZiF:Callable Pg 108:=⟨_,func108,by kernel_rfl,rfl⟩
theorem ZiG:Callable Pg 109:=⟨_,func109,by kernel_rfl,rfl⟩
theorem Ze1:Callable Pg 110:=⟨_,func110,by kernel_rfl,rfl⟩
theorem ZiH:Callable Pg 111:=⟨_,func111,by kernel_rfl,rfl⟩
theorem ZiI:Callable Pg 112:=⟨_,func112,by kernel_rfl,rfl⟩
theorem ZiJ:Callable Pg 113:=⟨_,func113,by kernel_rfl,rfl⟩
theorem ZiK:Callable Pg 114:=⟨_,func114,by kernel_rfl,rfl⟩
theorem ZiL:Callable Pg 125:=⟨_,func125,by kernel_rfl,rfl⟩
theorem ZiM:Callable Pg 126:=⟨_,func126,by kernel_rfl,rfl⟩
theorem c127:Callable Pg 127:=⟨_,func127,by kernel_rfl,rfl⟩
theorem Ze2:Callable Pg 128:=⟨_,func128,by kernel_rfl,rfl⟩
theorem ZiN:Callable Pg 129:=⟨_,func129,by kernel_rfl,rfl⟩
theorem Ze3:Callable Pg 133:=⟨_,func133,by kernel_rfl,rfl⟩
theorem Ze4:Callable Pg 134:=⟨_,func134,by kernel_rfl,rfl⟩
theorem Ua:Callable Pg 135:=⟨_,func135,by kernel_rfl,rfl⟩
theorem ZiO:Callable Pg 136:=⟨_,func136,by kernel_rfl,rfl⟩
theorem ZiP:Callable Pg 137:=⟨_,func137,by kernel_rfl,rfl⟩
theorem ZiQ:Callable Pg 138:=⟨_,func138,by kernel_rfl,rfl⟩
theorem ZiR:Callable Pg 139:=⟨_,func139,by kernel_rfl,rfl⟩
theorem ZdK:Callable Pg 140:=⟨_,func140,by kernel_rfl,rfl⟩
theorem Ze5:Callable Pg 141:=⟨_,func141,by kernel_rfl,rfl⟩
theorem Ze6:Callable Pg 142:=⟨_,func142,by kernel_rfl,rfl⟩
theorem c143:Callable Pg 143:=⟨_,func143,by kernel_rfl,rfl⟩
theorem c145:Callable Pg 145:=⟨_,func145,by kernel_rfl,rfl⟩
theorem ZiS:Callable Pg 153:=⟨_,func153,by kernel_rfl,rfl⟩
theorem ZiT:Callable Pg 154:=⟨_,func154,by kernel_rfl,rfl⟩
theorem ZiU:Callable Pg 155:=⟨_,func155,by kernel_rfl,rfl⟩
theorem ZiV:Callable Pg 160:=⟨_,func160,by kernel_rfl,rfl⟩
theorem ZiW:Callable Pg 161:=⟨_,func161,by kernel_rfl,rfl⟩
theorem Ze7:Callable Pg 162:=⟨_,func162,by kernel_rfl,rfl⟩
theorem ZiX:Callable Pg 163:=⟨_,func163,by kernel_rfl,rfl⟩
theorem ZiY:Callable Pg 164:=⟨_,func164,by kernel_rfl,rfl⟩
theorem ZiZ:Callable Pg 165:=⟨_,func165,by kernel_rfl,rfl⟩
theorem Zi0:Callable Pg 166:=⟨_,func166,by kernel_rfl,rfl⟩
theorem c167:Callable Pg 167:=⟨_,func167,by kernel_rfl,rfl⟩
theorem c168:Callable Pg 168:=⟨_,func168,by kernel_rfl,rfl⟩
theorem c171:Callable Pg 171:=⟨_,func171,by kernel_rfl,rfl⟩
theorem c173:Callable Pg 173:=⟨_,func173,by kernel_rfl,rfl⟩
theorem c175:Callable Pg 175:=⟨_,func175,by kernel_rfl,rfl⟩
theorem Nt:Callable Pg 188:=⟨_,func188,by kernel_rfl,rfl⟩
theorem Zi1:Callable Pg 189:=⟨_,func189,by kernel_rfl,rfl⟩
theorem Zi2:Callable Pg 191:=⟨_,func191,by kernel_rfl,rfl⟩
theorem Zi3:Callable Pg 192:=⟨_,func192,by kernel_rfl,rfl⟩
theorem Zi4:Callable Pg 193:=⟨_,func193,by kernel_rfl,rfl⟩
theorem Zi5:Callable Pg 194:=⟨_,func194,by kernel_rfl,rfl⟩
theorem Nu:Callable Pg 195:=⟨_,func195,by kernel_rfl,rfl⟩
theorem Ze8:Callable Pg 196:=⟨_,func196,by kernel_rfl,rfl⟩
theorem Zi6:Callable Pg 197:=⟨_,func197,by kernel_rfl,rfl⟩
theorem Ze9:Callable Pg 198:=⟨_,func198,by kernel_rfl,rfl⟩
theorem Zfa:Callable Pg 199:=⟨_,func199,by kernel_rfl,rfl⟩
theorem Zi7:Callable Pg 200:=⟨_,func200,by kernel_rfl,rfl⟩
theorem c210:Callable Pg 210:=⟨_,func210,by kernel_rfl,rfl⟩
theorem Zi8:Callable Pg 211:=⟨_,func211,by kernel_rfl,rfl⟩
theorem c212:Callable Pg 212:=⟨_,func212,by kernel_rfl,rfl⟩
theorem c213:Callable Pg 213:=⟨_,func213,by kernel_rfl,rfl⟩
theorem Zfb:Callable Pg 214:=⟨_,func214,by kernel_rfl,rfl⟩
theorem D4:Callable Pg 215:=⟨_,func215,by kernel_rfl,rfl⟩
theorem Zi9:Callable Pg 216:=⟨_,func216,by kernel_rfl,rfl⟩
theorem Zja:Callable Pg 217:=⟨_,func217,by kernel_rfl,rfl⟩
theorem Zjb:Callable Pg 218:=⟨_,func218,by kernel_rfl,rfl⟩
theorem Zjc:Callable Pg 219:=⟨_,func219,by kernel_rfl,rfl⟩
theorem Zjd:Callable Pg 220:=⟨_,func220,by kernel_rfl,rfl⟩
theorem ZdL:Callable Pg 221:=⟨_,func221,by kernel_rfl,rfl⟩
theorem Zje:Callable Pg 222:=⟨_,func222,by kernel_rfl,rfl⟩
theorem Zjf:Callable Pg 223:=⟨_,func223,by kernel_rfl,rfl⟩
theorem Zjg:Callable Pg 224:=⟨_,func224,by kernel_rfl,rfl⟩
theorem Zjh:Callable Pg 225:=⟨_,func225,by kernel_rfl,rfl⟩
theorem Zji:Callable Pg 226:=⟨_,func226,by kernel_rfl,rfl⟩
theorem Zjj:Callable Pg 227:=⟨_,func227,by kernel_rfl,rfl⟩
theorem ZdM:Callable Pg 228:=⟨_,func228,by kernel_rfl,rfl⟩
theorem Zjk:Callable Pg 229:=⟨_,func229,by kernel_rfl,rfl⟩
theorem Zjl:Callable Pg 230:=⟨_,func230,by kernel_rfl,rfl⟩
theorem Zjm:Callable Pg 231:=⟨_,func231,by kernel_rfl,rfl⟩
theorem c232:Callable Pg 232:=⟨_,func232,by kernel_rfl,rfl⟩
theorem c233:Callable Pg 233:=⟨_,func233,by kernel_rfl,rfl⟩
theorem Zjn:Callable Pg 234:=⟨_,func234,by kernel_rfl,rfl⟩
theorem Zjo:Callable Pg 235:=⟨_,func235,by kernel_rfl,rfl⟩
theorem Zjp:Callable Pg 236:=⟨_,func236,by kernel_rfl,rfl⟩
theorem Zjq:Callable Pg 237:=⟨_,func237,by kernel_rfl,rfl⟩
theorem Zjr:Callable Pg 238:=⟨_,func238,by kernel_rfl,rfl⟩
theorem Zfc:Callable Pg 239:=⟨_,func239,by kernel_rfl,rfl⟩
theorem Zjs:Callable Pg 240:=⟨_,func240,by kernel_rfl,rfl⟩
theorem Zjt:Callable Pg 241:=⟨_,func241,by kernel_rfl,rfl⟩
theorem Zju:Callable Pg 244:=⟨_,func244,by kernel_rfl,rfl⟩
theorem Zjv:Callable Pg 245:=⟨_,func245,by kernel_rfl,rfl⟩
theorem ZdN:Callable Pg 246:=⟨_,func246,by kernel_rfl,rfl⟩
theorem Zaa:Callable Pg 247:=⟨_,func247,by kernel_rfl,rfl⟩
theorem Zfd:Callable Pg 248:=⟨_,func248,by kernel_rfl,rfl⟩
theorem Zjw:Callable Pg 249:=⟨_,func249,by kernel_rfl,rfl⟩
theorem Zjx:Callable Pg 250:=⟨_,func250,by kernel_rfl,rfl⟩
theorem Zjy:Callable Pg 251:=⟨_,func251,by kernel_rfl,rfl⟩
theorem Zjz:Callable Pg 252:=⟨_,func252,by kernel_rfl,rfl⟩
theorem Zfe:Callable Pg 253:=⟨_,func253,by kernel_rfl,rfl⟩
theorem ZjA:Callable Pg 254:=⟨_,func254,by kernel_rfl,rfl⟩
theorem ZjB:Callable Pg 255:=⟨_,func255,by kernel_rfl,rfl⟩
theorem ZjC:Callable Pg 256:=⟨_,func256,by kernel_rfl,rfl⟩
theorem Zff:Callable Pg 257:=⟨_,func257,by kernel_rfl,rfl⟩
theorem ZjD:Callable Pg 258:=⟨_,func258,by kernel_rfl,rfl⟩
theorem ZjE:Callable Pg 259:=⟨_,func259,by kernel_rfl,rfl⟩
theorem Zfg:Callable Pg 260:=⟨_,func260,by kernel_rfl,rfl⟩
theorem ZjF:Callable Pg 261:=⟨_,func261,by kernel_rfl,rfl⟩
theorem ZjG:Callable Pg 262:=⟨_,func262,by kernel_rfl,rfl⟩
theorem ZjH:Callable Pg 263:=⟨_,func263,by kernel_rfl,rfl⟩
theorem ZjI:Callable Pg 264:=⟨_,func264,by kernel_rfl,rfl⟩
def HD (a b c:Vl) (ds:LDf) (R:RT) (w:Wd):Prop:=
 opV Pg (build 131 #[]) (ZB Pg ds [(none,c),(some 131,a),(some 4,b)] R) w λ d w=>
 opU Pg (storeAt 131 a d) (ZB Pg ds [(none,c),(some 131,a),(some 4,b)] R) w λ w=>
 opU Pg (storeAt 4 b (.bool false)) (ZB Pg ds [(none,c),(some 131,a),(some 4,b)] R) w λ w=>
 Uc Pg ds [(none,c),(some 131,a),(some 4,b)] R w
def HE (f c d b:Vl) (a:WPr) (ds:LDf) (R:RT) (w:Wd):Prop:=
 qN Pg a (Y2 b) λ g=>
 J0 201 g 1 a λ h=>
 I0 198 h a λ i=>
 J0 27 f 2 a λ j=>
 I0 9 j a λ k=>
 qV Pg a (lookup 198 i k true) λ e=>
 qV Pg a (extract e 0) λ m=>
 qV Pg a (extract e 1) λ l=>
 ZV Pg 135 #[b,l,(.int .i64 11)] (ZB Pg ds [(none,b),(some 131,c),(some 4,d)] R) w λ n w=>
 HD c d b ds R w
def HF (d b c a:Vl) (ds:LDf) (R:RT) (w:Wd):Prop:=
 opN Pg (Y2 a) (ZB Pg ds [(none,a),(some 131,b),(some 4,c)] R) w λ e w=>
 opV Pg (fieldAt 201 e 3) (ZB Pg ds [(none,a),(some 131,b),(some 4,c)] R) w λ f w=>
 opU Pg (storeAt 3 f (.int .i64 (-1))) (ZB Pg ds [(none,a),(some 131,b),(some 4,c)] R) w λ w=>
 Yg w λ g w=>
 HE d b c a g ds R w
def HG (b c a f d:Vl) (Yj:KV) (ds:LDf) (R:RT) (w:Wd):Prop:=
 opV Pg (indexAt 25 f d) (ZB Pg ds [(none,a),(some 131,b),(some 4,c)] R) w λ g w=>
 opV Pg (loadAt 74 g) (ZB Pg ds [(none,a),(some 131,b),(some 4,c)] R) w λ h w=>
 opV Pg (alloc 74 true (.tuple #[])) (ZB Pg ds [(none,a),(some 131,b),(some 4,c)] R) w λ e w=>
 opU Pg (storeAt 74 e h) (ZB Pg ds [(none,a),(some 131,b),(some 4,c)] R) w λ w=>
 opN Pg (Y2 a) (ZB Pg ds [(none,a),(some 131,b),(some 4,c)] R) w λ i w=>
 opV Pg (fieldAt 201 i 3) (ZB Pg ds [(none,a),(some 131,b),(some 4,c)] R) w λ j w=>
 opU Pg (storeAt 3 j d) (ZB Pg ds [(none,a),(some 131,b),(some 4,c)] R) w λ w=>
 opV Pg (loadAt 74 e) (ZB Pg ds [(none,a),(some 131,b),(some 4,c)] R) w λ k w=>
 ZV Pg 136 #[a,k] (ZB Pg ds [(none,a),(some 131,b),(some 4,c)] R) w λ m w=>
 opV Pg (ZF .add 3 true d (.int .i64 1)) (ZB Pg ds [(none,a),(some 131,b),(some 4,c)] R) w λ l w=>
 Yj l w
def Dv (e a b c f g d:Vl) (Yj:KV) (ds:LDf) (R:RT) (w:Wd):Prop:=
 opV Pg (ZF .lss 3 false d g) (ZB Pg ds [(none,c),(some 131,a),(some 4,b)] R) w λ h w=>
 Zs h (
 HG a b c f d Yj ds R w) (
 HF e a b c ds R w)
def Bw (d a b c:Vl) (ds:LDf) (R:RT) (w:Wd):Prop:=
 opV Pg (fieldAt 27 d 1) (ZB Pg ds [(none,c),(some 131,a),(some 4,b)] R) w λ f w=>
 opV Pg (loadAt 25 f) (ZB Pg ds [(none,c),(some 131,a),(some 4,b)] R) w λ e w=>
 opV Pg (Builtin.len_ #[25] 3 #[e]) (ZB Pg ds [(none,c),(some 131,a),(some 4,b)] R) w λ g w=>
 Y6 (λ h w Yj=>
 Dv d a b c e g h Yj ds R w) (.int .i64 0) w
def MX (d b c a e f:Vl) (ds:LDf) (R:RT) (w:Wd):Prop:=
 Zy e f (.bool false) λ g=>
 ZV Pg 135 #[a,g,(.int .i64 3)] (ZB Pg ds [(none,a),(some 131,b),(some 4,c)] R) w λ h w=>
 Bw d b c a ds R w
def MY (d a b c:Vl) (e:KV) (ds:LDf) (R:RT) (w:Wd):Prop:=
 opV Pg (fieldAt 27 d 1) (ZB Pg ds [(none,c),(some 131,a),(some 4,b)] R) w λ f w=>
 opV Pg (loadAt 25 f) (ZB Pg ds [(none,c),(some 131,a),(some 4,b)] R) w λ g w=>
 opV Pg (Builtin.len_ #[25] 3 #[g]) (ZB Pg ds [(none,c),(some 131,a),(some 4,b)] R) w λ h w=>
 opV Pg (ZF .leq 3 true h (.int .i64 60)) (ZB Pg ds [(none,c),(some 131,a),(some 4,b)] R) w λ i w=>
 e i w
def HH (d a b c:Vl) (ds:LDf) (R:RT) (w:Wd):Prop:=
 opV Pg (fieldAt 27 d 1) (ZB Pg ds [(none,c),(some 131,a),(some 4,b)] R) w λ g w=>
 opV Pg (loadAt 25 g) (ZB Pg ds [(none,c),(some 131,a),(some 4,b)] R) w λ h w=>
 opV Pg (Builtin.len_ #[25] 3 #[h]) (ZB Pg ds [(none,c),(some 131,a),(some 4,b)] R) w λ i w=>
 opV Pg (ZF .geq 3 true i (.int .i64 1)) (ZB Pg ds [(none,c),(some 131,a),(some 4,b)] R) w λ e w=>
 Zo (λ (j:Vl) (w:Wd)=>
 MX d a b c e j ds R w) λ f=>
 Zn e true (
 MY d a b c f ds R w) (
 f undef w)
def n81 (e:Vl) (R:RT) (w:Wd):Prop:=
 (λ (ds:LDf)=>
 opV Pg (box 27 e) (ZB Pg ds [(none,undef),(some 131,undef),(some 4,undef)] R) w λ d w=>
 opV Pg (alloc 131 true (.tuple #[])) (ZB Pg ds [(none,(Value.pointer none)),(some 131,undef),(some 4,undef)] R) w λ a w=>
 opV Pg (alloc 4 true (.tuple #[])) (ZB Pg ds [(none,(Value.pointer none)),(some 131,a),(some 4,undef)] R) w λ b w=>
 opV Pg (loadAt 27 d) (ZB Pg ds [(none,(Value.pointer none)),(some 131,a),(some 4,b)] R) w λ f w=>
 opV Pg (Instr.makeMap 198 none) (ZB Pg ds [(none,(Value.pointer none)),(some 131,a),(some 4,b)] R) w λ g w=>
 opV Pg (Instr.makeMap 199 none) (ZB Pg ds [(none,(Value.pointer none)),(some 131,a),(some 4,b)] R) w λ h w=>
 opV Pg (build 201 #[(0,f),(1,g),(2,h),(3,(.int .i64 (-1))),(4,(.int .i64 (-1)))]) (ZB Pg ds [(none,(Value.pointer none)),(some 131,a),(some 4,b)] R) w λ i w=>
 opV Pg (box 201 i) (ZB Pg ds [(none,(Value.pointer none)),(some 131,a),(some 4,b)] R) w λ c w=>
 opV Pg (makeFunc (.func 134) #[] #[a,b]) (ZB Pg ds [(none,c),(some 131,a),(some 4,b)] R) w λ j w=>
 ZdP Pg j #[] ds w λ ds w=>
 opV Pg (fieldAt 27 d 0) (ZB Pg ds [(none,c),(some 131,a),(some 4,b)] R) w λ k w=>
 opV Pg (loadAt 9 k) (ZB Pg ds [(none,c),(some 131,a),(some 4,b)] R) w λ l w=>
 ZV Pg 35 #[l] (ZB Pg ds [(none,c),(some 131,a),(some 4,b)] R) w λ m w=>
 ZV Pg 135 #[c,m,(.int .i64 1)] (ZB Pg ds [(none,c),(some 131,a),(some 4,b)] R) w λ n w=>
 HH d a b c ds R w) []
theorem ZkV {t0:Vl} {R:RT} {w:Wd} (h:n81 t0 R w):Calls Pg 106 #[t0] w R:=by
 refine yE func106 ?_
 unfold n81 at h
 dsimp only at h
 refine zs<|zr<|yv h λ _ w h=>zm<|yv h λ _ w h=>yv h λ _ w h=>zn<|zk<|zs<|zr<|yv h λ _ w h=>yv h λ _ w h=>yv h λ _ w h=>yB h λ _ w h=>yv h λ _ w h=>?_
 refine zm<|zn<|zk<|zs<|zr<|yF h λ _ w h=>?_
 refine DJ h rfl rfl ?_;intro ds w h
 refine zn<|zk<|zs<|zr<|zm<|yv h λ _ w h=>yv h λ _ w h=>yc h c35 λ _ w h=>yc h Ua λ _ w h=>zn<|zk<|zs<|Zt<|yG 6<|zm ?_
 refine yv h λ _ w h=>yv h λ _ w h=>yx h λ _ w h=>yb h λ _ w h=>zm<|zn<|yg1 4 5 true [26,27,28,29] 29 h (λ _ T hT h=>?_) λ σ w h=>?_
 · refine yv h λ _ w h=>yv h λ _ w h=>yx h λ _ w h=>yb h λ _ w h=>zn ?_
   exact zt hT h
 refine yG 2<|yp h λ _ h=>yc h Ua λ _ w h=>zn<|ZK<|zk<|zs<|zs<|zr<|yv h λ _ w h=>yv h λ _ w h=>yx h λ _ w h=>zm<|zn<|zk ?_
 refine Zl<|yl1 [5,6,35,36,37,38,39,40,41,42,43,44,45,46,47] 35 h λ σ w next h=>zs<|zr<|yb h λ _ w h=>zn<|zk<|zs<|yC h (λ h=>?_) λ h=>?_
 · refine Zj<|zk<|zs<|Zl<|zs<|zr<|zm<|yv h λ _ w h=>yv h λ _ w h=>yv h λ _ w h=>zm<|yu h λ w h=>zn<|zk<|zs ?_
   refine zr<|zm<|zm<|yN h λ _ w h=>yv h λ _ w h=>yu h λ w h=>zn<|zk<|zr<|zm<|yv h λ _ w h=>yc h ZiO λ _ w h=>zn<|Zf<|zk ?_
   exact zr<|yb h λ _ w h=>zm<|zn<|zk<|⟨rfl,h⟩
 refine ZM<|Ze<|Ze<|Zu<|zk<|zs<|zr<|zm<|yN h λ _ w h=>yv h λ _ w h=>yu h λ w h=>zn<|zk<|zs<|yh [7,8,51,52,53,54,55,56,57,58,59,60] h λ C hC h=>?_
 refine yw 0 hC ?_
 refine yn 1 hC h λ _ h=>?_
 refine ye 2 hC h λ _ h=>?_
 refine ye 3 hC h λ _ h=>?_
 refine ye 4 hC h λ _ h=>?_
 refine ye 5 hC h λ _ h=>?_
 refine ye 6 hC h λ _ h=>?_
 refine yw 7 hC ?_
 refine ye 8 hC h λ _ h=>?_
 refine ye 9 hC h λ _ h=>?_
 refine yw 10 hC ?_
 refine yw 11 hC ?_
 refine yz<|zk<|zs<|zr<|zm<|zm<|yc h Ua λ _ w h=>zn<|zk<|zs<|zr<|zm<|yB h λ _ w h=>zm<|yu h λ w h=>?_
 exact yu h λ w h=>zn<|zk<|Zg<|X8 rfl h
def ZgJ (a b:Vl) (R:RT) (w:Wd):Prop:=
 C0 137 #[a,b] R w λ c w=>
 B0 .geq 3 true c (.int .i64 0) R w λ d w=>
 R (.returned d) w
theorem ZgK {t0 t1:Vl} {R:RT} {w:Wd} (h:ZgJ t0 t1 R w):Calls Pg 107 #[t0,t1] w R:=by
 refine yD func107 ?_
 refine zs<|zr<|zm<|zn<|zk<|zs<|zr<|zm<|zm<|yc h ZiP λ _ w h=>yb h λ _ w h=>zm<|zn<|zk<|Zg ?_
 exact Zi rfl rfl h
def Re (b c a:Vl) (Zx:KV) (R:RT) (w:Wd):Prop:=
 X0 40 b a R w λ d w=>
 L0 5 d R w λ e w=>
 XW Pg c #[e] (Zd R) w λ f w=>
 Zs f (
 R (.returned a) w) (
 B0 .add 3 true a (.int .i64 1) R w λ g w=>
 Zx g w)
def Zhb (a c:Vl) (R:RT) (w:Wd):Prop:=
 G0 40 3 a R w λ d w=>
 Y6 (λ b w Zx=>
 B0 .lss 3 false b d R w λ e w=>
 Zs e (
 Re a c b Zx R w) (
 R (.returned (.int .i64 (-1))) w)) (.int .i64 0) w
theorem Zhc {t0 t1:Vl} {R:RT} {w:Wd} (h:Zhb t0 t1 R w):Calls Pg 108 #[t0,t1] w R:=by
 refine yD func108 ?_
 refine zs<|zr<|zm<|zn<|zk<|zs<|zs<|zr<|zm<|yx h λ _ w h=>zm<|zn<|zk<|Zl<|yl1 [4,5,8,9,10,11,12,13,14,15,16,17,18] 8 h λ σ w next h=>?_
 refine zs<|zr<|yb h λ _ w h=>zn<|zk<|zs<|yC h (λ h=>?_) λ h=>?_
 · refine Zj<|zk<|zs<|Zl<|zs<|zr<|zm<|zm<|zn<|zk<|zs<|zr<|zm<|zm<|zm ?_
   refine yv h λ _ w h=>yv h λ _ w h=>yV h λ _ w h=>zn<|zk<|yC h (λ h=>zs<|zr<|zm<|zm<|zn<|zk<|Zg<|Zh<|Zb<|Zb<|Zh<|Zb<|Zi rfl rfl h) λ h=>Zj<|Zf<|zk<|zr<|yb h λ _ w h=>zm<|zn<|zk ?_
   exact ⟨rfl,h⟩
 exact ZM<|Ze<|Ze<|Zu<|zk<|zs<|zr<|zm<|zn<|zk<|Zg<|Zi rfl rfl h
def n64 (b c:Vl) (R:RT) (w:Wd):Prop:=
 opV Pg (box 27 b) (Zd R) w λ d w=>
 opV Pg (box 9 c) (Zd R) w λ e w=>
 F0 27 d 1 R w λ f w=>
 L0 25 f R w λ g w=>
 opV Pg (makeFunc (.func 139) #[] #[e]) (Zd R) w λ h w=>
 C0 138 #[g,h] R w λ a w=>
 E0q a 0 R w λ i w=>
 E0q a 1 R w λ j w=>
 R (.returned (.tuple #[i,j])) w
theorem ZkD {t0 t1:Vl} {R:RT} {w:Wd} (h:n64 t0 t1 R w):Calls Pg 109 #[t0,t1] w R:=by
 refine yD func109 ?_
 refine zs<|zr<|yv h λ _ w h=>yv h λ _ w h=>zm<|zm<|zn<|zk<|zs<|zr<|yv h λ _ w h=>yv h λ _ w h=>yF h λ _ w h=>yc h ZiQ λ _ w h=>yv h λ _ w h=>?_
 exact yv h λ _ w h=>zm<|zm<|zn<|zk<|Zg<|Yk rfl rfl rfl h
def Zcg (b c d:Vl) (a:WPr) (R:RT) (w:Wd):Prop:=
 J0 74 b 1 a λ e=>
 I0 72 e a λ f=>
 M0 72 f d a λ g=>
 I0 123 g a λ h=>
 J0 74 b 1 a λ i=>
 I0 72 i a λ j=>
 M0 72 j d a λ k=>
 I0 123 k a λ l=>
 C0 68 #[l] R w λ m w=>
 a w∧(
 S0 123 c h R w λ w=>
 Ut w λ n w=>
 qW Pg 123 c w λ r0=>
 R (.returned (.tuple #[r0,m])) w)
def Zch (a:Vl) (R:RT) (w:Wd):Prop:=
 opV Pg (build 123 #[]) (Zd R) w λ b w=>
 S0 123 a b R w λ w=>
 qW Pg 123 a w λ r0=>
 R (.returned (.tuple #[r0,(.int .i64 0)])) w
def Zci (c a b:Vl) (R:RT) (w:Wd):Prop:=
 E0q b 0 R w λ d w=>
 E0q b 1 R w λ e w=>
 N0 e R w λ f w=>
 Zs f (
 Zch a R w) (
 Yg w λ g w=>
 Zcg c a d g R w)
def n41 (b c:Vl) (R:RT) (w:Wd):Prop:=
 opV Pg (box 74 b) (Zd R) w λ a w=>
 opV Pg (alloc 123 true (.tuple #[])) (Zd R) w λ d w=>
 L0 74 a R w λ e w=>
 C0 140 #[e,c] R w λ f w=>
 Zci a d f R w
theorem Zkg {t0 t1:Vl} {R:RT} {w:Wd} (h:n41 t0 t1 R w):Calls Pg 110 #[t0,t1] w R:=by
 refine yD func110 ?_
 refine zs<|zr<|yv h λ _ w h=>yv h λ _ w h=>zm<|zn<|zk<|zs<|zr<|yv h λ _ w h=>zm<|yc h ZdK λ _ w h=>zm<|yv h λ _ w h=>yv h λ _ w h=>?_
 refine zm<|zm<|zn<|zk<|zs<|zs<|zr<|zm<|yv h λ _ w h=>zn<|zk<|yC h (λ h=>zs<|zr<|yB h λ _ w h=>yu h λ w h=>zm<|zn<|zk<|Zg<|Zb<|YH rfl rfl rfl h) λ h=>Zj<|zk ?_
 refine zs<|yh [5,17,18,19,20,21,22,23,24,25,26,27] h λ C hC h=>ye 0 hC h λ _ h=>?_
 refine ye 1 hC h λ _ h=>?_
 refine yw 2 hC ?_
 refine ye 3 hC h λ _ h=>?_
 refine ye 4 hC h λ _ h=>?_
 refine ye 5 hC h λ _ h=>?_
 refine ye 6 hC h λ _ h=>?_
 refine yw 7 hC ?_
 refine ye 8 hC h λ _ h=>?_
 refine ye 9 hC h λ _ h=>?_
 refine yo 10 ?_
 refine yc h c68 λ _ w h=>zn ?_
 obtain ⟨hC,h⟩:=h
 refine ⟨hC,?_⟩
 refine yq 11 5 ?_
 refine yu h λ w h=>zn ?_
 obtain ⟨C2,hC,h⟩:=h
 refine ⟨C2,hC,?_⟩
 refine yw 12 hC ?_
 exact yz<|zk<|Zg<|YH rfl rfl rfl h
def n36 (a b:Vl) (R:RT) (w:Wd):Prop:=
 opV Pg (box 43 a) (Zd R) w λ c w=>
 F0 43 c 0 R w λ d w=>
 L0 9 d R w λ e w=>
 F0 43 b 0 R w λ f w=>
 L0 9 f R w λ g w=>
 B0 .eql 9 false e g R w λ h w=>
 R (.returned h) w
theorem Zkb {t0 t1:Vl} {R:RT} {w:Wd} (h:n36 t0 t1 R w):Calls Pg 111 #[t0,t1] w R:=by
 refine yD func111 ?_
 refine zs<|zr<|yv h λ _ w h=>zm<|zn<|zk<|zs<|zr<|yv h λ _ w h=>yv h λ _ w h=>yv h λ _ w h=>yv h λ _ w h=>yb h λ _ w h=>zm<|zn ?_
 exact zk<|Zg<|Zi rfl rfl h
def qI (a b:Vl) (Yj:KW) (R:RT) (w:Wd):Prop:=
 F0 78 a 1 R w λ c w=>
 L0 3 c R w λ d w=>
 B0 .add 3 true b (.int .i64 1) R w λ e w=>
 Yj d e w
def Dk (e b f g h:Vl) (Yj:KW) (R:RT) (w:Wd):Prop:=
 Zy g h (.bool false) λ c=>
 Zo (λ (a:Vl) (w:Wd)=>
 Zy c a (.bool false) λ i=>
 C0 33 #[e,i,(.int .i64 8)] R w λ l w=>
 qI b f Yj R w) λ d=>
 Zn c true (
 F0 78 b 2 R w λ j w=>
 L0 3 j R w λ k w=>
 C0 42 #[k] R w λ a w=>
 d a w) (
 d undef w)
def Dl (e b f g h:Vl) (Yj:KW) (R:RT) (w:Wd):Prop:=
 Zy g h (.bool false) λ c=>
 Zo (λ (a:Vl) (w:Wd)=>
 Dk e b f c a Yj R w) λ d=>
 Zn c true (
 F0 78 b 1 R w λ i w=>
 L0 3 i R w λ j w=>
 C0 42 #[j] R w λ a w=>
 d a w) (
 d undef w)
def Bp (f g h c:Vl) (Yj:KW) (R:RT) (w:Wd):Prop:=
 X0 41 g c R w λ i w=>
 L0 78 i R w λ j w=>
 opV Pg (alloc 78 true (.tuple #[])) (Zd R) w λ a w=>
 S0 78 a j R w λ w=>
 F0 78 a 0 R w λ k w=>
 L0 3 k R w λ l w=>
 B0 .gtr 3 false l h R w λ d w=>
 Zo (λ (b:Vl) (w:Wd)=>
 Dl f a c d b Yj R w) λ e=>
 Zn d true (
 F0 78 a 0 R w λ m w=>
 L0 3 m R w λ n w=>
 F0 78 a 1 R w λ o w=>
 L0 3 o R w λ p w=>
 B0 .leq 3 false n p R w λ b w=>
 e b w) (
 e undef w)
def qJ (c a:Vl) (R:RT) (w:Wd):Prop:=
 G0 41 3 a R w λ d w=>
 Kz (λ e b w Yj=>
 B0 .lss 3 false b d R w λ f w=>
 Zs f (
 Bp c a e b Yj R w) (
 R (.returned (.tuple #[])) w)) (.int .i64 (-1)) (.int .i64 0) w
def n37 (c a:Vl) (R:RT) (w:Wd):Prop:=
 G0 41 3 a R w λ f w=>
 B0 .geq 3 true f (.int .i64 1) R w λ d w=>
 Zo (λ (b:Vl) (w:Wd)=>
 Zy d b (.bool false) λ g=>
 C0 33 #[c,g,(.int .i64 2)] R w λ i w=>
 qJ c a R w) λ e=>
 Zn d true (
 G0 41 3 a R w λ h w=>
 B0 .leq 3 true h (.int .i64 40) R w λ b w=>
 e b w) (
 e undef w)
theorem Zkc {t0 t1:Vl} {R:RT} {w:Wd} (h:n37 t0 t1 R w):Calls Pg 112 #[t0,t1] w R:=by
 refine yD func112 ?_
 refine zs<|Zt<|yG 5<|zm<|zm<|yx h λ _ w h=>yb h λ _ w h=>zm<|zn<|yg1 3 4 true [12,13,14] 14 h (λ _ T hT h=>?_) λ σ w h=>?_
 · refine zm<|yx h λ _ w h=>yb h λ _ w h=>zn ?_
   exact zt hT h
 refine yG 2<|yp h λ _ h=>yc h c33 λ _ w h=>zn<|ZK<|zk<|zs<|zr<|zm<|zn<|zk<|zs<|zr<|zm<|yx h λ _ w h=>?_
 refine zm<|zn<|zk<|Zl<|yl2 [4,6,19,20,21,22,23,24,25,26,27,28,29,30,31,32,33,34,35,36,37,38,39,40,41,42,43,44,45,46,47,48] 4 19 h λ σ w next h=>zs<|zr<|yb h λ _ w h=>zn<|zk<|zs<|yC h (λ h=>?_) λ h=>?_
 · refine Zj<|zk<|zs<|Zl<|zs<|zr<|yv h λ _ w h=>yv h λ _ w h=>yv h λ _ w h=>yu h λ w h=>zn<|zk<|zs<|Zt<|yG 6 ?_
   refine zm<|yv h λ _ w h=>yv h λ _ w h=>zm<|yb h λ _ w h=>zm<|zn<|yg1 5 5 true [29,30,31,32,33] 33 h (λ _ T hT h=>?_) λ σ w h=>?_
   · refine yv h λ _ w h=>yv h λ _ w h=>yv h λ _ w h=>yv h λ _ w h=>yb h λ _ w h=>zn ?_
     exact zt hT h
   refine yG 2<|yp h λ _ h=>zm<|zn<|yg1 3 12 true [36,37,38] 38 h (λ _ T hT h=>?_) λ σ w h=>?_
   · refine yv h λ _ w h=>yv h λ _ w h=>yc h c42 λ _ w h=>zn ?_
     exact zt hT h
   refine yG 2<|yp h λ _ h=>zm<|zn<|yg1 3 17 true [41,42,43] 43 h (λ _ T hT h=>?_) λ σ w h=>?_
   · refine yv h λ _ w h=>yv h λ _ w h=>yc h c42 λ _ w h=>zn ?_
     exact zt hT h
   refine yG 2<|yp h λ _ h=>yc h c33 λ _ w h=>zn<|ZK<|zk<|zr<|yv h λ _ w h=>yv h λ _ w h=>zm<|zn<|Zf<|zk<|zr<|yb h λ _ w h=>?_
   exact zm<|zn<|zk<|⟨rfl,h⟩
 exact ZM<|Ze<|Ze<|Zu<|ZG<|ZQ rfl h
def Rx (a b c d:Vl) (e:WPr) (Zx:KV) (R:RT) (w:Wd):Prop:=
 Zy c d (.bool false) λ f=>
 C0 33 #[a,f,(.int .i64 9)] R w λ h w=>
 e w∧(
 B0 .add 3 true b (.int .i64 1) R w λ g w=>
 Zx g w)
def Zb7 (b c d:Vl) (a:WPr) (e:KV) (R:RT) (w:Wd):Prop:=
 I0 123 c a λ f=>
 qN Pg a (Y2 b) λ g=>
 J0 81 g 0 a λ h=>
 J0 24 h 1 a λ i=>
 I0 22 i a λ j=>
 M0 22 j d a λ k=>
 J0 60 k 1 a λ l=>
 I0 9 l a λ m=>
 C0 141 #[f] R w λ n w=>
 a w∧(
 C0 142 #[n,m] R w λ o w=>
 a w∧(
 e o w))
def Zb8 (a f g b:Vl) (Zx:KV) (R:RT) (w:Wd):Prop:=
 E0q b 0 R w λ h w=>
 E0q b 1 R w λ c w=>
 Yg w λ d w=>
 Zo (λ (i:Vl) (w:Wd)=>
 Rx a g c i d Zx R w) λ e=>
 Zn c true (
 Zb7 a f h d e R w) (
 e undef w)
def Zb9 (a c d b:Vl) (Zx:KV) (R:RT) (w:Wd):Prop:=
 X0 94 d b R w λ e w=>
 L0 9 e R w λ f w=>
 opN Pg (Y2 a) (Zd R) w λ g w=>
 F0 81 g 0 R w λ h w=>
 L0 24 h R w λ i w=>
 C0 20 #[i,f] R w λ j w=>
 Zb8 a c b j Zx R w
def Zca (c d a:Vl) (R:RT) (w:Wd):Prop:=
 G0 94 3 a R w λ e w=>
 Y6 (λ b w Zx=>
 B0 .lss 3 false b e R w λ f w=>
 Zs f (
 Zb9 c d a b Zx R w) (
 R (.returned (.tuple #[])) w)) (.int .i64 0) w
def n34 (a b c:Vl) (R:RT) (w:Wd):Prop:=
 opV Pg (box 123 b) (Zd R) w λ d w=>
 opV Pg (box 123 c) (Zd R) w λ e w=>
 L0 123 d R w λ f w=>
 C0 141 #[f] R w λ g w=>
 Zca a e g R w
theorem Zj9 {t0 t1 t2:Vl} {R:RT} {w:Wd} (h:n34 t0 t1 t2 R w):Calls Pg 113 #[t0,t1,t2] w R:=by
 refine yD func113 ?_
 refine zs<|zr<|yv h λ _ w h=>yv h λ _ w h=>zn<|zk<|zs<|zr<|yv h λ _ w h=>yc h Ze5 λ _ w h=>yx h λ _ w h=>zm<|zn<|zk<|Zl ?_
 refine yl1 [7,8,9,13,14,15,16,17,18,19,20,21,22,23,24,25,26,27,28,29,30,31,32,33,34,35,36,37,38,39,40,41,42,43] 13 h λ σ w next h=>zs<|zr<|yb h λ _ w h=>zn<|zk<|zs<|yC h (λ h=>?_) λ h=>?_
 · refine Zj<|zk<|zs<|Zl<|zs<|zr<|yv h λ _ w h=>yv h λ _ w h=>zm<|zn<|zk<|zs<|zr<|zm<|yN h λ _ w h=>?_
   refine yv h λ _ w h=>yv h λ _ w h=>zm<|yc h c20 λ _ w h=>zm<|yv h λ _ w h=>yv h λ _ w h=>zm<|zm<|zn<|zk<|yh [26,27,28,29,30,31,32,33,34,35,36,37,38,39,40,41,42] h λ C hC h=>yw 0 hC ?_
   refine yw 1 hC ?_
   refine yw 2 hC ?_
   refine yj1 2 [14,4,13,12,11,10,9,8,7,6,5,3,2,1,0] [29,30,31,32,33,34,35,36,37,38,39,40] 40 h (λ _ hT hb h=>?_) (λ _ hT hb h=>?_) λ σ w hC h=>?_
   · refine ye 3 hC h λ _ h=>?_
     refine yw 5 hC ?_
     refine yn 6 hC h λ _ h=>?_
     refine ye 7 hC h λ _ h=>?_
     refine ye 8 hC h λ _ h=>?_
     refine ye 9 hC h λ _ h=>?_
     refine yw 10 hC ?_
     refine ye 11 hC h λ _ h=>?_
     refine ye 12 hC h λ _ h=>?_
     refine ye 13 hC h λ _ h=>?_
     refine yo 4 ?_
     refine yc h Ze5 λ _ w h=>zn ?_
     obtain ⟨hC,h⟩:=h
     refine ⟨hC,?_⟩
     refine yo 14 ?_
     refine yc h Ze6 λ _ w h=>zn ?_
     obtain ⟨hC,h⟩:=h
     refine ⟨hC,?_⟩
     exact yt hT hC h
   · refine yi 3 hC ?_
     refine yi 5 hC ?_
     refine yi 6 hC ?_
     refine yi 7 hC ?_
     refine yi 8 hC ?_
     refine yi 9 hC ?_
     refine yi 10 hC ?_
     refine yi 11 hC ?_
     refine yi 12 hC ?_
     refine yi 13 hC ?_
     refine yi 4 hC ?_
     refine yi 14 hC ?_
     exact yt hT hC h
   refine yP 15 hC h λ _ h=>?_
   refine yo 16 ?_
   refine yc h c33 λ _ w h=>zn ?_
   obtain ⟨hC,h⟩:=h
   refine ⟨hC,?_⟩
   exact yz<|Zf<|zk<|zr<|yb h λ _ w h=>zm<|zn<|zk<|⟨rfl,h⟩
 exact ZM<|Ze<|Ze<|Zu<|ZG<|ZQ rfl h
def P9 (b c a:Vl) (Zx:KV) (R:RT) (w:Wd):Prop:=
 X0 58 b a R w λ d w=>
 L0 43 d R w λ e w=>
 XW Pg c #[e] (Zd R) w λ f w=>
 Zs f (
 R (.returned a) w) (
 B0 .add 3 true a (.int .i64 1) R w λ g w=>
 Zx g w)
def Zg1 (a c:Vl) (R:RT) (w:Wd):Prop:=
 G0 58 3 a R w λ d w=>
 Y6 (λ b w Zx=>
 B0 .lss 3 false b d R w λ e w=>
 Zs e (
 P9 a c b Zx R w) (
 R (.returned (.int .i64 (-1))) w)) (.int .i64 0) w
theorem Zg2 {t0 t1:Vl} {R:RT} {w:Wd} (h:Zg1 t0 t1 R w):Calls Pg 114 #[t0,t1] w R:=by
 refine yD func114 ?_
 refine zs<|zr<|zm<|zn<|zk<|zs<|zs<|zr<|zm<|yx h λ _ w h=>zm<|zn<|zk<|Zl<|yl1 [4,5,8,9,10,11,12,13,14,15,16,17,18] 8 h λ σ w next h=>?_
 refine zs<|zr<|yb h λ _ w h=>zn<|zk<|zs<|yC h (λ h=>?_) λ h=>?_
 · refine Zj<|zk<|zs<|Zl<|zs<|zr<|zm<|zm<|zn<|zk<|zs<|zr<|zm<|zm<|zm ?_
   refine yv h λ _ w h=>yv h λ _ w h=>yV h λ _ w h=>zn<|zk<|yC h (λ h=>zs<|zr<|zm<|zm<|zn<|zk<|Zg<|Zh<|Zb<|Zb<|Zh<|Zb<|Zi rfl rfl h) λ h=>Zj<|Zf<|zk<|zr<|yb h λ _ w h=>zm<|zn<|zk ?_
   exact ⟨rfl,h⟩
 exact ZM<|Ze<|Ze<|Zu<|zk<|zs<|zr<|zm<|zn<|zk<|Zg<|Zi rfl rfl h
def I2 (a b c:Vl) (Zx:KV) (R:RT) (w:Wd):Prop:=
 N0 c R w λ d w=>
 Zs d (
 R (.returned (.tuple #[])) w) (
 L0 3 a R w λ e w=>
 B0 .add 3 false b e R w λ f w=>
 Zx f w)
def P6 (f c d a:Vl) (b:WPr) (Zx:KV) (R:RT) (w:Wd):Prop:=
 I0 3 d b λ g=>
 I0 40 c b λ h=>
 qV Pg b (sliceAt 40 h (some a) none none) λ i=>
 qV Pg b (Builtin.len_ #[40] 3 #[i]) λ j=>
 qV Pg b (Builtin.min_ #[3,3] 3 #[g,j]) λ e=>
 L0 40 c R w λ k w=>
 B0 .add 3 false a e R w λ l w=>
 B0 .add 3 false a e R w λ m w=>
 opV Pg (sliceAt 40 k (some a) (some l) (some m)) (Zd R) w λ n w=>
 XW Pg f #[n] (Zd R) w λ o w=>
 I2 d a o Zx R w
def P7 (c a d b:Vl) (Zx:KV) (R:RT) (w:Wd):Prop:=
 L0 40 a R w λ e w=>
 G0 40 3 e R w λ f w=>
 B0 .lss 3 false b f R w λ g w=>
 Zs g (
 Yg w λ h w=>
 P6 c a d b h Zx R w) (
 R (.returned (.tuple #[])) w)
def Zgt (a b c:Vl) (R:RT) (w:Wd):Prop:=
 Y6 (λ d w Zx=>
 P7 a b c d Zx R w) (.int .i64 0) w
theorem Zgu {t0 t1 t2:Vl} {R:RT} {w:Wd} (h:Zgt t0 t1 t2 R w):Calls Pg 154 #[t0,t1,t2] w R:=by
 refine yD func154 ?_
 refine zs<|zr<|zm<|zn<|zk<|Zl<|yl1 [4,5,6,7,8,9,10,11,12,13,14,15,16,17,18,19,20,21,22,23,24,25,26,27,28,29,30] 4 h λ σ w next h=>zs<|zs<|zr<|zm<|yv h λ _ w h=>yx h λ _ w h=>yb h λ _ w h=>zn ?_
 refine zk<|yC h (λ h=>?_) λ h=>?_
 · refine Zj<|zk<|zs<|Zl<|zs<|yh [5,13,14,15,16,17,18] h λ C hC h=>ye 0 hC h λ _ h=>?_
   refine ye 1 hC h λ _ h=>?_
   refine yw 2 hC ?_
   refine ye 3 hC h λ _ h=>?_
   refine ye 4 hC h λ _ h=>?_
   refine ye 5 hC h λ _ h=>?_
   refine yw 6 hC ?_
   refine yz<|zk<|zs<|zr<|zm<|yv h λ _ w h=>zm<|zm<|zm<|yb h λ _ w h=>zm<|zm<|yb h λ _ w h=>yv h λ _ w h=>yV h λ _ w h=>?_
   refine yv h λ _ w h=>zn<|zk<|yC h (λ h=>Zg<|Zh<|Zb<|Zb<|Zh<|ZQ rfl h) λ h=>Zj<|Zf<|zk<|zr<|zm<|yv h λ _ w h=>yb h λ _ w h=>zm<|zn<|zk ?_
   exact ⟨rfl,h⟩
 exact ZM<|Ze<|Ze<|Zu<|ZG<|ZQ rfl h
def Zdd (a b c:Vl) (R:RT) (w:Wd):Prop:=
 F0 255 c 1 R w λ d w=>
 L0 253 d R w λ e w=>
 L0 123 b R w λ f w=>
 XW Pg e #[a,f] (Zd R) w λ g w=>
 R (.returned (.tuple #[])) w
def Zde (b a c d:Vl) (R:RT) (w:Wd):Prop:=
 L0 123 d R w λ e w=>
 F0 123 a 0 R w λ f w=>
 L0 9 f R w λ g w=>
 F0 123 a 1 R w λ h w=>
 L0 117 h R w λ i w=>
 opV Pg (build 123 #[(0,g),(1,i)]) (Zd R) w λ j w=>
 C0 197 #[e,j] R w λ k w=>
 C0 135 #[b,k,(.int .i64 5)] R w λ l w=>
 Zdd b a c R w
def HB (d b c:Vl) (R:RT) (w:Wd):Prop:=
 L0 123 b R w λ e w=>
 opV Pg (alloc 123 true (.tuple #[])) (Zd R) w λ a w=>
 S0 123 a e R w λ w=>
 F0 255 c 0 R w λ f w=>
 L0 252 f R w λ g w=>
 XW Pg g #[a] (Zd R) w λ h w=>
 Zde d b c a R w
def Zdf (d e:Vl) (a:WPr) (f:KW) (R:RT) (w:Wd):Prop:=
 qV Pg a (lookup 257 d e true) λ b=>
 qV Pg a (extract b 0) λ g=>
 qV Pg a (extract b 1) λ h=>
 opV Pg (alloc 255 true (.tuple #[])) (Zd R) w λ c w=>
 a w∧(
 S0 255 c g R w λ w=>
 a w∧(
 f h c w))
def MS (b d e:Vl) (a:WPr) (f:KW) (R:RT) (w:Wd):Prop:=
 qV Pg a (lookup 257 d e true) λ c=>
 qV Pg a (extract c 0) λ g=>
 qV Pg a (extract c 1) λ h=>
 S0 255 b g R w λ w=>
 a w∧(
 f h b w)
def Zdg (d e:Vl) (a:WPr) (R:RT) (w:Wd):Prop:=
 J0 123 e 1 a λ h=>
 I0 117 h a λ f=>
 Zo (λ (i:Vl) (b:Vl) (w:Wd)=>
 C0 135 #[d,i,(.int .i64 4)] R w λ l w=>
 HB d e b R w) λ g=>
 (
 C0 196 #[] R w λ c w=>
 Qk a w λ j w=>
 Zdf c f j g R w)∧(
 opV Pg (alloc 255 true (.tuple #[])) (Zd R) w λ b w=>
 a w∧(
 C0 196 #[] R w λ c w=>
 Qk a w λ k w=>
 MS b c f k g R w))
def Zdh (a d b:Vl) (c:WPr) (R:RT) (w:Wd):Prop:=
 qV Pg c (extract b 0) λ h=>
 qV Pg c (extract b 1) λ e=>
 N0 e R w λ f w=>
 C0 135 #[a,f,(.int .i64 2)] R w λ i w=>
 Yg w λ g w=>
 Zdg a d g R w
def Zdi (b c:Vl) (a:WPr) (R:RT) (w:Wd):Prop:=
 J0 123 c 0 a λ d=>
 I0 9 d a λ e=>
 C0 195 #[b] R w λ f w=>
 a w∧(
 qV Pg a (build 74 #[(1,f)]) λ g=>
 C0 140 #[g,e] R w λ h w=>
 a w∧(
 Zdh b c h a R w))
def n75 (a c:Vl) (R:RT) (w:Wd):Prop:=
 opV Pg (box 123 c) (Zd R) w λ b w=>
 F0 123 b 0 R w λ d w=>
 L0 9 d R w λ e w=>
 C0 35 #[e] R w λ f w=>
 C0 135 #[a,f,(.int .i64 1)] R w λ h w=>
 Yg w λ g w=>
 Zdi a b g R w
theorem ZkN {t0 t1:Vl} {R:RT} {w:Wd} (h:n75 t0 t1 R w):Calls Pg 161 #[t0,t1] w R:=by
 refine yD func161 ?_
 refine zs<|zr<|yv h λ _ w h=>zn<|zk<|zs<|zr<|zm<|yv h λ _ w h=>yv h λ _ w h=>yc h c35 λ _ w h=>yc h Ua λ _ w h=>zn<|zk<|zs ?_
 refine yh [4,5,13,14,15,16,17,18,19,20,21] h λ C hC h=>yw 0 hC ?_
 refine ye 3 hC h λ _ h=>?_
 refine ye 4 hC h λ _ h=>?_
 refine yo 1 ?_
 refine yc h Nu λ _ w h=>zn ?_
 obtain ⟨hC,h⟩:=h
 refine ⟨hC,?_⟩
 refine ye 2 hC h λ _ h=>?_
 refine yo 5 ?_
 refine yc h ZdK λ _ w h=>zn ?_
 obtain ⟨hC,h⟩:=h
 refine ⟨hC,?_⟩
 refine yw 6 hC ?_
 refine ye 7 hC h λ _ h=>?_
 refine ye 8 hC h λ _ h=>?_
 refine yw 9 hC ?_
 refine yw 10 hC ?_
 refine yz<|zk<|zs<|zr<|zm<|zm<|yv h λ _ w h=>yc h Ua λ _ w h=>zn<|zk<|zs<|yh [5,6,26,27,28,29,30,31,32] h λ C hC h=>ye 1 hC h λ _ h=>?_
 refine ye 2 hC h λ _ h=>?_
 refine QH h (λ K3 hK h=>?_)
 refine Wo [5,6,26,27,30,31,32] (λ ρ w=>K3 (ρ 5) (ρ 6) w) (λ T hT=>?_) (λ σ w h=>?_)
 · obtain ⟨h0,h1⟩:=h
   refine Xm 0 7 rfl rfl (by kernel_rfl) (λ _ _=>rfl) (λ _ _=>rfl) ?_ ?_
   · have h:=h0
     refine yc h Ze8 λ _ w h=>zn ?_
     obtain ⟨C4,hs,hC,h⟩:=h
     refine ⟨C4,hs,hC,?_⟩
     refine ye 3 hC h λ _ h=>?_
     refine yw 4 hC ?_
     refine ye 5 hC h λ _ h=>?_
     refine ye 6 hC h λ _ h=>?_
     refine yo 7 ?_
     refine yv h λ _ w h=>zn ?_
     obtain ⟨hC,h⟩:=h
     refine ⟨hC,?_⟩
     refine yo 8 ?_
     refine yu h λ w h=>zn ?_
     obtain ⟨hC,h⟩:=h
     refine ⟨hC,?_⟩
     refine yw 9 hC ?_
     refine yz ?_
     exact zt hT h
   have h:=h1
   refine yv h λ _ w h=>zn ?_
   obtain ⟨hC,h⟩:=h
   refine ⟨_,λ _ h=>h,hC,?_⟩
   refine yr 0 ?_
   refine yc h Ze8 λ _ w h=>zn ?_
   obtain ⟨C5,hs,hC,h⟩:=h
   refine ⟨C5,hs,hC,?_⟩
   refine ye 3 hC h λ _ h=>?_
   refine yw 4 hC ?_
   refine ye 5 hC h λ _ h=>?_
   refine ye 6 hC h λ _ h=>?_
   refine yo 8 ?_
   refine yu h λ w h=>zn ?_
   obtain ⟨hC,h⟩:=h
   refine ⟨hC,?_⟩
   refine yw 9 hC ?_
   refine yz ?_
   exact zt hT h
 subst hK
 refine zk<|zs<|zr<|zm<|zm<|yc h Ua λ _ w h=>zn<|zk<|zs<|zr<|yv h λ _ w h=>yv h λ _ w h=>yu h λ w h=>zn<|zk ?_
 refine zs<|zr<|yv h λ _ w h=>yv h λ _ w h=>yV h λ _ w h=>zn<|zk<|zs<|zr<|zm<|yv h λ _ w h=>yv h λ _ w h=>yv h λ _ w h=>yv h λ _ w h=>yv h λ _ w h=>?_
 exact yB h λ _ w h=>yc h Zi6 λ _ w h=>yc h Ua λ _ w h=>zn<|zk<|zr<|yv h λ _ w h=>yv h λ _ w h=>zm<|yv h λ _ w h=>yV h λ _ w h=>zn<|ZG<|ZQ rfl h
def qQ (a d b:Vl) (VS:KV) (R:RT) (w:Wd):Prop:=
 X0 121 d b R w λ e w=>
 L0 213 e R w λ f w=>
 opV Pg (alloc 213 true (.tuple #[])) (Zd R) w λ c w=>
 S0 213 c f R w λ w=>
 L0 94 a R w λ g w=>
 F0 213 c 2 R w λ h w=>
 L0 9 h R w λ i w=>
 opV Pg (buildSlice 94 1 #[(0,i)]) (Zd R) w λ j w=>
 opV Pg (Builtin.append_ #[94,94] 94 #[g,j]) (Zd R) w λ k w=>
 S0 94 a k R w λ w=>
 B0 .add 3 true b (.int .i64 1) R w λ l w=>
 VS l w
def qR (c d:Vl) (e:WPr) (R:RT) (w:Wd):Prop:=
 F0 123 d 11 R w λ f w=>
 L0 121 f R w λ a w=>
 G0 121 3 a R w λ g w=>
 Y6 (λ b w VS=>
 B0 .lss 3 false b g R w λ h w=>
 Zs h (
 qQ c a b VS R w) (
 e w)) (.int .i64 0) w
def qS (a b:Vl) (c:WPr) (R:RT) (w:Wd):Prop:=
 L0 94 a R w λ d w=>
 F0 123 b 8 R w λ e w=>
 L0 9 e R w λ f w=>
 opV Pg (buildSlice 94 1 #[(0,f)]) (Zd R) w λ g w=>
 opV Pg (Builtin.append_ #[94,94] 94 #[d,g]) (Zd R) w λ h w=>
 S0 94 a h R w λ w=>
 c w
def yl (b c d e f:Vl) (Zx:KV) (R:RT) (w:Wd):Prop:=
 Zo (λ (w:Wd)=>
 B0 .add 3 true d (.int .i64 1) R w λ g w=>
 Zx g w) λ a=>
 Zs f (
 qS b c a R w) (
 B0 .eql 117 true e (.int .i64 9) R w λ h w=>
 Zs h (
 qR b c a R w) (
 a w))
def GE (a:Vl) (b:KV) (R:RT) (w:Wd):Prop:=
 B0 .eql 117 true a (.int .i64 8) R w λ c w=>
 Zs c (
 b c w) (
 B0 .eql 117 true a (.int .i64 12) R w λ d w=>
 b d w)
def qT (f g c:Vl) (Zx:KV) (R:RT) (w:Wd):Prop:=
 X0 72 g c R w λ h w=>
 L0 123 h R w λ i w=>
 opV Pg (alloc 123 true (.tuple #[])) (Zd R) w λ a w=>
 S0 123 a i R w λ w=>
 F0 123 a 1 R w λ j w=>
 L0 117 j R w λ b w=>
 B0 .eql 117 true b (.int .i64 7) R w λ d w=>
 Zo (λ (k:Vl) (w:Wd)=>
 yl f a c b k Zx R w) λ e=>
 Zs d (
 e d w) (
 GE b e R w)
def qU (a c d b:Vl) (Zx:KV) (R:RT) (w:Wd):Prop:=
 B0 .lss 3 false b d R w λ e w=>
 Zs e (
 qT a c b Zx R w) (
 opV Pg (makeFunc (.func 198) #[] #[a]) (Zd R) w λ f w=>
 R (.returned f) w)
def n68 (b:Vl) (R:RT) (w:Wd):Prop:=
 opV Pg (box 74 b) (Zd R) w λ c w=>
 opV Pg (alloc 94 true (.tuple #[])) (Zd R) w λ d w=>
 F0 74 c 1 R w λ e w=>
 L0 72 e R w λ a w=>
 G0 72 3 a R w λ f w=>
 Y6 (λ g w Zx=>
 qU d a f g Zx R w) (.int .i64 0) w
theorem ZkH {t0:Vl} {R:RT} {w:Wd} (h:n68 t0 R w):Calls Pg 162 #[t0] w R:=by
 refine yD func162 ?_
 refine zs<|zr<|yv h λ _ w h=>zm<|zn<|zk<|zs<|zr<|yv h λ _ w h=>zn<|zk<|zs<|zs<|zr<|yv h λ _ w h=>?_
 refine yv h λ _ w h=>yx h λ _ w h=>zm<|zn<|zk<|Zl<|yl1 [5,7,11,12,13,14,15,16,17,18,19,20,21,22,23,24,25,26,27,28,29,30,31,32,33,34,35,36,37,38,39,40,41] 11 h λ σ w next h=>zs<|zr<|yb h λ _ w h=>zn<|zk<|zs<|yC h (λ h=>?_) λ h=>?_
 · refine Zj<|zk<|zs<|Zl<|zs<|zr<|yv h λ _ w h=>yv h λ _ w h=>yv h λ _ w h=>yu h λ w h=>zn<|zk<|zs<|zr<|yv h λ _ w h=>?_
   refine yv h λ _ w h=>zn<|zk<|Zl<|zs<|zs<|zr<|yb h λ _ w h=>zm<|zn<|zk<|yJ1 [17,19,20] 17 h (λ _ _ hkK2 h=>?_) λ σ w h=>?_
   · refine yC h (λ h=>?_) λ h=>?_
     · refine Zj<|zk ?_
       exact zt hkK2 h
     refine zs<|zr<|yb h λ _ w h=>zm<|zn<|zk<|yC h (λ h=>?_) λ h=>?_
     · refine Zj<|zk ?_
       exact zt hkK2 h
     refine zr<|yb h λ _ w h=>zm<|zn<|zk ?_
     exact zt hkK2 h
   refine zk<|yJ0 [7,21,22,23,24,25,26,27,28,29,30,31,32,33,34,35,36,37,38,39,40] h (λ _ _ hkK3 h=>?_) λ σ w h=>?_
   · refine yC h (λ h=>?_) λ h=>?_
     · refine zr<|yv h λ _ w h=>yv h λ _ w h=>yv h λ _ w h=>yS h λ _ w h=>yx h λ _ w h=>yu h λ w h=>zn<|zk ?_
       exact zt hkK3 h
     refine zs<|zr<|yb h λ _ w h=>zm<|zn<|zk<|yC h (λ h=>?_) λ h=>?_
     · refine zs<|zr<|yv h λ _ w h=>yv h λ _ w h=>yx h λ _ w h=>zm<|zn<|zk<|Zl<|yl1 [7,31,32,33,34,35,36,37,38,39,40] 31 h λ σ w next h=>zs<|zr<|yb h λ _ w h=>zn<|zk ?_
       refine zs<|yC h (λ h=>?_) λ h=>?_
       · refine Zj<|zk<|zs<|Zl<|zs<|zr<|yv h λ _ w h=>yv h λ _ w h=>yv h λ _ w h=>yu h λ w h=>zn<|zk<|zr<|yv h λ _ w h=>yv h λ _ w h=>?_
         exact yv h λ _ w h=>yS h λ _ w h=>yx h λ _ w h=>yu h λ w h=>zn<|Zf<|zk<|zr<|yb h λ _ w h=>zm<|zn<|zk<|⟨rfl,h⟩
       refine ZM<|Ze<|Ze<|Zu<|zk ?_
       exact zt hkK3 h
     refine Zj<|zk ?_
     exact zt hkK3 h
   exact Zf<|Zf<|zk<|zr<|yb h λ _ w h=>zm<|zn<|zk<|⟨rfl,h⟩
 exact ZM<|Ze<|Ze<|Zu<|zk<|zs<|zr<|yF h λ _ w h=>zm<|zn<|zk<|Zg<|Zi rfl rfl h
def Ra (b c a:Vl) (Zx:KV) (R:RT) (w:Wd):Prop:=
 X0 25 b a R w λ d w=>
 L0 74 d R w λ e w=>
 XW Pg c #[e] (Zd R) w λ f w=>
 Zs f (
 R (.returned a) w) (
 B0 .add 3 true a (.int .i64 1) R w λ g w=>
 Zx g w)
def Zg3 (a c:Vl) (R:RT) (w:Wd):Prop:=
 G0 25 3 a R w λ d w=>
 Y6 (λ b w Zx=>
 B0 .lss 3 false b d R w λ e w=>
 Zs e (
 Ra a c b Zx R w) (
 R (.returned (.int .i64 (-1))) w)) (.int .i64 0) w
theorem Zg4 {t0 t1:Vl} {R:RT} {w:Wd} (h:Zg3 t0 t1 R w):Calls Pg 163 #[t0,t1] w R:=by
 refine yD func163 ?_
 refine zs<|zr<|zm<|zn<|zk<|zs<|zs<|zr<|zm<|yx h λ _ w h=>zm<|zn<|zk<|Zl<|yl1 [4,5,8,9,10,11,12,13,14,15,16,17,18] 8 h λ σ w next h=>?_
 refine zs<|zr<|yb h λ _ w h=>zn<|zk<|zs<|yC h (λ h=>?_) λ h=>?_
 · refine Zj<|zk<|zs<|Zl<|zs<|zr<|zm<|zm<|zn<|zk<|zs<|zr<|zm<|zm<|zm ?_
   refine yv h λ _ w h=>yv h λ _ w h=>yV h λ _ w h=>zn<|zk<|yC h (λ h=>zs<|zr<|zm<|zm<|zn<|zk<|Zg<|Zh<|Zb<|Zb<|Zh<|Zb<|Zi rfl rfl h) λ h=>Zj<|Zf<|zk<|zr<|yb h λ _ w h=>zm<|zn<|zk ?_
   exact ⟨rfl,h⟩
 exact ZM<|Ze<|Ze<|Zu<|zk<|zs<|zr<|zm<|zn<|zk<|Zg<|Zi rfl rfl h
def Zdk (a:Vl) (R:RT) (w:Wd):Prop:=
 opV Pg (Builtin.max_ #[3,3] 3 #[a,(.int .i64 0)]) (Zd R) w λ b w=>
 B0 .geq 3 true a (.int .i64 0) R w λ c w=>
 R (.returned (.tuple #[b,c])) w
def n83 (a b:Vl) (R:RT) (w:Wd):Prop:=
 C0 199 #[a,b] R w λ c w=>
 Zdk c R w
theorem ZkW {t0 t1:Vl} {R:RT} {w:Wd} (h:n83 t0 t1 R w):Calls Pg 164 #[t0,t1] w R:=by
 refine yD func164 ?_
 refine zs<|zr<|zm<|zm<|zn<|zk<|zs<|zr<|zm<|zm<|yc h Zfa λ _ w h=>zm<|zn<|zk<|zs ?_
 exact zr<|zm<|yx h λ _ w h=>zm<|yb h λ _ w h=>zm<|zm<|zn<|zk<|Zg<|Yk rfl rfl rfl h
def n63 (a b:Vl) (R:RT) (w:Wd):Prop:=
 opV Pg (box 123 a) (Zd R) w λ c w=>
 F0 123 c 0 R w λ d w=>
 L0 9 d R w λ e w=>
 L0 9 b R w λ f w=>
 B0 .eql 9 false e f R w λ g w=>
 R (.returned g) w
theorem ZkC {t0 t1:Vl} {R:RT} {w:Wd} (h:n63 t0 t1 R w):Calls Pg 165 #[t0,t1] w R:=by
 refine yD func165 ?_
 refine zs<|zr<|yv h λ _ w h=>zm<|zn<|zk<|zs<|zr<|yv h λ _ w h=>yv h λ _ w h=>yv h λ _ w h=>yb h λ _ w h=>zm<|zn<|zk ?_
 exact Zg<|Zi rfl rfl h
def Zgx (a:Vl) (R:RT) (w:Wd):Prop:=
 C0 200 #[(Value.slice none 0 0),a] R w λ b w=>
 R (.returned b) w
theorem Zgy {t0:Vl} {R:RT} {w:Wd} (h:Zgx t0 R w):Calls Pg 166 #[t0] w R:=by
 refine yD func166 ?_
 exact zs<|zr<|zm<|zn<|zk<|zs<|zr<|zm<|yc h Zi7 λ _ w h=>zm<|zn<|zk<|Zg<|Zi rfl rfl h
def I4 (b c a:Vl) (Zx:KV) (R:RT) (w:Wd):Prop:=
 X0 94 b a R w λ d w=>
 L0 9 d R w λ e w=>
 B0 .eql 9 false c e R w λ f w=>
 Zs f (
 R (.returned a) w) (
 B0 .add 3 true a (.int .i64 1) R w λ g w=>
 Zx g w)
def Zhh (a c:Vl) (R:RT) (w:Wd):Prop:=
 G0 94 3 a R w λ d w=>
 Y6 (λ b w Zx=>
 B0 .lss 3 false b d R w λ e w=>
 Zs e (
 I4 a c b Zx R w) (
 R (.returned (.int .i64 (-1))) w)) (.int .i64 0) w
theorem Zhi {t0 t1:Vl} {R:RT} {w:Wd} (h:Zhh t0 t1 R w):Calls Pg 167 #[t0,t1] w R:=by
 refine yD func167 ?_
 refine zs<|zr<|zm<|zn<|zk<|zs<|zs<|zr<|zm<|yx h λ _ w h=>zm<|zn<|zk<|Zl<|yl1 [4,5,8,9,10,11,12,13,14,15,16,17,18] 8 h λ σ w next h=>?_
 refine zs<|zr<|yb h λ _ w h=>zn<|zk<|zs<|yC h (λ h=>?_) λ h=>?_
 · refine Zj<|zk<|zs<|Zl<|zs<|zr<|zm<|zm<|zn<|zk<|zs<|zr<|zm<|zm<|zm ?_
   refine yv h λ _ w h=>yv h λ _ w h=>yb h λ _ w h=>zn<|zk<|yC h (λ h=>zs<|zr<|zm<|zm<|zn<|zk<|Zg<|Zh<|Zb<|Zb<|Zh<|Zb<|Zi rfl rfl h) λ h=>Zj<|Zf<|zk<|zr<|yb h λ _ w h=>zm<|zn<|zk ?_
   exact ⟨rfl,h⟩
 exact ZM<|Ze<|Ze<|Zu<|zk<|zs<|zr<|zm<|zn<|zk<|Zg<|Zi rfl rfl h
end Go.Proofs.YtgalpdihjbinjaaGreatDoor
namespace Go.Sw
open Go.RowKit (Below)
structure LW3 (B:Nat) (w w':Wd):Prop where
 os:w'.os=w.os
 tape:w'.tape=w.tape
 output:w'.output=w.output
 size:w.heap.size≤w'.heap.size
 block:∀ b,b < B→b < w.heap.size→w'.heap[b]?=w.heap[b]?
end Go.Sw
namespace Go.Sw
open Go.RowKit (Below)
def KR5 (_B:Nat) (w w':Wd):Prop:=w.heap.size≤w'.heap.size∧(∀ (b:Nat) (r:Loop),w.heap[b]?=some (.loop r)→∃ st p,w'.heap[b]?=some (.loop { r with state:=st,pending:=p })) ∧
 (∀ (b:Nat),w.heap[b]?=some (.deferred (some []))→w'.heap[b]?=some (.deferred (some [])))
section
variable {B:Nat} {w w1 w2:Wd}
theorem KR5.of2 (h:KR B w w1):KR5 B w w1:=⟨h.1,h.2.1,h.2.2.1⟩
theorem KR5.refl (B:Nat) (w:Wd):KR5 B w w := .of2 (KR.refl B w)
theorem KR5.trans (h:KR5 B w w1) (k:KR5 B w1 w2):KR5 B w w2:=⟨Nat.le_trans h.1 k.1,λ b r hb=>by
 obtain ⟨st,p,h1⟩:=h.2.1 b r hb
 obtain ⟨st',p',h2⟩:=k.2.1 b _ h1
 exact ⟨st',p',h2⟩,λ b hb=>k.2.2 b (h.2.2 b hb)⟩
theorem KR5.of (e:Ext w w1):KR5 B w w1 := .of2 (.of e)
theorem KR5.setCell (h:KR5 B w w1) (b o:Nat) (v:Vl):KR5 B w (w1.setCell ⟨b,o,none⟩ v):=h.trans ⟨by simp,λ b r hb=>⟨r.state,r.pending,(KeepsOthers.setCell w1 _ v).same _ _ hb rfl⟩,λ b hb=>(KeepsOthers.setCell w1 _ v).same _ _ hb rfl⟩
theorem KR5.turn {l:Nat} {r:Loop} (hl:w.heap[l]?=some (.loop r)) (st:LoopState) (p:Option Code):KR5 B w (w.putObj l (.loop { r with state:=st,pending:=p })) := .of2 (.turn hl st p)
theorem KR5.grown {row:Option Nat} (h:KR5 B w w1) (hg:w1.grownBy w2 row) (hr:∀ g,row=some g→∃ cs T f,w1.heap[g]?=some (.cells cs T f)):KR5 B w w2:=h.trans ⟨hg.size,λ b r hb=>⟨r.state,r.pending,(hg.block b (Array.getElem?_eq_some_iff.1 hb).1 (λ e=>by
 obtain ⟨cs,T,f,hc⟩:=hr b e.symm
 rw [hb] at hc;cases hc)).trans hb⟩,λ b hb=>(hg.block b (Array.getElem?_eq_some_iff.1 hb).1 (λ e=>by
 obtain ⟨cs,T,f,hc⟩:=hr b e.symm
 rw [hb] at hc;cases hc)).trans hb⟩
end
def ZeP (B:Nat) (R:WPr):Prop:=∀ w w',KR5 B w w'→R w→R w'
theorem Xg.firm5 (rec:Loop) (B b:Nat):ZeP B (Xg rec b):=λ w w' h ⟨h1,st,p,h2⟩=>by
 obtain ⟨st',p',h3⟩:=h.2.1 _ _ h2
 exact ⟨h.2.2 _ h1,st',p',h3⟩
end Go.Sw
namespace Go.Sw
variable {α:Type}
def Tt (cs:AVl) (o:Nat):List Vl→AVl
 | []=>cs
 | v::vs=>Tt (cs.setIfInBounds o v) (o+1) vs
theorem H8:∀ (vs:List Vl) (cs:AVl) (o j:Nat),o+vs.length≤cs.size→(Tt cs o vs)[j]?=if o≤j∧j < o+vs.length then vs[j - o]? else cs[j]?
 | [],cs,o,j,_=>by rw [if_neg (by simp only [List.length_nil];omega)];rfl
 | v::vs,cs,o,j,h=>by
  rw [List.length_cons] at h
  rw [Tt,H8 vs _ (o+1) j (by rw [Array.size_setIfInBounds];omega),List.length_cons]
  by_cases h1:j=o
  · subst h1
    rw [if_neg (by omega),if_pos (by omega),Nat.sub_self,Array.getElem?_setIfInBounds_self_of_lt (by omega)]
    rfl
  · by_cases h2:o+1≤j∧j < o+1+vs.length
    · rw [if_pos h2,if_pos (by omega),show j - o=(j - (o+1))+1 by omega,List.getElem?_cons_succ]
    · rw [if_neg h2,if_neg (by omega),Array.getElem?_setIfInBounds_ne (by omega)]
theorem BP {vs:List Vl} {cs:AVl} (h:vs.length=cs.size):Tt cs 0 vs=vs.toArray:=by
 apply Array.ext_getElem?
 intro j
 rw [H8 vs cs 0 j (by omega)]
 by_cases hj:j < vs.length
 · rw [if_pos (by omega),Nat.sub_zero,List.getElem?_toArray]
 · have hs:vs.toArray.size=vs.length:=List.size_toArray ..
   rw [if_neg (by omega),Array.getElem?_eq_none (by omega),Array.getElem?_eq_none (by omega)]
theorem Q8 {T:TypeId} {b:Nat}:∀ (vs:List Vl) {w:Wd} {cs:AVl} (o:Nat),w.heap[b]?=some (.cells cs T (0,0))→(YA w b o vs).heap[b]?=some (.cells (Tt cs o vs) T (0,0))
 | [],_,_,_,h=>h
 | v::vs,_,_,o,h=>Q8 vs (o+1) (Zw h v)
theorem WZ {b:Nat}:∀ (vs:List Vl) (w:Wd) (o:Nat) (g:Nat),g≠b→(YA w b o vs).heap[g]?=w.heap[g]?
 | [],_,_,_,_=>rfl
 | v::vs,w,o,g,h=>(WZ vs _ (o+1) g h).trans (YG.setCell w b o v g h)
theorem UA {b:Nat}:∀ (vs:List Vl) (w:Wd) (o:Nat),(YA w b o vs).heap.size=w.heap.size
 | [],_,_=>rfl
 | v::vs,w,o=>by rw [YA,UA vs,World.size_setCell]
theorem Kv {b:Nat}:∀ (vs:List Vl) (w:Wd) (o:Nat) (a:Wd),Ext a w→a.heap.size≤b→Ext a (YA w b o vs)
 | [],_,_,_,e,_=>e
 | v::vs,w,o,a,e,hb=>Kv vs _ (o+1) a (e.setCell (p:=⟨b,o,none⟩) hb v) hb
theorem U1 {P:Program} {w:Wd} {QP:PEn} {ku:WPr} {T T':TypeId} {n m b:Nat} {z:Vl} {cs:AVl} (h:ZD P T true n m z) (ho:w.heap[b]?=some (.cells cs T' (0,0))) {vs:List Vl} (hn:vs.length=n) (hc:n≤cs.size) (hv:∀ v∈vs,v.oneCell'=true) :
 opU P (storeAt T (.pointer (some ⟨b,0,none⟩)) (.agg vs.toArray)) QP w ku=ku (YA w b 0 vs):=by
 refine qa (u:=()) ?_
 have hq:=Za ho
 have hcc:∀ j,j < vs.length→∃ u,w.cell? ⟨b,0+(0+j),none⟩=some u:=λ j hj=>by
  rw [hq.1]
  exact ⟨cs[j]'(by omega),by rw [Nat.zero_add,Nat.zero_add];exact Array.getElem?_eq_getElem (by omega)⟩
 have hff:∀ j,j < vs.length→w.frozen? ⟨b,0+(0+j),none⟩=false:=λ j _=>hq.2 _
 have:=Vk (P:=P) b 0 vs 0 w hcc hff hv
 simp [storeAt,Instr.sureAddr,storeVar,run_sizeOf h,ZA,hn,this]
end Go.Sw
namespace Go.Sw
open Go.RowKit (Below)
def TF:Obj→Bool
 | .loop _=>true
 | .deferred _=>true
 | .mapIter .. => true
 | _=>false
structure LW6 (B:Nat) (w w':Wd):Prop where
 os:w'.os=w.os
 tape:w'.tape=w.tape
 output:w'.output=w.output
 size:w.heap.size≤w'.heap.size
 block:∀ b,b < w.heap.size→w'.heap[b]?=w.heap[b]?∨(B≤b∧∃ o,w.heap[b]?=some o∧TF o=true)
theorem LW6.mono {B B':Nat} {w w':Wd} (h:LW6 B w w') (hb:B'≤B):LW6 B' w w':=⟨h.os,h.tape,h.output,h.size,λ b hl=>(h.block b hl).imp_right λ h=>⟨by omega,h.2⟩⟩
theorem LW6.of {B:Nat} {w w':Wd} (e:Ext w w'):LW6 B w w':=⟨e.os,e.tape,e.output,e.size,λ b hb => .inl (e.block b hb)⟩
theorem LW6.put {B l:Nat} {w:Wd} {o1:Obj} (hb:B≤l) (hl:w.heap[l]?=some o1) (hs:TF o1=true) (o:Obj):LW6 B w (w.putObj l o):=⟨rfl,rfl,rfl,by simp,λ b _=>by
 by_cases e:b=l
 · exact .inr ⟨by omega,o1,by rw [e];exact hl,hs⟩
 · exact .inl (World.putObj_heap_other e)⟩
def Z8 (B:Nat) (I:WPr):Prop:=∀ w w',LW6 B w w'→I w→I w'
theorem Z8.ext {B:Nat} {I:WPr} (h:Z8 B I) {w w':Wd} (hI:I w) (e:Ext w w'):I w':=h _ _ (.of e) hI
theorem Z8.loop {B l:Nat} {I:WPr} (h:Z8 B I) {w:Wd} {r:Loop} (hb:B≤l) (hI:I w) (hl:w.heap[l]?=some (.loop r)) (o:Obj):I (w.putObj l o):=h _ _ (.put hb hl rfl o) hI
theorem Z8.busied {B l:Nat} {I:WPr} {w w':Wd} (h:Z8 B I) (hb:jK l w w') (hl:B≤l) (hI:I w):I w':=by
 obtain ⟨r,hr,rfl⟩:=hb
 exact h.loop hl hI hr _
theorem Z8.mono {B B':Nat} {I:WPr} (h:Z8 B I) (hb:B≤B'):Z8 B' I:=λ _ _ hl=>h _ _ (hl.mono hb)
theorem Z8.and {B:Nat} {I J:WPr} (h:Z8 B I) (k:Z8 B J):Z8 B (λ w=>I w∧J w):=λ w w' hl hh=>⟨h _ _ hl hh.1,k _ _ hl hh.2⟩
theorem Z8.ex {B:Nat} {α:Sort _} {I:α→Wd→Prop} (h:∀ x,Z8 B (I x)):Z8 B (λ w=>∃ x,I x w):=λ w w' hl ⟨x,hx⟩=>⟨x,h x _ _ hl hx⟩
theorem Z8.const (B:Nat) (p:Prop):Z8 B (λ _=>p):=λ _ _ _ h=>h
theorem Z8.from {B:Nat} {w0:Wd} (hb:w0.heap.size≤B):Z8 B (Ext w0):=λ w w' hl e=>⟨hl.os.trans e.os,hl.tape.trans e.tape,hl.output.trans e.output,Nat.le_trans e.size hl.size,λ k hk=>by
 have:=e.size
 rcases hl.block k (by omega) with h | ⟨h,_⟩
 · rw [h];exact e.block k hk
 · omega⟩
theorem Z8.has (B:Nat) {b:Nat} {o:Obj} (h1:TF o=false):Z8 B (λ w=>w.heap[b]?=some o):=λ w w' hl h=>by
 rcases hl.block b (Array.getElem?_eq_some_iff.1 h).1 with e | ⟨_,o',e,hs⟩
 · rw [e];exact h
 · rw [h] at e;injection e with e;subst e;rw [h1] at hs;cases hs
theorem Z8.low {B b:Nat} (hb:b < B) (o:Obj):Z8 B (λ w=>w.heap[b]?=some o):=λ w w' hl h=>by
 rcases hl.block b (Array.getElem?_eq_some_iff.1 h).1 with e | ⟨e,_⟩
 · rw [e];exact h
 · omega
theorem Z8.own {α:Type} {B base n:Nat} {T:TypeId} {enc:α→List Vl} {v:Vl} {l:List α}:Z8 B (λ w=>ZW w base T n enc v l):=λ w w' hl h=>by
 obtain ⟨h1,h2⟩:=h
 refine ⟨h1,?_⟩
 rcases h2 with h2 | ⟨g,cap,cur,hv,a1,a2,a3⟩
 · exact .inl h2
 · exact .inr ⟨g,cap,cur,hv,a1,Z8.has B (o := .cells _ _ _) rfl w w' hl a2,a3⟩
def Zfu:Obj→Bool
 | .mapIter .. => true
 | .map .. => true
 | _=>false
def KR6 (B:Nat) (w w':Wd):Prop:=KR5 B w w'∧∀ (b:Nat) (o:Obj),w.heap[b]?=some o→Zfu o=true→w'.heap[b]?=some o
section
variable {B:Nat} {w w1 w2:Wd}
theorem KR6.refl (B:Nat) (w:Wd):KR6 B w w:=⟨KR5.refl B w,λ _ _ h _=>h⟩
theorem KR6.trans (h:KR6 B w w1) (k:KR6 B w1 w2):KR6 B w w2:=⟨h.1.trans k.1,λ b o hb ho=>k.2 b o (h.2 b o hb ho) ho⟩
theorem KR6.of (e:Ext w w1):KR6 B w w1:=⟨KR5.of e,λ b o hb _=>e.obj hb⟩
theorem KR6.ext (h:KR6 B w w1) (e:Ext w1 w2):KR6 B w w2:=h.trans (.of e)
theorem KR6.turn {l:Nat} {r:Loop} (hl:w.heap[l]?=some (.loop r)) (st:LoopState) (p:Option Code):KR6 B w (w.putObj l (.loop { r with state:=st,pending:=p })):=⟨KR5.turn hl st p,λ b o hb ho=>by
 by_cases e:b=l
 · subst e;rw [hl] at hb;injection hb with hb;subst hb;cases ho
 · rw [World.putObj_heap_other e];exact hb⟩
theorem KR6.busied {l:Nat} (h:jK l w w1):KR6 B w w1:=by
 obtain ⟨r,hr,rfl⟩:=h
 exact KR6.turn hr .busy r.pending
theorem KR6.cell (h:KR6 B w w1) {b:Nat} {cs:AVl} {T:TypeId} {f:Nat×Nat} (hb:w1.heap[b]?=some (.cells cs T f)) (o:Nat) (v:Vl):KR6 B w (w1.setCell ⟨b,o,none⟩ v):=h.trans ⟨(KR5.refl B w1).setCell b o v,λ b' o' hb' ho=>by
 by_cases e:b'=b
 · subst e;rw [hb] at hb';injection hb' with hb';subst hb';cases ho
 · rw [CZ e];exact hb'⟩
theorem KR6.grown {row:Option Nat} (h:KR6 B w w1) (hg:w1.grownBy w2 row) (hr:∀ g,row=some g→∃ cs T f,w1.heap[g]?=some (.cells cs T f)):KR6 B w w2:=h.trans ⟨(KR5.refl B w1).grown hg hr,λ b o hb ho=>(hg.block b (Array.getElem?_eq_some_iff.1 hb).1 (λ e=>by
 obtain ⟨cs,T,f,hc⟩:=hr b e.symm
 rw [hb] at hc;injection hc with hc;subst hc;cases ho)).trans hb⟩
end
def Gz (B:Nat) (R:WPr):Prop:=∀ w w',KR6 B w w'→R w→R w'
theorem Xg.firm6 (rec:Loop) (B b:Nat):Gz B (Xg rec b):=λ w w' h hr=>Xg.firm5 rec B b w w' h.1 hr
theorem Gz.and {B:Nat} {R S:WPr} (h:Gz B R) (k:Gz B S):Gz B (λ w=>R w∧S w):=λ w w' e hh=>⟨h _ _ e hh.1,k _ _ e hh.2⟩
theorem Gz.true {B:Nat}:Gz B (λ _=>True):=λ _ _ _ _=>trivial
def OY (P:Program) (f:FuncId) (caps:AVl) (Al:List Vl→Vl→Prop) (Fin:List Vl→Prop) (FP:WPr):Prop:=
 ∀ (yv:Vl) (J:List Vl→Wd→Prop) (Jx:WPr) (Jp:PEn) (w:Wd),yv.oneCell'=true→(∀ k w,J k w→FP w)→(∀ k,Z8 w.heap.size (J k))→Z8 w.heap.size Jx→(∀ ch,Z8 w.heap.size (Jp ch)) →
  (∀ k x,Al k x→∀ Rk,Gz w.heap.size Rk→∀ w,J k w→Rk w→XW P yv #[x] (λ ch w'=>Rk w'∧Jp ch w') w (λ v w'=>Rk w'∧((v = .bool true∧J (k++[x]) w')∨(v = .bool false∧Jx w'))))→J [] w →
  Calls P f (#[yv]++caps) w (λ e w'=>match e with
   | .returned _=>(∃ k,Fin k∧J k w')∨Jx w'
   | .panicked ch=>Jp ch w'
   | .outgrown=>False)
def rangeN6 (P:Program) (fv:Vl) (ds:LDf) (body:Nat→Vl→Wd→(Wd→Prop)→(Nat→Wd→Prop)→(List PanicEntry→Wd→Prop)→Prop) (QP:List PanicEntry→LDf→Wd→Prop) (w:Wd)
 (k:LDf→Wd→Prop) (kx:List (LDf→Wd→Prop)):Prop:=
 ∃ (f:FuncId) (caps:AVl) (Al:List Vl→Vl→Prop) (Fin:List Vl→Prop) (FP:WPr) (I:List Vl→Wd→Prop) (Ix:Nat→Wd→Prop) (Ip:PEn),
  fv = .func (.func f) #[] caps∧Callable P f∧OY P f caps Al Fin FP∧I [] w∧(∀ k w,I k w→FP w)∧(∀ k,Z8 w.heap.size (I k))∧(∀ c,Z8 w.heap.size (Ix c))∧(∀ ch,Z8 w.heap.size (Ip ch)) ∧
  (∀ (Rk:WPr),Gz (w.heap.size+1+1) Rk→∀ (j:List Vl) (x:Vl) (w':Wd),Al j x→I j w'→Rk w'→w.heap.size+1 < w'.heap.size→DX (w.heap.size+1) w' →
   body (w.heap.size+1) x w' (λ w''=>Rk w''∧I (j++[x]) w'') (λ c w''=>Rk w''∧Ix c w'') (λ ch w''=>Rk w''∧Ip ch w'')) ∧
  (∀ j w',Fin j→I j w'→Z5 w.heap.size w'→k (mark w.heap.size::ds) w') ∧
  (∀ c w',Ix c w'→Z5 w.heap.size w'→SO kx c (mark w.heap.size::ds) w') ∧
  (∀ ch w',Ip ch w'→Z5 w.heap.size w'→QP ch (mark w.heap.size::ds) w')
section
variable {P:Program} {N:Nat}
theorem Mh {g:Operand} {p:Nat} {asg body:Code} {Q:K} {QP:KP} {ρ:Env} {ds:LDf} {w:Wd} {fv:Vl} {nbody:Nat→Vl→Wd→(Wd→Prop)→(Nat→Wd→Prop)→(List PanicEntry→Wd→Prop)→Prop} {QPn:List PanicEntry→LDf→Wd→Prop}
 {k:LDf→Wd→Prop} {kx:List (LDf→Wd→Prop)} (js:List Code) (h:rangeN6 P fv ds nbody QPn w k kx) (hg:ev ρ g=fv)
 (hbody:∀ l x w K X QPr,nbody l x w K X QPr→den P N (some l) asg (QM (λ ρ' ds' w'=>ds'=[]∧Aa l w' (λ w''=>den P N (some l) body (Tp js K X) (Na QPr) ρ' [] w'')) (λ _ _ _ _=>False)) (λ _ _ _ _=>False) (put N ρ (some p) x) [] w)
 (hk:∀ ds w,k ds w→Q .normal ρ ds w) (hx:∀ c ds w,SO kx c ds w→∃ code,js[c]?=some code∧((code = .ret∧Q .ret ρ ds w)∨(∃ id,code = .exit id∧Q (.exit id) ρ ds w))) (hp:∀ ch ds w,QPn ch ds w→QP ch ρ ds w) :
 den P N none (.rangeFunc g #[p] asg body) Q QP ρ ds w:=by
 intro a ha hds
 subst hds
 obtain ⟨f,caps,Al,Fin,FP,I,Ix,Ip,hfv,hcal,hseq,h0,hFP,hL,hLx,hLp,hround,hend,hjump,hpan⟩:=h
 refine GR λ fn hfn=>?_
 obtain ⟨rec,hrec⟩:∃ rec:Loop,rec={ state := .ready,pending:=none,fn,tmps:=a.tmps,params := #[p],assign:=asg,body,defers:=w.heap.size }:=⟨_,rfl⟩
 obtain ⟨W1,hW1⟩:∃ W1,(w.alloc (.deferred (some []))).alloc (.loop rec)=W1:=⟨_,rfl⟩
 have hE1:Ext w W1:=by rw [← hW1];exact ((Ext.refl w).alloc _).alloc _
 have hW1s:W1.heap.size=w.heap.size+1+1:=by rw [← hW1];simp
 have hL1:W1.heap[w.heap.size+1]?=some (.loop rec):=by
  rw [← hW1];have:=World.alloc_heap_new (w.alloc (.deferred (some []))) (.loop rec);rwa [World.size_alloc] at this
 have hK1:Z5 w.heap.size W1:=by
  rw [← hW1];exact Z5.alloc (World.alloc_heap_new w _) _
 have hev:a.eval g=fv:=by rw [ha.eval];exact hg
 refine ⟨w.heap.size+1,[mark w.heap.size],W1,{ target := .fn (.func f) caps,args := #[.func (.yield (w.heap.size+1)) #[] #[]] },W1,f,#[.func (.yield (w.heap.size+1)) #[] #[]]++caps,W1,?_,?_,?_,?_⟩
 · rw [← hW1,hrec];exact run_enterLoop_outer _ _ _ _ _
 · simp only [resolve,hev,hfv]
   simp [go_sem]
 · simp only [invoke]
   exact Qg hcal _ _
 · refine Calls.mono (hseq (.func (.yield (w.heap.size+1)) #[] #[]) (λ j w'=>I j w'∧Z5 w.heap.size w'∧∃ p,w'.heap[w.heap.size+1]?=some (.loop { rec with state := .ready,pending:=p })∧p=none)
    (λ w'=>Z5 w.heap.size w'∧∃ c code,Ix c w'∧js[c]?=some code∧w'.heap[w.heap.size+1]?=some (.loop { rec with state := .done,pending:=some code }))
    (λ ch w'=>Z5 w.heap.size w'∧Ip ch w') W1 rfl (λ j w' hj=>hFP j w' hj.1) (λ j=>((hL j).mono (by omega)).and ((Z8.low (by omega) _).and (.ex λ q=>(Z8.low (by omega) _).and (.const _ _))))
    ((Z8.low (by omega) _).and (.ex λ c => .ex λ code=>((hLx c).mono (by omega)).and ((Z8.const _ _).and (Z8.low (by omega) _)))) (λ ch=>(Z8.low (by omega) _).and ((hLp ch).mono (by omega))) ?_ ⟨(hL []).ext h0 hE1,hK1,none,by rw [hL1,hrec],rfl⟩) ?_
   · rintro j x hj Rk hF w' ⟨hi,hm,q,hl,rfl⟩ hR
     have Yq:w.heap.size+1 < w'.heap.size:=(Array.getElem?_eq_some_iff.1 hl).1
     have hy:=run_yield (P:=P) (args := #[x]) hl (by rw [hrec];rfl)
     show VU P _ _ _ _
     have hcs:zN (.func (.yield (w.heap.size+1)) #[] #[]) #[x]=Instr.yield (w.heap.size+1) #[x]:=by
      simp [zN,Deferred.ofValue,invoke,go_sem,bind,pure,Sem.bind]
     rw [hcs,hy]
     have key:∀ R,wpV (some (w.heap.size+1)) P asg (Exit.then (λ a₁ w₁=>∃ w₂,(Instr.beginRound (w.heap.size+1)).run P w₁ = .ok () w₂∧wpV (some (w.heap.size+1)) P body (ZdR P (w.heap.size+1) R) a₁ w₂) (λ _ _ _=>False)) { tmps:=((#[p].zip #[x]).foldl (λ tmps (t,a)=>tmps.setIfInBounds t a) a.tmps),defers:=[] } w' →
      U9 P (w.heap.size+1) rec.fn ((rec.params.zip #[x]).foldl (λ tmps (t,a)=>tmps.setIfInBounds t a) rec.tmps) rec.assign rec.body w' R:=by
      intro R h;rw [hrec];exact GL hfn h
     refine key _ ?_
     have hb:=hbody _ _ _ _ _ _ (hround _ ((Xg.firm6 rec _ w.heap.size).and (hW1s ▸ hF)) j x w' hj hi ⟨⟨hm,_,_,hl⟩,hR⟩ Yq ⟨_,hl,rfl⟩)
     have hagr:YE N ({ tmps:=((#[p].zip #[x]).foldl (λ tmps (t,a)=>tmps.setIfInBounds t a) a.tmps),defers:=[] }:Act) (put N ρ (some p) x):=by
      have:=(YE.defers ha []).put (some p) x
      simpa [Act.put] using this
     refine Qc (WJ asg _ _ _ _ _ hagr hb) ?_
     intro e a1 w1 hl1
     cases e with
     | panic ch=>obtain ⟨_,_,hf⟩:=hl1;exact hf.elim
     | outgrown=>exact hl1
     | exit id=>obtain ⟨_,_,_,hf⟩:=hl1;exact hf.elim
     | goto l=>obtain ⟨_,_,_,hf⟩:=hl1;exact hf.elim
     | ret=>obtain ⟨_,_,_,hf⟩:=hl1;exact hf.elim
     | normal=>
      obtain ⟨ρ1,ha1,_,hd1,hbz⟩:=hl1
      obtain ⟨⟨r,hr1,hr2⟩,hbz⟩:=hbz
      refine ⟨_,run_beginRound hr1 hr2,?_⟩
      rw [show a1={ a1 with defers:=[] } by rw [← hd1]]
      refine Qc (WJ body _ _ _ _ _ (YE.defers ha1 []) (hbz _ ⟨_,hr1,rfl⟩)) ?_
      have fin:∀ (jump:Option Code) (w2:Wd),Xg rec w.heap.size w2→(Instr.endRound (w.heap.size+1) jump).run P w2 = .ok (.bool jump.isNone) (w2.putObj (w.heap.size+1) (.loop { rec with state:=if jump.isNone then .ready else .done,pending:=jump })) ∧
       (w2.putObj (w.heap.size+1) (.loop { rec with state:=if jump.isNone then .ready else .done,pending:=jump })).heap[w.heap.size+1]?=some (.loop { rec with state:=if jump.isNone then .ready else .done,pending:=jump }) ∧
       Z5 w.heap.size (w2.putObj (w.heap.size+1) (.loop { rec with state:=if jump.isNone then .ready else .done,pending:=jump })):=by
       rintro jump w2 ⟨hm2,st,q,hq⟩
       refine ⟨by have:=run_endRound (P:=P) jump hq;exact this,World.putObj_heap_same (Array.getElem?_eq_some_iff.1 hq).1,?_⟩
       unfold Z5
       rw [World.putObj_heap_other (by omega)];exact hm2
      intro e a2 w2 hl2
      cases e with
      | normal=>
       obtain ⟨_,_,_,_,⟨Q1,hR2⟩,hi2⟩:=hl2
       obtain ⟨f1,f2,f3⟩:=fin none w2 Q1
       obtain ⟨_,st,q,hq⟩:=Q1
       exact ⟨_,_,f1,hF _ _ (KR6.turn hq _ _) hR2,.inl ⟨rfl,(hL _).loop (Nat.le_succ _) hi2 hq _,f3,none,f2,rfl⟩⟩
      | ret=>
       obtain ⟨_,_,_,_,c,hc,⟨Q1,hR2⟩,hi2⟩:=hl2
       obtain ⟨f1,f2,f3⟩:=fin (some .ret) w2 Q1
       obtain ⟨_,st,q,hq⟩:=Q1
       exact ⟨_,_,f1,hF _ _ (KR6.turn hq _ _) hR2,.inr ⟨rfl,f3,c,_,(hLx _).loop (Nat.le_succ _) hi2 hq _,hc,f2⟩⟩
      | exit id=>
       obtain ⟨_,_,_,_,c,hc,⟨Q1,hR2⟩,hi2⟩:=hl2
       obtain ⟨f1,f2,f3⟩:=fin (some (.exit id)) w2 Q1
       obtain ⟨_,st,q,hq⟩:=Q1
       exact ⟨_,_,f1,hF _ _ (KR6.turn hq _ _) hR2,.inr ⟨rfl,f3,c,_,(hLx _).loop (Nat.le_succ _) hi2 hq _,hc,f2⟩⟩
      | panic ch=>
       obtain ⟨_,_,hd2,⟨Q1,hR2⟩,hi2⟩:=hl2
       exact ⟨hd2,hR2,Q1.1,hi2⟩
      | goto l=>obtain ⟨_,_,_,hf⟩:=hl2;exact hf.elim
      | outgrown=>exact hl2
   · have hagr:YE N ({ a with defers:=[mark w.heap.size]++a.defers }:Act) ρ:=ha
     have exh:∀ (st:LoopState) (q:Option Code) (w':Wd),w'.heap[w.heap.size+1]?=some (.loop { rec with state:=st,pending:=q })→st ≠ .busy→Z5 w.heap.size w' →
      (Instr.endLoop (w.heap.size+1)).run P w' = .ok q (w'.putObj (w.heap.size+1) (.loop { rec with state := .exhausted,pending:=q }))∧Z5 w.heap.size (w'.putObj (w.heap.size+1) (.loop { rec with state := .exhausted,pending:=q })):=by
      intro st q w' hq YN hm
      refine ⟨by have:=run_endLoop (P:=P) hq YN;exact this,?_⟩
      unfold Z5
      rw [World.putObj_heap_other (by omega)];exact hm
     rintro e w' he
     cases e with
     | returned v=>
      rcases he with ⟨j,hfin,hi,hm,q,hl,rfl⟩ | ⟨hm,c,code,hi,hc,hl⟩
      · obtain ⟨e1,e2⟩:=exh _ _ w' hl (by simp) hm
        exact ⟨none,_,e1,hagr,hk _ _ (hend j _ hfin ((hL _).loop (Nat.le_succ _) hi hl _) e2)⟩
      · obtain ⟨e1,e2⟩:=exh _ _ w' hl (by simp) hm
        refine ⟨some code,_,e1,?_⟩
        obtain ⟨code',hc',hden⟩:=hx c _ _ (hjump c _ ((hLx _).loop (Nat.le_succ _) hi hl _) e2)
        rw [hc] at hc';cases hc'
        rcases hden with ⟨rfl,hq⟩ | ⟨id,rfl,hq⟩
        · exact Fw ⟨hagr,hq⟩
        · exact Ce ⟨hagr,hq⟩
     | panicked ch=>exact ⟨hagr,hp _ _ _ (hpan ch _ he.2 he.1)⟩
     | outgrown=>exact he.elim
end
end Go.Sw
namespace Go.Proofs.YtgalpdihjbinjaaGreatDoor
open Sw
def UX (d e f g:Vl) (Zx:KV) (R:RT) (w:Wd):Prop:=
 N0 g R w λ b w=>
 Zo (λ (a:Vl) (w:Wd)=>
 Zy b a (.bool false) λ h=>
 Zs h (
 R (.returned (.tuple #[])) w) (
 B0 .add 3 true e (.int .i64 1) R w λ i w=>
 Zx i w)) λ c=>
 Zn b true (
 XW Pg d #[f] (Zd R) w λ j w=>
 N0 j R w λ a w=>
 c a w) (
 c undef w)
def UY (c d e a:Vl) (Zx:KV) (R:RT) (w:Wd):Prop:=
 X0 94 e a R w λ f w=>
 L0 9 f R w λ b w=>
 L0 94 d R w λ g w=>
 opV Pg (sliceAt 94 g none (some a) none) (Zd R) w λ h w=>
 C0 142 #[h,b] R w λ i w=>
 UX c a b i Zx R w
def n69 (d a:Vl) (R:RT) (w:Wd):Prop:=
 L0 94 a R w λ b w=>
 G0 94 3 b R w λ e w=>
 Y6 (λ c w Zx=>
 B0 .lss 3 false c e R w λ f w=>
 Zs f (
 UY d a b c Zx R w) (
 R (.returned (.tuple #[])) w)) (.int .i64 0) w
theorem Zhr {t0 t1:Vl} {R:RT} {w:Wd} (h:n69 t0 t1 R w):Calls Pg 198 #[t0,t1] w R:=by
 refine yD func198 ?_
 refine zs<|zr<|yv h λ _ w h=>yx h λ _ w h=>zm<|zn<|zk<|Zl<|yl1 [3,4,7,8,9,10,11,12,13,14,15,16,17,18,19,20,21,22,23,24] 7 h λ σ w next h=>zs<|zr<|yb h λ _ w h=>zn<|zk<|zs ?_
 refine yC h (λ h=>?_) λ h=>?_
 · refine Zj<|zk<|zs<|Zl<|zs<|zr<|zm<|yv h λ _ w h=>yv h λ _ w h=>zm<|zm<|zn<|zk<|zs<|Zt ?_
   refine yG 7<|yv h λ _ w h=>zm<|yv h λ _ w h=>zm<|yc h Ze6 λ _ w h=>yv h λ _ w h=>zm<|zn<|yg1 4 6 true [19,20,21,22] 22 h (λ _ T hT h=>?_) λ σ w h=>?_
   · refine zm<|zm<|yV h λ _ w h=>yv h λ _ w h=>zn ?_
     exact zt hT h
   refine yG 1<|yp h λ _ h=>zn<|ZK<|zk<|yC h (λ h=>Zg<|Zh<|Zb<|Zb<|Zh<|ZQ rfl h) λ h=>Zj<|Zf<|zk<|zr<|yb h λ _ w h=>zm<|zn<|zk ?_
   exact ⟨rfl,h⟩
 exact ZM<|Ze<|Ze<|Zu<|ZG<|ZQ rfl h
def P8 (b c a:Vl) (Zx:KV) (R:RT) (w:Wd):Prop:=
 X0 72 b a R w λ d w=>
 L0 123 d R w λ e w=>
 XW Pg c #[e] (Zd R) w λ f w=>
 Zs f (
 R (.returned a) w) (
 B0 .add 3 true a (.int .i64 1) R w λ g w=>
 Zx g w)
def ZgZ (a c:Vl) (R:RT) (w:Wd):Prop:=
 G0 72 3 a R w λ d w=>
 Y6 (λ b w Zx=>
 B0 .lss 3 false b d R w λ e w=>
 Zs e (
 P8 a c b Zx R w) (
 R (.returned (.int .i64 (-1))) w)) (.int .i64 0) w
theorem Zg0 {t0 t1:Vl} {R:RT} {w:Wd} (h:ZgZ t0 t1 R w):Calls Pg 199 #[t0,t1] w R:=by
 refine yD func199 ?_
 refine zs<|zr<|zm<|zn<|zk<|zs<|zs<|zr<|zm<|yx h λ _ w h=>zm<|zn<|zk<|Zl<|yl1 [4,5,8,9,10,11,12,13,14,15,16,17,18] 8 h λ σ w next h=>?_
 refine zs<|zr<|yb h λ _ w h=>zn<|zk<|zs<|yC h (λ h=>?_) λ h=>?_
 · refine Zj<|zk<|zs<|Zl<|zs<|zr<|zm<|zm<|zn<|zk<|zs<|zr<|zm<|zm<|zm ?_
   refine yv h λ _ w h=>yv h λ _ w h=>yV h λ _ w h=>zn<|zk<|yC h (λ h=>zs<|zr<|zm<|zm<|zn<|zk<|Zg<|Zh<|Zb<|Zb<|Zh<|Zb<|Zi rfl rfl h) λ h=>Zj<|Zf<|zk<|zr<|yb h λ _ w h=>zm<|zn<|zk ?_
   exact ⟨rfl,h⟩
 exact ZM<|Ze<|Ze<|Zu<|zk<|zs<|zr<|zm<|zn<|zk<|Zg<|Zi rfl rfl h
def P5 (b c:Vl) (d:WPr) (a:PEn) (R:RT) (w:Wd):Prop:=
 opV Pg (loadAt 94 b) a w λ e w=>
 opV Pg (buildSlice 94 1 #[(0,c)]) a w λ f w=>
 opV Pg (Builtin.append_ #[94,94] 94 #[e,f]) a w λ g w=>
 opU Pg (storeAt 94 b g) a w λ w=>
 d w
def Zee (b c:Vl) (R:RT) (w:Wd):Prop:=
 (λ (ds:LDf)=>
 opV Pg (box 94 b) (ZB Pg ds [(none,undef)] R) w λ a w=>
 Sw.rangeN6 Pg c ds (λ l1 d w e h f=>
 Aa l1 w λ w=>
 P5 a d e f R w) (λ ch ds w=>ZB Pg ds [(none,(Value.slice none 0 0))] R ch w) w (λ ds w=>
 opV Pg (loadAt 94 a) (ZB Pg ds [(none,(Value.slice none 0 0))] R) w λ g w=>
 Uc Pg ds [(none,g)] R w) []) []
theorem Zgq {t0 t1:Vl} {R:RT} {w:Wd} (h:Zee t0 t1 R w):Calls Pg 200 #[t0,t1] w R:=by
 refine yE func200 ?_
 unfold Zee at h
 dsimp only at h
 refine zs<|zr<|yv h λ _ w h=>zm<|zn<|zk<|zs<|zs<|zr<|zm<|zn<|zk<|Zl<|Mh [] h rfl (λ l1 t7 w Kr1 Xr1 Qr1 h=>?_) (λ ds w h=>?_) (λ c ds w h=>?_) (λ ch ds w h=>X7 rfl h)
 · refine zr<|zm<|zn<|zk ?_
   obtain ⟨hr,h⟩:=h
   refine ⟨rfl,hr,λ w hb=>?_⟩
   have h:=h w hb
   exact Zl<|zr<|yv h λ _ w h=>zm<|yS h λ _ w h=>yx h λ _ w h=>yu h λ w h=>zn<|Zf<|⟨rfl,h⟩
 · exact Zf<|zk<|zs<|zr<|yv h λ _ w h=>zm<|zn<|zk<|Zg<|X8 rfl h
 exact h.elim
def xQ (b c d e:Vl) (a:WPr) (Zx:KW) (R:RT) (w:Wd):Prop:=
 qV Pg a (ZF .mul 3 false d e) λ f=>
 qV Pg a (ZF .add 3 false b f) λ g=>
 B0 .add 3 true c (.int .i64 1) R w λ h w=>
 Zx g h w
def xR (c d b e:Vl) (a:WPr) (Zx:KW) (R:RT) (w:Wd):Prop:=
 J0 128 b 1 a λ f=>
 I0 3 f a λ g=>
 I0 128 b a λ h=>
 XW Pg c #[h] (Zd R) w λ i w=>
 a w∧(
 xQ d e g i a Zx R w)
def xS (c d e a:Vl) (Zx:KW) (R:RT) (w:Wd):Prop:=
 X0 118 e a R w λ f w=>
 L0 128 f R w λ g w=>
 opV Pg (alloc 128 true (.tuple #[])) (Zd R) w λ b w=>
 S0 128 b g R w λ w=>
 Yg w λ h w=>
 xR c d b a h Zx R w
def Zgm (e f:Vl) (R:RT) (w:Wd):Prop:=
 opV Pg (box 120 e) (Zd R) w λ a w=>
 F0 120 a 0 R w λ g w=>
 L0 3 g R w λ h w=>
 F0 120 a 1 R w λ i w=>
 L0 118 i R w λ b w=>
 G0 118 3 b R w λ j w=>
 Kz (λ c d w Zx=>
 B0 .lss 3 false d j R w λ k w=>
 Zs k (
 xS f c b d Zx R w) (
 R (.returned c) w)) h (.int .i64 0) w
theorem Zgn {t0 t1:Vl} {R:RT} {w:Wd} (h:Zgm t0 t1 R w):Calls Pg 261 #[t0,t1] w R:=by
 refine yD func261 ?_
 refine zs<|zr<|yv h λ _ w h=>zm<|zn<|zk<|zs<|zr<|yv h λ _ w h=>yv h λ _ w h=>zm<|zn<|zk<|zs<|zs ?_
 refine zr<|yv h λ _ w h=>yv h λ _ w h=>yx h λ _ w h=>zm<|zn<|zk<|Zl<|yl2 [5,7,13,14,15,16,17,18,19,20,21,22,23,24,25] 5 13 h λ σ w next h=>zs<|zr<|yb h λ _ w h=>zn<|zk<|zs ?_
 refine yC h (λ h=>?_) λ h=>?_
 · refine Zj<|zk<|zs<|Zl<|zs<|zr<|yv h λ _ w h=>yv h λ _ w h=>yv h λ _ w h=>yu h λ w h=>zn<|zk<|yh [5,17,18,19,20,21,22,23,24] h λ C hC h=>yw 0 hC ?_
   refine ye 1 hC h λ _ h=>?_
   refine ye 2 hC h λ _ h=>?_
   refine yw 3 hC ?_
   refine ye 4 hC h λ _ h=>?_
   refine yo 5 ?_
   refine yV h λ _ w h=>zn ?_
   obtain ⟨hC,h⟩:=h
   refine ⟨hC,?_⟩
   refine ye 6 hC h λ _ h=>?_
   refine ye 7 hC h λ _ h=>?_
   refine yw 8 hC ?_
   exact yz<|Zf<|zk<|zr<|yb h λ _ w h=>zm<|zn<|zk<|⟨rfl,h⟩
 exact ZM<|Ze<|Ze<|Zu<|zk<|zs<|zr<|zm<|zm<|zn<|zk<|Zg<|Zi rfl rfl h
def Ki (a b:Vl) (R:RT) (w:Wd):Prop:=
 L0 296 a R w λ c w=>
 F0 128 b 0 R w λ d w=>
 L0 9 d R w λ e w=>
 opV Pg (lookup 296 c e false) (Zd R) w λ f w=>
 opV Pg (Instr.field 300 f 1) (Zd R) w λ g w=>
 R (.returned g) w
def Zf1 (d b e:Vl) (R:RT) (w:Wd):Prop:=
 opV Pg (box 128 d) (Zd R) w λ a w=>
 L0 296 b R w λ f w=>
 F0 128 a 0 R w λ g w=>
 L0 9 g R w λ h w=>
 opV Pg (lookup 296 f h false) (Zd R) w λ i w=>
 opV Pg (alloc 300 true (.tuple #[])) (Zd R) w λ c w=>
 S0 300 c i R w λ w=>
 L0 4 e R w λ j w=>
 F0 128 a 1 R w λ k w=>
 L0 3 k R w λ l w=>
 B0 .gtr 3 true l (.int .i64 0) R w λ m w=>
 B0 .eql 4 false j m R w λ n w=>
 Zs n (
 F0 300 c 0 R w λ o w=>
 L0 3 o R w λ p w=>
 R (.returned p) w) (
 Ki b a R w)
theorem Zf2 {t0 t1 t2:Vl} {R:RT} {w:Wd} (h:Zf1 t0 t1 t2 R w):Calls Pg 262 #[t0,t1,t2] w R:=by
 refine yD func262 ?_
 refine zs<|zr<|yv h λ _ w h=>zm<|zn<|zk<|zs<|zs<|zr<|yv h λ _ w h=>yv h λ _ w h=>yv h λ _ w h=>yv h λ _ w h=>yv h λ _ w h=>yu h λ w h=>?_
 refine zn<|zk<|zs<|zr<|yv h λ _ w h=>yv h λ _ w h=>yv h λ _ w h=>yb h λ _ w h=>yb h λ _ w h=>zn<|zk<|yC h (λ h=>zs<|zr<|yv h λ _ w h=>yv h λ _ w h=>zm<|zn<|zk<|Zg<|Zb<|Zi rfl rfl h) λ h=>Zj<|zk ?_
 exact zs<|zr<|yv h λ _ w h=>yv h λ _ w h=>yv h λ _ w h=>yv h λ _ w h=>yv h λ _ w h=>zm<|zn<|zk<|Zg<|Zi rfl rfl h
def Rd (b c a:Vl) (Zx:KV) (R:RT) (w:Wd):Prop:=
 X0 118 b a R w λ d w=>
 L0 128 d R w λ e w=>
 XW Pg c #[e] (Zd R) w λ f w=>
 Zs f (
 R (.returned a) w) (
 B0 .add 3 true a (.int .i64 1) R w λ g w=>
 Zx g w)
def Zg9 (a c:Vl) (R:RT) (w:Wd):Prop:=
 G0 118 3 a R w λ d w=>
 Y6 (λ b w Zx=>
 B0 .lss 3 false b d R w λ e w=>
 Zs e (
 Rd a c b Zx R w) (
 R (.returned (.int .i64 (-1))) w)) (.int .i64 0) w
theorem Zha {t0 t1:Vl} {R:RT} {w:Wd} (h:Zg9 t0 t1 R w):Calls Pg 263 #[t0,t1] w R:=by
 refine yD func263 ?_
 refine zs<|zr<|zm<|zn<|zk<|zs<|zs<|zr<|zm<|yx h λ _ w h=>zm<|zn<|zk<|Zl<|yl1 [4,5,8,9,10,11,12,13,14,15,16,17,18] 8 h λ σ w next h=>?_
 refine zs<|zr<|yb h λ _ w h=>zn<|zk<|zs<|yC h (λ h=>?_) λ h=>?_
 · refine Zj<|zk<|zs<|Zl<|zs<|zr<|zm<|zm<|zn<|zk<|zs<|zr<|zm<|zm<|zm ?_
   refine yv h λ _ w h=>yv h λ _ w h=>yV h λ _ w h=>zn<|zk<|yC h (λ h=>zs<|zr<|zm<|zm<|zn<|zk<|Zg<|Zh<|Zb<|Zb<|Zh<|Zb<|Zi rfl rfl h) λ h=>Zj<|Zf<|zk<|zr<|yb h λ _ w h=>zm<|zn<|zk ?_
   exact ⟨rfl,h⟩
 exact ZM<|Ze<|Ze<|Zu<|zk<|zs<|zr<|zm<|zn<|zk<|Zg<|Zi rfl rfl h
def Zda (d e f:Vl) (R:RT) (w:Wd):Prop:=
 Zy e (.bool true) f λ b=>
 Zo (λ (a:Vl) (w:Wd)=>
 Zy b (.bool true) a λ g=>
 R (.returned g) w) λ c=>
 Zn b false (
 F0 123 d 1 R w λ h w=>
 L0 117 h R w λ i w=>
 B0 .eql 117 true i (.int .i64 3) R w λ a w=>
 c a w) (
 c undef w)
def n66 (e:Vl) (R:RT) (w:Wd):Prop:=
 opV Pg (box 123 e) (Zd R) w λ a w=>
 F0 123 a 1 R w λ f w=>
 L0 117 f R w λ g w=>
 B0 .eql 117 true g (.int .i64 1) R w λ c w=>
 Zo (λ (b:Vl) (w:Wd)=>
 Zda a c b R w) λ d=>
 Zn c false (
 F0 123 a 1 R w λ h w=>
 L0 117 h R w λ i w=>
 B0 .eql 117 true i (.int .i64 2) R w λ b w=>
 d b w) (
 d undef w)
theorem ZkF {t0:Vl} {R:RT} {w:Wd} (h:n66 t0 R w):Calls Pg 264 #[t0] w R:=by
 refine yD func264 ?_
 refine zs<|zr<|yv h λ _ w h=>zm<|zn<|zk<|zs<|Zt<|yG 4<|yv h λ _ w h=>yv h λ _ w h=>yb h λ _ w h=>zm<|zn<|yg1 3 3 false [7,8,9] 9 h (λ _ T hT h=>?_) λ σ w h=>?_
 · refine yv h λ _ w h=>yv h λ _ w h=>yb h λ _ w h=>zn ?_
   exact zt hT h
 refine yG 2<|yp h λ _ h=>zm<|zn<|yg1 3 8 false [12,13,14] 14 h (λ _ T hT h=>?_) λ σ w h=>?_
 · refine yv h λ _ w h=>yv h λ _ w h=>yb h λ _ w h=>zn ?_
   exact zt hT h
 exact yG 2<|yp h λ _ h=>zm<|zn<|ZK<|zk<|Zg<|Zi rfl rfl h
open Go.RowKit (intOf)
theorem Vm (w0:Wd) (v:Vl) (l:List Zq) (g:FuncId) (caps:AVl) (p:Zq→Bool) (hs:YR w0 v l) (hg:Callable Pg g) (hc:UK w0 Z0 g caps p l) :
 Ret Pg 199 #[v,.func (.func g) #[] caps] w0 λ r w'=>r = .int .i64 (idx p l)∧Ext w0 w':=by
 obtain ⟨A,c,rfl,hlc,hcm,hlm,Y1⟩:=Zc.open hs
 refine Zg0 (R:=ZI _) ?_
 unfold ZgZ
 simp (disch:=try exact DI) only [↓PR,QR,simprocAttr]
 refine ZJ (λ i w=>∃ k:Nat,i = .int .i64 k∧k≤l.length∧Ext w0 w∧∀ (j:Nat) y,j < k→l[j]?=some y→p y=false) (λ i _=>l.length - (intOf i).toNat) ⟨0,rfl,by omega,Ext.refl _,λ j y h=>by omega⟩ ?_
 rintro i w ⟨k,rfl,hk,e,hb⟩
 by_cases Yq:k < l.length
 · obtain ⟨x,hx⟩:=getElem?_lt Yq
   obtain ⟨b,o,cs,rfl,hl,hA,hE⟩:=Y1 k x hx
   have hd:decide ((k:Int) < (l.length:Int))=true:=by simp;omega
   simp (disch:=try exact DI) only [↓PR,QR,simprocAttr,hd]
   unfold P8
   simp (disch:=try exact DI) only [↓PR,QR,simprocAttr]
   unfold GS at hE
   obtain ⟨tv,cv,hcs,hT,hC⟩:=hE
   subst hcs
   have hV:Z0 w0 (.agg (Zp x tv cv).toArray) x:=⟨tv,cv,rfl,hT,hC⟩
   simp (disch:=try exact DI) only [↓PR,QR,simprocAttr,hA.c15]
   rw [YI hg]
   simp only [Array.empty_append]
   refine Zk (hc w _ x (List.mem_of_getElem? hx) e (hV.ext e)) ?_
   rintro r w' ⟨rfl,e'⟩
   cases hp:p x with
   | true => 
    simp (disch:=try exact DI) only [↓PR,QR,simprocAttr]
    exact ⟨by rw [Q2 hx hp hb],e.trans e'⟩
   | false=>
    simp (disch:=try exact DI) only [↓PR,QR,simprocAttr]
    refine ⟨⟨k+1,rfl,by omega,e.trans e',λ j y hj hy=>?_⟩,by simp [intOf];omega⟩
    by_cases hjk:j=k
    · subst hjk;rw [hx] at hy;injection hy with hy;subst hy;exact hp
    · exact hb j y (by omega) hy
 · have hd:decide ((k:Int) < (l.length:Int))=false:=by simp;omega
   simp (disch:=try exact DI) only [↓PR,QR,simprocAttr,hd]
   exact ⟨by rw [Q3 λ j y hy=>hb j y (by have:=(List.getElem?_eq_some_iff.1 hy).1;omega) hy],e⟩
theorem KJ (w0:Wd) (v:Vl) (l:List YT) (g:FuncId) (caps:AVl) (p:YT→Bool) (hs:Vg w0 v l) (hg:Callable Pg g) (hc:UK w0 Wa g caps p l) :
 Ret Pg 163 #[v,.func (.func g) #[] caps] w0 λ r w'=>r = .int .i64 (idx p l)∧Ext w0 w':=by
 obtain ⟨A,c,rfl,hlc,hcm,hlm,Y1⟩:=Zc.open hs
 refine Zg4 (R:=ZI _) ?_
 unfold Zg3
 simp (disch:=try exact DI) only [↓PR,QR,simprocAttr]
 refine ZJ (λ i w=>∃ k:Nat,i = .int .i64 k∧k≤l.length∧Ext w0 w∧∀ (j:Nat) y,j < k→l[j]?=some y→p y=false) (λ i _=>l.length - (intOf i).toNat) ⟨0,rfl,by omega,Ext.refl _,λ j y h=>by omega⟩ ?_
 rintro i w ⟨k,rfl,hk,e,hb⟩
 by_cases Yq:k < l.length
 · obtain ⟨x,hx⟩:=getElem?_lt Yq
   obtain ⟨b,o,cs,rfl,hl,hA,hE⟩:=Y1 k x hx
   have hd:decide ((k:Int) < (l.length:Int))=true:=by simp;omega
   simp (disch:=try exact DI) only [↓PR,QR,simprocAttr,hd]
   unfold Ra
   simp (disch:=try exact DI) only [↓PR,QR,simprocAttr]
   unfold Ir at hE
   obtain ⟨fv,hcs,hF⟩:=hE
   subst hcs
   have hV:Wa w0 (.agg (Yf x fv).toArray) x:=⟨fv,rfl,hF⟩
   simp (disch:=try exact DI) only [↓PR,QR,simprocAttr,hA.c2]
   rw [YI hg]
   simp only [Array.empty_append]
   refine Zk (hc w _ x (List.mem_of_getElem? hx) e (hV.ext e)) ?_
   rintro r w' ⟨rfl,e'⟩
   cases hp:p x with
   | true => 
    simp (disch:=try exact DI) only [↓PR,QR,simprocAttr]
    exact ⟨by rw [Q2 hx hp hb],e.trans e'⟩
   | false=>
    simp (disch:=try exact DI) only [↓PR,QR,simprocAttr]
    refine ⟨⟨k+1,rfl,by omega,e.trans e',λ j y hj hy=>?_⟩,by simp [intOf];omega⟩
    by_cases hjk:j=k
    · subst hjk;rw [hx] at hy;injection hy with hy;subst hy;exact hp
    · exact hb j y (by omega) hy
 · have hd:decide ((k:Int) < (l.length:Int))=false:=by simp;omega
   simp (disch:=try exact DI) only [↓PR,QR,simprocAttr,hd]
   exact ⟨by rw [Q3 λ j y hy=>hb j y (by have:=(List.getElem?_eq_some_iff.1 hy).1;omega) hy],e⟩
theorem GT (w0:Wd) (v:Vl) (l:List UInt8) (g:FuncId) (caps:AVl) (p:UInt8→Bool) (hs:(λ w v l=>Zc w 1 CI v l) w0 v l) (hg:Callable Pg g) (hc:UK w0 (λ _ v x=>v = .int .u8 (x.toNat:Int)) g caps p l) :
 Ret Pg 108 #[v,.func (.func g) #[] caps] w0 λ r w'=>r = .int .i64 (idx p l)∧Ext w0 w':=by
 obtain ⟨A,c,rfl,hlc,hcm,hlm,Y1⟩:=Zc.open hs
 refine Zhc (R:=ZI _) ?_
 unfold Zhb
 simp (disch:=try exact DI) only [↓PR,QR,simprocAttr]
 refine ZJ (λ i w=>∃ k:Nat,i = .int .i64 k∧k≤l.length∧Ext w0 w∧∀ (j:Nat) y,j < k→l[j]?=some y→p y=false) (λ i _=>l.length - (intOf i).toNat) ⟨0,rfl,by omega,Ext.refl _,λ j y h=>by omega⟩ ?_
 rintro i w ⟨k,rfl,hk,e,hb⟩
 by_cases Yq:k < l.length
 · obtain ⟨x,hx⟩:=getElem?_lt Yq
   obtain ⟨b,o,cs,rfl,hl,hA,hE⟩:=Y1 k x hx
   have hd:decide ((k:Int) < (l.length:Int))=true:=by simp;omega
   simp (disch:=try exact DI) only [↓PR,QR,simprocAttr,hd]
   unfold Re
   simp (disch:=try exact DI) only [↓PR,QR,simprocAttr]
   obtain rfl:=hE
   have hV:(.int .u8 (x.toNat:Int):Vl) = .int .u8 (x.toNat:Int):=rfl
   simp (disch:=try exact DI) only [↓PR,QR,simprocAttr,hA.c1]
   rw [YI hg]
   simp only [Array.empty_append]
   refine Zk (hc w _ x (List.mem_of_getElem? hx) e (hV)) ?_
   rintro r w' ⟨rfl,e'⟩
   cases hp:p x with
   | true => 
    simp (disch:=try exact DI) only [↓PR,QR,simprocAttr]
    exact ⟨by rw [Q2 hx hp hb],e.trans e'⟩
   | false=>
    simp (disch:=try exact DI) only [↓PR,QR,simprocAttr]
    refine ⟨⟨k+1,rfl,by omega,e.trans e',λ j y hj hy=>?_⟩,by simp [intOf];omega⟩
    by_cases hjk:j=k
    · subst hjk;rw [hx] at hy;injection hy with hy;subst hy;exact hp
    · exact hb j y (by omega) hy
 · have hd:decide ((k:Int) < (l.length:Int))=false:=by simp;omega
   simp (disch:=try exact DI) only [↓PR,QR,simprocAttr,hd]
   exact ⟨by rw [Q3 λ j y hy=>hb j y (by have:=(List.getElem?_eq_some_iff.1 hy).1;omega) hy],e⟩
theorem zJ (w0 w1:Wd) (v:Vl) (l:List Xa) (g:FuncId) (caps:AVl) (p:Nat→Bool) (J:Nat→Wd→Prop) (hs:ZZ w0 v l) (hg:Callable Pg g) (hJ:∀ k w,J k w→Ext w0 w) (h0:J 0 w1)
 (hc:∀ k x w u,l[k]?=some x→J k w→(λ _ v x=>v=Us x) w u x→Ret Pg g (#[u]++caps) w λ r w'=>r = .bool (p k)∧J (k+1) w') :
 Ret Pg 263 #[v,.func (.func g) #[] caps] w1 λ r w'=>r = .int .i64 (idx p (List.range l.length))∧∃ k,J k w':=by
 obtain ⟨A,c,rfl,hlc,hcm,hlm,Y1⟩:=Zc.open hs
 refine Zha (R:=ZI _) ?_
 unfold Zg9
 simp (disch:=try exact DI) only [↓PR,QR,simprocAttr]
 refine ZJ (λ i w=>∃ k:Nat,i = .int .i64 k∧k≤l.length∧J k w∧∀ (j:Nat) y,j < k→(List.range l.length)[j]?=some y→p y=false) (λ i _=>l.length - (intOf i).toNat) ⟨0,rfl,by omega,h0,λ j y h=>by omega⟩ ?_
 rintro i w ⟨k,rfl,hk,hj,hb⟩
 have e:=hJ _ _ hj
 by_cases Yq:k < l.length
 · obtain ⟨x,hx⟩:=getElem?_lt Yq
   have hr:(List.range l.length)[k]?=some k:=by simp [Yq]
   obtain ⟨b,o,cs,rfl,hl,hA,hE⟩:=Y1 k x hx
   have hd:decide ((k:Int) < (l.length:Int))=true:=by simp;omega
   simp (disch:=try exact DI) only [↓PR,QR,simprocAttr,hd]
   unfold Rd
   simp (disch:=try exact DI) only [↓PR,QR,simprocAttr]
   obtain rfl:=hE
   have hV:(.agg (qm x).toArray:Vl)=Us x:=rfl
   simp (disch:=try exact DI) only [↓PR,QR,simprocAttr,hA.c2]
   rw [YI hg]
   simp only [Array.empty_append]
   refine Zk (hc k x w _ hx hj hV) ?_
   rintro r w' ⟨rfl,hj'⟩
   cases hp:p k with
   | true => 
    simp (disch:=try exact DI) only [↓PR,QR,simprocAttr]
    exact ⟨by rw [Q2 hr hp hb],_,hj'⟩
   | false=>
    simp (disch:=try exact DI) only [↓PR,QR,simprocAttr]
    exact ⟨⟨k+1,rfl,by omega,hj',before_succ hb hr hp⟩,by simp [intOf];omega⟩
 · have hd:decide ((k:Int) < (l.length:Int))=false:=by simp;omega
   simp (disch:=try exact DI) only [↓PR,QR,simprocAttr,hd]
   exact ⟨by rw [Q3 λ j y hy=>hb j y (by have:=(List.getElem?_eq_some_iff.1 hy).1;simp at this;omega) hy],_,hj⟩
def n58 (R:RT) (w:Wd):Prop:=
 opV Pg (alloc 24 true (.tuple #[])) (Zd R) w λ a w=>
 opV Pg (build 43 #[(0,(.string { data := #[110] })),(1,(.int .i64 7))]) (Zd R) w λ b w=>
 opV Pg (build 43 #[(0,(.string { data := #[98] })),(1,(.int .i64 1)),(2,(.string { data := #[98] }))]) (Zd R) w λ c w=>
 opV Pg (buildSlice 58 2 #[(0,b),(1,c)]) (Zd R) w λ d w=>
 opV Pg (build 60 #[(0,(.string { data := #[65] })),(1,(.string { data := #[65] })),(2,d)]) (Zd R) w λ e w=>
 opV Pg (buildSlice 22 1 #[(0,e)]) (Zd R) w λ f w=>
 opV Pg (build 24 #[(0,(.string { data := #[109] })),(1,f)]) (Zd R) w λ g w=>
 S0 24 a g R w λ w=>
 qW Pg 24 a w λ r0=>
 R (.returned r0) w
theorem Zkx {R:RT} {w:Wd} (h:n58 R w):Calls Pg 30 #[] w R:=by
 refine yD func30 ?_
 refine zs<|zr<|yv h λ _ w h=>zn<|zk<|zs<|zr<|yB h λ _ w h=>yB h λ _ w h=>yS h λ _ w h=>yB h λ _ w h=>yS h λ _ w h=>yB h λ _ w h=>yu h λ w h=>zn ?_
 exact zk<|Zg<|xm rfl rfl h
def n59 (R:RT) (w:Wd):Prop:=
 opV Pg (alloc 27 true (.tuple #[])) (Zd R) w λ a w=>
 opV Pg (build 123 #[(0,(.string { data := #[110] })),(1,(.int .i64 1)),(2,(.int .i64 8)),(6,(.int .i64 255))]) (Zd R) w λ d w=>
 opV Pg (alloc 123 true (.tuple #[])) (Zd R) w λ b w=>
 S0 123 b d R w λ w=>
 opV Pg (build 128 #[(0,(.string { data := #[110] })),(1,(.int .i64 1))]) (Zd R) w λ e w=>
 opV Pg (buildSlice 118 1 #[(0,e)]) (Zd R) w λ f w=>
 opV Pg (build 120 #[(1,f)]) (Zd R) w λ g w=>
 opV Pg (build 123 #[(0,(.string { data := #[98] })),(1,(.int .i64 4)),(7,g)]) (Zd R) w λ h w=>
 opV Pg (alloc 123 true (.tuple #[])) (Zd R) w λ c w=>
 S0 123 c h R w λ w=>
 L0 123 b R w λ i w=>
 L0 123 c R w λ j w=>
 opV Pg (buildSlice 72 2 #[(0,i),(1,j)]) (Zd R) w λ k w=>
 opV Pg (build 74 #[(0,(.string { data := #[65] })),(1,k)]) (Zd R) w λ l w=>
 opV Pg (buildSlice 25 1 #[(0,l)]) (Zd R) w λ m w=>
 opV Pg (build 27 #[(0,(.string { data := #[100] })),(1,m),(2,(.string { data := #[65] }))]) (Zd R) w λ n w=>
 S0 27 a n R w λ w=>
 qW Pg 27 a w λ r0=>
 R (.returned r0) w
theorem Zky {R:RT} {w:Wd} (h:n59 R w):Calls Pg 31 #[] w R:=by
 refine yD func31 ?_
 refine zs<|zr<|yv h λ _ w h=>zn<|zk<|zs<|zr<|yB h λ _ w h=>yv h λ _ w h=>yu h λ w h=>zn<|zk<|zs<|zr<|yB h λ _ w h=>?_
 refine yS h λ _ w h=>yB h λ _ w h=>yB h λ _ w h=>yv h λ _ w h=>yu h λ w h=>zn<|zk<|zs<|zr<|yv h λ _ w h=>yv h λ _ w h=>yS h λ _ w h=>yB h λ _ w h=>yS h λ _ w h=>yB h λ _ w h=>?_
 exact yu h λ w h=>zn<|zk<|Zg<|xm rfl rfl h
def ZbF (a b c:Vl) (d:WPr) (R:RT) (w:Wd):Prop:=
 opV Pg (Instr.typeAssert c 20 82 false) (Zd R) w λ e w=>
 S0 34 a e R w λ w=>
 opU Pg (storeAt 4 b (.bool true)) (Zd R) w λ w=>
 d w
def n15 (c d a:Vl) (R:RT) (w:Wd):Prop:=
 opV Pg (ZF .neq 20 true a .nilIface) (Zd R) w λ e w=>
 Zo (λ (w:Wd)=>
 R (.returned (.tuple #[])) w) λ b=>
 Zs e (
 ZbF c d a b R w) (
 b w)
theorem Zhl {t0 t1:Vl} {u:FrameMode} {R:Ending→FrameMode→Wd→Prop} {w:Wd} (h:n15 t0 t1 (Sw.recM u).1 (λ e w=>R e (Sw.recM u).2 w) w):CallsDIn Fence.wide 0 Pg 32 #[t0,t1] u w R:=by
 refine GB (args:=[t0,t1]) (d:=3) func32 rfl (Nat.le_of_ble_eq_true rfl) rfl rfl rfl rfl ?_
 generalize (recM u).1=t3 at h ⊢
 generalize hR:(λ e w=>R e (recM u).2 w)=R' at h ⊢
 clear hR
 revert h
 generalize R'=R
 intro h
 unfold n15 at h
 refine zm<|zn<|zs<|zr<|zm<|yb h λ _ w h=>zn<|zk<|yJ0 [6,7] h (λ _ _ hkK1 h=>?_) λ σ w h=>?_
 · refine yC h (λ h=>?_) λ h=>?_
   · refine zr<|zm<|yv h λ _ w h=>yu h λ w h=>yu h λ w h=>zn<|zk ?_
     exact zt hkK1 h
   refine Zj<|zk ?_
   exact zt hkK1 h
 exact ZG<|ZQ rfl h
def MP (b c:Vl) (a:WPr) (R:RT) (w:Wd):Prop:=
 qN Pg a (Y2 b) λ d=>
 J0 81 d 3 a λ e=>
 I0 3 e a λ f=>
 qN Pg a (Y2 b) λ g=>
 J0 81 g 4 a λ h=>
 I0 3 h a λ i=>
 qV Pg a (build 82 #[(0,f),(1,i),(2,c)]) λ j=>
 qV Pg a (makeInterface 82 j) λ k=>
 opV Pg (Instr.panic k) (Zd R) w λ _ w=>
 False
def n33 (a b c:Vl) (R:RT) (w:Wd):Prop:=
 N0 b R w λ d w=>
 Zs d (
 Yg w λ e w=>
 MP a c e R w) (
 R (.returned (.tuple #[])) w)
theorem Zj8 {t0 t1 t2:Vl} {R:RT} {w:Wd} (h:n33 t0 t1 t2 R w):Calls Pg 33 #[t0,t1,t2] w R:=by
 refine yD func33 ?_
 refine zs<|zr<|zm<|yv h λ _ w h=>zn<|zk<|yC h (λ h=>?_) λ h=>?_
 · refine yh [8,9,10,11,12,13,14,15,16,17,18] h λ C hC h=>yw 0 hC ?_
   refine yn 1 hC h λ _ h=>?_
   refine ye 2 hC h λ _ h=>?_
   refine ye 3 hC h λ _ h=>?_
   refine yw 4 hC ?_
   refine yn 5 hC h λ _ h=>?_
   refine ye 6 hC h λ _ h=>?_
   refine ye 7 hC h λ _ h=>?_
   refine yw 8 hC ?_
   refine ye 9 hC h λ _ h=>?_
   refine ye 10 hC h λ _ h=>?_
   refine yo 11 ?_
   exact yv h λ _ w h=>zn<|h.elim
 exact Zj<|ZG<|ZQ rfl h
def Zdb (a:Vl) (R:RT) (w:Wd):Prop:=
 E0q a 0 R w λ b w=>
 E0q a 1 R w λ c w=>
 opV Pg (alloc 131 true (.tuple #[])) (Zd R) w λ d w=>
 S0 131 d b R w λ w=>
 N0 c R w λ e w=>
 R (.returned e) w
def n70 (a:Vl) (R:RT) (w:Wd):Prop:=
 opV Pg (box 27 a) (Zd R) w λ b w=>
 L0 27 b R w λ c w=>
 C0 70 #[c] R w λ d w=>
 Zdb d R w
theorem ZkI {t0:Vl} {R:RT} {w:Wd} (h:n70 t0 R w):Calls Pg 34 #[t0] w R:=by
 refine yD func34 ?_
 refine zs<|zr<|yv h λ _ w h=>zm<|zn<|zk<|zs<|zr<|yv h λ _ w h=>yc h c70 λ _ w h=>zm<|yv h λ _ w h=>yv h λ _ w h=>yv h λ _ w h=>yu h λ w h=>?_
 exact zm<|zn<|zk<|zs<|zr<|zm<|yv h λ _ w h=>zm<|zn<|zk<|Zg<|Zi rfl rfl h
def G6 (d e f:Vl) (R:RT) (w:Wd):Prop:=
 Zy e f (.bool false) λ b=>
 Zo (λ (a:Vl) (w:Wd)=>
 Zy b a (.bool false) λ g=>
 R (.returned g) w) λ c=>
 Zn b true (
 opV Pg (Go.convert 9 40 d) (Zd R) w λ h w=>
 ZV Pg 75 #[h,(.func (.func 71) #[] #[])] (Zd R) w λ i w=>
 N0 i R w λ a w=>
 c a w) (
 c undef w)
def G7 (b c:Vl) (R:RT) (w:Wd):Prop:=
 Zo (λ (a:Vl) (w:Wd)=>
 G6 b c a R w) λ d=>
 Zn c true (
 opV Pg (Instr.index 9 b (.int .i64 0)) (Zd R) w λ e w=>
 C0 72 #[e] R w λ a w=>
 d a w) (
 d undef w)
def Zf3 (a:Vl) (R:RT) (w:Wd):Prop:=
 G0 9 3 a R w λ b w=>
 B0 .geq 3 true b (.int .i64 1) R w λ c w=>
 G0 9 3 a R w λ d w=>
 B0 .leq 3 true d (.int .i64 32) R w λ e w=>
 opV Pg (buildSlice 170 2 #[(0,c),(1,e)]) (Zd R) w λ f w=>
 C0 74 #[f] R w λ g w=>
 G7 a g R w
theorem Zf4 {t0:Vl} {R:RT} {w:Wd} (h:Zf3 t0 R w):Calls Pg 35 #[t0] w R:=by
 refine yD func35 ?_
 refine zs<|zr<|zm<|zn<|zk<|zs<|zr<|zm<|zn<|zk<|zs<|Zt<|yG 9<|zm<|yx h λ _ w h=>?_
 refine yb h λ _ w h=>zm<|yx h λ _ w h=>yb h λ _ w h=>yS h λ _ w h=>yc h c74 λ _ w h=>zm<|zn<|yg1 3 8 true [13,14,15] 15 h (λ _ T hT h=>?_) λ σ w h=>?_
 · refine zm<|yv h λ _ w h=>yc h c72 λ _ w h=>zn ?_
   exact zt hT h
 refine yG 2<|yp h λ _ h=>zm<|zn<|yg1 5 13 true [18,19,20,21,22] 22 h (λ _ T hT h=>?_) λ σ w h=>?_
 · refine zm<|yv h λ _ w h=>zm<|yc h c75 λ _ w h=>yv h λ _ w h=>zn ?_
   exact zt hT h
 exact yG 2<|yp h λ _ h=>zm<|zn<|ZK<|zk<|Zg<|Zi rfl rfl h
def JA (c d b:Vl) (a:WPr) (Zx:KV) (R:RT) (w:Wd):Prop:=
 M0 40 c b a λ e=>
 I0 5 e a λ f=>
 M0 40 d b a λ g=>
 I0 5 g a λ h=>
 qV Pg a (ZF .neq 5 false f h) λ i=>
 Zs i (
 R (.returned (.bool false)) w) (
 B0 .add 3 true b (.int .i64 1) R w λ j w=>
 Zx j w)
def JB (a c:Vl) (R:RT) (w:Wd):Prop:=
 G0 40 3 a R w λ d w=>
 Y6 (λ b w Zx=>
 B0 .lss 3 false b d R w λ e w=>
 Zs e (
 Yg w λ f w=>
 JA a c b f Zx R w) (
 R (.returned (.bool true)) w)) (.int .i64 0) w
def ZgX (a b:Vl) (R:RT) (w:Wd):Prop:=
 G0 40 3 a R w λ c w=>
 G0 40 3 b R w λ d w=>
 B0 .neq 3 false c d R w λ e w=>
 Zs e (
 R (.returned (.bool false)) w) (
 JB a b R w)
theorem ZgY {t0 t1:Vl} {R:RT} {w:Wd} (h:ZgX t0 t1 R w):Calls Pg 63 #[t0,t1] w R:=by
 refine yD func63 ?_
 refine zs<|zr<|zm<|zn<|zk<|zs<|zs<|zr<|zm<|yx h λ _ w h=>zm<|yx h λ _ w h=>yb h λ _ w h=>zn<|zk ?_
 refine yC h (λ h=>zs<|zr<|zm<|zn<|zk<|Zg<|Zb<|Zi rfl rfl h) λ h=>Zj<|zk<|zs<|zs<|zr<|zm<|yx h λ _ w h=>zm<|zn<|zk<|Zl<|yl1 [4,5,13,14,15,16,17,18,19,20,21,22,23,24,25] 13 h λ σ w next h=>zs ?_
 refine zr<|yb h λ _ w h=>zn<|zk<|zs<|yC h (λ h=>?_) λ h=>?_
 · refine Zj<|zk<|zs<|Zl<|zs<|zr<|zm<|zm<|zn<|zk<|zs<|yh [16,17,18,19,20,21,22,23,24] h λ C hC h=>yw 0 hC ?_
   refine yw 1 hC ?_
   refine ye 2 hC h λ _ h=>?_
   refine ye 3 hC h λ _ h=>?_
   refine yw 4 hC ?_
   refine yw 5 hC ?_
   refine ye 6 hC h λ _ h=>?_
   refine ye 7 hC h λ _ h=>?_
   refine ye 8 hC h λ _ h=>?_
   exact yz<|zk<|yC h (λ h=>zs<|zr<|zm<|zn<|zk<|Zg<|Zh<|Zb<|Zb<|Zh<|Zb<|Zi rfl rfl h) λ h=>Zj<|Zf<|zk<|zr<|yb h λ _ w h=>zm<|zn<|zk<|⟨rfl,h⟩
 exact ZM<|Ze<|Ze<|Zu<|zk<|zs<|zr<|zm<|zn<|zk<|Zg<|Zi rfl rfl h
def Jv (c d b:Vl) (a:WPr) (Zx:KV) (R:RT) (w:Wd):Prop:=
 M0 41 c b a λ e=>
 I0 78 e a λ f=>
 M0 41 d b a λ g=>
 I0 78 g a λ h=>
 qV Pg a (ZF .neq 78 false f h) λ i=>
 Zs i (
 R (.returned (.bool false)) w) (
 B0 .add 3 true b (.int .i64 1) R w λ j w=>
 Zx j w)
def Jw (a c:Vl) (R:RT) (w:Wd):Prop:=
 G0 41 3 a R w λ d w=>
 Y6 (λ b w Zx=>
 B0 .lss 3 false b d R w λ e w=>
 Zs e (
 Yg w λ f w=>
 Jv a c b f Zx R w) (
 R (.returned (.bool true)) w)) (.int .i64 0) w
def ZgT (a b:Vl) (R:RT) (w:Wd):Prop:=
 G0 41 3 a R w λ c w=>
 G0 41 3 b R w λ d w=>
 B0 .neq 3 false c d R w λ e w=>
 Zs e (
 R (.returned (.bool false)) w) (
 Jw a b R w)
theorem ZgU {t0 t1:Vl} {R:RT} {w:Wd} (h:ZgT t0 t1 R w):Calls Pg 64 #[t0,t1] w R:=by
 refine yD func64 ?_
 refine zs<|zr<|zm<|zn<|zk<|zs<|zs<|zr<|zm<|yx h λ _ w h=>zm<|yx h λ _ w h=>yb h λ _ w h=>zn<|zk ?_
 refine yC h (λ h=>zs<|zr<|zm<|zn<|zk<|Zg<|Zb<|Zi rfl rfl h) λ h=>Zj<|zk<|zs<|zs<|zr<|zm<|yx h λ _ w h=>zm<|zn<|zk<|Zl<|yl1 [4,5,13,14,15,16,17,18,19,20,21,22,23,24,25] 13 h λ σ w next h=>zs ?_
 refine zr<|yb h λ _ w h=>zn<|zk<|zs<|yC h (λ h=>?_) λ h=>?_
 · refine Zj<|zk<|zs<|Zl<|zs<|zr<|zm<|zm<|zn<|zk<|zs<|yh [16,17,18,19,20,21,22,23,24] h λ C hC h=>yw 0 hC ?_
   refine yw 1 hC ?_
   refine ye 2 hC h λ _ h=>?_
   refine ye 3 hC h λ _ h=>?_
   refine yw 4 hC ?_
   refine yw 5 hC ?_
   refine ye 6 hC h λ _ h=>?_
   refine ye 7 hC h λ _ h=>?_
   refine ye 8 hC h λ _ h=>?_
   exact yz<|zk<|yC h (λ h=>zs<|zr<|zm<|zn<|zk<|Zg<|Zh<|Zb<|Zb<|Zh<|Zb<|Zi rfl rfl h) λ h=>Zj<|Zf<|zk<|zr<|yb h λ _ w h=>zm<|zn<|zk<|⟨rfl,h⟩
 exact ZM<|Ze<|Ze<|Zu<|zk<|zs<|zr<|zm<|zn<|zk<|Zg<|Zi rfl rfl h
def ZbL (d e f g h:Vl) (R:RT) (w:Wd):Prop:=
 Zy g h (.bool false) λ b=>
 Zo (λ (a:Vl) (w:Wd)=>
 Zy b a (.bool false) λ i=>
 R (.returned i) w) λ c=>
 Zn b true (
 F0 60 e 2 R w λ j w=>
 L0 58 j R w λ k w=>
 F0 60 f 2 R w λ l w=>
 L0 58 l R w λ m w=>
 L0 88 d R w λ n w=>
 C0 66 #[k,m,n] R w λ a w=>
 c a w) (
 c undef w)
def n19 (f g h:Vl) (R:RT) (w:Wd):Prop:=
 opV Pg (box 60 f) (Zd R) w λ a w=>
 opV Pg (box 60 g) (Zd R) w λ b w=>
 F0 60 a 0 R w λ i w=>
 L0 9 i R w λ j w=>
 F0 60 b 0 R w λ k w=>
 L0 9 k R w λ l w=>
 B0 .eql 9 false j l R w λ d w=>
 Zo (λ (c:Vl) (w:Wd)=>
 ZbL h a b d c R w) λ e=>
 Zn d true (
 F0 60 a 1 R w λ m w=>
 L0 9 m R w λ n w=>
 F0 60 b 1 R w λ o w=>
 L0 9 o R w λ p w=>
 B0 .eql 9 false n p R w λ c w=>
 e c w) (
 e undef w)
theorem ZjW {t0 t1 t2:Vl} {R:RT} {w:Wd} (h:n19 t0 t1 t2 R w):Calls Pg 65 #[t0,t1,t2] w R:=by
 refine yD func65 ?_
 refine zs<|zr<|yv h λ _ w h=>yv h λ _ w h=>zm<|zn<|zk<|zs<|Zt<|yG 6<|yv h λ _ w h=>yv h λ _ w h=>yv h λ _ w h=>yv h λ _ w h=>yb h λ _ w h=>?_
 refine zm<|zn<|yg1 5 5 true [12,13,14,15,16] 16 h (λ _ T hT h=>?_) λ σ w h=>?_
 · refine yv h λ _ w h=>yv h λ _ w h=>yv h λ _ w h=>yv h λ _ w h=>yb h λ _ w h=>zn ?_
   exact zt hT h
 refine yG 2<|yp h λ _ h=>zm<|zn<|yg1 6 12 true [19,20,21,22,23,24] 24 h (λ _ T hT h=>?_) λ σ w h=>?_
 · refine yv h λ _ w h=>yv h λ _ w h=>yv h λ _ w h=>yv h λ _ w h=>yv h λ _ w h=>yc h c66 λ _ w h=>zn ?_
   exact zt hT h
 exact yG 2<|yp h λ _ h=>zm<|zn<|ZK<|zk<|Zg<|Zi rfl rfl h
def G8 (a b:Vl) (Zx:KV) (R:RT) (w:Wd):Prop:=
 N0 b R w λ c w=>
 Zs c (
 R (.returned (.bool false)) w) (
 B0 .add 3 true a (.int .i64 1) R w λ d w=>
 Zx d w)
def G9 (d e f a:Vl) (Zx:KV) (R:RT) (w:Wd):Prop:=
 X0 58 d a R w λ g w=>
 L0 43 g R w λ h w=>
 opV Pg (alloc 43 true (.tuple #[])) (Zd R) w λ b w=>
 S0 43 b h R w λ w=>
 X0 58 e a R w λ i w=>
 L0 43 i R w λ j w=>
 opV Pg (alloc 43 true (.tuple #[])) (Zd R) w λ c w=>
 S0 43 c j R w λ w=>
 L0 43 b R w λ k w=>
 L0 43 c R w λ l w=>
 XW Pg f #[k,l] (Zd R) w λ m w=>
 G8 a m Zx R w
def za (a c d:Vl) (R:RT) (w:Wd):Prop:=
 G0 58 3 a R w λ e w=>
 Y6 (λ b w Zx=>
 B0 .lss 3 false b e R w λ f w=>
 Zs f (
 G9 a c d b Zx R w) (
 R (.returned (.bool true)) w)) (.int .i64 0) w
def ZgN (a b c:Vl) (R:RT) (w:Wd):Prop:=
 G0 58 3 a R w λ d w=>
 G0 58 3 b R w λ e w=>
 B0 .neq 3 false d e R w λ f w=>
 Zs f (
 R (.returned (.bool false)) w) (
 za a b c R w)
theorem ZgO {t0 t1 t2:Vl} {R:RT} {w:Wd} (h:ZgN t0 t1 t2 R w):Calls Pg 66 #[t0,t1,t2] w R:=by
 refine yD func66 ?_
 refine zs<|zr<|zm<|zn<|zk<|zs<|zs<|zr<|zm<|yx h λ _ w h=>zm<|yx h λ _ w h=>yb h λ _ w h=>zn<|zk ?_
 refine yC h (λ h=>zs<|zr<|zm<|zn<|zk<|Zg<|Zb<|Zi rfl rfl h) λ h=>Zj<|zk<|zs<|zs<|zr<|zm<|yx h λ _ w h=>zm<|zn<|zk<|Zl<|yl1 [6,7,8,9,17,18,19,20,21,22,23,24,25,26,27,28,29,30,31] 17 h λ σ w next h=>zs ?_
 refine zr<|yb h λ _ w h=>zn<|zk<|zs<|yC h (λ h=>?_) λ h=>?_
 · refine Zj<|zk<|zs<|Zl<|zs<|zr<|zm<|yv h λ _ w h=>yv h λ _ w h=>yv h λ _ w h=>zm<|yu h λ w h=>zn<|zk<|zs ?_
   refine zr<|zm<|zm<|yv h λ _ w h=>yv h λ _ w h=>yv h λ _ w h=>yu h λ w h=>zn<|zk<|zs<|zr<|zm<|yv h λ _ w h=>yv h λ _ w h=>yV h λ _ w h=>?_
   exact yv h λ _ w h=>zn<|zk<|yC h (λ h=>zs<|zr<|zm<|zn<|zk<|Zg<|Zh<|Zb<|Zb<|Zh<|Zb<|Zi rfl rfl h) λ h=>Zj<|Zf<|zk<|zr<|yb h λ _ w h=>zm<|zn<|zk<|⟨rfl,h⟩
 exact ZM<|Ze<|Ze<|Zu<|zk<|zs<|zr<|zm<|zn<|zk<|Zg<|Zi rfl rfl h
def zb (a b:Vl) (Zx:KV) (R:RT) (w:Wd):Prop:=
 N0 b R w λ c w=>
 Zs c (
 R (.returned (.bool false)) w) (
 B0 .add 3 true a (.int .i64 1) R w λ d w=>
 Zx d w)
def zc (d e f a:Vl) (Zx:KV) (R:RT) (w:Wd):Prop:=
 X0 22 d a R w λ g w=>
 L0 60 g R w λ h w=>
 opV Pg (alloc 60 true (.tuple #[])) (Zd R) w λ b w=>
 S0 60 b h R w λ w=>
 X0 22 e a R w λ i w=>
 L0 60 i R w λ j w=>
 opV Pg (alloc 60 true (.tuple #[])) (Zd R) w λ c w=>
 S0 60 c j R w λ w=>
 L0 60 b R w λ k w=>
 L0 60 c R w λ l w=>
 XW Pg f #[k,l] (Zd R) w λ m w=>
 zb a m Zx R w
def zd (a c d:Vl) (R:RT) (w:Wd):Prop:=
 G0 22 3 a R w λ e w=>
 Y6 (λ b w Zx=>
 B0 .lss 3 false b e R w λ f w=>
 Zs f (
 zc a c d b Zx R w) (
 R (.returned (.bool true)) w)) (.int .i64 0) w
def ZgP (a b c:Vl) (R:RT) (w:Wd):Prop:=
 G0 22 3 a R w λ d w=>
 G0 22 3 b R w λ e w=>
 B0 .neq 3 false d e R w λ f w=>
 Zs f (
 R (.returned (.bool false)) w) (
 zd a b c R w)
theorem ZgQ {t0 t1 t2:Vl} {R:RT} {w:Wd} (h:ZgP t0 t1 t2 R w):Calls Pg 67 #[t0,t1,t2] w R:=by
 refine yD func67 ?_
 refine zs<|zr<|zm<|zn<|zk<|zs<|zs<|zr<|zm<|yx h λ _ w h=>zm<|yx h λ _ w h=>yb h λ _ w h=>zn<|zk ?_
 refine yC h (λ h=>zs<|zr<|zm<|zn<|zk<|Zg<|Zb<|Zi rfl rfl h) λ h=>Zj<|zk<|zs<|zs<|zr<|zm<|yx h λ _ w h=>zm<|zn<|zk<|Zl<|yl1 [6,7,8,9,17,18,19,20,21,22,23,24,25,26,27,28,29,30,31] 17 h λ σ w next h=>zs ?_
 refine zr<|yb h λ _ w h=>zn<|zk<|zs<|yC h (λ h=>?_) λ h=>?_
 · refine Zj<|zk<|zs<|Zl<|zs<|zr<|zm<|yv h λ _ w h=>yv h λ _ w h=>yv h λ _ w h=>zm<|yu h λ w h=>zn<|zk<|zs ?_
   refine zr<|zm<|zm<|yv h λ _ w h=>yv h λ _ w h=>yv h λ _ w h=>yu h λ w h=>zn<|zk<|zs<|zr<|zm<|yv h λ _ w h=>yv h λ _ w h=>yV h λ _ w h=>?_
   exact yv h λ _ w h=>zn<|zk<|yC h (λ h=>zs<|zr<|zm<|zn<|zk<|Zg<|Zh<|Zb<|Zb<|Zh<|Zb<|Zi rfl rfl h) λ h=>Zj<|Zf<|zk<|zr<|yb h λ _ w h=>zm<|zn<|zk<|⟨rfl,h⟩
 exact ZM<|Ze<|Ze<|Zu<|zk<|zs<|zr<|zm<|zn<|zk<|Zg<|Zi rfl rfl h
def Ry (a b:Vl) (R:RT) (w:Wd):Prop:=
 Zs b (
 R (.returned (.int .i64 5)) w) (
 B0 .eql 117 true a (.int .i64 9) R w λ c w=>
 Zs c (
 R (.returned (.int .i64 6)) w) (
 R (.returned (.int .i64 0)) w))
def Rz (a:Vl) (R:RT) (w:Wd):Prop:=
 B0 .eql 117 true a (.int .i64 8) R w λ b w=>
 Zo (λ (d:Vl) (w:Wd)=>
 Ry a d R w) λ c=>
 Zs b (
 c b w) (
 B0 .eql 117 true a (.int .i64 12) R w λ e w=>
 c e w)
def RA (a:Vl) (R:RT) (w:Wd):Prop:=
 B0 .eql 117 true a (.int .i64 6) R w λ b w=>
 Zs b (
 R (.returned (.int .i64 3)) w) (
 B0 .eql 117 true a (.int .i64 7) R w λ c w=>
 Zs c (
 R (.returned (.int .i64 4)) w) (
 Rz a R w))
def RB (a:Vl) (R:RT) (w:Wd):Prop:=
 B0 .eql 117 true a (.int .i64 4) R w λ b w=>
 Zo (λ (d:Vl) (w:Wd)=>
 Zs d (
 R (.returned (.int .i64 2)) w) (
 RA a R w)) λ c=>
 Zs b (
 c b w) (
 B0 .eql 117 true a (.int .i64 5) R w λ e w=>
 c e w)
def n38 (d:Vl) (R:RT) (w:Wd):Prop:=
 opV Pg (box 123 d) (Zd R) w λ e w=>
 F0 123 e 1 R w λ f w=>
 L0 117 f R w λ a w=>
 B0 .eql 117 true a (.int .i64 1) R w λ b w=>
 Zo (λ (g:Vl) (w:Wd)=>
 Zs g (
 R (.returned (.int .i64 1)) w) (
 RB a R w)) λ c=>
 Zs b (
 c b w) (
 B0 .eql 117 true a (.int .i64 3) R w λ h w=>
 c h w)
theorem Zkd {t0:Vl} {R:RT} {w:Wd} (h:n38 t0 R w):Calls Pg 68 #[t0] w R:=by
 refine yD func68 ?_
 refine zs<|zr<|yv h λ _ w h=>zm<|zn<|zk<|zs<|zs<|zr<|yv h λ _ w h=>yv h λ _ w h=>zn<|zk<|Zl<|zs ?_
 refine zs<|zr<|yb h λ _ w h=>zm<|zn<|zk<|yJ1 [5,7] 5 h (λ _ _ hkK1 h=>?_) λ σ w h=>?_
 · refine yC h (λ h=>?_) λ h=>?_
   · refine Zj<|zk ?_
     exact zt hkK1 h
   refine zr<|yb h λ _ w h=>zm<|zn<|zk ?_
   exact zt hkK1 h
 refine zk<|yC h (λ h=>zs<|zr<|zm<|zn<|zk<|Zg<|Zh<|Zb<|Zi rfl rfl h) λ h=>zs<|zs<|zr<|yb h λ _ w h=>zm<|zn<|zk<|yJ1 [8,10] 8 h (λ _ _ hkK2 h=>?_) λ σ w h=>?_
 · refine yC h (λ h=>?_) λ h=>?_
   · refine Zj<|zk ?_
     exact zt hkK2 h
   refine zr<|yb h λ _ w h=>zm<|zn<|zk ?_
   exact zt hkK2 h
 refine zk<|yC h (λ h=>zs<|zr<|zm<|zn<|zk<|Zg<|Zh<|Zb<|Zi rfl rfl h) λ h=>zs<|zr<|yb h λ _ w h=>zm<|zn<|zk<|yC h (λ h=>zs<|zr<|zm<|zn<|zk<|Zg<|Zh<|Zb<|Zi rfl rfl h) λ h=>zs<|zr<|yb h λ _ w h=>zm ?_
 refine zn<|zk<|yC h (λ h=>zs<|zr<|zm<|zn<|zk<|Zg<|Zh<|Zb<|Zi rfl rfl h) λ h=>zs<|zs<|zr<|yb h λ _ w h=>zm<|zn<|zk<|yJ1 [15,17] 15 h (λ _ _ hkK3 h=>?_) λ σ w h=>?_
 · refine yC h (λ h=>?_) λ h=>?_
   · refine Zj<|zk ?_
     exact zt hkK3 h
   refine zr<|yb h λ _ w h=>zm<|zn<|zk ?_
   exact zt hkK3 h
 refine zk<|yC h (λ h=>zs<|zr<|zm<|zn<|zk<|Zg<|Zh<|Zb<|Zi rfl rfl h) λ h=>zs<|zr<|yb h λ _ w h=>zm<|zn<|zk<|yC h (λ h=>zs<|zr<|zm<|zn<|zk<|Zg<|Zh<|Zb<|Zi rfl rfl h) λ h=>Zj<|Zf<|zk<|zs ?_
 exact zr<|zm<|zn<|zk<|Zg<|Zi rfl rfl h
def Zc9 (b a:Vl) (R:RT) (w:Wd):Prop:=
 E0q a 0 R w λ g w=>
 E0q a 1 R w λ d w=>
 E0q a 2 R w λ e w=>
 opV Pg (alloc 131 true (.tuple #[])) (Zd R) w λ c w=>
 S0 131 c d R w λ w=>
 L0 131 c R w λ f w=>
 S0 131 b f R w λ w=>
 qW Pg 131 b w λ r0=>
 R (.returned (.tuple #[r0,e])) w
def n61 (a:Vl) (R:RT) (w:Wd):Prop:=
 opV Pg (box 27 a) (Zd R) w λ b w=>
 opV Pg (alloc 131 true (.tuple #[])) (Zd R) w λ c w=>
 L0 27 b R w λ d w=>
 C0 106 #[d] R w λ e w=>
 Zc9 c e R w
theorem ZkA {t0:Vl} {R:RT} {w:Wd} (h:n61 t0 R w):Calls Pg 70 #[t0] w R:=by
 refine yD func70 ?_
 refine zs<|zr<|yv h λ _ w h=>yv h λ _ w h=>zm<|zn<|zk<|zs<|zr<|yv h λ _ w h=>yc h ZiD λ _ w h=>zm<|yv h λ _ w h=>yv h λ _ w h=>yv h λ _ w h=>?_
 refine yv h λ _ w h=>zm<|yu h λ w h=>zm<|zn<|zk<|zs<|zr<|yv h λ _ w h=>zm<|yu h λ w h=>zm<|zn<|zk<|Zg ?_
 exact YH rfl rfl rfl h
def xL (d e f:Vl) (R:RT) (w:Wd):Prop:=
 Zy e f (.bool false) λ b=>
 Zo (λ (a:Vl) (w:Wd)=>
 Zy b a (.bool false) λ g=>
 R (.returned g) w) λ c=>
 Zn b true (
 opV Pg (ZF .neq 5 true d (.int .u8 95)) (Zd R) w λ a w=>
 c a w) (
 c undef w)
def xM (b e:Vl) (R:RT) (w:Wd):Prop:=
 N0 e R w λ c w=>
 Zo (λ (a:Vl) (w:Wd)=>
 xL b c a R w) λ d=>
 Zn c true (
 C0 73 #[b] R w λ f w=>
 N0 f R w λ a w=>
 d a w) (
 d undef w)
def Zf5 (a:Vl) (R:RT) (w:Wd):Prop:=
 C0 72 #[a] R w λ b w=>
 xM a b R w
theorem Zf6 {t0:Vl} {R:RT} {w:Wd} (h:Zf5 t0 R w):Calls Pg 71 #[t0] w R:=by
 refine yD func71 ?_
 refine zs<|zr<|zm<|zn<|zk<|zs<|Zt<|yG 4<|zm<|yc h c72 λ _ w h=>yv h λ _ w h=>zm<|zn<|yg1 3 3 true [7,8,9] 9 h (λ _ T hT h=>?_) λ σ w h=>?_
 · refine zm<|yc h c73 λ _ w h=>yv h λ _ w h=>zn ?_
   exact zt hT h
 refine yG 2<|yp h λ _ h=>zm<|zn<|yg1 2 8 true [12,13] 13 h (λ _ T hT h=>?_) λ σ w h=>?_
 · refine zm<|yb h λ _ w h=>zn ?_
   exact zt hT h
 exact yG 2<|yp h λ _ h=>zm<|zn<|ZK<|zk<|Zg<|Zi rfl rfl h
def IZ (g c d:Vl) (R:RT) (w:Wd):Prop:=
 Zo (λ (a:Vl) (w:Wd)=>
 Zo (λ (b:Vl) (w:Wd)=>
 Zy c (.bool true) b λ h=>
 R (.returned h) w) λ e=>
 Zn c false (
 Zy d a (.bool false) λ b=>
 e b w) (
 e undef w)) λ f=>
 Zn d true (
 opV Pg (ZF .leq 5 true g (.int .u8 122)) (Zd R) w λ a w=>
 f a w) (
 f undef w)
def I1 (a d e:Vl) (R:RT) (w:Wd):Prop:=
 Zy d e (.bool false) λ b=>
 Zo (λ (f:Vl) (w:Wd)=>
 IZ a b f R w) λ c=>
 Zn b false (
 opV Pg (ZF .geq 5 true a (.int .u8 97)) (Zd R) w λ g w=>
 c g w) (
 c undef w)
def Zgk (a:Vl) (R:RT) (w:Wd):Prop:=
 opV Pg (ZF .geq 5 true a (.int .u8 65)) (Zd R) w λ c w=>
 Zo (λ (b:Vl) (w:Wd)=>
 I1 a c b R w) λ d=>
 Zn c true (
 opV Pg (ZF .leq 5 true a (.int .u8 90)) (Zd R) w λ b w=>
 d b w) (
 d undef w)
theorem Zgl {t0:Vl} {R:RT} {w:Wd} (h:Zgk t0 R w):Calls Pg 72 #[t0] w R:=by
 refine yD func72 ?_
 refine zs<|zr<|zm<|zn<|zk<|zs<|Zt<|yG 3<|zm<|yb h λ _ w h=>zm<|zn<|yg1 2 2 true [6,7] 7 h (λ _ T hT h=>?_) λ σ w h=>?_
 · refine zm<|yb h λ _ w h=>zn ?_
   exact zt hT h
 refine yG 2<|yp h λ _ h=>zm<|zn<|yg1 3 6 false [10,11,12] 12 h (λ _ T hT h=>?_) λ σ w h=>?_
 · refine zm<|yb h λ _ w h=>zm<|zn ?_
   exact zt hT h
 refine yg1 2 9 true [13,14] 14 h (λ _ T hT h=>?_) λ σ w h=>?_
 · refine zm<|yb h λ _ w h=>zn ?_
   exact zt hT h
 refine yg1 1 6 false [15] 15 h (λ _ T hT h=>?_) λ σ w h=>?_
 · refine yp h λ _ h=>zn ?_
   exact zt hT h
 exact yG 2<|yp h λ _ h=>zm<|zn<|ZK<|zk<|Zg<|Zi rfl rfl h
def Zgi (b:Vl) (R:RT) (w:Wd):Prop:=
 opV Pg (ZF .geq 5 true b (.int .u8 48)) (Zd R) w λ c w=>
 Zo (λ (a:Vl) (w:Wd)=>
 Zy c a (.bool false) λ e=>
 R (.returned e) w) λ d=>
 Zn c true (
 opV Pg (ZF .leq 5 true b (.int .u8 57)) (Zd R) w λ a w=>
 d a w) (
 d undef w)
theorem Zgj {t0:Vl} {R:RT} {w:Wd} (h:Zgi t0 R w):Calls Pg 73 #[t0] w R:=by
 refine yD func73 ?_
 refine zs<|zr<|zm<|zn<|zk<|zs<|Zt<|yG 3<|zm<|yb h λ _ w h=>zm<|zn<|yg1 2 2 true [6,7] 7 h (λ _ T hT h=>?_) λ σ w h=>?_
 · refine zm<|yb h λ _ w h=>zn ?_
   exact zt hT h
 exact yG 2<|yp h λ _ h=>zm<|zn<|ZK<|zk<|Zg<|Zi rfl rfl h
def Zgf (a:Vl) (R:RT) (w:Wd):Prop:=
 C0 107 #[a,(.bool false)] R w λ b w=>
 N0 b R w λ c w=>
 R (.returned c) w
theorem Zgg {t0:Vl} {R:RT} {w:Wd} (h:Zgf t0 R w):Calls Pg 74 #[t0] w R:=by
 refine yD func74 ?_
 exact zs<|zr<|zm<|zn<|zk<|zs<|zr<|zm<|yc h ZiE λ _ w h=>yv h λ _ w h=>zm<|zn<|zk<|Zg<|Zi rfl rfl h
def ZgF (a b:Vl) (R:RT) (w:Wd):Prop:=
 C0 108 #[a,b] R w λ c w=>
 B0 .geq 3 true c (.int .i64 0) R w λ d w=>
 R (.returned d) w
theorem ZgG {t0 t1:Vl} {R:RT} {w:Wd} (h:ZgF t0 t1 R w):Calls Pg 75 #[t0,t1] w R:=by
 refine yD func75 ?_
 refine zs<|zr<|zm<|zn<|zk<|zs<|zr<|zm<|zm<|yc h ZiF λ _ w h=>yb h λ _ w h=>zm<|zn<|zk<|Zg ?_
 exact Zi rfl rfl h
def Zck (a:Vl) (R:RT) (w:Wd):Prop:=
 opV Pg (build 74 #[]) (Zd R) w λ b w=>
 S0 74 a b R w λ w=>
 qW Pg 74 a w λ r0=>
 R (.returned (.tuple #[r0,(.bool false)])) w
def Zcl (b a c:Vl) (R:RT) (w:Wd):Prop:=
 F0 27 b 1 R w λ d w=>
 L0 25 d R w λ e w=>
 X0 25 e c R w λ f w=>
 L0 74 f R w λ g w=>
 S0 74 a g R w λ w=>
 qW Pg 74 a w λ r0=>
 R (.returned (.tuple #[r0,(.bool true)])) w
def Zcm (c a b:Vl) (R:RT) (w:Wd):Prop:=
 E0q b 0 R w λ d w=>
 E0q b 1 R w λ e w=>
 N0 e R w λ f w=>
 Zs f (
 Zck a R w) (
 Zcl c a d R w)
def n44 (b c:Vl) (R:RT) (w:Wd):Prop:=
 opV Pg (box 27 b) (Zd R) w λ a w=>
 opV Pg (alloc 74 true (.tuple #[])) (Zd R) w λ d w=>
 L0 27 a R w λ e w=>
 C0 109 #[e,c] R w λ f w=>
 Zcm a d f R w
theorem Zkj {t0 t1:Vl} {R:RT} {w:Wd} (h:n44 t0 t1 R w):Calls Pg 76 #[t0,t1] w R:=by
 refine yD func76 ?_
 refine zs<|zr<|yv h λ _ w h=>yv h λ _ w h=>zm<|zn<|zk<|zs<|zr<|yv h λ _ w h=>zm<|yc h ZiG λ _ w h=>zm<|yv h λ _ w h=>yv h λ _ w h=>?_
 refine zm<|zm<|zn<|zk<|zs<|zs<|zr<|zm<|yv h λ _ w h=>zn<|zk<|yC h (λ h=>zs<|zr<|yB h λ _ w h=>yu h λ w h=>zm<|zn<|zk<|Zg<|Zb<|YH rfl rfl rfl h) λ h=>Zj<|zk ?_
 exact zs<|zr<|yv h λ _ w h=>yv h λ _ w h=>zm<|yv h λ _ w h=>yv h λ _ w h=>yu h λ w h=>zm<|zn<|zk<|Zg<|YH rfl rfl rfl h
def Bg (b a:Vl) (c:WPr) (R:RT) (w:Wd):Prop:=
 F0 43 a 3 R w λ d w=>
 L0 3 d R w λ e w=>
 F0 43 a 3 R w λ f w=>
 L0 3 f R w λ g w=>
 opV Pg (Op.unary .neg g) (Zd R) w λ h w=>
 opV Pg (Builtin.max_ #[3,3] 3 #[e,h]) (Zd R) w λ i w=>
 C0 42 #[i] R w λ j w=>
 C0 33 #[b,j,(.int .i64 8)] R w λ k w=>
 c w
def Bh (a b:Vl) (c:WPr) (R:RT) (w:Wd):Prop:=
 F0 43 b 4 R w λ d w=>
 L0 3 d R w λ e w=>
 C0 42 #[e] R w λ f w=>
 C0 33 #[a,f,(.int .i64 8)] R w λ g w=>
 c w
def Bi (a b:Vl) (c:WPr) (R:RT) (w:Wd):Prop:=
 F0 43 b 5 R w λ d w=>
 L0 40 d R w λ e w=>
 G0 40 3 e R w λ f w=>
 B0 .leq 3 true f (.int .i64 1000) R w λ g w=>
 C0 33 #[a,g,(.int .i64 2)] R w λ h w=>
 c w
def Bj (a b:Vl) (c:WPr) (R:RT) (w:Wd):Prop:=
 F0 43 b 6 R w λ d w=>
 L0 41 d R w λ e w=>
 C0 112 #[a,e] R w λ f w=>
 c w
def Bk (a b c:Vl) (d:WPr) (R:RT) (w:Wd):Prop:=
 L0 123 c R w λ e w=>
 L0 123 b R w λ f w=>
 C0 113 #[a,e,f] R w λ g w=>
 d w
def Bl (b f g c h:Vl) (i:WPr) (R:RT) (w:Wd):Prop:=
 B0 .eql 124 false c h R w λ d w=>
 Zo (λ (a:Vl) (w:Wd)=>
 Zy d a (.bool false) λ j=>
 C0 33 #[b,j,(.int .i64 5)] R w λ k w=>
 Bk b f g i R w) λ e=>
 Zn d true (
 B0 .geq 124 true c (.int .i64 4) R w λ a w=>
 e a w) (
 e undef w)
def Bm (b c d:Vl) (a:WPr) (R:RT) (w:Wd):Prop:=
 B0 .eql 39 true d (.int .i64 7) R w λ e w=>
 Zs e (
 B0 .eql 124 true c (.int .i64 1) R w λ f w=>
 C0 33 #[b,f,(.int .i64 5)] R w λ g w=>
 a w) (
 a w)
def Bn (b e f g:Vl) (h:WPr) (R:RT) (w:Wd):Prop:=
 B0 .eql 124 true f (.int .i64 1) R w λ c w=>
 Zo (λ (a:Vl) (w:Wd)=>
 Zy c a (.bool false) λ i=>
 C0 33 #[b,i,(.int .i64 5)] R w λ j w=>
 Bj b e h R w) λ d=>
 Zn c true (
 B0 .eql 124 true g (.int .i64 1) R w λ a w=>
 d a w) (
 d undef w)
def Bo (a f g h b e c:Vl) (d:WPr) (R:RT) (w:Wd):Prop:=
 B0 .eql 39 true c (.int .i64 5) R w λ i w=>
 Zs i (
 Bn a f b e d R w) (
 B0 .eql 39 true c (.int .i64 6) R w λ j w=>
 Zs j (
 Bl a g h b e d R w) (
 Bm a b c d R w))
def zg (a b f g c h d:Vl) (e:WPr) (R:RT) (w:Wd):Prop:=
 B0 .eql 39 true d (.int .i64 4) R w λ i w=>
 Zs i (
 B0 .eql 124 true c (.int .i64 2) R w λ j w=>
 C0 33 #[a,j,(.int .i64 5)] R w λ k w=>
 Bi a b e R w) (
 Bo a b f g c h d e R w)
def zh (b e f g:Vl) (h:WPr) (R:RT) (w:Wd):Prop:=
 B0 .eql 124 true f (.int .i64 1) R w λ c w=>
 Zo (λ (a:Vl) (w:Wd)=>
 Zy c a (.bool false) λ i=>
 C0 33 #[b,i,(.int .i64 5)] R w λ j w=>
 Bg b e h R w) λ d=>
 Zn c true (
 B0 .eql 124 true g (.int .i64 1) R w λ a w=>
 d a w) (
 d undef w)
def zi (a b f g c h d:Vl) (e:WPr) (R:RT) (w:Wd):Prop:=
 B0 .eql 39 true d (.int .i64 3) R w λ i w=>
 Zs i (
 B0 .eql 124 true c (.int .i64 1) R w λ j w=>
 C0 33 #[a,j,(.int .i64 5)] R w λ k w=>
 Bh a b e R w) (
 zg a b f g c h d e R w)
def zj (e b f:Vl) (g:WPr) (R:RT) (w:Wd):Prop:=
 B0 .eql 124 false b f R w λ c w=>
 Zo (λ (a:Vl) (w:Wd)=>
 Zy c a (.bool false) λ h=>
 C0 33 #[e,h,(.int .i64 5)] R w λ i w=>
 g w) λ d=>
 Zn c true (
 B0 .leq 124 true b (.int .i64 3) R w λ a w=>
 d a w) (
 d undef w)
def zl (a b g h c d e:Vl) (f:WPr) (R:RT) (w:Wd):Prop:=
 B0 .eql 39 true e (.int .i64 2) R w λ i w=>
 Zs i (
 zh a b c d f R w) (
 zi a b g h c d e f R w)
def Kj (a b i c d:Vl) (R:RT) (w:Wd):Prop:=
 E0q d 0 R w λ j w=>
 E0q d 1 R w λ e w=>
 opV Pg (alloc 123 true (.tuple #[])) (Zd R) w λ f w=>
 S0 123 f j R w λ w=>
 F0 43 b 1 R w λ k w=>
 L0 39 k R w λ g w=>
 B0 .eql 39 true g (.int .i64 1) R w λ l w=>
 Zo (λ (w:Wd)=>
 R (.returned (.tuple #[])) w) λ h=>
 Zs l (
 zj a c e h R w) (
 zl a b i f c e g h R w)
def JE (b a c d e:Vl) (R:RT) (w:Wd):Prop:=
 L0 74 c R w λ f w=>
 F0 43 a 2 R w λ g w=>
 L0 9 g R w λ h w=>
 C0 110 #[f,h] R w λ i w=>
 Kj b a d e i R w
def Kk (a b c d e f:Vl) (R:RT) (w:Wd):Prop:=
 L0 43 b R w λ g w=>
 L0 105 e R w λ h w=>
 C0 97 #[g,h] R w λ i w=>
 C0 33 #[a,i,(.int .i64 7)] R w λ j w=>
 JE a b c d f R w
def JF (d e:Vl) (a:WPr) (f:KW) (R:RT) (w:Wd):Prop:=
 qV Pg a (lookup 106 d e true) λ b=>
 qV Pg a (extract b 0) λ g=>
 qV Pg a (extract b 1) λ h=>
 opV Pg (alloc 105 true (.tuple #[])) (Zd R) w λ c w=>
 a w∧(
 S0 105 c g R w λ w=>
 a w∧(
 f c h w))
def JG (b d e:Vl) (a:WPr) (f:KW) (R:RT) (w:Wd):Prop:=
 qV Pg a (lookup 106 d e true) λ c=>
 qV Pg a (extract c 0) λ g=>
 qV Pg a (extract c 1) λ h=>
 S0 105 b g R w λ w=>
 a w∧(
 f b h w)
def JH (d e h i j:Vl) (a:WPr) (R:RT) (w:Wd):Prop:=
 J0 43 e 1 a λ k=>
 I0 39 k a λ f=>
 Zo (λ (b:Vl) (l:Vl) (w:Wd)=>
 C0 33 #[d,l,(.int .i64 6)] R w λ o w=>
 Kk d e h i b j R w) λ g=>
 (
 C0 57 #[] R w λ c w=>
 Qk a w λ m w=>
 JF c f m g R w)∧(
 opV Pg (alloc 105 true (.tuple #[])) (Zd R) w λ b w=>
 a w∧(
 C0 57 #[] R w λ c w=>
 Qk a w λ n w=>
 JG b c f n g R w))
def JI (a b c d e f:Vl) (R:RT) (w:Wd):Prop:=
 N0 f R w λ g w=>
 C0 33 #[a,g,(.int .i64 4)] R w λ i w=>
 Yg w λ h w=>
 JH a b c d e h R w
def JJ (a f b g c:Vl) (R:RT) (w:Wd):Prop:=
 E0q c 0 R w λ h w=>
 E0q c 1 R w λ d w=>
 opV Pg (alloc 123 true (.tuple #[])) (Zd R) w λ e w=>
 S0 123 e h R w λ w=>
 B0 .neq 124 true d (.int .i64 0) R w λ i w=>
 C0 33 #[a,i,(.int .i64 5)] R w λ l w=>
 opV Pg (makeFunc (.func 111) #[] #[b]) (Zd R) w λ j w=>
 C0 78 #[f,j] R w λ k w=>
 JI a b g e d k R w
def n35 (b c d e f:Vl) (R:RT) (w:Wd):Prop:=
 opV Pg (box 43 c) (Zd R) w λ a w=>
 opV Pg (box 74 d) (Zd R) w λ g w=>
 opV Pg (box 74 e) (Zd R) w λ h w=>
 L0 74 h R w λ i w=>
 F0 43 a 0 R w λ j w=>
 L0 9 j R w λ k w=>
 C0 110 #[i,k] R w λ l w=>
 JJ b f a g l R w
set_option maxHeartbeats 40000000 in
theorem Zka {t0 t1 t2 t3 t4:Vl} {R:RT} {w:Wd} (h:n35 t0 t1 t2 t3 t4 R w):Calls Pg 77 #[t0,t1,t2,t3,t4] w R:=by
 refine yD func77 ?_
 refine zs<|zr<|yv h λ _ w h=>yv h λ _ w h=>yv h λ _ w h=>zn<|zk<|zs<|zr<|yv h λ _ w h=>yv h λ _ w h=>yv h λ _ w h=>yc h Ze1 λ _ w h=>zm<|yv h λ _ w h=>?_
 refine yv h λ _ w h=>yv h λ _ w h=>yu h λ w h=>zm<|zn<|zk<|zs<|zr<|zm<|zm<|yb h λ _ w h=>yc h c33 λ _ w h=>zn<|zk<|zs ?_
 refine zr<|zm<|zm<|yF h λ _ w h=>yc h c78 λ _ w h=>yv h λ _ w h=>yc h c33 λ _ w h=>zn<|zk<|zs<|yh [12,13,33,34,35,36,37,38,39] h λ C hC h=>ye 1 hC h λ _ h=>?_
 refine ye 2 hC h λ _ h=>?_
 refine QH h (λ K2 hK h=>?_)
 refine Wo [12,13,33,34,37,38,39] (λ ρ w=>K2 (ρ 12) (ρ 13) w) (λ T hT=>?_) (λ σ w h=>?_)
 · obtain ⟨h0,h1⟩:=h
   refine Xm 0 7 rfl rfl (by kernel_rfl) (λ _ _=>rfl) (λ _ _=>rfl) ?_ ?_
   · have h:=h0
     refine yc h c57 λ _ w h=>zn ?_
     obtain ⟨C8,hs,hC,h⟩:=h
     refine ⟨C8,hs,hC,?_⟩
     refine ye 3 hC h λ _ h=>?_
     refine yw 4 hC ?_
     refine ye 5 hC h λ _ h=>?_
     refine ye 6 hC h λ _ h=>?_
     refine yo 7 ?_
     refine yv h λ _ w h=>zn ?_
     obtain ⟨hC,h⟩:=h
     refine ⟨hC,?_⟩
     refine yo 8 ?_
     refine yu h λ w h=>zn ?_
     obtain ⟨hC,h⟩:=h
     refine ⟨hC,?_⟩
     refine yw 9 hC ?_
     refine yz ?_
     exact zt hT h
   have h:=h1
   refine yv h λ _ w h=>zn ?_
   obtain ⟨hC,h⟩:=h
   refine ⟨_,λ _ h=>h,hC,?_⟩
   refine yr 0 ?_
   refine yc h c57 λ _ w h=>zn ?_
   obtain ⟨C9,hs,hC,h⟩:=h
   refine ⟨C9,hs,hC,?_⟩
   refine ye 3 hC h λ _ h=>?_
   refine yw 4 hC ?_
   refine ye 5 hC h λ _ h=>?_
   refine ye 6 hC h λ _ h=>?_
   refine yo 8 ?_
   refine yu h λ w h=>zn ?_
   obtain ⟨hC,h⟩:=h
   refine ⟨hC,?_⟩
   refine yw 9 hC ?_
   refine yz ?_
   exact zt hT h
 subst hK
 refine zk<|zs<|zr<|zm<|zm<|yc h c33 λ _ w h=>zn<|zk<|zs<|zr<|zm<|yv h λ _ w h=>yv h λ _ w h=>yc h c97 λ _ w h=>yc h c33 λ _ w h=>?_
 refine zn<|zk<|zs<|zr<|yv h λ _ w h=>yv h λ _ w h=>yv h λ _ w h=>yc h Ze1 λ _ w h=>zm<|yv h λ _ w h=>yv h λ _ w h=>yv h λ _ w h=>yu h λ w h=>zm<|zn ?_
 refine zk<|zs<|zr<|yv h λ _ w h=>yv h λ _ w h=>zn<|zk<|Zl<|zs<|zr<|yb h λ _ w h=>zm<|zn<|zk<|yJ0 [59,60,61,62,63,64,65,66,67,68,69,70,71,72,73,74,75,76,77,78,79,80,81,82,83,84,85,86,87,88,89,90,91,92,93,94,95,96,97,98,99,100,101,102,103,104,105,106,107,108,109,110,111,112,113,114,115,116,117,118,119,120,121,122,123,124,125,126,127,128,129,130,131,132,133,134,135,136,137,138,139,140,141,142,143,144] h (λ _ _ hkK3 h=>?_) λ σ w h=>?_
 · refine yC h (λ h=>?_) λ h=>?_
   · refine Zt<|yG 5<|zm<|zm<|zm<|yb h λ _ w h=>zm<|zn<|yg1 2 4 true [64,65] 65 h (λ _ T hT h=>?_) λ σ w h=>?_
     · refine zm<|yb h λ _ w h=>zn ?_
       exact zt hT h
     refine yG 2<|yp h λ _ h=>yc h c33 λ _ w h=>zn<|ZK<|zk ?_
     exact zt hkK3 h
   refine zs<|zr<|yb h λ _ w h=>zm<|zn<|zk<|yC h (λ h=>?_) λ h=>?_
   · refine zs<|Zt<|yG 4<|zm<|zm<|yb h λ _ w h=>zm<|zn<|yg1 2 3 true [74,75] 75 h (λ _ T hT h=>?_) λ σ w h=>?_
     · refine zm<|yb h λ _ w h=>zn ?_
       exact zt hT h
     refine yG 2<|yp h λ _ h=>yc h c33 λ _ w h=>zn<|ZK<|zk<|zr<|zm<|yv h λ _ w h=>yv h λ _ w h=>yv h λ _ w h=>yv h λ _ w h=>yv h λ _ w h=>yx h λ _ w h=>yc h c42 λ _ w h=>?_
     refine yc h c33 λ _ w h=>zn<|zk ?_
     exact zt hkK3 h
   refine zs<|zr<|yb h λ _ w h=>zm<|zn<|zk<|yC h (λ h=>?_) λ h=>?_
   · refine zs<|zr<|zm<|zm<|yb h λ _ w h=>yc h c33 λ _ w h=>zn<|zk<|zr<|zm<|yv h λ _ w h=>yv h λ _ w h=>yc h c42 λ _ w h=>yc h c33 λ _ w h=>zn ?_
     refine zk ?_
     exact zt hkK3 h
   refine zs<|zr<|yb h λ _ w h=>zm<|zn<|zk<|yC h (λ h=>?_) λ h=>?_
   · refine zs<|zr<|zm<|zm<|yb h λ _ w h=>yc h c33 λ _ w h=>zn<|zk<|zr<|zm<|yv h λ _ w h=>yv h λ _ w h=>yx h λ _ w h=>yb h λ _ w h=>yc h c33 λ _ w h=>?_
     refine zn<|zk ?_
     exact zt hkK3 h
   refine zs<|zr<|yb h λ _ w h=>zm<|zn<|zk<|yC h (λ h=>?_) λ h=>?_
   · refine zs<|Zt<|yG 4<|zm<|zm<|yb h λ _ w h=>zm<|zn<|yg1 2 3 true [116,117] 117 h (λ _ T hT h=>?_) λ σ w h=>?_
     · refine zm<|yb h λ _ w h=>zn ?_
       exact zt hT h
     refine yG 2<|yp h λ _ h=>yc h c33 λ _ w h=>zn<|ZK<|zk<|zr<|zm<|yv h λ _ w h=>yv h λ _ w h=>yc h ZiI λ _ w h=>zn<|zk ?_
     exact zt hkK3 h
   refine zs<|zr<|yb h λ _ w h=>zm<|zn<|zk<|yC h (λ h=>?_) λ h=>?_
   · refine zs<|Zt<|yG 5<|zm<|zm<|zm<|yb h λ _ w h=>zm<|zn<|yg1 2 4 true [131,132] 132 h (λ _ T hT h=>?_) λ σ w h=>?_
     · refine zm<|yb h λ _ w h=>zn ?_
       exact zt hT h
     refine yG 2<|yp h λ _ h=>yc h c33 λ _ w h=>zn<|ZK<|zk<|zr<|zm<|yv h λ _ w h=>yv h λ _ w h=>yc h ZiJ λ _ w h=>zn<|zk ?_
     exact zt hkK3 h
   refine zs<|zr<|yb h λ _ w h=>zm<|zn<|zk<|yC h (λ h=>?_) λ h=>?_
   · refine zr<|zm<|zm<|yb h λ _ w h=>yc h c33 λ _ w h=>zn<|zk ?_
     exact zt hkK3 h
   refine Zj<|zk ?_
   exact zt hkK3 h
 exact Zf<|ZG<|ZQ rfl h
def ZgB (a b:Vl) (R:RT) (w:Wd):Prop:=
 C0 114 #[a,b] R w λ c w=>
 B0 .geq 3 true c (.int .i64 0) R w λ d w=>
 R (.returned d) w
theorem ZgC {t0 t1:Vl} {R:RT} {w:Wd} (h:ZgB t0 t1 R w):Calls Pg 78 #[t0,t1] w R:=by
 refine yD func78 ?_
 refine zs<|zr<|zm<|zn<|zk<|zs<|zr<|zm<|zm<|yc h ZiK λ _ w h=>yb h λ _ w h=>zm<|zn<|zk<|Zg ?_
 exact Zi rfl rfl h
def n32 (a b:Vl) (R:RT) (w:Wd):Prop:=
 opV Pg (box 43 a) (Zd R) w λ c w=>
 F0 43 c 0 R w λ d w=>
 L0 9 d R w λ e w=>
 F0 123 b 0 R w λ f w=>
 L0 9 f R w λ g w=>
 B0 .eql 9 false e g R w λ h w=>
 R (.returned h) w
theorem Zj7 {t0 t1:Vl} {R:RT} {w:Wd} (h:n32 t0 t1 R w):Calls Pg 79 #[t0,t1] w R:=by
 refine yD func79 ?_
 refine zs<|zr<|yv h λ _ w h=>zm<|zn<|zk<|zs<|zr<|yv h λ _ w h=>yv h λ _ w h=>yv h λ _ w h=>yv h λ _ w h=>yb h λ _ w h=>zm<|zn ?_
 exact zk<|Zg<|Zi rfl rfl h
end Go.Proofs.YtgalpdihjbinjaaGreatDoor
