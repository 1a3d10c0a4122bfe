/-
  Lemmas for the claim.
-/
import Derived.Test.YtgalpdihjbinjaaGreatDoorXa1
set_option linter.all false
set_option maxHeartbeats 4000000
set_option maxRecDepth 100000
open Go.Instr (loadAt storeAt fieldAt indexAt buildSlice mapUpdate makeFunc)
open Go.Proofs.Tryz
namespace Go.Proofs.YtgalpdihjbinjaaGreatDoor
open Sw
noncomputable abbrev Pg:=Tryz.prog
def Zbq (d:TypeDesc):Bool:=match d with | .struct _ | .array _ _=>true | _=>false
theorem YA {P:Program} {T:TypeId} {agg:Bool} {n:Nat} {z:Vl} {d:TypeDesc} (h:(P.info? T).map (λ i=>(i.size,i.zero))=some (n,some z)) (hu:P.underlying T=some d) (ha:Zbq d=agg):ZF P T agg n (P.bytesOf T) z:=by
 obtain ⟨i,hi,he⟩:=Option.map_eq_some_iff.1 h
 simp only [Prod.mk.injEq] at he
 exact ⟨⟨i,hi,he.1,by simp [Program.bytesOf,hi],he.2⟩,d,hu,ha⟩
theorem ty3:ZF Pg 3 false 1 (Pg.bytesOf 3) (.int .i64 0):=YA (by kernel_rfl) underlying3 rfl
theorem ty4:ZF Pg 4 false 1 (Pg.bytesOf 4) (.bool false):=YA (by kernel_rfl) underlying4 rfl
theorem ty5:ZF Pg 5 false 1 (Pg.bytesOf 5) (.int .u8 0):=YA (by kernel_rfl) underlying5 rfl
theorem by5:Pg.bytesOf 5≤4096:=Nat.le_of_ble_eq_true (by kernel_rfl)
theorem ty9:ZF Pg 9 false 1 (Pg.bytesOf 9) (.string ByteArray.empty):=YA (by kernel_rfl) underlying9 rfl
theorem by9:Pg.bytesOf 9≤4096:=Nat.le_of_ble_eq_true (by kernel_rfl)
theorem Ik:ZF Pg 22 false 1 (Pg.bytesOf 22) (.slice none 0 0):=YA (by kernel_rfl) underlying22 rfl
theorem Dz:ZF Pg 24 true 2 (Pg.bytesOf 24) (.agg #[.string ByteArray.empty,.slice none 0 0]):=YA (by kernel_rfl) underlying24 rfl
theorem Zb1:ZF Pg 25 false 1 (Pg.bytesOf 25) (.slice none 0 0):=YA (by kernel_rfl) underlying25 rfl
theorem Bh:ZF Pg 27 true 3 (Pg.bytesOf 27) (.agg #[.string ByteArray.empty,.slice none 0 0,.string ByteArray.empty]):=YA (by kernel_rfl) underlying27 rfl
theorem MH:ZF Pg 32 false 1 (Pg.bytesOf 32) (.int .i64 0):=YA (by kernel_rfl) underlying32 rfl
theorem Il:ZF Pg 34 true 3 (Pg.bytesOf 34) (.agg #[.int .i64 0,.int .i64 0,.int .i64 0]):=YA (by kernel_rfl) underlying34 rfl
theorem FB:ZF Pg 39 false 1 (Pg.bytesOf 39) (.int .i64 0):=YA (by kernel_rfl) underlying39 rfl
theorem Bi:ZF Pg 40 false 1 (Pg.bytesOf 40) (.slice none 0 0):=YA (by kernel_rfl) underlying40 rfl
theorem Im:ZF Pg 41 false 1 (Pg.bytesOf 41) (.slice none 0 0):=YA (by kernel_rfl) underlying41 rfl
theorem Ua:ZF Pg 43 true 7 (Pg.bytesOf 43) (.agg #[.string ByteArray.empty,.int .i64 0,.string ByteArray.empty,.int .i64 0,.int .i64 0,.slice none 0 0,.slice none 0 0]):=YA (by kernel_rfl) underlying43 rfl
theorem Zfq:Pg.bytesOf 43≤4096:=Nat.le_of_ble_eq_true (by kernel_rfl)
theorem Zb2:ZF Pg 49 false 1 (Pg.bytesOf 49) (.int .i64 0):=YA (by kernel_rfl) underlying49 rfl
theorem In:ZF Pg 58 false 1 (Pg.bytesOf 58) (.slice none 0 0):=YA (by kernel_rfl) underlying58 rfl
theorem AL:ZF Pg 60 true 3 (Pg.bytesOf 60) (.agg #[.string ByteArray.empty,.string ByteArray.empty,.slice none 0 0]):=YA (by kernel_rfl) underlying60 rfl
theorem Zfr:Pg.bytesOf 60≤4096:=Nat.le_of_ble_eq_true (by kernel_rfl)
theorem MI:ZF Pg 72 false 1 (Pg.bytesOf 72) (.slice none 0 0):=YA (by kernel_rfl) underlying72 rfl
theorem xi:ZF Pg 74 true 2 (Pg.bytesOf 74) (.agg #[.string ByteArray.empty,.slice none 0 0]):=YA (by kernel_rfl) underlying74 rfl
theorem FC:ZF Pg 78 true 3 (Pg.bytesOf 78) (.agg #[.int .i64 0,.int .i64 0,.int .i64 0]):=YA (by kernel_rfl) underlying78 rfl
theorem Zfs:Pg.bytesOf 78≤4096:=Nat.le_of_ble_eq_true (by kernel_rfl)
theorem Zj2:ZF Pg 81 true 10 (Pg.bytesOf 81) (.agg #[.string ByteArray.empty,.slice none 0 0,.string ByteArray.empty,.slice none 0 0,.string ByteArray.empty,.string ByteArray.empty,.slice none 0 0,.string ByteArray.empty,.int .i64 0,.int .i64 0]):=YA (by kernel_rfl) underlying81 rfl
theorem Zj3:ZF Pg 82 true 3 (Pg.bytesOf 82) (.agg #[.int .i64 0,.int .i64 0,.int .i64 0]):=YA (by kernel_rfl) underlying82 rfl
theorem SU:ZF Pg 94 false 1 (Pg.bytesOf 94) (.slice none 0 0):=YA (by kernel_rfl) underlying94 rfl
theorem UB:ZF Pg 105 true 5 (Pg.bytesOf 105) (.agg #[.bool false,.bool false,.bool false,.bool false,.bool false]):=YA (by kernel_rfl) underlying105 rfl
theorem Ga:ZF Pg 117 false 1 (Pg.bytesOf 117) (.int .i64 0):=YA (by kernel_rfl) underlying117 rfl
theorem AJ:ZF Pg 118 false 1 (Pg.bytesOf 118) (.slice none 0 0):=YA (by kernel_rfl) underlying118 rfl
theorem Gb:ZF Pg 120 true 2 (Pg.bytesOf 120) (.agg #[.int .i64 0,.slice none 0 0]):=YA (by kernel_rfl) underlying120 rfl
theorem x8:ZF Pg 121 false 1 (Pg.bytesOf 121) (.slice none 0 0):=YA (by kernel_rfl) underlying121 rfl
theorem WQ:ZF Pg 123 true 15 (Pg.bytesOf 123) (.agg #[.string ByteArray.empty,.int .i64 0,.int .i64 0,.bool false,.bool false,.int .i64 0,.int .i64 0,.int .i64 0,.slice none 0 0,.string ByteArray.empty,.string ByteArray.empty,.string ByteArray.empty,.slice none 0 0,.int .i64 0,.int .i64 0]):=YA (by kernel_rfl) underlying123 rfl
theorem Gc:ZF Pg 128 true 2 (Pg.bytesOf 128) (.agg #[.string ByteArray.empty,.int .i64 0]):=YA (by kernel_rfl) underlying128 rfl
theorem Zcc:Pg.bytesOf 128≤4096:=Nat.le_of_ble_eq_true (by kernel_rfl)
theorem Za8:ZF Pg 129 false 1 (Pg.bytesOf 129) (.int .i64 0):=YA (by kernel_rfl) underlying129 rfl
theorem Ce:ZF Pg 131 true 3 (Pg.bytesOf 131) (.agg #[.int .i64 0,.int .i64 0,.int .i64 0]):=YA (by kernel_rfl) underlying131 rfl
theorem Zfc:ZF Pg 159 true 2 (Pg.bytesOf 159) (.agg #[.pointer none,.slice none 0 0]):=YA (by kernel_rfl) underlying159 rfl
theorem Rp:ZF Pg 167 false 1 (Pg.bytesOf 167) (.pointer none):=YA (by kernel_rfl) underlying167 rfl
theorem Fy:ZF Pg 198 false 1 (Pg.bytesOf 198) (.map none):=YA (by kernel_rfl) underlying198 rfl
theorem AK:ZF Pg 199 false 1 (Pg.bytesOf 199) (.map none):=YA (by kernel_rfl) underlying199 rfl
theorem Zfd:ZF Pg 201 true 9 (Pg.bytesOf 201) (.agg #[.string ByteArray.empty,.slice none 0 0,.string ByteArray.empty,.map none,.map none,.int .i64 0,.int .i64 0,.string ByteArray.empty,.slice none 0 0]):=YA (by kernel_rfl) underlying201 rfl
theorem Fz:ZF Pg 213 true 3 (Pg.bytesOf 213) (.agg #[.int .i64 0,.int .i64 0,.string ByteArray.empty]):=YA (by kernel_rfl) underlying213 rfl
theorem Rq:ZF Pg 252 false 1 (Pg.bytesOf 252) (.nilFunc):=YA (by kernel_rfl) underlying252 rfl
theorem Rr:ZF Pg 253 false 1 (Pg.bytesOf 253) (.nilFunc):=YA (by kernel_rfl) underlying253 rfl
theorem FA:ZF Pg 255 true 2 (Pg.bytesOf 255) (.agg #[.nilFunc,.nilFunc]):=YA (by kernel_rfl) underlying255 rfl
theorem Le:ZF Pg 266 true 3 (Pg.bytesOf 266) (.agg #[.string ByteArray.empty,.int .i64 0,.int .i64 0]):=YA (by kernel_rfl) underlying266 rfl
theorem Lf:ZF Pg 287 true 13 (Pg.bytesOf 287) (.agg #[.string ByteArray.empty,.string ByteArray.empty,.string ByteArray.empty,.string ByteArray.empty,.int .i64 0,.int .i64 0,.int .i64 0,.int .i64 0,.int .i64 0,.int .i64 0,.int .i64 0,.bool false,.bool false]):=YA (by kernel_rfl) underlying287 rfl
theorem Rs:ZF Pg 296 false 1 (Pg.bytesOf 296) (.map none):=YA (by kernel_rfl) underlying296 rfl
theorem VZ:ZF Pg 300 true 2 (Pg.bytesOf 300) (.agg #[.int .i64 0,.int .i64 0]):=YA (by kernel_rfl) underlying300 rfl
theorem Zfe:ZF Pg 311 false 1 (Pg.bytesOf 311) (.nilFunc):=YA (by kernel_rfl) underlying311 rfl
theorem ZgB {w:Wd} (a0 b0:Int) (a1 b1:Int) (a2 b2:Int):(Op.equalIn (9999+1) 34 (.agg #[.int .i64 a0,.int .i64 a1,.int .i64 a2]) (.agg #[.int .i64 b0,.int .i64 b1,.int .i64 b2])).run Pg w = .ok (decide (a0=b0)&&(decide (a1=b1)&&(decide (a2=b2)&&true))) w:=
 Wb underlying34 (by kernel_rfl) (ZU rfl (YJ ty3 rfl) (YJ ty3 rfl) (Um underlying3) (ZU rfl (YJ ty3 rfl) (YJ ty3 rfl) (Um underlying3) (ZU rfl (YJ MH rfl) (YJ MH rfl) (Um underlying32) W0)))
theorem Zcw {w:Wd} (a0 b0:BAr) (a1 b1:Int):(Op.equalIn (9999+1) 128 (.agg #[.string a0,.int .i64 a1]) (.agg #[.string b0,.int .i64 b1])).run Pg w = .ok (decide (a0=b0)&&(decide (a1=b1)&&true)) w:=
 Wb underlying128 (by kernel_rfl) (ZU rfl (YJ ty9 rfl) (YJ ty9 rfl) (Un underlying9) (ZU rfl (YJ ty3 rfl) (YJ ty3 rfl) (Um underlying3) W0))
theorem Zcx {w:Wd} (a0 b0:Int) (a1 b1:Int) (a2 b2:BAr):(Op.equalIn (9999+1) 213 (.agg #[.int .i64 a0,.int .i64 a1,.string a2]) (.agg #[.int .i64 b0,.int .i64 b1,.string b2])).run Pg w = .ok (decide (a0=b0)&&(decide (a1=b1)&&(decide (a2=b2)&&true))) w:=
 Wb underlying213 (by kernel_rfl) (ZU rfl (YJ ty3 rfl) (YJ ty3 rfl) (Um underlying3) (ZU rfl (YJ ty3 rfl) (YJ ty3 rfl) (Um underlying3) (ZU rfl (YJ ty9 rfl) (YJ ty9 rfl) (Un underlying9) W0)))
theorem Zcy {w:Wd} (a0 b0:BAr) (a1 b1:BAr) (a2 b2:BAr) (a3 b3:BAr) (a4 b4:Int) (a5 b5:Int) (a6 b6:Int) (a7 b7:Int) (a8 b8:Int) (a9 b9:Int) (a10 b10:Int) (a11 b11:Bool) (a12 b12:Bool):(Op.equalIn (9999+1) 287 (.agg #[.string a0,.string a1,.string a2,.string a3,.int .i64 a4,.int .i64 a5,.int .i64 a6,.int .i64 a7,.int .i64 a8,.int .i64 a9,.int .i64 a10,.bool a11,.bool a12]) (.agg #[.string b0,.string b1,.string b2,.string b3,.int .i64 b4,.int .i64 b5,.int .i64 b6,.int .i64 b7,.int .i64 b8,.int .i64 b9,.int .i64 b10,.bool b11,.bool b12])).run Pg w = .ok (decide (a0=b0)&&(decide (a1=b1)&&(decide (a2=b2)&&(decide (a3=b3)&&(decide (a4=b4)&&(decide (a5=b5)&&(decide (a6=b6)&&(decide (a7=b7)&&(decide (a8=b8)&&(decide (a9=b9)&&(decide (a10=b10)&&(decide (a11=b11)&&(decide (a12=b12)&&true))))))))))))) w:=
 Wb underlying287 (by kernel_rfl) (ZU rfl (YJ ty9 rfl) (YJ ty9 rfl) (Un underlying9) (ZU rfl (YJ ty9 rfl) (YJ ty9 rfl) (Un underlying9) (ZU rfl (YJ ty9 rfl) (YJ ty9 rfl) (Un underlying9) (ZU rfl (YJ ty9 rfl) (YJ ty9 rfl) (Un underlying9) (ZU rfl (YJ Ga rfl) (YJ Ga rfl) (Um underlying117) (ZU rfl (YJ ty3 rfl) (YJ ty3 rfl) (Um underlying3) (ZU rfl (YJ ty3 rfl) (YJ ty3 rfl) (Um underlying3) (ZU rfl (YJ ty3 rfl) (YJ ty3 rfl) (Um underlying3) (ZU rfl (YJ ty3 rfl) (YJ ty3 rfl) (Um underlying3) (ZU rfl (YJ ty3 rfl) (YJ ty3 rfl) (Um underlying3) (ZU rfl (YJ ty3 rfl) (YJ ty3 rfl) (Um underlying3) (ZU rfl (YJ ty4 rfl) (YJ ty4 rfl) (Nk underlying4) (ZU rfl (YJ ty4 rfl) (YJ ty4 rfl) (Nk underlying4) W0)))))))))))))
section
variable {QP:PEn} {w:Wd} {k:KV}
def o0:=YE (QP:=QP) (w:=w) (k:=k) ty3
theorem o1:(∀ u,opV Pg (Instr.alloc 3 true u) QP w k=k (.pointer (some ⟨w.heap.size,0,none⟩)) (w.alloc (.cells ((.int .i64 0):Vl).cells 3))):=(Yp ty3)
def o2:=YE (QP:=QP) (w:=w) (k:=k) ty4
theorem o3:(∀ c a b,opV Pg (Zh .eql 4 c (.bool a) (.bool b)) QP w k=k (.bool (a == b)) w):=(Sz underlying4)
theorem o4:(∀ c a b,opV Pg (Zh .neq 4 c (.bool a) (.bool b)) QP w k=k (.bool (a != b)) w):=(SA underlying4)
theorem o5:(∀ u,opV Pg (Instr.alloc 4 true u) QP w k=k (.pointer (some ⟨w.heap.size,0,none⟩)) (w.alloc (.cells ((.bool false):Vl).cells 4))):=(Yp ty4)
def o6:=YE (QP:=QP) (w:=w) (k:=k) ty5
def o7:=YE (QP:=QP) (w:=w) (k:=k) ty9
theorem o8:(∀ r s,opV Pg (Builtin.len_ #[9] r #[.string s]) QP w k=k (.int .i64 (s.size:Int)) w):=(λ r=>Ba (r:=r) underlying9)
def o9:=YE (QP:=QP) (w:=w) (k:=k) Ik
theorem o10:(∀ r a n c,opV Pg (Builtin.len_ #[22] r #[.slice a n c]) QP w k=k (.int .i64 (n:Int)) w):=(λ r=>YM (r:=r) underlying22)
theorem o11:(∀ b o len cap ik (i:Nat),i < len→opV Pg (indexAt 22 (.slice (some ⟨b,o,none⟩) len cap) (.int ik (i:Int))) QP w k=k (.pointer (some ⟨b,o+i*3,none⟩)) w):=(Xr underlying22 AL)
def o12:=Y5 (QP:=QP) (w:=w) (k:=k) (i:=0) (ft:=9) (n:=1) underlying24 rfl ty9 rfl
def o13:=ZI (QP:=QP) (w:=w) (k:=k) (i:=1) (ft:=22) (off:=1) (n:=1) underlying24 rfl Ik rfl
theorem o14:(∀ b o,opV Pg (loadAt 24 (.pointer (some ⟨b,o,none⟩))) QP w k=ZN [w.cell? ⟨b,o,none⟩,w.cell? ⟨b,o+1,none⟩] (λ vs=>k (.agg vs.toArray) w) (UO Pg (loadAt 24 (.pointer (some ⟨b,o,none⟩))) QP w k)):=(by intro b o;exact Xw Dz b o _ rfl)
theorem o15:(∀ u,opV Pg (Instr.alloc 24 true u) QP w k=k (.pointer (some ⟨w.heap.size,0,none⟩)) (w.alloc (.cells ((.agg #[.string ByteArray.empty,.slice none 0 0]):Vl).cells 24))):=(Yp Dz)
def o16:=YE (QP:=QP) (w:=w) (k:=k) Zb1
theorem o17:(∀ r a n c,opV Pg (Builtin.len_ #[25] r #[.slice a n c]) QP w k=k (.int .i64 (n:Int)) w):=(λ r=>YM (r:=r) underlying25)
theorem o18:(∀ b o len cap ik (i:Nat),i < len→opV Pg (indexAt 25 (.slice (some ⟨b,o,none⟩) len cap) (.int ik (i:Int))) QP w k=k (.pointer (some ⟨b,o+i*2,none⟩)) w):=(Xr underlying25 xi)
def o19:=Y5 (QP:=QP) (w:=w) (k:=k) (i:=0) (ft:=9) (n:=1) underlying27 rfl ty9 rfl
def o20:=ZI (QP:=QP) (w:=w) (k:=k) (i:=1) (ft:=25) (off:=1) (n:=1) underlying27 rfl Zb1 rfl
def o21:=ZI (QP:=QP) (w:=w) (k:=k) (i:=2) (ft:=9) (off:=2) (n:=1) underlying27 rfl ty9 rfl
theorem o22:(∀ b o,opV Pg (loadAt 27 (.pointer (some ⟨b,o,none⟩))) QP w k=ZN [w.cell? ⟨b,o,none⟩,w.cell? ⟨b,o+1,none⟩,w.cell? ⟨b,o+2,none⟩] (λ vs=>k (.agg vs.toArray) w) (UO Pg (loadAt 27 (.pointer (some ⟨b,o,none⟩))) QP w k)):=(by intro b o;exact Xw Bh b o _ rfl)
theorem o23:(∀ u,opV Pg (Instr.alloc 27 true u) QP w k=k (.pointer (some ⟨w.heap.size,0,none⟩)) (w.alloc (.cells ((.agg #[.string ByteArray.empty,.slice none 0 0,.string ByteArray.empty]):Vl).cells 27))):=(Yp Bh)
theorem o26:(∀ b o,opV Pg (loadAt 34 (.pointer (some ⟨b,o,none⟩))) QP w k=ZN [w.cell? ⟨b,o,none⟩,w.cell? ⟨b,o+1,none⟩,w.cell? ⟨b,o+2,none⟩] (λ vs=>k (.agg vs.toArray) w) (UO Pg (loadAt 34 (.pointer (some ⟨b,o,none⟩))) QP w k)):=(by intro b o;exact Xw Il b o _ rfl)
theorem o27:(∀ u,opV Pg (Instr.alloc 34 true u) QP w k=k (.pointer (some ⟨w.heap.size,0,none⟩)) (w.alloc (.cells ((.agg #[.int .i64 0,.int .i64 0,.int .i64 0]):Vl).cells 34))):=(Yp Il)
def o28:=YE (QP:=QP) (w:=w) (k:=k) FB
def o29:=YE (QP:=QP) (w:=w) (k:=k) Bi
theorem o30:(∀ r a n c,opV Pg (Builtin.len_ #[40] r #[.slice a n c]) QP w k=k (.int .i64 (n:Int)) w):=(λ r=>YM (r:=r) underlying40)
theorem o31:(∀ b o len cap ik (i:Nat),i < len→opV Pg (indexAt 40 (.slice (some ⟨b,o,none⟩) len cap) (.int ik (i:Int))) QP w k=k (.pointer (some ⟨b,o+i*1,none⟩)) w):=(Xr underlying40 ty5)
theorem o32:(∀ u,opV Pg (Instr.alloc 40 true u) QP w k=k (.pointer (some ⟨w.heap.size,0,none⟩)) (w.alloc (.cells ((.slice none 0 0):Vl).cells 40))):=(Yp Bi)
def o33:=YE (QP:=QP) (w:=w) (k:=k) Im
theorem o34:(∀ r a n c,opV Pg (Builtin.len_ #[41] r #[.slice a n c]) QP w k=k (.int .i64 (n:Int)) w):=(λ r=>YM (r:=r) underlying41)
theorem o35:(∀ b o len cap ik (i:Nat),i < len→opV Pg (indexAt 41 (.slice (some ⟨b,o,none⟩) len cap) (.int ik (i:Int))) QP w k=k (.pointer (some ⟨b,o+i*3,none⟩)) w):=(Xr underlying41 FC)
def o36:=Y5 (QP:=QP) (w:=w) (k:=k) (i:=0) (ft:=9) (n:=1) underlying43 rfl ty9 rfl
def o37:=ZI (QP:=QP) (w:=w) (k:=k) (i:=1) (ft:=39) (off:=1) (n:=1) underlying43 rfl FB rfl
def o38:=ZI (QP:=QP) (w:=w) (k:=k) (i:=2) (ft:=9) (off:=2) (n:=1) underlying43 rfl ty9 rfl
def o39:=ZI (QP:=QP) (w:=w) (k:=k) (i:=3) (ft:=3) (off:=3) (n:=1) underlying43 rfl ty3 rfl
def o40:=ZI (QP:=QP) (w:=w) (k:=k) (i:=4) (ft:=3) (off:=4) (n:=1) underlying43 rfl ty3 rfl
def o41:=ZI (QP:=QP) (w:=w) (k:=k) (i:=5) (ft:=40) (off:=5) (n:=1) underlying43 rfl Bi rfl
def o42:=ZI (QP:=QP) (w:=w) (k:=k) (i:=6) (ft:=41) (off:=6) (n:=1) underlying43 rfl Im rfl
theorem o43:(∀ b o,opV Pg (loadAt 43 (.pointer (some ⟨b,o,none⟩))) QP w k=ZN [w.cell? ⟨b,o,none⟩,w.cell? ⟨b,o+1,none⟩,w.cell? ⟨b,o+2,none⟩,w.cell? ⟨b,o+3,none⟩,w.cell? ⟨b,o+4,none⟩,w.cell? ⟨b,o+5,none⟩,w.cell? ⟨b,o+6,none⟩] (λ vs=>k (.agg vs.toArray) w) (UO Pg (loadAt 43 (.pointer (some ⟨b,o,none⟩))) QP w k)):=(by intro b o;exact Xw Ua b o _ rfl)
theorem o44:(∀ u,opV Pg (Instr.alloc 43 true u) QP w k=k (.pointer (some ⟨w.heap.size,0,none⟩)) (w.alloc (.cells ((.agg #[.string ByteArray.empty,.int .i64 0,.string ByteArray.empty,.int .i64 0,.int .i64 0,.slice none 0 0,.slice none 0 0]):Vl).cells 43))):=(Yp Ua)
theorem o45:(∀ u,opV Pg (Instr.alloc 49 true u) QP w k=k (.pointer (some ⟨w.heap.size,0,none⟩)) (w.alloc (.cells ((.int .i64 0):Vl).cells 49))):=(Yp Zb2)
def o46:=YE (QP:=QP) (w:=w) (k:=k) In
theorem o47:(∀ r a n c,opV Pg (Builtin.len_ #[58] r #[.slice a n c]) QP w k=k (.int .i64 (n:Int)) w):=(λ r=>YM (r:=r) underlying58)
theorem o48:(∀ b o len cap ik (i:Nat),i < len→opV Pg (indexAt 58 (.slice (some ⟨b,o,none⟩) len cap) (.int ik (i:Int))) QP w k=k (.pointer (some ⟨b,o+i*7,none⟩)) w):=(Xr underlying58 Ua)
def o50:=Y5 (QP:=QP) (w:=w) (k:=k) (i:=0) (ft:=9) (n:=1) underlying60 rfl ty9 rfl
def o51:=ZI (QP:=QP) (w:=w) (k:=k) (i:=1) (ft:=9) (off:=1) (n:=1) underlying60 rfl ty9 rfl
def o52:=ZI (QP:=QP) (w:=w) (k:=k) (i:=2) (ft:=58) (off:=2) (n:=1) underlying60 rfl In rfl
theorem o53:(∀ b o,opV Pg (loadAt 60 (.pointer (some ⟨b,o,none⟩))) QP w k=ZN [w.cell? ⟨b,o,none⟩,w.cell? ⟨b,o+1,none⟩,w.cell? ⟨b,o+2,none⟩] (λ vs=>k (.agg vs.toArray) w) (UO Pg (loadAt 60 (.pointer (some ⟨b,o,none⟩))) QP w k)):=(by intro b o;exact Xw AL b o _ rfl)
theorem o54:(∀ u,opV Pg (Instr.alloc 60 true u) QP w k=k (.pointer (some ⟨w.heap.size,0,none⟩)) (w.alloc (.cells ((.agg #[.string ByteArray.empty,.string ByteArray.empty,.slice none 0 0]):Vl).cells 60))):=(Yp AL)
theorem o56:(∀ r a n c,opV Pg (Builtin.len_ #[61] r #[.slice a n c]) QP w k=k (.int .i64 (n:Int)) w):=(λ r=>YM (r:=r) underlying61)
theorem o57:(∀ b o len cap ik (i:Nat),i < len→opV Pg (indexAt 61 (.slice (some ⟨b,o,none⟩) len cap) (.int ik (i:Int))) QP w k=k (.pointer (some ⟨b,o+i*1,none⟩)) w):=(Xr underlying61 ty3)
def o59:=YE (QP:=QP) (w:=w) (k:=k) MI
theorem o60:(∀ r a n c,opV Pg (Builtin.len_ #[72] r #[.slice a n c]) QP w k=k (.int .i64 (n:Int)) w):=(λ r=>YM (r:=r) underlying72)
theorem o61:(∀ b o len cap ik (i:Nat),i < len→opV Pg (indexAt 72 (.slice (some ⟨b,o,none⟩) len cap) (.int ik (i:Int))) QP w k=k (.pointer (some ⟨b,o+i*15,none⟩)) w):=(Xr underlying72 WQ)
def o62:=Y5 (QP:=QP) (w:=w) (k:=k) (i:=0) (ft:=9) (n:=1) underlying74 rfl ty9 rfl
def o63:=ZI (QP:=QP) (w:=w) (k:=k) (i:=1) (ft:=72) (off:=1) (n:=1) underlying74 rfl MI rfl
theorem o64:(∀ b o,opV Pg (loadAt 74 (.pointer (some ⟨b,o,none⟩))) QP w k=ZN [w.cell? ⟨b,o,none⟩,w.cell? ⟨b,o+1,none⟩] (λ vs=>k (.agg vs.toArray) w) (UO Pg (loadAt 74 (.pointer (some ⟨b,o,none⟩))) QP w k)):=(by intro b o;exact Xw xi b o _ rfl)
theorem o65:(∀ u,opV Pg (Instr.alloc 74 true u) QP w k=k (.pointer (some ⟨w.heap.size,0,none⟩)) (w.alloc (.cells ((.agg #[.string ByteArray.empty,.slice none 0 0]):Vl).cells 74))):=(Yp xi)
def o66:=Y5 (QP:=QP) (w:=w) (k:=k) (i:=0) (ft:=3) (n:=1) underlying78 rfl ty3 rfl
def o67:=ZI (QP:=QP) (w:=w) (k:=k) (i:=1) (ft:=3) (off:=1) (n:=1) underlying78 rfl ty3 rfl
def o68:=ZI (QP:=QP) (w:=w) (k:=k) (i:=2) (ft:=3) (off:=2) (n:=1) underlying78 rfl ty3 rfl
theorem o69:(∀ b o,opV Pg (loadAt 78 (.pointer (some ⟨b,o,none⟩))) QP w k=ZN [w.cell? ⟨b,o,none⟩,w.cell? ⟨b,o+1,none⟩,w.cell? ⟨b,o+2,none⟩] (λ vs=>k (.agg vs.toArray) w) (UO Pg (loadAt 78 (.pointer (some ⟨b,o,none⟩))) QP w k)):=(by intro b o;exact Xw FC b o _ rfl)
theorem o70:(∀ u,opV Pg (Instr.alloc 78 true u) QP w k=k (.pointer (some ⟨w.heap.size,0,none⟩)) (w.alloc (.cells ((.agg #[.int .i64 0,.int .i64 0,.int .i64 0]):Vl).cells 78))):=(Yp FC)
def o71:=Y5 (QP:=QP) (w:=w) (k:=k) (i:=0) (ft:=24) (n:=2) underlying81 rfl Dz rfl
def o72:=ZI (QP:=QP) (w:=w) (k:=k) (i:=1) (ft:=27) (off:=2) (n:=3) underlying81 rfl Bh rfl
def o73:=ZI (QP:=QP) (w:=w) (k:=k) (i:=2) (ft:=27) (off:=5) (n:=3) underlying81 rfl Bh rfl
def o74:=ZI (QP:=QP) (w:=w) (k:=k) (i:=3) (ft:=3) (off:=8) (n:=1) underlying81 rfl ty3 rfl
def o75:=ZI (QP:=QP) (w:=w) (k:=k) (i:=4) (ft:=3) (off:=9) (n:=1) underlying81 rfl ty3 rfl
def o78:=YE (QP:=QP) (w:=w) (k:=k) SU
theorem o79:(∀ r a n c,opV Pg (Builtin.len_ #[94] r #[.slice a n c]) QP w k=k (.int .i64 (n:Int)) w):=(λ r=>YM (r:=r) underlying94)
theorem o80:(∀ b o len cap ik (i:Nat),i < len→opV Pg (indexAt 94 (.slice (some ⟨b,o,none⟩) len cap) (.int ik (i:Int))) QP w k=k (.pointer (some ⟨b,o+i*1,none⟩)) w):=(Xr underlying94 ty9)
theorem o81:(∀ u,opV Pg (Instr.alloc 94 true u) QP w k=k (.pointer (some ⟨w.heap.size,0,none⟩)) (w.alloc (.cells ((.slice none 0 0):Vl).cells 94))):=(Yp SU)
def o82:=Y5 (QP:=QP) (w:=w) (k:=k) (i:=0) (ft:=4) (n:=1) underlying105 rfl ty4 rfl
def o83:=ZI (QP:=QP) (w:=w) (k:=k) (i:=1) (ft:=4) (off:=1) (n:=1) underlying105 rfl ty4 rfl
def o84:=ZI (QP:=QP) (w:=w) (k:=k) (i:=2) (ft:=4) (off:=2) (n:=1) underlying105 rfl ty4 rfl
def o85:=ZI (QP:=QP) (w:=w) (k:=k) (i:=3) (ft:=4) (off:=3) (n:=1) underlying105 rfl ty4 rfl
def o86:=ZI (QP:=QP) (w:=w) (k:=k) (i:=4) (ft:=4) (off:=4) (n:=1) underlying105 rfl ty4 rfl
theorem o88:(∀ b o,opV Pg (loadAt 105 (.pointer (some ⟨b,o,none⟩))) QP w k=ZN [w.cell? ⟨b,o,none⟩,w.cell? ⟨b,o+1,none⟩,w.cell? ⟨b,o+2,none⟩,w.cell? ⟨b,o+3,none⟩,w.cell? ⟨b,o+4,none⟩] (λ vs=>k (.agg vs.toArray) w) (UO Pg (loadAt 105 (.pointer (some ⟨b,o,none⟩))) QP w k)):=(by intro b o;exact Xw UB b o _ rfl)
theorem o89:(∀ u,opV Pg (Instr.alloc 105 true u) QP w k=k (.pointer (some ⟨w.heap.size,0,none⟩)) (w.alloc (.cells ((.agg #[.bool false,.bool false,.bool false,.bool false,.bool false]):Vl).cells 105))):=(Yp UB)
def o90:=YE (QP:=QP) (w:=w) (k:=k) Ga
def o91:=YE (QP:=QP) (w:=w) (k:=k) AJ
theorem o92:(∀ r a n c,opV Pg (Builtin.len_ #[118] r #[.slice a n c]) QP w k=k (.int .i64 (n:Int)) w):=(λ r=>YM (r:=r) underlying118)
theorem o93:(∀ b o len cap ik (i:Nat),i < len→opV Pg (indexAt 118 (.slice (some ⟨b,o,none⟩) len cap) (.int ik (i:Int))) QP w k=k (.pointer (some ⟨b,o+i*2,none⟩)) w):=(Xr underlying118 Gc)
theorem o94:(∀ u,opV Pg (Instr.alloc 118 true u) QP w k=k (.pointer (some ⟨w.heap.size,0,none⟩)) (w.alloc (.cells ((.slice none 0 0):Vl).cells 118))):=(Yp AJ)
def o95:=Y5 (QP:=QP) (w:=w) (k:=k) (i:=0) (ft:=3) (n:=1) underlying120 rfl ty3 rfl
def o96:=ZI (QP:=QP) (w:=w) (k:=k) (i:=1) (ft:=118) (off:=1) (n:=1) underlying120 rfl AJ rfl
theorem o97:(∀ b o,opV Pg (loadAt 120 (.pointer (some ⟨b,o,none⟩))) QP w k=ZN [w.cell? ⟨b,o,none⟩,w.cell? ⟨b,o+1,none⟩] (λ vs=>k (.agg vs.toArray) w) (UO Pg (loadAt 120 (.pointer (some ⟨b,o,none⟩))) QP w k)):=(by intro b o;exact Xw Gb b o _ rfl)
def o99:=YE (QP:=QP) (w:=w) (k:=k) x8
theorem Zh8:(∀ r a n c,opV Pg (Builtin.len_ #[121] r #[.slice a n c]) QP w k=k (.int .i64 (n:Int)) w):=(λ r=>YM (r:=r) underlying121)
theorem ZeI:(∀ b o len cap ik (i:Nat),i < len→opV Pg (indexAt 121 (.slice (some ⟨b,o,none⟩) len cap) (.int ik (i:Int))) QP w k=k (.pointer (some ⟨b,o+i*3,none⟩)) w):=(Xr underlying121 Fz)
def ZeJ:=Y5 (QP:=QP) (w:=w) (k:=k) (i:=0) (ft:=9) (n:=1) underlying123 rfl ty9 rfl
def ZeK:=ZI (QP:=QP) (w:=w) (k:=k) (i:=1) (ft:=117) (off:=1) (n:=1) underlying123 rfl Ga rfl
def ZeL:=ZI (QP:=QP) (w:=w) (k:=k) (i:=2) (ft:=3) (off:=2) (n:=1) underlying123 rfl ty3 rfl
def Zh9:=ZI (QP:=QP) (w:=w) (k:=k) (i:=3) (ft:=4) (off:=3) (n:=1) underlying123 rfl ty4 rfl
def Zia:=ZI (QP:=QP) (w:=w) (k:=k) (i:=4) (ft:=4) (off:=4) (n:=1) underlying123 rfl ty4 rfl
def ZeM:=ZI (QP:=QP) (w:=w) (k:=k) (i:=5) (ft:=3) (off:=5) (n:=1) underlying123 rfl ty3 rfl
def ZeN:=ZI (QP:=QP) (w:=w) (k:=k) (i:=6) (ft:=3) (off:=6) (n:=1) underlying123 rfl ty3 rfl
def ZeO:=ZI (QP:=QP) (w:=w) (k:=k) (i:=7) (ft:=120) (off:=7) (n:=2) underlying123 rfl Gb rfl
def ZeP:=ZI (QP:=QP) (w:=w) (k:=k) (i:=8) (ft:=9) (off:=9) (n:=1) underlying123 rfl ty9 rfl
def ZeQ:=ZI (QP:=QP) (w:=w) (k:=k) (i:=9) (ft:=9) (off:=10) (n:=1) underlying123 rfl ty9 rfl
def ZeR:=ZI (QP:=QP) (w:=w) (k:=k) (i:=10) (ft:=9) (off:=11) (n:=1) underlying123 rfl ty9 rfl
def ZeS:=ZI (QP:=QP) (w:=w) (k:=k) (i:=11) (ft:=121) (off:=12) (n:=1) underlying123 rfl x8 rfl
def Zib:=ZI (QP:=QP) (w:=w) (k:=k) (i:=12) (ft:=3) (off:=13) (n:=1) underlying123 rfl ty3 rfl
def Zic:=ZI (QP:=QP) (w:=w) (k:=k) (i:=13) (ft:=3) (off:=14) (n:=1) underlying123 rfl ty3 rfl
theorem Zid:(∀ b o,opV Pg (loadAt 123 (.pointer (some ⟨b,o,none⟩))) QP w k=ZN [w.cell? ⟨b,o,none⟩,w.cell? ⟨b,o+1,none⟩,w.cell? ⟨b,o+2,none⟩,w.cell? ⟨b,o+3,none⟩,w.cell? ⟨b,o+4,none⟩,w.cell? ⟨b,o+5,none⟩,w.cell? ⟨b,o+6,none⟩,w.cell? ⟨b,o+7,none⟩,w.cell? ⟨b,o+8,none⟩,w.cell? ⟨b,o+9,none⟩,w.cell? ⟨b,o+10,none⟩,w.cell? ⟨b,o+11,none⟩,w.cell? ⟨b,o+12,none⟩,w.cell? ⟨b,o+13,none⟩,w.cell? ⟨b,o+14,none⟩] (λ vs=>k (.agg vs.toArray) w) (UO Pg (loadAt 123 (.pointer (some ⟨b,o,none⟩))) QP w k)):=(by intro b o;exact Xw WQ b o _ rfl)
theorem Zie:(∀ u,opV Pg (Instr.alloc 123 true u) QP w k=k (.pointer (some ⟨w.heap.size,0,none⟩)) (w.alloc (.cells ((.agg #[.string ByteArray.empty,.int .i64 0,.int .i64 0,.bool false,.bool false,.int .i64 0,.int .i64 0,.int .i64 0,.slice none 0 0,.string ByteArray.empty,.string ByteArray.empty,.string ByteArray.empty,.slice none 0 0,.int .i64 0,.int .i64 0]):Vl).cells 123))):=(Yp WQ)
def ZeT:=Y5 (QP:=QP) (w:=w) (k:=k) (i:=0) (ft:=9) (n:=1) underlying128 rfl ty9 rfl
def ZeU:=ZI (QP:=QP) (w:=w) (k:=k) (i:=1) (ft:=3) (off:=1) (n:=1) underlying128 rfl ty3 rfl
theorem Zif:(∀ b o,opV Pg (loadAt 128 (.pointer (some ⟨b,o,none⟩))) QP w k=ZN [w.cell? ⟨b,o,none⟩,w.cell? ⟨b,o+1,none⟩] (λ vs=>k (.agg vs.toArray) w) (UO Pg (loadAt 128 (.pointer (some ⟨b,o,none⟩))) QP w k)):=(by intro b o;exact Xw Gc b o _ rfl)
theorem Zig:(∀ u,opV Pg (Instr.alloc 128 true u) QP w k=k (.pointer (some ⟨w.heap.size,0,none⟩)) (w.alloc (.cells ((.agg #[.string ByteArray.empty,.int .i64 0]):Vl).cells 128))):=(Yp Gc)
theorem Zih:(∀ b o,opV Pg (loadAt 131 (.pointer (some ⟨b,o,none⟩))) QP w k=ZN [w.cell? ⟨b,o,none⟩,w.cell? ⟨b,o+1,none⟩,w.cell? ⟨b,o+2,none⟩] (λ vs=>k (.agg vs.toArray) w) (UO Pg (loadAt 131 (.pointer (some ⟨b,o,none⟩))) QP w k)):=(by intro b o;exact Xw Ce b o _ rfl)
theorem Zii:(∀ u,opV Pg (Instr.alloc 131 true u) QP w k=k (.pointer (some ⟨w.heap.size,0,none⟩)) (w.alloc (.cells ((.agg #[.int .i64 0,.int .i64 0,.int .i64 0]):Vl).cells 131))):=(Yp Ce)
theorem Zij:(∀ u,opV Pg (Instr.alloc 159 true u) QP w k=k (.pointer (some ⟨w.heap.size,0,none⟩)) (w.alloc (.cells ((.agg #[.pointer none,.slice none 0 0]):Vl).cells 159))):=(Yp Zfc)
def Zik:=YE (QP:=QP) (w:=w) (k:=k) Rp
theorem Zil:(∀ r a n c,opV Pg (Builtin.len_ #[170] r #[.slice a n c]) QP w k=k (.int .i64 (n:Int)) w):=(λ r=>YM (r:=r) underlying170)
theorem Zim:(∀ b o len cap ik (i:Nat),i < len→opV Pg (indexAt 170 (.slice (some ⟨b,o,none⟩) len cap) (.int ik (i:Int))) QP w k=k (.pointer (some ⟨b,o+i*1,none⟩)) w):=(Xr underlying170 ty4)
def Zin:=YE (QP:=QP) (w:=w) (k:=k) Fy
def Zio:=YE (QP:=QP) (w:=w) (k:=k) AK
theorem Zip:(∀ u,opV Pg (Instr.alloc 199 true u) QP w k=k (.pointer (some ⟨w.heap.size,0,none⟩)) (w.alloc (.cells ((.map none):Vl).cells 199))):=(Yp AK)
def ZeV:=ZI (QP:=QP) (w:=w) (k:=k) (i:=1) (ft:=198) (off:=3) (n:=1) underlying201 rfl Fy rfl
def ZeW:=ZI (QP:=QP) (w:=w) (k:=k) (i:=2) (ft:=199) (off:=4) (n:=1) underlying201 rfl AK rfl
def ZeX:=ZI (QP:=QP) (w:=w) (k:=k) (i:=3) (ft:=3) (off:=5) (n:=1) underlying201 rfl ty3 rfl
def ZeY:=ZI (QP:=QP) (w:=w) (k:=k) (i:=4) (ft:=3) (off:=6) (n:=1) underlying201 rfl ty3 rfl
def Ziq:=ZI (QP:=QP) (w:=w) (k:=k) (i:=5) (ft:=74) (off:=7) (n:=2) underlying201 rfl xi rfl
def Zir:=Y5 (QP:=QP) (w:=w) (k:=k) (i:=0) (ft:=3) (n:=1) underlying213 rfl ty3 rfl
def Zis:=ZI (QP:=QP) (w:=w) (k:=k) (i:=1) (ft:=3) (off:=1) (n:=1) underlying213 rfl ty3 rfl
def Zit:=ZI (QP:=QP) (w:=w) (k:=k) (i:=2) (ft:=9) (off:=2) (n:=1) underlying213 rfl ty9 rfl
theorem Ziu:(∀ b o,opV Pg (loadAt 213 (.pointer (some ⟨b,o,none⟩))) QP w k=ZN [w.cell? ⟨b,o,none⟩,w.cell? ⟨b,o+1,none⟩,w.cell? ⟨b,o+2,none⟩] (λ vs=>k (.agg vs.toArray) w) (UO Pg (loadAt 213 (.pointer (some ⟨b,o,none⟩))) QP w k)):=(by intro b o;exact Xw Fz b o _ rfl)
theorem Ziv:(∀ u,opV Pg (Instr.alloc 213 true u) QP w k=k (.pointer (some ⟨w.heap.size,0,none⟩)) (w.alloc (.cells ((.agg #[.int .i64 0,.int .i64 0,.string ByteArray.empty]):Vl).cells 213))):=(Yp Fz)
def Ziw:=YE (QP:=QP) (w:=w) (k:=k) Rq
def Zix:=YE (QP:=QP) (w:=w) (k:=k) Rr
def Ziy:=Y5 (QP:=QP) (w:=w) (k:=k) (i:=0) (ft:=252) (n:=1) underlying255 rfl Rq rfl
def Ziz:=ZI (QP:=QP) (w:=w) (k:=k) (i:=1) (ft:=253) (off:=1) (n:=1) underlying255 rfl Rr rfl
theorem ZiA:(∀ u,opV Pg (Instr.alloc 255 true u) QP w k=k (.pointer (some ⟨w.heap.size,0,none⟩)) (w.alloc (.cells ((.agg #[.nilFunc,.nilFunc]):Vl).cells 255))):=(Yp FA)
theorem ZiB:(∀ r a n c,opV Pg (Builtin.len_ #[264] r #[.slice a n c]) QP w k=k (.int .i64 (n:Int)) w):=(λ r=>YM (r:=r) underlying264)
theorem ZeZ:(∀ b o len cap ik (i:Nat),i < len→opV Pg (indexAt 264 (.slice (some ⟨b,o,none⟩) len cap) (.int ik (i:Int))) QP w k=k (.pointer (some ⟨b,o+i*3,none⟩)) w):=(Xr underlying264 Le)
def ZiC:=Y5 (QP:=QP) (w:=w) (k:=k) (i:=0) (ft:=9) (n:=1) underlying266 rfl ty9 rfl
def Ze0:=ZI (QP:=QP) (w:=w) (k:=k) (i:=1) (ft:=3) (off:=1) (n:=1) underlying266 rfl ty3 rfl
def Ze1:=ZI (QP:=QP) (w:=w) (k:=k) (i:=2) (ft:=3) (off:=2) (n:=1) underlying266 rfl ty3 rfl
theorem ZiD:(∀ b o,opV Pg (loadAt 266 (.pointer (some ⟨b,o,none⟩))) QP w k=ZN [w.cell? ⟨b,o,none⟩,w.cell? ⟨b,o+1,none⟩,w.cell? ⟨b,o+2,none⟩] (λ vs=>k (.agg vs.toArray) w) (UO Pg (loadAt 266 (.pointer (some ⟨b,o,none⟩))) QP w k)):=(by intro b o;exact Xw Le b o _ rfl)
theorem ZiE:(∀ u,opV Pg (Instr.alloc 266 true u) QP w k=k (.pointer (some ⟨w.heap.size,0,none⟩)) (w.alloc (.cells ((.agg #[.string ByteArray.empty,.int .i64 0,.int .i64 0]):Vl).cells 266))):=(Yp Le)
theorem ZiF:(∀ u,opV Pg (Instr.alloc 287 true u) QP w k=k (.pointer (some ⟨w.heap.size,0,none⟩)) (w.alloc (.cells ((.agg #[.string ByteArray.empty,.string ByteArray.empty,.string ByteArray.empty,.string ByteArray.empty,.int .i64 0,.int .i64 0,.int .i64 0,.int .i64 0,.int .i64 0,.int .i64 0,.int .i64 0,.bool false,.bool false]):Vl).cells 287))):=(Yp Lf)
def ZiG:=YE (QP:=QP) (w:=w) (k:=k) Rs
theorem ZiH:(∀ u,opV Pg (Instr.alloc 296 true u) QP w k=k (.pointer (some ⟨w.heap.size,0,none⟩)) (w.alloc (.cells ((.map none):Vl).cells 296))):=(Yp Rs)
def ZiI:=Y5 (QP:=QP) (w:=w) (k:=k) (i:=0) (ft:=3) (n:=1) underlying300 rfl ty3 rfl
def ZiJ:=ZI (QP:=QP) (w:=w) (k:=k) (i:=1) (ft:=3) (off:=1) (n:=1) underlying300 rfl ty3 rfl
theorem ZiK:(∀ v0 v1,opV Pg (Instr.field 300 (.agg #[v0,v1]) 1) QP w k=k v1 w):=(by intro v0 v1;exact HN underlying300 rfl ty3 rfl)
theorem ZiL:(∀ b o,opV Pg (loadAt 300 (.pointer (some ⟨b,o,none⟩))) QP w k=ZN [w.cell? ⟨b,o,none⟩,w.cell? ⟨b,o+1,none⟩] (λ vs=>k (.agg vs.toArray) w) (UO Pg (loadAt 300 (.pointer (some ⟨b,o,none⟩))) QP w k)):=(by intro b o;exact Xw VZ b o _ rfl)
theorem ZiM:(∀ u,opV Pg (Instr.alloc 300 true u) QP w k=k (.pointer (some ⟨w.heap.size,0,none⟩)) (w.alloc (.cells ((.agg #[.int .i64 0,.int .i64 0]):Vl).cells 300))):=(Yp VZ)
def ZiN:=YE (QP:=QP) (w:=w) (k:=k) Zfe
theorem ZiO:(opV Pg (Instr.build 24 #[]) QP w k=k (.agg #[.string ByteArray.empty,.slice none 0 0]) w):=(by exact ZX (places := #[(0,1),(1,1)]) underlying24 Dz (by intro w;simp [List.mapM_cons,Sem.run_bind,Sw.run_sizeOf Ik,Sw.run_sizeOf ty9]) (by simp [Instr.fill,ZC]))
theorem ZiP:(∀ v0 v1:Vl,v0.oneCell'=true→v1.oneCell'=true→opV Pg (Instr.build 24 #[(0,v0),(1,v1)]) QP w k=k (.agg #[v0,v1]) w):=(by intro v0 v1 hv0 hv1;exact ZX (places := #[(0,1),(1,1)]) underlying24 Dz (by intro w;simp [List.mapM_cons,Sem.run_bind,Sw.run_sizeOf Ik,Sw.run_sizeOf ty9]) (by simp [Instr.fill,ZC,Zm hv0,Zm hv1]))
theorem ZiQ:(∀ v0 v1 v2:Vl,v0.oneCell'=true→v1.oneCell'=true→v2.oneCell'=true→opV Pg (Instr.build 27 #[(0,v0),(1,v1),(2,v2)]) QP w k=k (.agg #[v0,v1,v2]) w):=(by intro v0 v1 v2 hv0 hv1 hv2;exact ZX (places := #[(0,1),(1,1),(2,1)]) underlying27 Bh (by intro w;simp [List.mapM_cons,Sem.run_bind,Sw.run_sizeOf Zb1,Sw.run_sizeOf ty9]) (by simp [Instr.fill,ZC,Zm hv0,Zm hv1,Zm hv2]))
theorem ZiR:(opV Pg (Instr.build 34 #[]) QP w k=k (.agg #[.int .i64 0,.int .i64 0,.int .i64 0]) w):=(by exact ZX (places := #[(0,1),(1,1),(2,1)]) underlying34 Il (by intro w;simp [List.mapM_cons,Sem.run_bind,Sw.run_sizeOf ty3,Sw.run_sizeOf MH]) (by simp [Instr.fill,ZC]))
theorem ZiS:(∀ v0 v1 v2:Vl,v0.oneCell'=true→v1.oneCell'=true→v2.oneCell'=true→opV Pg (Instr.build 34 #[(0,v0),(1,v1),(2,v2)]) QP w k=k (.agg #[v0,v1,v2]) w):=(by intro v0 v1 v2 hv0 hv1 hv2;exact ZX (places := #[(0,1),(1,1),(2,1)]) underlying34 Il (by intro w;simp [List.mapM_cons,Sem.run_bind,Sw.run_sizeOf ty3,Sw.run_sizeOf MH]) (by simp [Instr.fill,ZC,Zm hv0,Zm hv1,Zm hv2]))
theorem ZiT:(∀ v2:Vl,v2.oneCell'=true→opV Pg (Instr.build 34 #[(2,v2)]) QP w k=k (.agg #[.int .i64 0,.int .i64 0,v2]) w):=(by intro v2 hv2;exact ZX (places := #[(0,1),(1,1),(2,1)]) underlying34 Il (by intro w;simp [List.mapM_cons,Sem.run_bind,Sw.run_sizeOf ty3,Sw.run_sizeOf MH]) (by simp [Instr.fill,ZC,Zm hv2]))
theorem ZiU:(∀ v0 v1:Vl,v0.oneCell'=true→v1.oneCell'=true→opV Pg (Instr.build 43 #[(0,v0),(1,v1)]) QP w k=k (.agg #[v0,v1,.string ByteArray.empty,.int .i64 0,.int .i64 0,.slice none 0 0,.slice none 0 0]) w):=(by intro v0 v1 hv0 hv1;exact ZX (places := #[(0,1),(1,1),(2,1),(3,1),(4,1),(5,1),(6,1)]) underlying43 Ua (by intro w;simp [List.mapM_cons,Sem.run_bind,Sw.run_sizeOf ty3,Sw.run_sizeOf FB,Sw.run_sizeOf Bi,Sw.run_sizeOf Im,Sw.run_sizeOf ty9]) (by simp [Instr.fill,ZC,Zm hv0,Zm hv1]))
theorem ZiV:(∀ v0 v1 v2:Vl,v0.oneCell'=true→v1.oneCell'=true→v2.oneCell'=true→opV Pg (Instr.build 43 #[(0,v0),(1,v1),(2,v2)]) QP w k=k (.agg #[v0,v1,v2,.int .i64 0,.int .i64 0,.slice none 0 0,.slice none 0 0]) w):=(by intro v0 v1 v2 hv0 hv1 hv2;exact ZX (places := #[(0,1),(1,1),(2,1),(3,1),(4,1),(5,1),(6,1)]) underlying43 Ua (by intro w;simp [List.mapM_cons,Sem.run_bind,Sw.run_sizeOf ty3,Sw.run_sizeOf FB,Sw.run_sizeOf Bi,Sw.run_sizeOf Im,Sw.run_sizeOf ty9]) (by simp [Instr.fill,ZC,Zm hv0,Zm hv1,Zm hv2]))
theorem ZiW:(∀ v1 v3:Vl,v1.oneCell'=true→v3.oneCell'=true→opV Pg (Instr.build 43 #[(1,v1),(3,v3)]) QP w k=k (.agg #[.string ByteArray.empty,v1,.string ByteArray.empty,v3,.int .i64 0,.slice none 0 0,.slice none 0 0]) w):=(by intro v1 v3 hv1 hv3;exact ZX (places := #[(0,1),(1,1),(2,1),(3,1),(4,1),(5,1),(6,1)]) underlying43 Ua (by intro w;simp [List.mapM_cons,Sem.run_bind,Sw.run_sizeOf ty3,Sw.run_sizeOf FB,Sw.run_sizeOf Bi,Sw.run_sizeOf Im,Sw.run_sizeOf ty9]) (by simp [Instr.fill,ZC,Zm hv1,Zm hv3]))
theorem ZiX:(∀ v1 v6:Vl,v1.oneCell'=true→v6.oneCell'=true→opV Pg (Instr.build 43 #[(1,v1),(6,v6)]) QP w k=k (.agg #[.string ByteArray.empty,v1,.string ByteArray.empty,.int .i64 0,.int .i64 0,.slice none 0 0,v6]) w):=(by intro v1 v6 hv1 hv6;exact ZX (places := #[(0,1),(1,1),(2,1),(3,1),(4,1),(5,1),(6,1)]) underlying43 Ua (by intro w;simp [List.mapM_cons,Sem.run_bind,Sw.run_sizeOf ty3,Sw.run_sizeOf FB,Sw.run_sizeOf Bi,Sw.run_sizeOf Im,Sw.run_sizeOf ty9]) (by simp [Instr.fill,ZC,Zm hv1,Zm hv6]))
theorem ZiY:(∀ v0 v1:Vl,v0.oneCell'=true→v1.oneCell'=true→opV Pg (Instr.build 60 #[(0,v0),(1,v1)]) QP w k=k (.agg #[v0,v1,.slice none 0 0]) w):=(by intro v0 v1 hv0 hv1;exact ZX (places := #[(0,1),(1,1),(2,1)]) underlying60 AL (by intro w;simp [List.mapM_cons,Sem.run_bind,Sw.run_sizeOf In,Sw.run_sizeOf ty9]) (by simp [Instr.fill,ZC,Zm hv0,Zm hv1]))
theorem ZiZ:(∀ v0 v1 v2:Vl,v0.oneCell'=true→v1.oneCell'=true→v2.oneCell'=true→opV Pg (Instr.build 60 #[(0,v0),(1,v1),(2,v2)]) QP w k=k (.agg #[v0,v1,v2]) w):=(by intro v0 v1 v2 hv0 hv1 hv2;exact ZX (places := #[(0,1),(1,1),(2,1)]) underlying60 AL (by intro w;simp [List.mapM_cons,Sem.run_bind,Sw.run_sizeOf In,Sw.run_sizeOf ty9]) (by simp [Instr.fill,ZC,Zm hv0,Zm hv1,Zm hv2]))
theorem Zi0:(opV Pg (Instr.build 74 #[]) QP w k=k (.agg #[.string ByteArray.empty,.slice none 0 0]) w):=(by exact ZX (places := #[(0,1),(1,1)]) underlying74 xi (by intro w;simp [List.mapM_cons,Sem.run_bind,Sw.run_sizeOf MI,Sw.run_sizeOf ty9]) (by simp [Instr.fill,ZC]))
theorem Zi1:(∀ v0 v1:Vl,v0.oneCell'=true→v1.oneCell'=true→opV Pg (Instr.build 74 #[(0,v0),(1,v1)]) QP w k=k (.agg #[v0,v1]) w):=(by intro v0 v1 hv0 hv1;exact ZX (places := #[(0,1),(1,1)]) underlying74 xi (by intro w;simp [List.mapM_cons,Sem.run_bind,Sw.run_sizeOf MI,Sw.run_sizeOf ty9]) (by simp [Instr.fill,ZC,Zm hv0,Zm hv1]))
theorem Ze2:(∀ v1:Vl,v1.oneCell'=true→opV Pg (Instr.build 74 #[(1,v1)]) QP w k=k (.agg #[.string ByteArray.empty,v1]) w):=(by intro v1 hv1;exact ZX (places := #[(0,1),(1,1)]) underlying74 xi (by intro w;simp [List.mapM_cons,Sem.run_bind,Sw.run_sizeOf MI,Sw.run_sizeOf ty9]) (by simp [Instr.fill,ZC,Zm hv1]))
theorem Zi2:(∀ v0 v1 v2:Vl,v0.oneCell'=true→v1.oneCell'=true→v2.oneCell'=true→opV Pg (Instr.build 78 #[(0,v0),(1,v1),(2,v2)]) QP w k=k (.agg #[v0,v1,v2]) w):=(by intro v0 v1 v2 hv0 hv1 hv2;exact ZX (places := #[(0,1),(1,1),(2,1)]) underlying78 FC (by intro w;simp [List.mapM_cons,Sem.run_bind,Sw.run_sizeOf ty3]) (by simp [Instr.fill,ZC,Zm hv0,Zm hv1,Zm hv2]))
theorem Zi3:(∀ v0_0 v0_1 v1_0 v1_1 v1_2 v2_0 v2_1 v2_2 v3 v4:Vl,v3.oneCell'=true→v4.oneCell'=true→opV Pg (Instr.build 81 #[(0,(.agg #[v0_0,v0_1])),(1,(.agg #[v1_0,v1_1,v1_2])),(2,(.agg #[v2_0,v2_1,v2_2])),(3,v3),(4,v4)]) QP w k=k (.agg #[v0_0,v0_1,v1_0,v1_1,v1_2,v2_0,v2_1,v2_2,v3,v4]) w):=(by intro v0_0 v0_1 v1_0 v1_1 v1_2 v2_0 v2_1 v2_2 v3 v4 hv3 hv4;exact ZX (places := #[(0,2),(2,3),(5,3),(8,1),(9,1)]) underlying81 Zj2 (by intro w;simp [List.mapM_cons,Sem.run_bind,Sw.run_sizeOf Dz,Sw.run_sizeOf Bh,Sw.run_sizeOf ty3]) (by simp [Instr.fill,ZC,Zm hv3,Zm hv4]))
theorem Zi4:(∀ v0 v1 v2:Vl,v0.oneCell'=true→v1.oneCell'=true→v2.oneCell'=true→opV Pg (Instr.build 82 #[(0,v0),(1,v1),(2,v2)]) QP w k=k (.agg #[v0,v1,v2]) w):=(by intro v0 v1 v2 hv0 hv1 hv2;exact ZX (places := #[(0,1),(1,1),(2,1)]) underlying82 Zj3 (by intro w;simp [List.mapM_cons,Sem.run_bind,Sw.run_sizeOf ty3,Sw.run_sizeOf MH]) (by simp [Instr.fill,ZC,Zm hv0,Zm hv1,Zm hv2]))
theorem Zi5:(opV Pg (Instr.build 105 #[]) QP w k=k (.agg #[.bool false,.bool false,.bool false,.bool false,.bool false]) w):=(by exact ZX (places := #[(0,1),(1,1),(2,1),(3,1),(4,1)]) underlying105 UB (by intro w;simp [List.mapM_cons,Sem.run_bind,Sw.run_sizeOf ty4]) (by simp [Instr.fill,ZC]))
theorem Zi6:(∀ v0:Vl,v0.oneCell'=true→opV Pg (Instr.build 105 #[(0,v0)]) QP w k=k (.agg #[v0,.bool false,.bool false,.bool false,.bool false]) w):=(by intro v0 hv0;exact ZX (places := #[(0,1),(1,1),(2,1),(3,1),(4,1)]) underlying105 UB (by intro w;simp [List.mapM_cons,Sem.run_bind,Sw.run_sizeOf ty4]) (by simp [Instr.fill,ZC,Zm hv0]))
theorem Zi7:(∀ v0 v1:Vl,v0.oneCell'=true→v1.oneCell'=true→opV Pg (Instr.build 105 #[(0,v0),(1,v1)]) QP w k=k (.agg #[v0,v1,.bool false,.bool false,.bool false]) w):=(by intro v0 v1 hv0 hv1;exact ZX (places := #[(0,1),(1,1),(2,1),(3,1),(4,1)]) underlying105 UB (by intro w;simp [List.mapM_cons,Sem.run_bind,Sw.run_sizeOf ty4]) (by simp [Instr.fill,ZC,Zm hv0,Zm hv1]))
theorem Zi8:(∀ v0 v4:Vl,v0.oneCell'=true→v4.oneCell'=true→opV Pg (Instr.build 105 #[(0,v0),(4,v4)]) QP w k=k (.agg #[v0,.bool false,.bool false,.bool false,v4]) w):=(by intro v0 v4 hv0 hv4;exact ZX (places := #[(0,1),(1,1),(2,1),(3,1),(4,1)]) underlying105 UB (by intro w;simp [List.mapM_cons,Sem.run_bind,Sw.run_sizeOf ty4]) (by simp [Instr.fill,ZC,Zm hv0,Zm hv4]))
theorem Zi9:(∀ v2:Vl,v2.oneCell'=true→opV Pg (Instr.build 105 #[(2,v2)]) QP w k=k (.agg #[.bool false,.bool false,v2,.bool false,.bool false]) w):=(by intro v2 hv2;exact ZX (places := #[(0,1),(1,1),(2,1),(3,1),(4,1)]) underlying105 UB (by intro w;simp [List.mapM_cons,Sem.run_bind,Sw.run_sizeOf ty4]) (by simp [Instr.fill,ZC,Zm hv2]))
theorem Zja:(∀ v3:Vl,v3.oneCell'=true→opV Pg (Instr.build 105 #[(3,v3)]) QP w k=k (.agg #[.bool false,.bool false,.bool false,v3,.bool false]) w):=(by intro v3 hv3;exact ZX (places := #[(0,1),(1,1),(2,1),(3,1),(4,1)]) underlying105 UB (by intro w;simp [List.mapM_cons,Sem.run_bind,Sw.run_sizeOf ty4]) (by simp [Instr.fill,ZC,Zm hv3]))
theorem Zjb:(opV Pg (Instr.build 120 #[]) QP w k=k (.agg #[.int .i64 0,.slice none 0 0]) w):=(by exact ZX (places := #[(0,1),(1,1)]) underlying120 Gb (by intro w;simp [List.mapM_cons,Sem.run_bind,Sw.run_sizeOf AJ,Sw.run_sizeOf ty3]) (by simp [Instr.fill,ZC]))
theorem Zjc:(∀ v1:Vl,v1.oneCell'=true→opV Pg (Instr.build 120 #[(1,v1)]) QP w k=k (.agg #[.int .i64 0,v1]) w):=(by intro v1 hv1;exact ZX (places := #[(0,1),(1,1)]) underlying120 Gb (by intro w;simp [List.mapM_cons,Sem.run_bind,Sw.run_sizeOf AJ,Sw.run_sizeOf ty3]) (by simp [Instr.fill,ZC,Zm hv1]))
theorem Zjd:(opV Pg (Instr.build 123 #[]) QP w k=k (.agg #[.string ByteArray.empty,.int .i64 0,.int .i64 0,.bool false,.bool false,.int .i64 0,.int .i64 0,.int .i64 0,.slice none 0 0,.string ByteArray.empty,.string ByteArray.empty,.string ByteArray.empty,.slice none 0 0,.int .i64 0,.int .i64 0]) w):=(by exact ZX (places := #[(0,1),(1,1),(2,1),(3,1),(4,1),(5,1),(6,1),(7,2),(9,1),(10,1),(11,1),(12,1),(13,1),(14,1)]) underlying123 WQ (by intro w;simp [List.mapM_cons,Sem.run_bind,Sw.run_sizeOf Ga,Sw.run_sizeOf Gb,Sw.run_sizeOf x8,Sw.run_sizeOf ty3,Sw.run_sizeOf ty4,Sw.run_sizeOf ty9]) (by simp [Instr.fill,ZC]))
theorem Zje:(∀ v0 v1:Vl,v0.oneCell'=true→v1.oneCell'=true→opV Pg (Instr.build 123 #[(0,v0),(1,v1)]) QP w k=k (.agg #[v0,v1,.int .i64 0,.bool false,.bool false,.int .i64 0,.int .i64 0,.int .i64 0,.slice none 0 0,.string ByteArray.empty,.string ByteArray.empty,.string ByteArray.empty,.slice none 0 0,.int .i64 0,.int .i64 0]) w):=(by intro v0 v1 hv0 hv1;exact ZX (places := #[(0,1),(1,1),(2,1),(3,1),(4,1),(5,1),(6,1),(7,2),(9,1),(10,1),(11,1),(12,1),(13,1),(14,1)]) underlying123 WQ (by intro w;simp [List.mapM_cons,Sem.run_bind,Sw.run_sizeOf Ga,Sw.run_sizeOf Gb,Sw.run_sizeOf x8,Sw.run_sizeOf ty3,Sw.run_sizeOf ty4,Sw.run_sizeOf ty9]) (by simp [Instr.fill,ZC,Zm hv0,Zm hv1]))
theorem Zjf:(∀ v0 v1 v2 v6:Vl,v0.oneCell'=true→v1.oneCell'=true→v2.oneCell'=true→v6.oneCell'=true→opV Pg (Instr.build 123 #[(0,v0),(1,v1),(2,v2),(6,v6)]) QP w k=k (.agg #[v0,v1,v2,.bool false,.bool false,.int .i64 0,v6,.int .i64 0,.slice none 0 0,.string ByteArray.empty,.string ByteArray.empty,.string ByteArray.empty,.slice none 0 0,.int .i64 0,.int .i64 0]) w):=(by intro v0 v1 v2 v6 hv0 hv1 hv2 hv6;exact ZX (places := #[(0,1),(1,1),(2,1),(3,1),(4,1),(5,1),(6,1),(7,2),(9,1),(10,1),(11,1),(12,1),(13,1),(14,1)]) underlying123 WQ (by intro w;simp [List.mapM_cons,Sem.run_bind,Sw.run_sizeOf Ga,Sw.run_sizeOf Gb,Sw.run_sizeOf x8,Sw.run_sizeOf ty3,Sw.run_sizeOf ty4,Sw.run_sizeOf ty9]) (by simp [Instr.fill,ZC,Zm hv0,Zm hv1,Zm hv2,Zm hv6]))
theorem Zjg:(∀ v0 v1 v7_0 v7_1:Vl,v0.oneCell'=true→v1.oneCell'=true→opV Pg (Instr.build 123 #[(0,v0),(1,v1),(7,(.agg #[v7_0,v7_1]))]) QP w k=k (.agg #[v0,v1,.int .i64 0,.bool false,.bool false,.int .i64 0,.int .i64 0,v7_0,v7_1,.string ByteArray.empty,.string ByteArray.empty,.string ByteArray.empty,.slice none 0 0,.int .i64 0,.int .i64 0]) w):=(by intro v0 v1 v7_0 v7_1 hv0 hv1;exact ZX (places := #[(0,1),(1,1),(2,1),(3,1),(4,1),(5,1),(6,1),(7,2),(9,1),(10,1),(11,1),(12,1),(13,1),(14,1)]) underlying123 WQ (by intro w;simp [List.mapM_cons,Sem.run_bind,Sw.run_sizeOf Ga,Sw.run_sizeOf Gb,Sw.run_sizeOf x8,Sw.run_sizeOf ty3,Sw.run_sizeOf ty4,Sw.run_sizeOf ty9]) (by simp [Instr.fill,ZC,Zm hv0,Zm hv1]))
theorem Zjh:(∀ v0 v1:Vl,v0.oneCell'=true→v1.oneCell'=true→opV Pg (Instr.build 128 #[(0,v0),(1,v1)]) QP w k=k (.agg #[v0,v1]) w):=(by intro v0 v1 hv0 hv1;exact ZX (places := #[(0,1),(1,1)]) underlying128 Gc (by intro w;simp [List.mapM_cons,Sem.run_bind,Sw.run_sizeOf ty3,Sw.run_sizeOf ty9]) (by simp [Instr.fill,ZC,Zm hv0,Zm hv1]))
theorem Zji:(opV Pg (Instr.build 131 #[]) QP w k=k (.agg #[.int .i64 0,.int .i64 0,.int .i64 0]) w):=(by exact ZX (places := #[(0,1),(1,1),(2,1)]) underlying131 Ce (by intro w;simp [List.mapM_cons,Sem.run_bind,Sw.run_sizeOf Za8,Sw.run_sizeOf ty3]) (by simp [Instr.fill,ZC]))
theorem Zjj:(∀ v0 v1 v2:Vl,v0.oneCell'=true→v1.oneCell'=true→v2.oneCell'=true→opV Pg (Instr.build 131 #[(0,v0),(1,v1),(2,v2)]) QP w k=k (.agg #[v0,v1,v2]) w):=(by intro v0 v1 v2 hv0 hv1 hv2;exact ZX (places := #[(0,1),(1,1),(2,1)]) underlying131 Ce (by intro w;simp [List.mapM_cons,Sem.run_bind,Sw.run_sizeOf Za8,Sw.run_sizeOf ty3]) (by simp [Instr.fill,ZC,Zm hv0,Zm hv1,Zm hv2]))
theorem Zjk:(∀ v0_0 v0_1 v0_2 v1 v2 v3 v4:Vl,v1.oneCell'=true→v2.oneCell'=true→v3.oneCell'=true→v4.oneCell'=true→opV Pg (Instr.build 201 #[(0,(.agg #[v0_0,v0_1,v0_2])),(1,v1),(2,v2),(3,v3),(4,v4)]) QP w k=k (.agg #[v0_0,v0_1,v0_2,v1,v2,v3,v4,.string ByteArray.empty,.slice none 0 0]) w):=(by intro v0_0 v0_1 v0_2 v1 v2 v3 v4 hv1 hv2 hv3 hv4;exact ZX (places := #[(0,3),(3,1),(4,1),(5,1),(6,1),(7,2)]) underlying201 Zfd (by intro w;simp [List.mapM_cons,Sem.run_bind,Sw.run_sizeOf Fy,Sw.run_sizeOf AK,Sw.run_sizeOf Bh,Sw.run_sizeOf ty3,Sw.run_sizeOf xi]) (by simp [Instr.fill,ZC,Zm hv1,Zm hv2,Zm hv3,Zm hv4]))
theorem Zjl:(∀ v0 v1:Vl,v0.oneCell'=true→v1.oneCell'=true→opV Pg (Instr.build 255 #[(0,v0),(1,v1)]) QP w k=k (.agg #[v0,v1]) w):=(by intro v0 v1 hv0 hv1;exact ZX (places := #[(0,1),(1,1)]) underlying255 FA (by intro w;simp [List.mapM_cons,Sem.run_bind,Sw.run_sizeOf Rq,Sw.run_sizeOf Rr]) (by simp [Instr.fill,ZC,Zm hv0,Zm hv1]))
theorem Zjm:(∀ v0 v1 v2 v3 v4 v5 v6 v7 v8 v9 v10 v11 v12:Vl,v0.oneCell'=true→v1.oneCell'=true→v2.oneCell'=true→v3.oneCell'=true→v4.oneCell'=true→v5.oneCell'=true→v6.oneCell'=true→v7.oneCell'=true→v8.oneCell'=true→v9.oneCell'=true→v10.oneCell'=true→v11.oneCell'=true→v12.oneCell'=true→opV Pg (Instr.build 287 #[(0,v0),(1,v1),(2,v2),(3,v3),(4,v4),(5,v5),(6,v6),(7,v7),(8,v8),(9,v9),(10,v10),(11,v11),(12,v12)]) QP w k=k (.agg #[v0,v1,v2,v3,v4,v5,v6,v7,v8,v9,v10,v11,v12]) w):=(by intro v0 v1 v2 v3 v4 v5 v6 v7 v8 v9 v10 v11 v12 hv0 hv1 hv2 hv3 hv4 hv5 hv6 hv7 hv8 hv9 hv10 hv11 hv12;exact ZX (places := #[(0,1),(1,1),(2,1),(3,1),(4,1),(5,1),(6,1),(7,1),(8,1),(9,1),(10,1),(11,1),(12,1)]) underlying287 Lf (by intro w;simp [List.mapM_cons,Sem.run_bind,Sw.run_sizeOf Ga,Sw.run_sizeOf ty3,Sw.run_sizeOf ty4,Sw.run_sizeOf ty9]) (by simp [Instr.fill,ZC,Zm hv0,Zm hv1,Zm hv2,Zm hv3,Zm hv4,Zm hv5,Zm hv6,Zm hv7,Zm hv8,Zm hv9,Zm hv10,Zm hv11,Zm hv12]))
theorem Zjn:(opV Pg (Instr.build 300 #[]) QP w k=k (.agg #[.int .i64 0,.int .i64 0]) w):=(by exact ZX (places := #[(0,1),(1,1)]) underlying300 VZ (by intro w;simp [List.mapM_cons,Sem.run_bind,Sw.run_sizeOf ty3]) (by simp [Instr.fill,ZC]))
theorem Zjo:(∀ v0 v1:Vl,v0.oneCell'=true→v1.oneCell'=true→opV Pg (Instr.build 300 #[(0,v0),(1,v1)]) QP w k=k (.agg #[v0,v1]) w):=(by intro v0 v1 hv0 hv1;exact ZX (places := #[(0,1),(1,1)]) underlying300 VZ (by intro w;simp [List.mapM_cons,Sem.run_bind,Sw.run_sizeOf ty3]) (by simp [Instr.fill,ZC,Zm hv0,Zm hv1]))
theorem Zjp:(∀ v0_0 v0_1 v0_2:Vl,opV Pg (buildSlice 22 1 #[(0,(.agg #[v0_0,v0_1,v0_2]))]) QP w k=k (.slice (some ⟨w.heap.size,0,none⟩) 1 1) (w.alloc (.cells #[v0_0,v0_1,v0_2] 60))):=(by intro v0_0 v0_1 v0_2;exact Z3 underlying22 AL (by decide) (base := #[.string ByteArray.empty,.string ByteArray.empty,.slice none 0 0]) (by kernel_rfl) (by simp [Instr.fill,ZC]))
theorem Zjq:(∀ v0_0 v0_1:Vl,opV Pg (buildSlice 25 1 #[(0,(.agg #[v0_0,v0_1]))]) QP w k=k (.slice (some ⟨w.heap.size,0,none⟩) 1 1) (w.alloc (.cells #[v0_0,v0_1] 74))):=(by intro v0_0 v0_1;exact Z3 underlying25 xi (by decide) (base := #[.string ByteArray.empty,.slice none 0 0]) (by kernel_rfl) (by simp [Instr.fill,ZC]))
theorem Zjr:(∀ v0:Vl,v0.oneCell'=true→opV Pg (buildSlice 40 1 #[(0,v0)]) QP w k=k (.slice (some ⟨w.heap.size,0,none⟩) 1 1) (w.alloc (.cells #[v0] 5))):=(by intro v0 hv0;exact Z3 underlying40 ty5 (by decide) (base := #[.int .u8 0]) (by kernel_rfl) (by simp [Instr.fill,ZC,Zm hv0]))
theorem Zjs:(∀ v0_0 v0_1 v0_2:Vl,opV Pg (buildSlice 41 1 #[(0,(.agg #[v0_0,v0_1,v0_2]))]) QP w k=k (.slice (some ⟨w.heap.size,0,none⟩) 1 1) (w.alloc (.cells #[v0_0,v0_1,v0_2] 78))):=(by intro v0_0 v0_1 v0_2;exact Z3 underlying41 FC (by decide) (base := #[.int .i64 0,.int .i64 0,.int .i64 0]) (by kernel_rfl) (by simp [Instr.fill,ZC]))
theorem Zjt:(∀ v0_0 v0_1 v0_2 v0_3 v0_4 v0_5 v0_6:Vl,opV Pg (buildSlice 58 1 #[(0,(.agg #[v0_0,v0_1,v0_2,v0_3,v0_4,v0_5,v0_6]))]) QP w k=k (.slice (some ⟨w.heap.size,0,none⟩) 1 1) (w.alloc (.cells #[v0_0,v0_1,v0_2,v0_3,v0_4,v0_5,v0_6] 43))):=(by intro v0_0 v0_1 v0_2 v0_3 v0_4 v0_5 v0_6;exact Z3 underlying58 Ua (by decide) (base := #[.string ByteArray.empty,.int .i64 0,.string ByteArray.empty,.int .i64 0,.int .i64 0,.slice none 0 0,.slice none 0 0]) (by kernel_rfl) (by simp [Instr.fill,ZC]))
theorem Zju:(∀ v0_0 v0_1 v0_2 v0_3 v0_4 v0_5 v0_6 v1_0 v1_1 v1_2 v1_3 v1_4 v1_5 v1_6:Vl,opV Pg (buildSlice 58 2 #[(0,(.agg #[v0_0,v0_1,v0_2,v0_3,v0_4,v0_5,v0_6])),(1,(.agg #[v1_0,v1_1,v1_2,v1_3,v1_4,v1_5,v1_6]))]) QP w k=k (.slice (some ⟨w.heap.size,0,none⟩) 2 2) (w.alloc (.cells #[v0_0,v0_1,v0_2,v0_3,v0_4,v0_5,v0_6,v1_0,v1_1,v1_2,v1_3,v1_4,v1_5,v1_6] 43))):=(by intro v0_0 v0_1 v0_2 v0_3 v0_4 v0_5 v0_6 v1_0 v1_1 v1_2 v1_3 v1_4 v1_5 v1_6;exact Z3 underlying58 Ua (by decide) (base := #[.string ByteArray.empty,.int .i64 0,.string ByteArray.empty,.int .i64 0,.int .i64 0,.slice none 0 0,.slice none 0 0,.string ByteArray.empty,.int .i64 0,.string ByteArray.empty,.int .i64 0,.int .i64 0,.slice none 0 0,.slice none 0 0]) (by kernel_rfl) (by simp [Instr.fill,ZC]))
theorem Zjv:(∀ v0:Vl,v0.oneCell'=true→opV Pg (buildSlice 61 1 #[(0,v0)]) QP w k=k (.slice (some ⟨w.heap.size,0,none⟩) 1 1) (w.alloc (.cells #[v0] 3))):=(by intro v0 hv0;exact Z3 underlying61 ty3 (by decide) (base := #[.int .i64 0]) (by kernel_rfl) (by simp [Instr.fill,ZC,Zm hv0]))
theorem Zjw:(∀ v0 v1:Vl,v0.oneCell'=true→v1.oneCell'=true→opV Pg (buildSlice 61 2 #[(0,v0),(1,v1)]) QP w k=k (.slice (some ⟨w.heap.size,0,none⟩) 2 2) (w.alloc (.cells #[v0,v1] 3))):=(by intro v0 v1 hv0 hv1;exact Z3 underlying61 ty3 (by decide) (base := #[.int .i64 0,.int .i64 0]) (by kernel_rfl) (by simp [Instr.fill,ZC,Zm hv0,Zm hv1]))
theorem Zjx:(∀ v0_0 v0_1 v0_2 v0_3 v0_4 v0_5 v0_6 v0_7 v0_8 v0_9 v0_10 v0_11 v0_12 v0_13 v0_14:Vl,opV Pg (buildSlice 72 1 #[(0,(.agg #[v0_0,v0_1,v0_2,v0_3,v0_4,v0_5,v0_6,v0_7,v0_8,v0_9,v0_10,v0_11,v0_12,v0_13,v0_14]))]) QP w k=k (.slice (some ⟨w.heap.size,0,none⟩) 1 1) (w.alloc (.cells #[v0_0,v0_1,v0_2,v0_3,v0_4,v0_5,v0_6,v0_7,v0_8,v0_9,v0_10,v0_11,v0_12,v0_13,v0_14] 123))):=(by intro v0_0 v0_1 v0_2 v0_3 v0_4 v0_5 v0_6 v0_7 v0_8 v0_9 v0_10 v0_11 v0_12 v0_13 v0_14;exact Z3 underlying72 WQ (by decide) (base := #[.string ByteArray.empty,.int .i64 0,.int .i64 0,.bool false,.bool false,.int .i64 0,.int .i64 0,.int .i64 0,.slice none 0 0,.string ByteArray.empty,.string ByteArray.empty,.string ByteArray.empty,.slice none 0 0,.int .i64 0,.int .i64 0]) (by kernel_rfl) (by simp [Instr.fill,ZC]))
theorem Zjy:(∀ v0_0 v0_1 v0_2 v0_3 v0_4 v0_5 v0_6 v0_7 v0_8 v0_9 v0_10 v0_11 v0_12 v0_13 v0_14 v1_0 v1_1 v1_2 v1_3 v1_4 v1_5 v1_6 v1_7 v1_8 v1_9 v1_10 v1_11 v1_12 v1_13 v1_14:Vl,opV Pg (buildSlice 72 2 #[(0,(.agg #[v0_0,v0_1,v0_2,v0_3,v0_4,v0_5,v0_6,v0_7,v0_8,v0_9,v0_10,v0_11,v0_12,v0_13,v0_14])),(1,(.agg #[v1_0,v1_1,v1_2,v1_3,v1_4,v1_5,v1_6,v1_7,v1_8,v1_9,v1_10,v1_11,v1_12,v1_13,v1_14]))]) QP w k=k (.slice (some ⟨w.heap.size,0,none⟩) 2 2) (w.alloc (.cells #[v0_0,v0_1,v0_2,v0_3,v0_4,v0_5,v0_6,v0_7,v0_8,v0_9,v0_10,v0_11,v0_12,v0_13,v0_14,v1_0,v1_1,v1_2,v1_3,v1_4,v1_5,v1_6,v1_7,v1_8,v1_9,v1_10,v1_11,v1_12,v1_13,v1_14] 123))):=(by intro v0_0 v0_1 v0_2 v0_3 v0_4 v0_5 v0_6 v0_7 v0_8 v0_9 v0_10 v0_11 v0_12 v0_13 v0_14 v1_0 v1_1 v1_2 v1_3 v1_4 v1_5 v1_6 v1_7 v1_8 v1_9 v1_10 v1_11 v1_12 v1_13 v1_14;exact Z3 underlying72 WQ (by decide) (base := #[.string ByteArray.empty,.int .i64 0,.int .i64 0,.bool false,.bool false,.int .i64 0,.int .i64 0,.int .i64 0,.slice none 0 0,.string ByteArray.empty,.string ByteArray.empty,.string ByteArray.empty,.slice none 0 0,.int .i64 0,.int .i64 0,.string ByteArray.empty,.int .i64 0,.int .i64 0,.bool false,.bool false,.int .i64 0,.int .i64 0,.int .i64 0,.slice none 0 0,.string ByteArray.empty,.string ByteArray.empty,.string ByteArray.empty,.slice none 0 0,.int .i64 0,.int .i64 0]) (by kernel_rfl) (by simp [Instr.fill,ZC]))
theorem Zjz:(∀ v0:Vl,v0.oneCell'=true→opV Pg (buildSlice 94 1 #[(0,v0)]) QP w k=k (.slice (some ⟨w.heap.size,0,none⟩) 1 1) (w.alloc (.cells #[v0] 9))):=(by intro v0 hv0;exact Z3 underlying94 ty9 (by decide) (base := #[.string ByteArray.empty]) (by kernel_rfl) (by simp [Instr.fill,ZC,Zm hv0]))
theorem ZjA:(∀ v0 v1:Vl,v0.oneCell'=true→v1.oneCell'=true→opV Pg (buildSlice 94 2 #[(0,v0),(1,v1)]) QP w k=k (.slice (some ⟨w.heap.size,0,none⟩) 2 2) (w.alloc (.cells #[v0,v1] 9))):=(by intro v0 v1 hv0 hv1;exact Z3 underlying94 ty9 (by decide) (base := #[.string ByteArray.empty,.string ByteArray.empty]) (by kernel_rfl) (by simp [Instr.fill,ZC,Zm hv0,Zm hv1]))
theorem ZjB:(∀ v0 v1 v2:Vl,v0.oneCell'=true→v1.oneCell'=true→v2.oneCell'=true→opV Pg (buildSlice 94 3 #[(0,v0),(1,v1),(2,v2)]) QP w k=k (.slice (some ⟨w.heap.size,0,none⟩) 3 3) (w.alloc (.cells #[v0,v1,v2] 9))):=(by intro v0 v1 v2 hv0 hv1 hv2;exact Z3 underlying94 ty9 (by decide) (base := #[.string ByteArray.empty,.string ByteArray.empty,.string ByteArray.empty]) (by kernel_rfl) (by simp [Instr.fill,ZC,Zm hv0,Zm hv1,Zm hv2]))
theorem ZjC:(∀ v0 v1 v2 v3:Vl,v0.oneCell'=true→v1.oneCell'=true→v2.oneCell'=true→v3.oneCell'=true→opV Pg (buildSlice 94 4 #[(0,v0),(1,v1),(2,v2),(3,v3)]) QP w k=k (.slice (some ⟨w.heap.size,0,none⟩) 4 4) (w.alloc (.cells #[v0,v1,v2,v3] 9))):=(by intro v0 v1 v2 v3 hv0 hv1 hv2 hv3;exact Z3 underlying94 ty9 (by decide) (base := #[.string ByteArray.empty,.string ByteArray.empty,.string ByteArray.empty,.string ByteArray.empty]) (by kernel_rfl) (by simp [Instr.fill,ZC,Zm hv0,Zm hv1,Zm hv2,Zm hv3]))
theorem ZjD:(∀ v0 v1 v2 v3 v4 v5 v6 v7 v8 v9 v10 v11 v12:Vl,v0.oneCell'=true→v1.oneCell'=true→v2.oneCell'=true→v3.oneCell'=true→v4.oneCell'=true→v5.oneCell'=true→v6.oneCell'=true→v7.oneCell'=true→v8.oneCell'=true→v9.oneCell'=true→v10.oneCell'=true→v11.oneCell'=true→v12.oneCell'=true→opV Pg (buildSlice 94 13 #[(0,v0),(1,v1),(2,v2),(3,v3),(4,v4),(5,v5),(6,v6),(7,v7),(8,v8),(9,v9),(10,v10),(11,v11),(12,v12)]) QP w k=k (.slice (some ⟨w.heap.size,0,none⟩) 13 13) (w.alloc (.cells #[v0,v1,v2,v3,v4,v5,v6,v7,v8,v9,v10,v11,v12] 9))):=(by intro v0 v1 v2 v3 v4 v5 v6 v7 v8 v9 v10 v11 v12 hv0 hv1 hv2 hv3 hv4 hv5 hv6 hv7 hv8 hv9 hv10 hv11 hv12;exact Z3 underlying94 ty9 (by decide) (base := #[.string ByteArray.empty,.string ByteArray.empty,.string ByteArray.empty,.string ByteArray.empty,.string ByteArray.empty,.string ByteArray.empty,.string ByteArray.empty,.string ByteArray.empty,.string ByteArray.empty,.string ByteArray.empty,.string ByteArray.empty,.string ByteArray.empty,.string ByteArray.empty]) (by kernel_rfl) (by simp [Instr.fill,ZC,Zm hv0,Zm hv1,Zm hv2,Zm hv3,Zm hv4,Zm hv5,Zm hv6,Zm hv7,Zm hv8,Zm hv9,Zm hv10,Zm hv11,Zm hv12]))
theorem ZjE:(opV Pg (buildSlice 118 0 #[]) QP w k=k (.slice (some ⟨w.heap.size,0,none⟩) 0 0) (w.alloc (.cells #[] 128))):=(by exact Z3 underlying118 Gc (by decide) (base := #[]) (by kernel_rfl) (by simp [Instr.fill,ZC]))
theorem ZjF:(∀ v0_0 v0_1:Vl,opV Pg (buildSlice 118 1 #[(0,(.agg #[v0_0,v0_1]))]) QP w k=k (.slice (some ⟨w.heap.size,0,none⟩) 1 1) (w.alloc (.cells #[v0_0,v0_1] 128))):=(by intro v0_0 v0_1;exact Z3 underlying118 Gc (by decide) (base := #[.string ByteArray.empty,.int .i64 0]) (by kernel_rfl) (by simp [Instr.fill,ZC]))
theorem ZjG:(∀ v0 v1:Vl,v0.oneCell'=true→v1.oneCell'=true→opV Pg (buildSlice 170 2 #[(0,v0),(1,v1)]) QP w k=k (.slice (some ⟨w.heap.size,0,none⟩) 2 2) (w.alloc (.cells #[v0,v1] 4))):=(by intro v0 v1 hv0 hv1;exact Z3 underlying170 ty4 (by decide) (base := #[.bool false,.bool false]) (by kernel_rfl) (by simp [Instr.fill,ZC,Zm hv0,Zm hv1]))
theorem ZjH:(∀ v0 v1 v2:Vl,v0.oneCell'=true→v1.oneCell'=true→v2.oneCell'=true→opV Pg (buildSlice 170 3 #[(0,v0),(1,v1),(2,v2)]) QP w k=k (.slice (some ⟨w.heap.size,0,none⟩) 3 3) (w.alloc (.cells #[v0,v1,v2] 4))):=(by intro v0 v1 v2 hv0 hv1 hv2;exact Z3 underlying170 ty4 (by decide) (base := #[.bool false,.bool false,.bool false]) (by kernel_rfl) (by simp [Instr.fill,ZC,Zm hv0,Zm hv1,Zm hv2]))
theorem ZjI:(∀ q n,opV Pg (Go.convert 3 5 (.int q n)) QP w k=k (.int .u8 (IntKind.u8.wrap n)) w):=(Ww (by rw [underlying3];rfl) underlying5)
theorem ZjJ:(∀ q n,opV Pg (Go.convert 3 191 (.int q n)) QP w k=k (.int .u64 (IntKind.u64.wrap n)) w):=(Ww (by rw [underlying3];rfl) underlying191)
theorem ZjK:(∀ q n,opV Pg (Go.convert 3 197 (.int q n)) QP w k=k (.int .u64 (IntKind.u64.wrap n)) w):=(Ww (by rw [underlying3];rfl) underlying197)
theorem ZjL:(∀ q n,opV Pg (Go.convert 5 3 (.int q n)) QP w k=k (.int .i64 (IntKind.i64.wrap n)) w):=(Ww (by rw [underlying5];rfl) underlying3)
theorem ZjM:(∀ q n,opV Pg (Go.convert 5 191 (.int q n)) QP w k=k (.int .u64 (IntKind.u64.wrap n)) w):=(Ww (by rw [underlying5];rfl) underlying191)
theorem ZjN:(∀ q n,opV Pg (Go.convert 191 5 (.int q n)) QP w k=k (.int .u8 (IntKind.u8.wrap n)) w):=(Ww (by rw [underlying191];rfl) underlying5)
theorem ZjO:(∀ v,opV Pg (Instr.makeInterface 82 v) QP w k=k (.iface 82 v) w):=(Ae underlying82 rfl)
theorem ZjP:(∀ v,opV Pg (Instr.makeInterface 131 v) QP w k=k (.iface 131 v) w):=(Ae underlying131 rfl)
theorem ZjQ:(∀ v,opV Pg (Instr.makeInterface 239 v) QP w k=k (.iface 239 v) w):=(Ae underlying239 rfl)
theorem ZjR:(∀ c (a0 b0:Int) (a1 b1:Int) (a2 b2:Int),opV Pg (Zh .neq 34 c (.agg #[.int .i64 a0,.int .i64 a1,.int .i64 a2]) (.agg #[.int .i64 b0,.int .i64 b1,.int .i64 b2])) QP w k=k (.bool (!(decide (a0=b0)&&(decide (a1=b1)&&(decide (a2=b2)&&true))))) w):=(by intro c a0 b0 a1 b1 a2 b2;exact Ac (by kernel_rfl) (λ w=>ZgB a0 b0 a1 b1 a2 b2) c)
theorem ZjS:(∀ c A n m,opV Pg (Zh .eql 118 c (.slice A n m) (.slice none 0 0)) QP w k=k (.bool A.isNone) w):=(Mh underlying118)
theorem ZjT:(∀ c (a0 b0:BAr) (a1 b1:Int),opV Pg (Zh .neq 128 c (.agg #[.string a0,.int .i64 a1]) (.agg #[.string b0,.int .i64 b1])) QP w k=k (.bool (!(decide (a0=b0)&&(decide (a1=b1)&&true)))) w):=(by intro c a0 b0 a1 b1;exact Ac (by kernel_rfl) (λ w=>Zcw a0 b0 a1 b1) c)
theorem ZjU:(∀ d v,opV Pg (Zh .neq 162 true (.iface d v) .nilIface) QP w k=k (.bool true) w):=(Vu underlying162)
theorem ZjV:(opV Pg (Zh .neq 162 true .nilIface .nilIface) QP w k=k (.bool false) w):=(Vt underlying162)
theorem ZjW:(∀ c (a0 b0:Int) (a1 b1:Int) (a2 b2:BAr),opV Pg (Zh .neq 213 c (.agg #[.int .i64 a0,.int .i64 a1,.string a2]) (.agg #[.int .i64 b0,.int .i64 b1,.string b2])) QP w k=k (.bool (!(decide (a0=b0)&&(decide (a1=b1)&&(decide (a2=b2)&&true))))) w):=(by intro c a0 b0 a1 b1 a2 b2;exact Ac (by kernel_rfl) (λ w=>Zcx a0 b0 a1 b1 a2 b2) c)
theorem ZjX:(∀ c (a0 b0:BAr) (a1 b1:BAr) (a2 b2:BAr) (a3 b3:BAr) (a4 b4:Int) (a5 b5:Int) (a6 b6:Int) (a7 b7:Int) (a8 b8:Int) (a9 b9:Int) (a10 b10:Int) (a11 b11:Bool) (a12 b12:Bool),opV Pg (Zh .eql 287 c (.agg #[.string a0,.string a1,.string a2,.string a3,.int .i64 a4,.int .i64 a5,.int .i64 a6,.int .i64 a7,.int .i64 a8,.int .i64 a9,.int .i64 a10,.bool a11,.bool a12]) (.agg #[.string b0,.string b1,.string b2,.string b3,.int .i64 b4,.int .i64 b5,.int .i64 b6,.int .i64 b7,.int .i64 b8,.int .i64 b9,.int .i64 b10,.bool b11,.bool b12])) QP w k=k (.bool (decide (a0=b0)&&(decide (a1=b1)&&(decide (a2=b2)&&(decide (a3=b3)&&(decide (a4=b4)&&(decide (a5=b5)&&(decide (a6=b6)&&(decide (a7=b7)&&(decide (a8=b8)&&(decide (a9=b9)&&(decide (a10=b10)&&(decide (a11=b11)&&(decide (a12=b12)&&true)))))))))))))) w):=(by intro c a0 b0 a1 b1 a2 b2 a3 b3 a4 b4 a5 b5 a6 b6 a7 b7 a8 b8 a9 b9 a10 b10 a11 b11 a12 b12;exact PA (by kernel_rfl) (λ w=>Zcy a0 b0 a1 b1 a2 b2 a3 b3 a4 b4 a5 b5 a6 b6 a7 b7 a8 b8 a9 b9 a10 b10 a11 b11 a12 b12) c)
end
theorem Yi {P:Program} {C:WPr} [Yn C] {k:Vl→Prop} {s:Nat→Nat→Sem Vl} {v:Nat→Nat→Vl} (h:∀ QP w k b o,opV P (s b o) QP w k=k (v b o) w) (b o:Nat):qV P C (s b o) k=k (v b o):=Ym λ QP w k=>h QP w k b o
def Zfm {QP:PEn} {w:Wd} {ku:WPr}:=And.intro (Y6 (QP:=QP) (w:=w) (ku:=ku) ty3)<|And.intro (Y6 (QP:=QP) (w:=w) (ku:=ku) ty4)<|And.intro (Y6 (QP:=QP) (w:=w) (ku:=ku) ty5)<|And.intro (Y6 (QP:=QP) (w:=w) (ku:=ku) ty9)<|And.intro (Y6 (QP:=QP) (w:=w) (ku:=ku) Ik)<|And.intro (Y6 (QP:=QP) (w:=w) (ku:=ku) FB)<|And.intro (Y6 (QP:=QP) (w:=w) (ku:=ku) Bi)<|And.intro (Y6 (QP:=QP) (w:=w) (ku:=ku) Im)<|And.intro ((by intro b T' u0 u1 u2 u3 u4 u5 u6 v0 v1 v2 v3 v4 v5 v6 hb h0 h1 h2 h3 h4 h5 h6;exact yU Ua b hb _ T' _ rfl rfl (by intro v hv;simp only [List.mem_cons,List.not_mem_nil,or_false] at hv;rcases hv with rfl | rfl | rfl | rfl | rfl | rfl | rfl<;>assumption)):(∀ (b:Nat) (T':TypeId) u0 u1 u2 u3 u4 u5 u6 v0 v1 v2 v3 v4 v5 v6,b=w.heap.size→v0.oneCell'=true→v1.oneCell'=true→v2.oneCell'=true→v3.oneCell'=true→v4.oneCell'=true→v5.oneCell'=true→v6.oneCell'=true→opU Pg (storeAt 43 (.pointer (some ⟨b,0,none⟩)) (.agg #[v0,v1,v2,v3,v4,v5,v6])) QP (w.alloc (.cells #[u0,u1,u2,u3,u4,u5,u6] T')) ku=ku (w.alloc (.cells #[v0,v1,v2,v3,v4,v5,v6] T'))))<|And.intro (Y6 (QP:=QP) (w:=w) (ku:=ku) Zb2)<|And.intro (Y6 (QP:=QP) (w:=w) (ku:=ku) In)<|And.intro (Y6 (QP:=QP) (w:=w) (ku:=ku) SU)<|And.intro (Y6 (QP:=QP) (w:=w) (ku:=ku) AJ)<|And.intro (Y6 (QP:=QP) (w:=w) (ku:=ku) x8)<|And.intro ((by intro b T' u0 u1 u2 u3 u4 u5 u6 u7 u8 u9 u10 u11 u12 u13 u14 v0 v1 v2 v3 v4 v5 v6 v7 v8 v9 v10 v11 v12 v13 v14 hb h0 h1 h2 h3 h4 h5 h6 h7 h8 h9 h10 h11 h12 h13 h14;exact yU WQ b hb _ T' _ rfl rfl (by intro v hv;simp only [List.mem_cons,List.not_mem_nil,or_false] at hv;rcases hv with rfl | rfl | rfl | rfl | rfl | rfl | rfl | rfl | rfl | rfl | rfl | rfl | rfl | rfl | rfl<;>assumption)):(∀ (b:Nat) (T':TypeId) u0 u1 u2 u3 u4 u5 u6 u7 u8 u9 u10 u11 u12 u13 u14 v0 v1 v2 v3 v4 v5 v6 v7 v8 v9 v10 v11 v12 v13 v14,b=w.heap.size→v0.oneCell'=true→v1.oneCell'=true→v2.oneCell'=true→v3.oneCell'=true→v4.oneCell'=true→v5.oneCell'=true→v6.oneCell'=true→v7.oneCell'=true→v8.oneCell'=true→v9.oneCell'=true→v10.oneCell'=true→v11.oneCell'=true→v12.oneCell'=true→v13.oneCell'=true→v14.oneCell'=true→opU Pg (storeAt 123 (.pointer (some ⟨b,0,none⟩)) (.agg #[v0,v1,v2,v3,v4,v5,v6,v7,v8,v9,v10,v11,v12,v13,v14])) QP (w.alloc (.cells #[u0,u1,u2,u3,u4,u5,u6,u7,u8,u9,u10,u11,u12,u13,u14] T')) ku=ku (w.alloc (.cells #[v0,v1,v2,v3,v4,v5,v6,v7,v8,v9,v10,v11,v12,v13,v14] T'))))<|And.intro (Y6 (QP:=QP) (w:=w) (ku:=ku) AK)<|And.intro ((by intro b T' u0 u1 u2 u3 u4 u5 u6 u7 u8 u9 u10 u11 u12 v0 v1 v2 v3 v4 v5 v6 v7 v8 v9 v10 v11 v12 hb h0 h1 h2 h3 h4 h5 h6 h7 h8 h9 h10 h11 h12;exact yU Lf b hb _ T' _ rfl rfl (by intro v hv;simp only [List.mem_cons,List.not_mem_nil,or_false] at hv;rcases hv with rfl | rfl | rfl | rfl | rfl | rfl | rfl | rfl | rfl | rfl | rfl | rfl | rfl<;>assumption)):(∀ (b:Nat) (T':TypeId) u0 u1 u2 u3 u4 u5 u6 u7 u8 u9 u10 u11 u12 v0 v1 v2 v3 v4 v5 v6 v7 v8 v9 v10 v11 v12,b=w.heap.size→v0.oneCell'=true→v1.oneCell'=true→v2.oneCell'=true→v3.oneCell'=true→v4.oneCell'=true→v5.oneCell'=true→v6.oneCell'=true→v7.oneCell'=true→v8.oneCell'=true→v9.oneCell'=true→v10.oneCell'=true→v11.oneCell'=true→v12.oneCell'=true→opU Pg (storeAt 287 (.pointer (some ⟨b,0,none⟩)) (.agg #[v0,v1,v2,v3,v4,v5,v6,v7,v8,v9,v10,v11,v12])) QP (w.alloc (.cells #[u0,u1,u2,u3,u4,u5,u6,u7,u8,u9,u10,u11,u12] T')) ku=ku (w.alloc (.cells #[v0,v1,v2,v3,v4,v5,v6,v7,v8,v9,v10,v11,v12] T'))))<|(Y6 (QP:=QP) (w:=w) (ku:=ku) Rs)
def Zfg {QP:PEn} {w:Wd} {ku:WPr}:=And.intro ((by intro b o v0 v1 h0 h1;exact Xe Dz b o _ rfl (by intro v hv;simp only [List.mem_cons,List.not_mem_nil,or_false] at hv;rcases hv with rfl | rfl<;>assumption) _ rfl _ rfl):(∀ b o v0 v1,v0.oneCell'=true→v1.oneCell'=true→opU Pg (storeAt 24 (.pointer (some ⟨b,o,none⟩)) (.agg #[v0,v1])) QP w ku=ZN [w.cell? ⟨b,o,none⟩,w.cell? ⟨b,o+1,none⟩] (λ _=>Xv [w.frozen? ⟨b,o,none⟩,w.frozen? ⟨b,o+1,none⟩] (ku ((w.setCell ⟨b,o,none⟩ v0).setCell ⟨b,o+1,none⟩ v1)) (QB Pg (storeAt 24 (.pointer (some ⟨b,o,none⟩)) (.agg #[v0,v1])) QP w ku)) (QB Pg (storeAt 24 (.pointer (some ⟨b,o,none⟩)) (.agg #[v0,v1])) QP w ku)))<|And.intro ((by intro b o v0 v1 v2 h0 h1 h2;exact Xe Bh b o _ rfl (by intro v hv;simp only [List.mem_cons,List.not_mem_nil,or_false] at hv;rcases hv with rfl | rfl | rfl<;>assumption) _ rfl _ rfl):(∀ b o v0 v1 v2,v0.oneCell'=true→v1.oneCell'=true→v2.oneCell'=true→opU Pg (storeAt 27 (.pointer (some ⟨b,o,none⟩)) (.agg #[v0,v1,v2])) QP w ku=ZN [w.cell? ⟨b,o,none⟩,w.cell? ⟨b,o+1,none⟩,w.cell? ⟨b,o+2,none⟩] (λ _=>Xv [w.frozen? ⟨b,o,none⟩,w.frozen? ⟨b,o+1,none⟩,w.frozen? ⟨b,o+2,none⟩] (ku (((w.setCell ⟨b,o,none⟩ v0).setCell ⟨b,o+1,none⟩ v1).setCell ⟨b,o+2,none⟩ v2)) (QB Pg (storeAt 27 (.pointer (some ⟨b,o,none⟩)) (.agg #[v0,v1,v2])) QP w ku)) (QB Pg (storeAt 27 (.pointer (some ⟨b,o,none⟩)) (.agg #[v0,v1,v2])) QP w ku)))<|And.intro ((by intro b o v0 v1 v2 h0 h1 h2;exact Xe Il b o _ rfl (by intro v hv;simp only [List.mem_cons,List.not_mem_nil,or_false] at hv;rcases hv with rfl | rfl | rfl<;>assumption) _ rfl _ rfl):(∀ b o v0 v1 v2,v0.oneCell'=true→v1.oneCell'=true→v2.oneCell'=true→opU Pg (storeAt 34 (.pointer (some ⟨b,o,none⟩)) (.agg #[v0,v1,v2])) QP w ku=ZN [w.cell? ⟨b,o,none⟩,w.cell? ⟨b,o+1,none⟩,w.cell? ⟨b,o+2,none⟩] (λ _=>Xv [w.frozen? ⟨b,o,none⟩,w.frozen? ⟨b,o+1,none⟩,w.frozen? ⟨b,o+2,none⟩] (ku (((w.setCell ⟨b,o,none⟩ v0).setCell ⟨b,o+1,none⟩ v1).setCell ⟨b,o+2,none⟩ v2)) (QB Pg (storeAt 34 (.pointer (some ⟨b,o,none⟩)) (.agg #[v0,v1,v2])) QP w ku)) (QB Pg (storeAt 34 (.pointer (some ⟨b,o,none⟩)) (.agg #[v0,v1,v2])) QP w ku)))<|And.intro ((by intro b o v0 v1 v2 h0 h1 h2;exact Xe AL b o _ rfl (by intro v hv;simp only [List.mem_cons,List.not_mem_nil,or_false] at hv;rcases hv with rfl | rfl | rfl<;>assumption) _ rfl _ rfl):(∀ b o v0 v1 v2,v0.oneCell'=true→v1.oneCell'=true→v2.oneCell'=true→opU Pg (storeAt 60 (.pointer (some ⟨b,o,none⟩)) (.agg #[v0,v1,v2])) QP w ku=ZN [w.cell? ⟨b,o,none⟩,w.cell? ⟨b,o+1,none⟩,w.cell? ⟨b,o+2,none⟩] (λ _=>Xv [w.frozen? ⟨b,o,none⟩,w.frozen? ⟨b,o+1,none⟩,w.frozen? ⟨b,o+2,none⟩] (ku (((w.setCell ⟨b,o,none⟩ v0).setCell ⟨b,o+1,none⟩ v1).setCell ⟨b,o+2,none⟩ v2)) (QB Pg (storeAt 60 (.pointer (some ⟨b,o,none⟩)) (.agg #[v0,v1,v2])) QP w ku)) (QB Pg (storeAt 60 (.pointer (some ⟨b,o,none⟩)) (.agg #[v0,v1,v2])) QP w ku)))<|And.intro ((by intro b o v0 v1 h0 h1;exact Xe xi b o _ rfl (by intro v hv;simp only [List.mem_cons,List.not_mem_nil,or_false] at hv;rcases hv with rfl | rfl<;>assumption) _ rfl _ rfl):(∀ b o v0 v1,v0.oneCell'=true→v1.oneCell'=true→opU Pg (storeAt 74 (.pointer (some ⟨b,o,none⟩)) (.agg #[v0,v1])) QP w ku=ZN [w.cell? ⟨b,o,none⟩,w.cell? ⟨b,o+1,none⟩] (λ _=>Xv [w.frozen? ⟨b,o,none⟩,w.frozen? ⟨b,o+1,none⟩] (ku ((w.setCell ⟨b,o,none⟩ v0).setCell ⟨b,o+1,none⟩ v1)) (QB Pg (storeAt 74 (.pointer (some ⟨b,o,none⟩)) (.agg #[v0,v1])) QP w ku)) (QB Pg (storeAt 74 (.pointer (some ⟨b,o,none⟩)) (.agg #[v0,v1])) QP w ku)))<|And.intro ((by intro b o v0 v1 v2 h0 h1 h2;exact Xe FC b o _ rfl (by intro v hv;simp only [List.mem_cons,List.not_mem_nil,or_false] at hv;rcases hv with rfl | rfl | rfl<;>assumption) _ rfl _ rfl):(∀ b o v0 v1 v2,v0.oneCell'=true→v1.oneCell'=true→v2.oneCell'=true→opU Pg (storeAt 78 (.pointer (some ⟨b,o,none⟩)) (.agg #[v0,v1,v2])) QP w ku=ZN [w.cell? ⟨b,o,none⟩,w.cell? ⟨b,o+1,none⟩,w.cell? ⟨b,o+2,none⟩] (λ _=>Xv [w.frozen? ⟨b,o,none⟩,w.frozen? ⟨b,o+1,none⟩,w.frozen? ⟨b,o+2,none⟩] (ku (((w.setCell ⟨b,o,none⟩ v0).setCell ⟨b,o+1,none⟩ v1).setCell ⟨b,o+2,none⟩ v2)) (QB Pg (storeAt 78 (.pointer (some ⟨b,o,none⟩)) (.agg #[v0,v1,v2])) QP w ku)) (QB Pg (storeAt 78 (.pointer (some ⟨b,o,none⟩)) (.agg #[v0,v1,v2])) QP w ku)))<|And.intro ((by intro b o v0 v1 v2 v3 v4 h0 h1 h2 h3 h4;exact Xe UB b o _ rfl (by intro v hv;simp only [List.mem_cons,List.not_mem_nil,or_false] at hv;rcases hv with rfl | rfl | rfl | rfl | rfl<;>assumption) _ rfl _ rfl):(∀ b o v0 v1 v2 v3 v4,v0.oneCell'=true→v1.oneCell'=true→v2.oneCell'=true→v3.oneCell'=true→v4.oneCell'=true→opU Pg (storeAt 105 (.pointer (some ⟨b,o,none⟩)) (.agg #[v0,v1,v2,v3,v4])) QP w ku=ZN [w.cell? ⟨b,o,none⟩,w.cell? ⟨b,o+1,none⟩,w.cell? ⟨b,o+2,none⟩,w.cell? ⟨b,o+3,none⟩,w.cell? ⟨b,o+4,none⟩] (λ _=>Xv [w.frozen? ⟨b,o,none⟩,w.frozen? ⟨b,o+1,none⟩,w.frozen? ⟨b,o+2,none⟩,w.frozen? ⟨b,o+3,none⟩,w.frozen? ⟨b,o+4,none⟩] (ku (((((w.setCell ⟨b,o,none⟩ v0).setCell ⟨b,o+1,none⟩ v1).setCell ⟨b,o+2,none⟩ v2).setCell ⟨b,o+3,none⟩ v3).setCell ⟨b,o+4,none⟩ v4)) (QB Pg (storeAt 105 (.pointer (some ⟨b,o,none⟩)) (.agg #[v0,v1,v2,v3,v4])) QP w ku)) (QB Pg (storeAt 105 (.pointer (some ⟨b,o,none⟩)) (.agg #[v0,v1,v2,v3,v4])) QP w ku)))<|And.intro ((by intro b o v0 v1 h0 h1;exact Xe Gb b o _ rfl (by intro v hv;simp only [List.mem_cons,List.not_mem_nil,or_false] at hv;rcases hv with rfl | rfl<;>assumption) _ rfl _ rfl):(∀ b o v0 v1,v0.oneCell'=true→v1.oneCell'=true→opU Pg (storeAt 120 (.pointer (some ⟨b,o,none⟩)) (.agg #[v0,v1])) QP w ku=ZN [w.cell? ⟨b,o,none⟩,w.cell? ⟨b,o+1,none⟩] (λ _=>Xv [w.frozen? ⟨b,o,none⟩,w.frozen? ⟨b,o+1,none⟩] (ku ((w.setCell ⟨b,o,none⟩ v0).setCell ⟨b,o+1,none⟩ v1)) (QB Pg (storeAt 120 (.pointer (some ⟨b,o,none⟩)) (.agg #[v0,v1])) QP w ku)) (QB Pg (storeAt 120 (.pointer (some ⟨b,o,none⟩)) (.agg #[v0,v1])) QP w ku)))<|And.intro ((by intro b o v0 v1 h0 h1;exact Xe Gc b o _ rfl (by intro v hv;simp only [List.mem_cons,List.not_mem_nil,or_false] at hv;rcases hv with rfl | rfl<;>assumption) _ rfl _ rfl):(∀ b o v0 v1,v0.oneCell'=true→v1.oneCell'=true→opU Pg (storeAt 128 (.pointer (some ⟨b,o,none⟩)) (.agg #[v0,v1])) QP w ku=ZN [w.cell? ⟨b,o,none⟩,w.cell? ⟨b,o+1,none⟩] (λ _=>Xv [w.frozen? ⟨b,o,none⟩,w.frozen? ⟨b,o+1,none⟩] (ku ((w.setCell ⟨b,o,none⟩ v0).setCell ⟨b,o+1,none⟩ v1)) (QB Pg (storeAt 128 (.pointer (some ⟨b,o,none⟩)) (.agg #[v0,v1])) QP w ku)) (QB Pg (storeAt 128 (.pointer (some ⟨b,o,none⟩)) (.agg #[v0,v1])) QP w ku)))<|And.intro ((by intro b o v0 v1 v2 h0 h1 h2;exact Xe Ce b o _ rfl (by intro v hv;simp only [List.mem_cons,List.not_mem_nil,or_false] at hv;rcases hv with rfl | rfl | rfl<;>assumption) _ rfl _ rfl):(∀ b o v0 v1 v2,v0.oneCell'=true→v1.oneCell'=true→v2.oneCell'=true→opU Pg (storeAt 131 (.pointer (some ⟨b,o,none⟩)) (.agg #[v0,v1,v2])) QP w ku=ZN [w.cell? ⟨b,o,none⟩,w.cell? ⟨b,o+1,none⟩,w.cell? ⟨b,o+2,none⟩] (λ _=>Xv [w.frozen? ⟨b,o,none⟩,w.frozen? ⟨b,o+1,none⟩,w.frozen? ⟨b,o+2,none⟩] (ku (((w.setCell ⟨b,o,none⟩ v0).setCell ⟨b,o+1,none⟩ v1).setCell ⟨b,o+2,none⟩ v2)) (QB Pg (storeAt 131 (.pointer (some ⟨b,o,none⟩)) (.agg #[v0,v1,v2])) QP w ku)) (QB Pg (storeAt 131 (.pointer (some ⟨b,o,none⟩)) (.agg #[v0,v1,v2])) QP w ku)))<|And.intro ((by intro b o v0 v1 v2 h0 h1 h2;exact Xe Fz b o _ rfl (by intro v hv;simp only [List.mem_cons,List.not_mem_nil,or_false] at hv;rcases hv with rfl | rfl | rfl<;>assumption) _ rfl _ rfl):(∀ b o v0 v1 v2,v0.oneCell'=true→v1.oneCell'=true→v2.oneCell'=true→opU Pg (storeAt 213 (.pointer (some ⟨b,o,none⟩)) (.agg #[v0,v1,v2])) QP w ku=ZN [w.cell? ⟨b,o,none⟩,w.cell? ⟨b,o+1,none⟩,w.cell? ⟨b,o+2,none⟩] (λ _=>Xv [w.frozen? ⟨b,o,none⟩,w.frozen? ⟨b,o+1,none⟩,w.frozen? ⟨b,o+2,none⟩] (ku (((w.setCell ⟨b,o,none⟩ v0).setCell ⟨b,o+1,none⟩ v1).setCell ⟨b,o+2,none⟩ v2)) (QB Pg (storeAt 213 (.pointer (some ⟨b,o,none⟩)) (.agg #[v0,v1,v2])) QP w ku)) (QB Pg (storeAt 213 (.pointer (some ⟨b,o,none⟩)) (.agg #[v0,v1,v2])) QP w ku)))<|And.intro ((by intro b o v0 v1 h0 h1;exact Xe FA b o _ rfl (by intro v hv;simp only [List.mem_cons,List.not_mem_nil,or_false] at hv;rcases hv with rfl | rfl<;>assumption) _ rfl _ rfl):(∀ b o v0 v1,v0.oneCell'=true→v1.oneCell'=true→opU Pg (storeAt 255 (.pointer (some ⟨b,o,none⟩)) (.agg #[v0,v1])) QP w ku=ZN [w.cell? ⟨b,o,none⟩,w.cell? ⟨b,o+1,none⟩] (λ _=>Xv [w.frozen? ⟨b,o,none⟩,w.frozen? ⟨b,o+1,none⟩] (ku ((w.setCell ⟨b,o,none⟩ v0).setCell ⟨b,o+1,none⟩ v1)) (QB Pg (storeAt 255 (.pointer (some ⟨b,o,none⟩)) (.agg #[v0,v1])) QP w ku)) (QB Pg (storeAt 255 (.pointer (some ⟨b,o,none⟩)) (.agg #[v0,v1])) QP w ku)))<|And.intro ((by intro b o v0 v1 v2 h0 h1 h2;exact Xe Le b o _ rfl (by intro v hv;simp only [List.mem_cons,List.not_mem_nil,or_false] at hv;rcases hv with rfl | rfl | rfl<;>assumption) _ rfl _ rfl):(∀ b o v0 v1 v2,v0.oneCell'=true→v1.oneCell'=true→v2.oneCell'=true→opU Pg (storeAt 266 (.pointer (some ⟨b,o,none⟩)) (.agg #[v0,v1,v2])) QP w ku=ZN [w.cell? ⟨b,o,none⟩,w.cell? ⟨b,o+1,none⟩,w.cell? ⟨b,o+2,none⟩] (λ _=>Xv [w.frozen? ⟨b,o,none⟩,w.frozen? ⟨b,o+1,none⟩,w.frozen? ⟨b,o+2,none⟩] (ku (((w.setCell ⟨b,o,none⟩ v0).setCell ⟨b,o+1,none⟩ v1).setCell ⟨b,o+2,none⟩ v2)) (QB Pg (storeAt 266 (.pointer (some ⟨b,o,none⟩)) (.agg #[v0,v1,v2])) QP w ku)) (QB Pg (storeAt 266 (.pointer (some ⟨b,o,none⟩)) (.agg #[v0,v1,v2])) QP w ku)))<|((by intro b o v0 v1 h0 h1;exact Xe VZ b o _ rfl (by intro v hv;simp only [List.mem_cons,List.not_mem_nil,or_false] at hv;rcases hv with rfl | rfl<;>assumption) _ rfl _ rfl):(∀ b o v0 v1,v0.oneCell'=true→v1.oneCell'=true→opU Pg (storeAt 300 (.pointer (some ⟨b,o,none⟩)) (.agg #[v0,v1])) QP w ku=ZN [w.cell? ⟨b,o,none⟩,w.cell? ⟨b,o+1,none⟩] (λ _=>Xv [w.frozen? ⟨b,o,none⟩,w.frozen? ⟨b,o+1,none⟩] (ku ((w.setCell ⟨b,o,none⟩ v0).setCell ⟨b,o+1,none⟩ v1)) (QB Pg (storeAt 300 (.pointer (some ⟨b,o,none⟩)) (.agg #[v0,v1])) QP w ku)) (QB Pg (storeAt 300 (.pointer (some ⟨b,o,none⟩)) (.agg #[v0,v1])) QP w ku)))
section
def Zfn {w:Wd} {k:Vl→Prop}:=And.intro (XQ (w:=w) (k:=k) ty3)<|And.intro (Q4 (w:=w) (k:=k) ty3)<|And.intro (Q4 (w:=w) (k:=k) ty4)<|And.intro (XQ (w:=w) (k:=k) ty9)<|And.intro (Q4 (w:=w) (k:=k) ty9)<|And.intro (XQ (w:=w) (k:=k) Ik)<|And.intro (Q4 (w:=w) (k:=k) Ik)<|And.intro ((by intro b o;exact WL Dz b o _ rfl):(∀ b o,qV Pg (EC w) (loadAt 24 (.pointer (some ⟨b,o,none⟩))) k=ZN [w.cell? ⟨b,o,none⟩,w.cell? ⟨b,o+1,none⟩] (λ vs=>k (.agg vs.toArray)) (qVx Pg (EC w) (loadAt 24 (.pointer (some ⟨b,o,none⟩))) k)))<|And.intro ((by intro b o;exact WL Bh b o _ rfl):(∀ b o,qV Pg (EC w) (loadAt 27 (.pointer (some ⟨b,o,none⟩))) k=ZN [w.cell? ⟨b,o,none⟩,w.cell? ⟨b,o+1,none⟩,w.cell? ⟨b,o+2,none⟩] (λ vs=>k (.agg vs.toArray)) (qVx Pg (EC w) (loadAt 27 (.pointer (some ⟨b,o,none⟩))) k)))<|And.intro (XQ (w:=w) (k:=k) FB)<|And.intro (XQ (w:=w) (k:=k) Bi)<|And.intro ((by intro b o;exact WL Ua b o _ rfl):(∀ b o,qV Pg (EC w) (loadAt 43 (.pointer (some ⟨b,o,none⟩))) k=ZN [w.cell? ⟨b,o,none⟩,w.cell? ⟨b,o+1,none⟩,w.cell? ⟨b,o+2,none⟩,w.cell? ⟨b,o+3,none⟩,w.cell? ⟨b,o+4,none⟩,w.cell? ⟨b,o+5,none⟩,w.cell? ⟨b,o+6,none⟩] (λ vs=>k (.agg vs.toArray)) (qVx Pg (EC w) (loadAt 43 (.pointer (some ⟨b,o,none⟩))) k)))<|And.intro (XQ (w:=w) (k:=k) In)<|And.intro (Q4 (w:=w) (k:=k) In)<|And.intro (XQ (w:=w) (k:=k) MI)<|And.intro ((by intro b o;exact WL xi b o _ rfl):(∀ b o,qV Pg (EC w) (loadAt 74 (.pointer (some ⟨b,o,none⟩))) k=ZN [w.cell? ⟨b,o,none⟩,w.cell? ⟨b,o+1,none⟩] (λ vs=>k (.agg vs.toArray)) (qVx Pg (EC w) (loadAt 74 (.pointer (some ⟨b,o,none⟩))) k)))<|(XQ (w:=w) (k:=k) Ga)
def Zfo {w:Wd} {k:Vl→Prop}:=And.intro (XQ (w:=w) (k:=k) AJ)<|And.intro ((by intro b o;exact WL Gb b o _ rfl):(∀ b o,qV Pg (EC w) (loadAt 120 (.pointer (some ⟨b,o,none⟩))) k=ZN [w.cell? ⟨b,o,none⟩,w.cell? ⟨b,o+1,none⟩] (λ vs=>k (.agg vs.toArray)) (qVx Pg (EC w) (loadAt 120 (.pointer (some ⟨b,o,none⟩))) k)))<|And.intro (XQ (w:=w) (k:=k) x8)<|And.intro ((by intro b o;exact WL WQ b o _ rfl):(∀ b o,qV Pg (EC w) (loadAt 123 (.pointer (some ⟨b,o,none⟩))) k=ZN [w.cell? ⟨b,o,none⟩,w.cell? ⟨b,o+1,none⟩,w.cell? ⟨b,o+2,none⟩,w.cell? ⟨b,o+3,none⟩,w.cell? ⟨b,o+4,none⟩,w.cell? ⟨b,o+5,none⟩,w.cell? ⟨b,o+6,none⟩,w.cell? ⟨b,o+7,none⟩,w.cell? ⟨b,o+8,none⟩,w.cell? ⟨b,o+9,none⟩,w.cell? ⟨b,o+10,none⟩,w.cell? ⟨b,o+11,none⟩,w.cell? ⟨b,o+12,none⟩,w.cell? ⟨b,o+13,none⟩,w.cell? ⟨b,o+14,none⟩] (λ vs=>k (.agg vs.toArray)) (qVx Pg (EC w) (loadAt 123 (.pointer (some ⟨b,o,none⟩))) k)))<|And.intro ((by intro b o;exact WL Gc b o _ rfl):(∀ b o,qV Pg (EC w) (loadAt 128 (.pointer (some ⟨b,o,none⟩))) k=ZN [w.cell? ⟨b,o,none⟩,w.cell? ⟨b,o+1,none⟩] (λ vs=>k (.agg vs.toArray)) (qVx Pg (EC w) (loadAt 128 (.pointer (some ⟨b,o,none⟩))) k)))<|And.intro (XQ (w:=w) (k:=k) Rp)<|And.intro (Q4 (w:=w) (k:=k) Rp)<|And.intro (XQ (w:=w) (k:=k) Fy)<|And.intro (Q4 (w:=w) (k:=k) Fy)<|And.intro (XQ (w:=w) (k:=k) AK)<|And.intro (Q4 (w:=w) (k:=k) AK)<|And.intro ((by intro b o;exact WL Fz b o _ rfl):(∀ b o,qV Pg (EC w) (loadAt 213 (.pointer (some ⟨b,o,none⟩))) k=ZN [w.cell? ⟨b,o,none⟩,w.cell? ⟨b,o+1,none⟩,w.cell? ⟨b,o+2,none⟩] (λ vs=>k (.agg vs.toArray)) (qVx Pg (EC w) (loadAt 213 (.pointer (some ⟨b,o,none⟩))) k)))<|And.intro (Am (w:=w) (k:=k) ty4)<|And.intro ((by intro b o;exact QN Dz b o _ rfl):(∀ b o,qW Pg 24 (.pointer (some ⟨b,o,none⟩)) w k=ZN [w.cell? ⟨b,o,none⟩,w.cell? ⟨b,o+1,none⟩] (λ vs=>k (.agg vs.toArray)) (qWx Pg 24 (.pointer (some ⟨b,o,none⟩)) w k)))<|And.intro ((by intro b o;exact QN Bh b o _ rfl):(∀ b o,qW Pg 27 (.pointer (some ⟨b,o,none⟩)) w k=ZN [w.cell? ⟨b,o,none⟩,w.cell? ⟨b,o+1,none⟩,w.cell? ⟨b,o+2,none⟩] (λ vs=>k (.agg vs.toArray)) (qWx Pg 27 (.pointer (some ⟨b,o,none⟩)) w k)))<|And.intro ((by intro b o;exact QN Il b o _ rfl):(∀ b o,qW Pg 34 (.pointer (some ⟨b,o,none⟩)) w k=ZN [w.cell? ⟨b,o,none⟩,w.cell? ⟨b,o+1,none⟩,w.cell? ⟨b,o+2,none⟩] (λ vs=>k (.agg vs.toArray)) (qWx Pg 34 (.pointer (some ⟨b,o,none⟩)) w k)))<|And.intro (Am (w:=w) (k:=k) Bi)<|((by intro b o;exact QN Ua b o _ rfl):(∀ b o,qW Pg 43 (.pointer (some ⟨b,o,none⟩)) w k=ZN [w.cell? ⟨b,o,none⟩,w.cell? ⟨b,o+1,none⟩,w.cell? ⟨b,o+2,none⟩,w.cell? ⟨b,o+3,none⟩,w.cell? ⟨b,o+4,none⟩,w.cell? ⟨b,o+5,none⟩,w.cell? ⟨b,o+6,none⟩] (λ vs=>k (.agg vs.toArray)) (qWx Pg 43 (.pointer (some ⟨b,o,none⟩)) w k)))
def Zfp {w:Wd} {k:Vl→Prop}:=And.intro (Am (w:=w) (k:=k) Zb2)<|And.intro ((by intro b o;exact QN xi b o _ rfl):(∀ b o,qW Pg 74 (.pointer (some ⟨b,o,none⟩)) w k=ZN [w.cell? ⟨b,o,none⟩,w.cell? ⟨b,o+1,none⟩] (λ vs=>k (.agg vs.toArray)) (qWx Pg 74 (.pointer (some ⟨b,o,none⟩)) w k)))<|And.intro ((by intro b o;exact QN FC b o _ rfl):(∀ b o,qW Pg 78 (.pointer (some ⟨b,o,none⟩)) w k=ZN [w.cell? ⟨b,o,none⟩,w.cell? ⟨b,o+1,none⟩,w.cell? ⟨b,o+2,none⟩] (λ vs=>k (.agg vs.toArray)) (qWx Pg 78 (.pointer (some ⟨b,o,none⟩)) w k)))<|And.intro ((by intro b o;exact QN WQ b o _ rfl):(∀ b o,qW Pg 123 (.pointer (some ⟨b,o,none⟩)) w k=ZN [w.cell? ⟨b,o,none⟩,w.cell? ⟨b,o+1,none⟩,w.cell? ⟨b,o+2,none⟩,w.cell? ⟨b,o+3,none⟩,w.cell? ⟨b,o+4,none⟩,w.cell? ⟨b,o+5,none⟩,w.cell? ⟨b,o+6,none⟩,w.cell? ⟨b,o+7,none⟩,w.cell? ⟨b,o+8,none⟩,w.cell? ⟨b,o+9,none⟩,w.cell? ⟨b,o+10,none⟩,w.cell? ⟨b,o+11,none⟩,w.cell? ⟨b,o+12,none⟩,w.cell? ⟨b,o+13,none⟩,w.cell? ⟨b,o+14,none⟩] (λ vs=>k (.agg vs.toArray)) (qWx Pg 123 (.pointer (some ⟨b,o,none⟩)) w k)))<|And.intro ((by intro b o;exact QN Ce b o _ rfl):(∀ b o,qW Pg 131 (.pointer (some ⟨b,o,none⟩)) w k=ZN [w.cell? ⟨b,o,none⟩,w.cell? ⟨b,o+1,none⟩,w.cell? ⟨b,o+2,none⟩] (λ vs=>k (.agg vs.toArray)) (qWx Pg 131 (.pointer (some ⟨b,o,none⟩)) w k)))<|And.intro ((by intro b o;exact QN Lf b o _ rfl):(∀ b o,qW Pg 287 (.pointer (some ⟨b,o,none⟩)) w k=ZN [w.cell? ⟨b,o,none⟩,w.cell? ⟨b,o+1,none⟩,w.cell? ⟨b,o+2,none⟩,w.cell? ⟨b,o+3,none⟩,w.cell? ⟨b,o+4,none⟩,w.cell? ⟨b,o+5,none⟩,w.cell? ⟨b,o+6,none⟩,w.cell? ⟨b,o+7,none⟩,w.cell? ⟨b,o+8,none⟩,w.cell? ⟨b,o+9,none⟩,w.cell? ⟨b,o+10,none⟩,w.cell? ⟨b,o+11,none⟩,w.cell? ⟨b,o+12,none⟩] (λ vs=>k (.agg vs.toArray)) (qWx Pg 287 (.pointer (some ⟨b,o,none⟩)) w k)))<|((by intro b o;exact QN VZ b o _ rfl):(∀ b o,qW Pg 300 (.pointer (some ⟨b,o,none⟩)) w k=ZN [w.cell? ⟨b,o,none⟩,w.cell? ⟨b,o+1,none⟩] (λ vs=>k (.agg vs.toArray)) (qWx Pg 300 (.pointer (some ⟨b,o,none⟩)) w k)))
def Zfh {C:WPr} [Yn C] {k:Vl→Prop}:=And.intro ((by intros;apply Ym;intros;apply o11<;>assumption):(∀ b o len cap ik (i:Nat),i < len→qV Pg C (indexAt 22 (.slice (some ⟨b,o,none⟩) len cap) (.int ik (i:Int))) k=k (.pointer (some ⟨b,o+i*3,none⟩))))<|And.intro (Yi (C:=C) (k:=k) λ QP w k => @o13 QP w k)<|And.intro (Yi (C:=C) (k:=k) λ QP w k => @o21 QP w k)<|And.intro ((by intros;apply Ym;intros;apply o30<;>assumption):(∀ r a n c,qV Pg C (Builtin.len_ #[40] r #[.slice a n c]) k=k (.int .i64 (n:Int))))<|And.intro (Yi (C:=C) (k:=k) λ QP w k => @o36 QP w k)<|And.intro (Yi (C:=C) (k:=k) λ QP w k => @o37 QP w k)<|And.intro (Yi (C:=C) (k:=k) λ QP w k => @o38 QP w k)<|And.intro (Yi (C:=C) (k:=k) λ QP w k => @o39 QP w k)<|And.intro (Yi (C:=C) (k:=k) λ QP w k => @o40 QP w k)<|And.intro (Yi (C:=C) (k:=k) λ QP w k => @o41 QP w k)<|And.intro (Yi (C:=C) (k:=k) λ QP w k => @o50 QP w k)<|And.intro (Yi (C:=C) (k:=k) λ QP w k => @o51 QP w k)<|And.intro (Yi (C:=C) (k:=k) λ QP w k => @o52 QP w k)<|And.intro ((by intros;apply Ym;intros;apply o61<;>assumption):(∀ b o len cap ik (i:Nat),i < len→qV Pg C (indexAt 72 (.slice (some ⟨b,o,none⟩) len cap) (.int ik (i:Int))) k=k (.pointer (some ⟨b,o+i*15,none⟩))))<|And.intro (Yi (C:=C) (k:=k) λ QP w k => @o62 QP w k)<|And.intro (Yi (C:=C) (k:=k) λ QP w k => @o63 QP w k)<|And.intro (Yi (C:=C) (k:=k) λ QP w k => @o66 QP w k)<|And.intro (Yi (C:=C) (k:=k) λ QP w k => @o67 QP w k)<|And.intro (Yi (C:=C) (k:=k) λ QP w k => @o68 QP w k)<|And.intro (Yi (C:=C) (k:=k) λ QP w k => @o71 QP w k)<|(Yi (C:=C) (k:=k) λ QP w k => @o72 QP w k)
def Zfi {C:WPr} [Yn C] {k:Vl→Prop}:=And.intro (Yi (C:=C) (k:=k) λ QP w k => @o73 QP w k)<|And.intro (Yi (C:=C) (k:=k) λ QP w k => @o74 QP w k)<|And.intro (Yi (C:=C) (k:=k) λ QP w k => @o75 QP w k)<|And.intro ((by intros;apply Ym;intros;apply o80<;>assumption):(∀ b o len cap ik (i:Nat),i < len→qV Pg C (indexAt 94 (.slice (some ⟨b,o,none⟩) len cap) (.int ik (i:Int))) k=k (.pointer (some ⟨b,o+i*1,none⟩))))<|And.intro ((by intros;apply Ym;intros;apply o92<;>assumption):(∀ r a n c,qV Pg C (Builtin.len_ #[118] r #[.slice a n c]) k=k (.int .i64 (n:Int))))<|And.intro ((by intros;apply Ym;intros;apply o93<;>assumption):(∀ b o len cap ik (i:Nat),i < len→qV Pg C (indexAt 118 (.slice (some ⟨b,o,none⟩) len cap) (.int ik (i:Int))) k=k (.pointer (some ⟨b,o+i*2,none⟩))))<|And.intro (Yi (C:=C) (k:=k) λ QP w k => @o95 QP w k)<|And.intro (Yi (C:=C) (k:=k) λ QP w k => @o96 QP w k)<|And.intro ((by intros;apply Ym;intros;apply ZeI<;>assumption):(∀ b o len cap ik (i:Nat),i < len→qV Pg C (indexAt 121 (.slice (some ⟨b,o,none⟩) len cap) (.int ik (i:Int))) k=k (.pointer (some ⟨b,o+i*3,none⟩))))<|And.intro (Yi (C:=C) (k:=k) λ QP w k => @ZeJ QP w k)<|And.intro (Yi (C:=C) (k:=k) λ QP w k => @ZeK QP w k)<|And.intro (Yi (C:=C) (k:=k) λ QP w k => @ZeL QP w k)<|And.intro (Yi (C:=C) (k:=k) λ QP w k => @ZeM QP w k)<|And.intro (Yi (C:=C) (k:=k) λ QP w k => @ZeN QP w k)<|And.intro (Yi (C:=C) (k:=k) λ QP w k => @ZeO QP w k)<|And.intro (Yi (C:=C) (k:=k) λ QP w k => @ZeP QP w k)<|And.intro (Yi (C:=C) (k:=k) λ QP w k => @ZeQ QP w k)<|And.intro (Yi (C:=C) (k:=k) λ QP w k => @ZeR QP w k)<|And.intro (Yi (C:=C) (k:=k) λ QP w k => @ZeS QP w k)<|And.intro (Yi (C:=C) (k:=k) λ QP w k => @ZeT QP w k)<|And.intro (Yi (C:=C) (k:=k) λ QP w k => @ZeU QP w k)<|And.intro (Yi (C:=C) (k:=k) λ QP w k => @ZeV QP w k)<|And.intro (Yi (C:=C) (k:=k) λ QP w k => @ZeW QP w k)<|(Yi (C:=C) (k:=k) λ QP w k => @ZeX QP w k)
def Zfj {C:WPr} [Yn C] {k:Vl→Prop}:=And.intro (Yi (C:=C) (k:=k) λ QP w k => @ZeY QP w k)<|And.intro (Yi (C:=C) (k:=k) λ QP w k => @Ziq QP w k)<|And.intro ((by intros;apply Ym;intros;apply ZeZ<;>assumption):(∀ b o len cap ik (i:Nat),i < len→qV Pg C (indexAt 264 (.slice (some ⟨b,o,none⟩) len cap) (.int ik (i:Int))) k=k (.pointer (some ⟨b,o+i*3,none⟩))))<|And.intro (Yi (C:=C) (k:=k) λ QP w k => @Ze0 QP w k)<|And.intro (Yi (C:=C) (k:=k) λ QP w k => @Ze1 QP w k)<|And.intro ((by intros;apply Ym;intros;apply ZiY<;>assumption):(∀ v0 v1:Vl,v0.oneCell'=true→v1.oneCell'=true→qV Pg C (Instr.build 60 #[(0,v0),(1,v1)]) k=k (.agg #[v0,v1,.slice none 0 0])))<|And.intro ((by intros;apply Ym;intros;apply Ze2<;>assumption):(∀ v1:Vl,v1.oneCell'=true→qV Pg C (Instr.build 74 #[(1,v1)]) k=k (.agg #[.string ByteArray.empty,v1])))<|((by intros;apply Ym;intros;apply Zi4<;>assumption):(∀ v0 v1 v2:Vl,v0.oneCell'=true→v1.oneCell'=true→v2.oneCell'=true→qV Pg C (Instr.build 82 #[(0,v0),(1,v1),(2,v2)]) k=k (.agg #[v0,v1,v2])))
def Zfk {C:WPr} [Yn C] {k:Vl→Prop}:=And.intro ((by intros;apply Ym;intros;apply Zjj<;>assumption):(∀ v0 v1 v2:Vl,v0.oneCell'=true→v1.oneCell'=true→v2.oneCell'=true→qV Pg C (Instr.build 131 #[(0,v0),(1,v1),(2,v2)]) k=k (.agg #[v0,v1,v2])))<|And.intro ((by intros;apply Ym;intros;apply ZjO<;>assumption):(∀ v,qV Pg C (Instr.makeInterface 82 v) k=k (.iface 82 v)))<|((by intros;apply Ym;intros;apply ZjP<;>assumption):(∀ v,qV Pg C (Instr.makeInterface 131 v) k=k (.iface 131 v)))
def Zfl {C:WPr} [Yn C] {k:Vl→Prop}:=And.intro ((by intros;apply Ym;intros;apply ZjT<;>assumption):(∀ c (a0 b0:BAr) (a1 b1:Int),qV Pg C (Zh .neq 128 c (.agg #[.string a0,.int .i64 a1]) (.agg #[.string b0,.int .i64 b1])) k=k (.bool (!(decide (a0=b0)&&(decide (a1=b1)&&true))))))<|And.intro ((by intros;apply Ym;intros;apply ZjW<;>assumption):(∀ c (a0 b0:Int) (a1 b1:Int) (a2 b2:BAr),qV Pg C (Zh .neq 213 c (.agg #[.int .i64 a0,.int .i64 a1,.string a2]) (.agg #[.int .i64 b0,.int .i64 b1,.string b2])) k=k (.bool (!(decide (a0=b0)&&(decide (a1=b1)&&(decide (a2=b2)&&true)))))))<|((by intros;apply Ym;intros;apply ZjX<;>assumption):(∀ c (a0 b0:BAr) (a1 b1:BAr) (a2 b2:BAr) (a3 b3:BAr) (a4 b4:Int) (a5 b5:Int) (a6 b6:Int) (a7 b7:Int) (a8 b8:Int) (a9 b9:Int) (a10 b10:Int) (a11 b11:Bool) (a12 b12:Bool),qV Pg C (Zh .eql 287 c (.agg #[.string a0,.string a1,.string a2,.string a3,.int .i64 a4,.int .i64 a5,.int .i64 a6,.int .i64 a7,.int .i64 a8,.int .i64 a9,.int .i64 a10,.bool a11,.bool a12]) (.agg #[.string b0,.string b1,.string b2,.string b3,.int .i64 b4,.int .i64 b5,.int .i64 b6,.int .i64 b7,.int .i64 b8,.int .i64 b9,.int .i64 b10,.bool b11,.bool b12])) k=k (.bool (decide (a0=b0)&&(decide (a1=b1)&&(decide (a2=b2)&&(decide (a3=b3)&&(decide (a4=b4)&&(decide (a5=b5)&&(decide (a6=b6)&&(decide (a7=b7)&&(decide (a8=b8)&&(decide (a9=b9)&&(decide (a10=b10)&&(decide (a11=b11)&&(decide (a12=b12)&&true))))))))))))))))
end
def PR:=And.intro @GEN<|And.intro @HQ<|And.intro @CTL<|And.intro @GENQ<|And.intro @o0<|And.intro @o1<|And.intro @o2<|And.intro @o3<|And.intro @o5<|And.intro @o6<|And.intro @o7<|And.intro @o8<|And.intro @o9<|And.intro @o10<|And.intro @o11<|And.intro @o12<|And.intro @o13<|And.intro @o14<|And.intro @o15<|And.intro @o16<|And.intro @o17<|And.intro @o18<|And.intro @o19<|And.intro @o20<|And.intro @o21<|And.intro @o22<|And.intro @o23<|And.intro @o26<|And.intro @o27<|And.intro @o28<|And.intro @o29<|And.intro @o30<|And.intro @o31<|And.intro @o32<|And.intro @o33<|And.intro @o34<|And.intro @o35<|And.intro @o36<|And.intro @o37<|And.intro @o38<|And.intro @o39<|And.intro @o40<|And.intro @o41<|And.intro @o42<|And.intro @o43<|And.intro @o44<|And.intro @o45<|And.intro @o46<|And.intro @o47<|And.intro @o48<|And.intro @o50<|And.intro @o51<|And.intro @o52<|And.intro @o53<|And.intro @o54<|And.intro @o56<|And.intro @o57<|And.intro @o59<|And.intro @o60<|And.intro @o61<|And.intro @o62<|And.intro @o63<|And.intro @o64<|And.intro @o65<|And.intro @o66<|And.intro @o67<|And.intro @o68<|And.intro @o69<|And.intro @o70<|And.intro @o71<|And.intro @o74<|And.intro @o75<|And.intro @o78<|And.intro @o79<|And.intro @o80<|And.intro @o81<|And.intro @o82<|And.intro @o83<|And.intro @o84<|And.intro @o85<|And.intro @o86<|And.intro @o88<|And.intro @o89<|And.intro @o90<|And.intro @o91<|And.intro @o92<|And.intro @o93<|And.intro @o94<|And.intro @o95<|And.intro @o96<|And.intro @o97<|And.intro @o99<|And.intro @Zh8<|And.intro @ZeI<|And.intro @ZeJ<|And.intro @ZeK<|And.intro @ZeL<|And.intro @Zh9<|And.intro @Zia<|And.intro @ZeM<|And.intro @ZeN<|And.intro @ZeO<|And.intro @ZeP<|And.intro @ZeQ<|And.intro @ZeR<|And.intro @ZeS<|And.intro @Zib<|And.intro @Zic<|And.intro @Zid<|And.intro @Zie<|And.intro @ZeT<|And.intro @ZeU<|And.intro @Zif<|And.intro @Zig<|And.intro @Zih<|And.intro @Zii<|And.intro @Zij<|And.intro @Zik<|And.intro @Zil<|And.intro @Zim<|And.intro @Zin<|And.intro @Zio<|And.intro @Zip<|And.intro @ZeV<|And.intro @ZeW<|And.intro @ZeX<|And.intro @ZeY<|And.intro @Zir<|And.intro @Zis<|And.intro @Zit<|And.intro @Ziu<|And.intro @Ziv<|And.intro @Ziw<|And.intro @Zix<|And.intro @Ziy<|And.intro @Ziz<|And.intro @ZiA<|And.intro @ZiB<|And.intro @ZeZ<|And.intro @ZiC<|And.intro @Ze0<|And.intro @Ze1<|And.intro @ZiD<|And.intro @ZiE<|And.intro @ZiF<|And.intro @ZiG<|And.intro @ZiH<|And.intro @ZiI<|And.intro @ZiJ<|And.intro @ZiK<|And.intro @ZiL<|And.intro @ZiM<|And.intro @ZiN<|And.intro @ZiO<|And.intro @ZiP<|And.intro @ZiQ<|And.intro @ZiR<|And.intro @ZiS<|And.intro @ZiT<|And.intro @ZiU<|And.intro @ZiV<|And.intro @ZiW<|And.intro @ZiX<|And.intro @ZiZ<|And.intro @Zi0<|And.intro @Zi1<|And.intro @Ze2<|And.intro @Zi2<|And.intro @Zi3<|And.intro @Zi5<|And.intro @Zi6<|And.intro @Zi7<|And.intro @Zi8<|And.intro @Zi9<|And.intro @Zja<|And.intro @Zjb<|And.intro @Zjc<|And.intro @Zjd<|And.intro @Zje<|And.intro @Zjf<|And.intro @Zjg<|And.intro @Zjh<|And.intro @Zji<|And.intro @Zjk<|And.intro @Zjl<|And.intro @Zjm<|And.intro @Zjn<|And.intro @Zjo<|And.intro @Zjp<|And.intro @Zjq<|And.intro @Zjr<|And.intro @Zjs<|And.intro @Zjt<|And.intro @Zju<|And.intro @Zjv<|And.intro @Zjw<|And.intro @Zjx<|And.intro @Zjy<|And.intro @Zjz<|And.intro @ZjA<|And.intro @ZjB<|And.intro @ZjC<|And.intro @ZjD<|And.intro @ZjE<|And.intro @ZjF<|And.intro @ZjG<|And.intro @ZjH<|And.intro @ZjI<|And.intro @ZjJ<|And.intro @ZjK<|And.intro @ZjL<|And.intro @ZjM<|And.intro @ZjN<|And.intro @ZjQ<|And.intro @ZjR<|And.intro @ZjS<|And.intro @ZjU<|And.intro @ZjV<|And.intro @Zfm<|And.intro @Zfn<|And.intro @Zfo<|And.intro @Zfp<|And.intro @Zfh<|And.intro @Zfi<|And.intro @Zfj<|And.intro @Zfk<|And.intro @Zfl<|And.intro @joinK_eq<|And.intro @ZbQ<|And.intro @ZbW<|And.intro @Ea <| @PL
def QR:=And.intro @Zfg<|And.intro @Nj<|And.intro @EO<|And.intro @Dg<|And.intro @HJ<|And.intro @Di<|And.intro @Nv<|And.intro @LI<|And.intro @STD<|And.intro @By<|And.intro @Bz<|And.intro @BA<|And.intro @Lz<|And.intro @D5<|And.intro @P7<|And.intro @M9<|And.intro @F2<|And.intro @SO<|And.intro @MS<|And.intro @List.setIfInBounds_toArray.{0}<|And.intro @List.set_cons_zero.{0}<|And.intro @List.set_cons_succ.{0}<|And.intro @decide_true<|And.intro @decide_false<|And.intro @Bool.false_eq_true<|And.intro @Option.isSome_some.{0}<|And.intro @Option.isSome_none.{0}<|And.intro @Option.getD_some.{0}<|And.intro @Option.getD_none.{0}<|And.intro @Cu<|And.intro @YX<|And.intro @Option.map_some.{0,0}<|And.intro @List.getElem?_toArray.{0}<|And.intro @List.getElem?_cons_succ.{0}<|And.intro @List.getElem?_cons_zero.{0}<|And.intro @Nat.zero_add<|And.intro @World.size_alloc<|And.intro @World.size_setCell<|And.intro @World.size_drew<|And.intro @Bool.not_true<|And.intro @Bool.not_false<|And.intro @Bool.and_true<|And.intro @Bool.true_and<|And.intro @Bool.and_false<|And.intro @Bool.false_and<|And.intro @Bool.or_true<|And.intro @Bool.true_or<|And.intro @Bool.or_false<|And.intro @Bool.false_or <| @Bool.not_not
theorem SZ:type_of% (And.intro @World.size_alloc<|And.intro @World.size_setCell<|And.intro @World.size_drew<|And.intro @World.putObj_size <| @putW_size):=(And.intro @World.size_alloc<|And.intro @World.size_setCell<|And.intro @World.size_drew<|And.intro @World.putObj_size <| @putW_size)
theorem DI {p:Prop} (h:p:=by first | assumption | (simp only [ONE];done) | rfl | (simp only [SZ];done) | omega | (simp only [SZ] at *;omega)):p:=h
theorem ee {a b:Wd} (h:Ext a b:=by repeat' first | exact Ext.refl _ | assumption | apply Ext.alloc | apply Ext.wdrew | apply Ext.drew | (refine Ext.setCell ?_ (by first | omega | (simp only [SZ] at *;omega)) _) | (refine Ext.putObj ?_ (by first | omega | (simp only [SZ] at *;omega)) _) | (refine Ext.trans ?_ (by assumption))):Ext a b:=h
structure YU where
 field:BAr
 factor:Int
 deriving DecidableEq
structure xj where
 low:Int
 high:Int
 of:BAr
 deriving DecidableEq
structure Zt where
 name:BAr
 kind:Int
 bits:Int
 little:Bool
 loose:Bool
 low:Int
 high:Int
 base:Int
 terms:List YU
 of:BAr
 tag:BAr
 fr:BAr
 cases:List xj
 check:Int
 key:Int
 deriving DecidableEq
structure Y8 where
 name:BAr
 fields:List Zt
 deriving DecidableEq
structure Qk where
 name:BAr
 msgs:List Y8
 start:BAr
 deriving DecidableEq
abbrev xh (t:YU):List Vl:=[.string t.field,.int .i64 t.factor]
abbrev Lu (c:xj):List Vl:=[.int .i64 c.low,.int .i64 c.high,.string c.of]
abbrev Zv (f:Zt) (tv cv:Vl):List Vl:=[.string f.name,.int .i64 f.kind,.int .i64 f.bits,.bool f.little,.bool f.loose,.int .i64 f.low,.int .i64 f.high,.int .i64 f.base,tv,.string f.of,.string f.tag,.string f.fr,cv,.int .i64 f.check,.int .i64 f.key]
abbrev Yc (m:Y8) (fv:Vl):List Vl:=[.string m.name,fv]
abbrev Xk (d:Qk) (mv:Vl):List Vl:=[.string d.name,mv,.string d.start]
def Bl (_:Wd) (cs:List Vl) (t:YU):Prop:=cs=xh t
def SX (_:Wd) (cs:List Vl) (c:xj):Prop:=cs=Lu c
def ZW (w:Wd) (v:Vl) (l:List YU):Prop:=Zd w 2 Bl v l
def Yh (w:Wd) (v:Vl) (l:List xj):Prop:=Zd w 3 SX v l
def qx (w:Wd) (cs:List Vl) (f:Zt):Prop:=∃ tv cv,cs=Zv f tv cv∧ZW w tv f.terms∧Yh w cv f.cases
def YC (w:Wd) (v:Vl) (l:List Zt):Prop:=Zd w 15 qx v l
def MT (w:Wd) (cs:List Vl) (m:Y8):Prop:=∃ fv,cs=Yc m fv∧YC w fv m.fields
def Va (w:Wd) (v:Vl) (l:List Y8):Prop:=Zd w 2 MT v l
def Bk (_:Wd) (cs:List Vl) (b:UInt8):Prop:=cs=[.int .u8 b.toNat]
def Zb9 (_:Wd) (cs:List Vl) (b:Bool):Prop:=cs=[.bool b]
def GQ (_:Wd) (cs:List Vl) (s:BAr):Prop:=cs=[.string s]
def Zba (_:Wd) (cs:List Vl) (n:Int):Prop:=cs=[.int .i64 n]
theorem Em:qC Bl:=λ _ _ _ _ _ h=>h
theorem El:qC SX:=λ _ _ _ _ _ h=>h
theorem NF:qC Bk:=λ _ _ _ _ _ h=>h
theorem JE:qC GQ:=λ _ _ _ _ _ h=>h
theorem zQ:qC qx:=λ _ _ _ _ e ⟨tv,cv,h,h1,h2⟩=>⟨tv,cv,h,h1.ext Em e,h2.ext El e⟩
theorem Sf:qC MT:=λ _ _ _ _ e ⟨fv,h,h1⟩=>⟨fv,h,h1.ext zQ e⟩
theorem ZW.ext {w w':Wd} {v:Vl} {l:List YU} (h:ZW w v l) (e:Ext w w'):ZW w' v l:=Zd.ext Em h e
theorem Yh.ext {w w':Wd} {v:Vl} {l:List xj} (h:Yh w v l) (e:Ext w w'):Yh w' v l:=Zd.ext El h e
theorem YC.ext {w w':Wd} {v:Vl} {l:List Zt} (h:YC w v l) (e:Ext w w'):YC w' v l:=Zd.ext zQ h e
theorem Va.ext {w w':Wd} {v:Vl} {l:List Y8} (h:Va w v l) (e:Ext w w'):Va w' v l:=Zd.ext Sf h e
theorem qx.op {w:Wd} {cs:List Vl} {f:Zt} (h:qx w cs f):∃ tv cv,cs=Zv f tv cv∧ZW w tv f.terms∧Yh w cv f.cases∧tv.oneCell'=true∧cv.oneCell'=true:=by
 obtain ⟨tv,cv,h1,h2,h3⟩:=h;exact ⟨tv,cv,h1,h2,h3,Zd.oneCell h2,Zd.oneCell h3⟩
def ZZ (w:Wd) (v:Vl) (f:Zt):Prop:=∃ tv cv,v = .agg (Zv f tv cv).toArray∧ZW w tv f.terms∧Yh w cv f.cases
def QV (w:Wd) (v:Vl) (m:Y8):Prop:=∃ fv,v = .agg (Yc m fv).toArray∧YC w fv m.fields
def XU (w:Wd) (v:Vl) (d:Qk):Prop:=∃ mv,v = .agg (Xk d mv).toArray∧Va w mv d.msgs
def GW (w:Wd) (v:Vl) (base:Int) (ts:List YU):Prop:=∃ tv,v = .agg #[.int .i64 base,tv]∧ZW w tv ts
def VX (t:YU):Vl := .agg (xh t).toArray
theorem ZZ.ext {w w':Wd} {v:Vl} {f:Zt} (h:ZZ w v f) (e:Ext w w'):ZZ w' v f:=by obtain ⟨tv,cv,h,h1,h2⟩:=h;exact ⟨tv,cv,h,h1.ext e,h2.ext e⟩
theorem ZZ.op {w:Wd} {v:Vl} {f:Zt} (h:ZZ w v f):∃ tv cv,v = .agg (Zv f tv cv).toArray∧ZW w tv f.terms∧Yh w cv f.cases∧tv.oneCell'=true∧cv.oneCell'=true:=by
 obtain ⟨tv,cv,h1,h2,h3⟩:=h;exact ⟨tv,cv,h1,h2,h3,Zd.oneCell h2,Zd.oneCell h3⟩
theorem QV.ext {w w':Wd} {v:Vl} {m:Y8} (h:QV w v m) (e:Ext w w'):QV w' v m:=by obtain ⟨fv,h,h1⟩:=h;exact ⟨fv,h,h1.ext e⟩
theorem XU.ext {w w':Wd} {v:Vl} {d:Qk} (h:XU w v d) (e:Ext w w'):XU w' v d:=by obtain ⟨fv,h,h1⟩:=h;exact ⟨fv,h,h1.ext e⟩
def Uh {α:Type} (w0:Wd) (V:Wd→Vl→α→Prop) (g:FuncId) (caps:AVl) (p:α→Bool) (l:List α):Prop:=
 ∀ w v x,x∈l→Ext w0 w→V w v x→Ret Pg g (#[v]++caps) w λ r w'=>r = .bool (p x)∧Ext w w'
structure Qm where
 low:Int
 high:Int
 to:Int
 deriving DecidableEq
structure FrD where
 to:BAr
 kind:Int
 fr:BAr
 add:Int
 value:Int
 bytes:List UInt8
 table:List Qm
 deriving DecidableEq
structure MrD where
 fr:BAr
 to:BAr
 fields:List FrD
 deriving DecidableEq
structure YG where
 name:BAr
 rules:List MrD
 deriving DecidableEq
abbrev Z6 (x:Qm):List Vl:=[.int .i64 x.low,.int .i64 x.high,.int .i64 x.to]
abbrev ZB (x:FrD) (bv tv:Vl):List Vl:=[.string x.to,.int .i64 x.kind,.string x.fr,.int .i64 x.add,.int .i64 x.value,bv,tv]
abbrev YY (x:MrD) (fv:Vl):List Vl:=[.string x.fr,.string x.to,fv]
abbrev Yb (m:YG) (rv:Vl):List Vl:=[.string m.name,rv]
def RD (_:Wd) (cs:List Vl) (x:Qm):Prop:=cs=Z6 x
theorem Sh:qC RD:=λ _ _ _ _ _ h=>h
def AU (w:Wd) (v:Vl) (l:List UInt8):Prop:=Zd w 1 Bk v l
def WR (w:Wd) (v:Vl) (l:List Qm):Prop:=Zd w 3 RD v l
section
variable {w w':Wd} {v:Vl}
theorem AU.ext {l:List UInt8} (h:AU w v l) (e:Ext w w'):AU w' v l:=Zd.ext NF h e
theorem WR.ext {l:List Qm} (h:WR w v l) (e:Ext w w'):WR w' v l:=Zd.ext Sh h e
end
def EFr (w:Wd) (cs:List Vl) (x:FrD):Prop:=∃ bv tv,cs=ZB x bv tv∧AU w bv x.bytes∧WR w tv x.table
theorem NG:qC EFr:=λ _ _ _ _ e ⟨bv,tv,h,h1,h2⟩=>⟨bv,tv,h,h1.ext e,h2.ext e⟩
def WB (w:Wd) (v:Vl) (l:List FrD):Prop:=Zd w 7 EFr v l
theorem WB.ext {w w':Wd} {v:Vl} {l:List FrD} (h:WB w v l) (e:Ext w w'):WB w' v l:=Zd.ext NG h e
def EMr (w:Wd) (cs:List Vl) (x:MrD):Prop:=∃ fv,cs=YY x fv∧WB w fv x.fields
theorem Zbt:qC EMr:=λ _ _ _ _ e ⟨fv,h,h1⟩=>⟨fv,h,h1.ext e⟩
def Kg (w:Wd) (v:Vl) (l:List MrD):Prop:=Zd w 3 EMr v l
theorem Kg.ext {w w':Wd} {v:Vl} {l:List MrD} (h:Kg w v l) (e:Ext w w'):Kg w' v l:=Zd.ext Zbt h e
def QH (w:Wd) (v:Vl) (x:FrD):Prop:=∃ bv tv,v = .agg (ZB x bv tv).toArray∧AU w bv x.bytes∧WR w tv x.table
def GU (w:Wd) (v:Vl) (x:MrD):Prop:=∃ fv,v = .agg (YY x fv).toArray∧WB w fv x.fields
def Y3 (w:Wd) (v:Vl) (m:YG):Prop:=∃ rv,v = .agg (Yb m rv).toArray∧Kg w rv m.rules
section
variable {w w':Wd} {v:Vl}
theorem QH.ext {x:FrD} (h:QH w v x) (e:Ext w w'):QH w' v x:=by obtain ⟨bv,tv,h,h1,h2⟩:=h;exact ⟨bv,tv,h,h1.ext e,h2.ext e⟩
theorem GU.ext {x:MrD} (h:GU w v x) (e:Ext w w'):GU w' v x:=by obtain ⟨fv,h,h1⟩:=h;exact ⟨fv,h,h1.ext e⟩
theorem Y3.ext {x:YG} (h:Y3 w v x) (e:Ext w w'):Y3 w' v x:=by obtain ⟨fv,h,h1⟩:=h;exact ⟨fv,h,h1.ext e⟩
theorem QH.op {x:FrD} (h:QH w v x):∃ bv tv,v = .agg (ZB x bv tv).toArray∧AU w bv x.bytes∧WR w tv x.table∧bv.oneCell'=true∧tv.oneCell'=true:=by
 obtain ⟨bv,tv,h,h1,h2⟩:=h;exact ⟨bv,tv,h,h1,h2,Zd.oneCell h1,Zd.oneCell h2⟩
theorem GU.op {x:MrD} (h:GU w v x):∃ fv,v = .agg (YY x fv).toArray∧WB w fv x.fields∧fv.oneCell'=true:=by
 obtain ⟨fv,h,h1⟩:=h;exact ⟨fv,h,h1,Zd.oneCell h1⟩
theorem Y3.op {x:YG} (h:Y3 w v x):∃ rv,v = .agg (Yb x rv).toArray∧Kg w rv x.rules∧rv.oneCell'=true:=by
 obtain ⟨fv,h,h1⟩:=h;exact ⟨fv,h,h1,Zd.oneCell h1⟩
theorem EFr.op {cs:List Vl} {x:FrD} (h:EFr w cs x):∃ bv tv,cs=ZB x bv tv∧AU w bv x.bytes∧WR w tv x.table∧bv.oneCell'=true∧tv.oneCell'=true:=by
 obtain ⟨bv,tv,h,h1,h2⟩:=h;exact ⟨bv,tv,h,h1,h2,Zd.oneCell h1,Zd.oneCell h2⟩
theorem EMr.op {cs:List Vl} {x:MrD} (h:EMr w cs x):∃ fv,cs=YY x fv∧WB w fv x.fields∧fv.oneCell'=true:=by
 obtain ⟨fv,h,h1⟩:=h;exact ⟨fv,h,h1,Zd.oneCell h1⟩
end
def Q9 (f:Zt):Int:=if f.kind=1∨f.kind=3 then 1 else if f.kind=4∨f.kind=5 then 2 else if f.kind=6 then 3 else if f.kind=7 then 4 else if f.kind=8∨f.kind=12 then 5 else if f.kind=9 then 6 else 0
def Qj (n:Int):Bool:=decide (0≤n)&&decide (n < 34359738368)
def UX (n:Int):Bool:=decide (-34359738368 < n)&&decide (n < 34359738368)
structure AX where
 fr:Bool
 add:Bool
 value:Bool
 bytes:Bool
 table:Bool
def XK (k:Int):Option AX:=if k=1 then some ⟨true,false,false,false,false⟩ else if k=2 then some ⟨true,true,false,false,false⟩ else if k=3 then some ⟨false,false,true,false,false⟩ else if k=4 then some ⟨false,false,false,true,false⟩ else if k=5 then some ⟨true,false,false,false,true⟩ else if k=6 then some ⟨true,false,false,false,false⟩ else if k=7 then some ⟨false,false,false,false,false⟩ else none
def V3 (r:FrD) (u:AX):Bool:=(u.fr||decide (r.fr=⟨#[]⟩))&&((u.add||decide (r.add=0))&&((u.value||decide (r.value=0))&&((u.bytes||decide (r.bytes.length=0))&&(u.table||decide (r.table.length=0)))))
def XZ (m:Y8) (s:BAr):Option Zt:=m.fields.find? λ f=>decide (f.name=s)
def CF (o:Option Zt):Int:=match o with
 | none=>0
 | some f=>Q9 f
def Jj (last:Int):List Qm→Bool
 | []=>true
 | x::l=>decide (last < x.low)&&(decide (x.low≤x.high)&&(Qj x.high&&(Qj x.to&&Jj x.high l)))
def QG (l:List Qm):Int:=if l.length < 1∨40 < l.length then 2 else if Jj (-1) l=true then 0 else 8
def I9 (o:Option Zt):List BAr:=match o with
 | none=>[]
 | some f=>if f.kind=9 then f.cases.map (·.of) else [f.of]
def VA (m:YG) (s:BAr):Option Nat:=m.rules.findIdx? λ r=>decide (r.fr=s)
def okN (m:YG) (T:List BAr) (s:BAr):Bool:=match m.rules.find? λ r=>decide (r.fr=s) with
 | none=>false
 | some r=>T.any λ y=>decide (r.to=y)
def I2 (m:YG) (f t:Option Zt):Int:=if (I9 f).all (okN m (I9 t))=true then 0 else 9
def QY (m:YG) (r:FrD) (f t:Option Zt):Int:=
 let x:=CF f
 let y:=CF t
 if r.kind=1 then (if x≠y∨3 < y then 5 else 0)
 else if r.kind=2 then (if x≠1∨y≠1 then 5 else if UX r.add=true then 0 else 8)
 else if r.kind=3 then (if y≠1 then 5 else if Qj r.value=true then 0 else 8)
 else if r.kind=4 then (if y≠2 then 5 else if 1000 < r.bytes.length then 2 else 0)
 else if r.kind=5 then (if x≠1∨y≠1 then 5 else QG r.table)
 else if r.kind=6 then (if x≠y∨y < 4 then 5 else I2 m f t)
 else (if y≠1 then 5 else 0)
def A7 (m:YG) (r:FrD) (a b:Y8) (before:List FrD):Int:=
 if CF (XZ b r.to)=0 then 5
 else if (before.any λ x=>decide (x.to=r.to))=true then 4
 else match XK r.kind with
  | none=>6
  | some u=>if V3 r u=false then 7 else QY m r (XZ a r.fr) (XZ b r.to)
def QT (m:YG) (a b:Y8) (all:List FrD):Nat→List FrD→Int×Int
 | _,[]=>(-1,0)
 | k,r::l=>if A7 m r a b (all.take k)≠0 then ((k:Int),A7 m r a b (all.take k)) else QT m a b all (k+1) l
def Et (d:Qk) (s:BAr):Option Y8:=d.msgs.find? λ x=>decide (x.name=s)
def J0 (fs:List FrD) (f:Zt):Bool:=!(fs.any λ x=>decide (x.to=f.name))&&decide (Q9 f≠0)
def B6 (m:YG) (d e:Qk) (i:Nat) (r:MrD):Int×Int:=match Et d r.fr,Et e r.to with
 | some a,some b=>if VA m r.fr≠some i then (-1,4) else
  let q:=QT m a b r.fields 0 r.fields
  if q.2≠0 then q else if (b.fields.any (J0 r.fields))=true then (-1,10) else (-1,0)
 | _,_=>(-1,3)
def GJ (m:YG) (d e:Qk):Nat→List MrD→Int×Int×Int
 | _,[]=>(-1,-1,0)
 | i,r::l=>if (B6 m d e i r).2≠0 then ((i:Int),B6 m d e i r) else GJ m d e (i+1) l
end Go.Proofs.YtgalpdihjbinjaaGreatDoor
namespace Go.Sw
section
variable {P:Program} {N:Nat} {ro:Option Nat} {QP:KP} {T:Env→LDf→Wd→Prop} {o:Oper} {rest:List Oper} {ρ:Env} {ds:LDf} {w:Wd}
theorem zm {v:Vl} (h:ZL P N ro QP T rest (put N ρ o.dst v) ds w) (hs:execOp (ev ρ) o=Sem.pure (.value v):=by exact rfl) (hd:Xm o.op=false:=by exact rfl):ZL P N ro QP T (o::rest) ρ ds w:=Re hd hs h
theorem zt {S:List Nat} {J G:Env→Wd→Prop} (hT:∀ ρ' w,Fr S ρ ρ'→J ρ' w→G ρ' w) {ρ':Env} {w:Wd} (h:J ρ' w) (hf:Fr S ρ ρ':=by repeat (first | exact Fr.refl _ _ | refine Fr.put rfl ?_ | refine Fr.put_none ?_ | refine Fr.mix rfl ?_ | refine Fr.skipAll rfl ?_)):G ρ' w:=hT ρ' w hf h
end
theorem zr {P:Program} {N:Nat} {ro:Option Nat} {id:Nat} {l:List Oper} {Q:K} {QP:KP} {ρ:Env} {ds:LDf} {w:Wd} (h:ZL P N ro QP (λ ρ ds w=>Q .normal ρ ds w) l ρ ds w) (hu:Wx l=true:=by exact rfl):den P N ro (.region id l.toArray false) Q QP ρ ds w:=Ig hu h
theorem zn:type_of% @Lc := @Lc
theorem zk:type_of% @Ft := @Ft
theorem zs:type_of% @Ld := @Ld
end Go.Sw
namespace Go.Sw
open Go.RowKit (Below)
structure LW (B:Nat) (w w':Wd):Prop where
 os:w'.os=w.os
 tape:w'.tape=w.tape
 output:w'.output=w.output
 size:w.heap.size≤w'.heap.size
 block:∀ b,b < w.heap.size→w'.heap[b]?=w.heap[b]?∨(B≤b∧((∃ r,w.heap[b]?=some (.loop r))∨∃ d,w.heap[b]?=some (.deferred d)))
def KR (B:Nat) (w w':Wd):Prop:=w.heap.size≤w'.heap.size∧(∀ (b:Nat) (r:Loop),w.heap[b]?=some (.loop r)→∃ st p,w'.heap[b]?=some (.loop { r with state:=st,pending:=p })) ∧
 (∀ (b:Nat),w.heap[b]?=some (.deferred (some []))→w'.heap[b]?=some (.deferred (some [])))∧∀ (b:Nat),B≤b→b < w.heap.size→(∀ r,w.heap[b]?≠some (.loop r))→w'.heap[b]?=w.heap[b]?
section
variable {B:Nat} {w w1 w2:Wd}
theorem KR.refl (B:Nat) (w:Wd):KR B w w:=⟨Nat.le_refl _,λ b r h=>⟨r.state,r.pending,h⟩,λ _ h=>h,λ _ _ _ _=>rfl⟩
theorem KR.of (e:Ext w w1):KR B w w1:=⟨e.size,λ b r h=>⟨r.state,r.pending,e.obj h⟩,λ _ h=>e.obj h,λ b _ hl _=>e.block b hl⟩
theorem KR.turn {l:Nat} {r:Loop} (hl:w.heap[l]?=some (.loop r)) (st:LoopState) (p:Option Code):KR B w (w.putObj l (.loop { r with state:=st,pending:=p })):=⟨by simp,λ b r' hb=>by
 by_cases e:b=l
 · subst e
   rw [hl] at hb;injection hb with hb;injection hb with hb;subst hb
   exact ⟨st,p,World.putObj_heap_same (Array.getElem?_eq_some_iff.1 hl).1⟩
 · rw [World.putObj_heap_other e];exact ⟨r'.state,r'.pending,hb⟩,λ b hb=>by
 by_cases e:b=l
 · subst e;rw [hl] at hb;cases hb
 · rw [World.putObj_heap_other e];exact hb,λ b _ _ hr=>by
 by_cases e:b=l
 · subst e;exact absurd hl (hr _)
 · rw [World.putObj_heap_other e]⟩
end
theorem D9 {b want:Bool} {p q:Prop} (h1:b=true→Zp (.bool true) want p q) (h2:b=false→Zp (.bool false) want p q):Zp (.bool b) want p q:=by
 cases b
 · exact h2 rfl
 · exact h1 rfl
theorem FU {b:Bool} {p q:Prop} (h1:b=true→p) (h2:b=false→q):Zu (.bool b) p q:=by
 cases b
 · exact h2 rfl
 · exact h1 rfl
section
variable {P:Program} {fn:Func} {R:RT} {ρ:Env} {w:Wd}
theorem Ar {t u x:Tmp} {c:TypeId} {v:Vl} (hf:fn.results = #[.cell t c,.tmp u,.tmp x]) (tmps:AVl) (h:(do loadVar c (← asAddr (tmps.getD t undef)):Sem Vl).run P w = .ok v w):(results fn tmps).run P w = .ok (.tuple #[v,tmps.getD u undef,tmps.getD x undef]) w:=by
 rw [Sem.run_bind] at h
 simp [results,hf,Sem.run_bind]
 cases hr:(asAddr (tmps.getD t undef)).run P w with
 | ok a w'=>rw [← Array.getD_eq_getD_getElem?,hr];rw [hr] at h;simp [Result.andThen] at h ⊢;rw [h]
 | halt x w'=>rw [hr] at h;simp [Result.andThen] at h
theorem xo {t u x:Tmp} {c:TypeId} {a b d:Vl} (hf:fn.results = #[.cell t c,.tmp u,.tmp x]) (h1:ρ t=a) (h2:ρ u=b) (h3:ρ x=d) (h:qW P c a w λ v=>R (.returned (.tuple #[v,b,d])) w):VJ P fn R .ret ρ [] w:=by
 obtain ⟨v,hv,h⟩:=h
 exact ⟨rfl,λ tmps ht=>⟨_,Ar hf tmps (by rw [ht,h1];exact hv),by rw [ht,ht,h2,h3];exact h⟩⟩
end
end Go.Sw
namespace Go.Sw
section
variable {P:Program} {N:Nat} {ro:Option Nat} {QP:KP} {T:Env→LDf→Wd→Prop} {o:Oper} {rest:List Oper} {ρ:Env} {ds:LDf} {w:Wd} {ty:TypeId} {dst:Option Nat} {d:Nat} {pos:String} {after:Array Edge} {g:Option (Nat×Bool)} {QP':PEn} {k:KV}
theorem yv {s:Sem Vl} (h:opV P s QP' w k) (hk:∀ v w,k v w→ZL P N ro QP T rest (put N ρ o.dst v) ds w) (hs:execOp (ev ρ) o=(do pure (.value (← s))):=by exact rfl) (hd:Xm o.op=false:=by exact rfl) (hp:∀ ch w,QP' ch w→QP ch ρ ds w:=by first | exact λ _ _ h=>⟨rfl,h⟩ | exact λ _ _ h=>XM rfl h | exact λ _ _ h _ _=>⟨rfl,h⟩ | exact λ _ _ h=>QM rfl rfl h | exact λ _ _ h=>h):ZL P N ro QP T (o::rest) ρ ds w:=JP h hd hs hp hk
theorem yu {s:Sem Unit} {k:WPr} (h:opU P s QP' w k) (hk:∀ w,k w→ZL P N ro QP T rest (put N ρ o.dst undef) ds w) (hs:execOp (ev ρ) o=(do s;pure .skip):=by exact rfl) (hd:Xm o.op=false:=by exact rfl) (hp:∀ ch w,QP' ch w→QP ch ρ ds w:=by first | exact λ _ _ h=>⟨rfl,h⟩ | exact λ _ _ h=>XM rfl h | exact λ _ _ h _ _=>⟨rfl,h⟩ | exact λ _ _ h=>QM rfl rfl h | exact λ _ _ h=>h):ZL P N ro QP T (o::rest) ρ ds w:=Rh h hd hs hp hk
theorem yN {s:Sem Next} (h:opN P s QP' w k) (hk:∀ v w,k v w→ZL P N ro QP T rest (put N ρ o.dst v) ds w) (hs:execOp (ev ρ) o=s:=by exact rfl) (hd:Xm o.op=false:=by exact rfl) (hp:∀ ch w,QP' ch w→QP ch ρ ds w:=by first | exact λ _ _ h=>⟨rfl,h⟩ | exact λ _ _ h=>XM rfl h | exact λ _ _ h _ _=>⟨rfl,h⟩ | exact λ _ _ h=>QM rfl rfl h | exact λ _ _ h=>h):ZL P N ro QP T (o::rest) ρ ds w:=Rf h hd hs hp hk
theorem yb {op:BinOp} {t:TypeId} {x y:Operand} {t2:TypeId} {c:Bool} {a b:Vl} (h:opV P (Zh op t c a b) QP' w k) (hk:∀ v w',k v w'→ZL P N ro QP T rest (put N ρ (some d) v) ds w') (hc:(VN x||VN y)=c:=by exact rfl) (h1:ev ρ x=a:=by exact rfl) (h2:ev ρ y=b:=by exact rfl) (hp:∀ ch w,QP' ch w→QP ch ρ ds w:=by first | exact λ _ _ h=>⟨rfl,h⟩ | exact λ _ _ h=>XM rfl h | exact λ _ _ h _ _=>⟨rfl,h⟩ | exact λ _ _ h=>QM rfl rfl h | exact λ _ _ h=>h) :
 ZL P N ro QP T (⟨some d,.binOp op t x y t2,ty,pos,after,g⟩::rest) ρ ds w:=SP h hc h1 h2 hp hk
theorem yc {f:FuncId} {l:List Operand} {ats:Array TypeId} {args:List Vl} (h:Zg P f args.toArray QP' w k) (hf:Callable P f) (hk:∀ v w',k v w'→ZL P N ro QP T rest (put N ρ dst v) ds w') (h2:l.map (ev ρ)=args:=by exact rfl) (hp:∀ ch w,QP' ch w→QP ch ρ ds w:=by first | exact λ _ _ h=>⟨rfl,h⟩ | exact λ _ _ h=>XM rfl h | exact λ _ _ h _ _=>⟨rfl,h⟩ | exact λ _ _ h=>QM rfl rfl h | exact λ _ _ h=>h) :
 ZL P N ro QP T (⟨dst,.call ⟨.value (.func f),l.toArray,ats⟩,ty,pos,after,g⟩::rest) ρ ds w:=P9 h hf h2 hp hk
theorem yV {fo:Operand} {l:List Operand} {ats:Array TypeId} {fv:Vl} {args:List Vl} (h:XO P fv args.toArray QP' w k) (hk:∀ v w',k v w'→ZL P N ro QP T rest (put N ρ dst v) ds w') (h1:ev ρ fo=fv:=by exact rfl) (h2:l.map (ev ρ)=args:=by exact rfl) (hp:∀ ch w,QP' ch w→QP ch ρ ds w:=by first | exact λ _ _ h=>⟨rfl,h⟩ | exact λ _ _ h=>XM rfl h | exact λ _ _ h _ _=>⟨rfl,h⟩ | exact λ _ _ h=>QM rfl rfl h | exact λ _ _ h=>h) :
 ZL P N ro QP T (⟨dst,.call ⟨.value fo,l.toArray,ats⟩,ty,pos,after,g⟩::rest) ρ ds w:=B9 h h1 h2 hp hk
theorem yx {b:Builtin} {l:List Operand} {ats:Array TypeId} {s:Sem Vl} (h:opV P s QP' w k) (hk:∀ v w',k v w'→ZL P N ro QP T rest (put N ρ (some d) v) ds w') (hs:builtin b ats ty ((l.map λ | .const _=>true | _=>false).toArray) (l.map (ev ρ)).toArray=(do pure (.value (← s))):=by exact rfl) (hp:∀ ch w,QP' ch w→QP ch ρ ds w:=by first | exact λ _ _ h=>⟨rfl,h⟩ | exact λ _ _ h=>XM rfl h | exact λ _ _ h _ _=>⟨rfl,h⟩ | exact λ _ _ h=>QM rfl rfl h | exact λ _ _ h=>h) :
 ZL P N ro QP T (⟨some d,.call ⟨.builtin b,l.toArray,ats⟩,ty,pos,after,g⟩::rest) ρ ds w:=Fq h hs hp hk
theorem yB {t:TypeId} {ps:List (Nat×Operand)} {vs:List (Nat×Vl)} (h:opV P (Instr.build t vs.toArray) QP' w k) (hk:∀ v w',k v w'→ZL P N ro QP T rest (put N ρ (some d) v) ds w') (h2:(ps.map λ (i,x)=>(i,ev ρ x))=vs:=by exact rfl) (hp:∀ ch w,QP' ch w→QP ch ρ ds w:=by first | exact λ _ _ h=>⟨rfl,h⟩ | exact λ _ _ h=>XM rfl h | exact λ _ _ h _ _=>⟨rfl,h⟩ | exact λ _ _ h=>QM rfl rfl h | exact λ _ _ h=>h) :
 ZL P N ro QP T (⟨some d,.build t ps.toArray,ty,pos,after,g⟩::rest) ρ ds w:=Mt h h2 hp hk
theorem yS {t:TypeId} {n:Nat} {ps:List (Nat×Operand)} {vs:List (Nat×Vl)} (h:opV P (buildSlice t n vs.toArray) QP' w k) (hk:∀ v w',k v w'→ZL P N ro QP T rest (put N ρ (some d) v) ds w') (h2:(ps.map λ (i,x)=>(i,ev ρ x))=vs:=by exact rfl) (hp:∀ ch w,QP' ch w→QP ch ρ ds w:=by first | exact λ _ _ h=>⟨rfl,h⟩ | exact λ _ _ h=>XM rfl h | exact λ _ _ h _ _=>⟨rfl,h⟩ | exact λ _ _ h=>QM rfl rfl h | exact λ _ _ h=>h) :
 ZL P N ro QP T (⟨some d,.buildSlice t n ps.toArray,ty,pos,after,g⟩::rest) ρ ds w:=AC h h2 hp hk
theorem yF {fn:Fn} {fs cs:List Operand} {vf vs:List Vl} (h:opV P (makeFunc fn vf.toArray vs.toArray) QP' w k) (hk:∀ v w',k v w'→ZL P N ro QP T rest (put N ρ (some d) v) ds w') (h1:fs.map (ev ρ)=vf:=by exact rfl) (h2:cs.map (ev ρ)=vs:=by exact rfl) (hp:∀ ch w,QP' ch w→QP ch ρ ds w:=by first | exact λ _ _ h=>⟨rfl,h⟩ | exact λ _ _ h=>XM rfl h | exact λ _ _ h _ _=>⟨rfl,h⟩ | exact λ _ _ h=>QM rfl rfl h | exact λ _ _ h=>h) :
 ZL P N ro QP T (⟨some d,.makeFunc fn fs.toArray cs.toArray,ty,pos,after,g⟩::rest) ρ ds w:=Dv h h1 h2 hp hk
theorem yp {c a b:Operand} {vc va vb:Vl} {k:Vl→Prop} (h:ZD vc va vb k) (hk:∀ v,k v→ZL P N ro QP T rest (put N ρ (some d) v) ds w) (h1:ev ρ c=vc:=by exact rfl) (h2:ev ρ a=va:=by exact rfl) (h3:ev ρ b=vb:=by exact rfl):ZL P N ro QP T (⟨some d,.pick c a b,ty,pos,after,g⟩::rest) ρ ds w:=Rg h h1 h2 h3 hk
theorem yt {S:List Nat} {J G:Env→Wd→Prop} {C:WPr} (hT:∀ ρ' w,Fr S ρ ρ'→C w→J ρ' w→G ρ' w) {ρ':Env} {w:Wd} (hC:C w) (h:J ρ' w) (hf:Fr S ρ ρ':=by repeat (first | exact Fr.refl _ _ | refine Fr.put rfl ?_ | refine Fr.put_none ?_ | refine Fr.mix rfl ?_ | refine Fr.skipAll rfl ?_)):G ρ' w:=hT ρ' w hf hC h
end
section
variable {P:Program} {N:Nat} {ro:Option Nat} {ops:Array Oper} {Q:Env→LDf→Wd→Prop} {QP0:List PanicEntry→LDf→Wd→Prop} {QP:KP} {C:WPr} {fuel:Nat} {done:List Nat} {o:Oper} {ρ:Env} {ds:LDf} {w:Wd}
theorem ye (i:Nat) {k:Vl→Prop} (hC:C w) {s:Sem Vl} (h:qV P C s k) (hk:∀ v,k v→XC P N ro ops Q (λ ch _ ds w=>QP0 ch ds w) C fuel (i::done) (put N ρ o.dst v) ds w) (hi:ops[i]?=some o:=by exact rfl) (hr:(Yz ops done).contains i=true:=by kernel_rfl) (hf:G7 ops done i=true:=by kernel_rfl) (hg:∀ p q,Y4 ops o ρ p q=p:=by first | exact λ _ _=>rfl | exact λ _ _=>Y1 (by assumption)) (hd:Xm o.op=false:=by exact rfl) (hs:∀ v,(∀ w,C w→s.run P w = .ok v w)→∀ w,C w→(execOp (ev ρ) o).run P w = .ok (.value v) w:=by first | exact λ _ h=>Ak rfl h | exact λ _ h=>ZbV rfl rfl rfl h | exact λ _ h=>HZ rfl h | exact λ _ h=>PU rfl h | exact λ _ h=>Fb rfl rfl h) :
 XC P N ro ops Q (λ ch _ ds w=>QP0 ch ds w) C (fuel+1) done ρ ds w:=let ⟨v,hv,hkv⟩:=h;VW i hC hi hr hf hg hd (hs v hv) (hk v hkv)
theorem yn (i:Nat) {k:Vl→Prop} (hC:C w) {s:Sem Next} (h:qN P C s k) (hk:∀ v,k v→XC P N ro ops Q (λ ch _ ds w=>QP0 ch ds w) C fuel (i::done) (put N ρ o.dst v) ds w) (hi:ops[i]?=some o:=by exact rfl) (hr:(Yz ops done).contains i=true:=by kernel_rfl) (hf:G7 ops done i=true:=by kernel_rfl) (hg:∀ p q,Y4 ops o ρ p q=p:=by first | exact λ _ _=>rfl | exact λ _ _=>Y1 (by assumption)) (hd:Xm o.op=false:=by exact rfl) (hs:execOp (ev ρ) o=s:=by exact rfl) :
 XC P N ro ops Q (λ ch _ ds w=>QP0 ch ds w) C (fuel+1) done ρ ds w:=let ⟨v,hv,hkv⟩:=h;VW i hC hi hr hf hg hd (ZbU hs hv) (hk v hkv)
theorem yw (i:Nat) {v:Vl} (hC:C w) (h:XC P N ro ops Q (λ ch _ ds w=>QP0 ch ds w) C fuel (i::done) (put N ρ o.dst v) ds w) (hi:ops[i]?=some o:=by exact rfl) (hr:(Yz ops done).contains i=true:=by kernel_rfl) (hf:G7 ops done i=true:=by kernel_rfl) (hg:∀ p q,Y4 ops o ρ p q=p:=by first | exact λ _ _=>rfl | exact λ _ _=>Y1 (by assumption)) (hd:Xm o.op=false:=by exact rfl) (hs:execOp (ev ρ) o=Sem.pure (.value v):=by exact rfl) :
 XC P N ro ops Q (λ ch _ ds w=>QP0 ch ds w) C (fuel+1) done ρ ds w:=VW i hC hi hr hf hg hd (NQ hs) h
theorem yi (i:Nat) (hC:C w) (h:XC P N ro ops Q (λ ch _ ds w=>QP0 ch ds w) C fuel (i::done) (put N ρ o.dst undef) ds w) (hi:ops[i]?=some o:=by exact rfl) (hr:(Yz ops done).contains i=true:=by kernel_rfl) (hf:G7 ops done i=true:=by kernel_rfl) (hg:∀ p q,Y4 ops o ρ p q=q:=by exact λ _ _=>Qz (by assumption)) :
 XC P N ro ops Q (λ ch _ ds w=>QP0 ch ds w) C (fuel+1) done ρ ds w:=Mw i hC hi hr hf hg h
theorem yP (i:Nat) {c a b:Operand} {d:Nat} {ty:TypeId} {pos:String} {after:Array Edge} {g:Option (Nat×Bool)} {vc va vb:Vl} {k:Vl→Prop} (hC:C w) (h:ZD vc va vb k) (hk:∀ v,k v→XC P N ro ops Q (λ ch _ ds w=>QP0 ch ds w) C fuel (i::done) (put N ρ (some d) v) ds w) (hi:ops[i]?=some ⟨some d,.pick c a b,ty,pos,after,g⟩:=by exact rfl) (hr:(Yz ops done).contains i=true:=by kernel_rfl) (hf:G7 ops done i=true:=by kernel_rfl) (hg:∀ p q,Y4 ops ⟨some d,.pick c a b,ty,pos,after,g⟩ ρ p q=p:=by first | exact λ _ _=>rfl | exact λ _ _=>Y1 (by assumption)) (h1:ev ρ c=vc:=by exact rfl) (h2:ev ρ a=va:=by exact rfl) (h3:ev ρ b=vb:=by exact rfl) :
 XC P N ro ops Q (λ ch _ ds w=>QP0 ch ds w) C (fuel+1) done ρ ds w:=by
 obtain ⟨t,ht,h⟩:=HX h
 exact VW i hC hi hr hf hg rfl (PP (h1.trans ht) h2 h3) (hk _ h)
theorem yo (i:Nat) (h:ZL P N ro QP (λ ρ ds w=>C w∧XC P N ro ops Q QP C fuel (i::done) ρ ds w) [o] ρ ds w) (hi:ops[i]?=some o:=by exact rfl) (hr:Yz ops done=[i]:=by kernel_rfl) (hg:∀ p q,Y4 ops o ρ p q=p:=by first | exact λ _ _=>rfl | exact λ _ _=>Y1 (by assumption)):XC P N ro ops Q QP C (fuel+1) done ρ ds w:=Mv i hi hr hg h
theorem yr (i:Nat) (h:ZL P N ro QP (λ ρ ds w=>∃ C':Wd→Prop,(∀ x,C' x→C x)∧C' w∧XC P N ro ops Q QP C' fuel (i::done) ρ ds w) [o] ρ ds w) (hi:ops[i]?=some o:=by exact rfl) (hr:Yz ops done=[i]:=by kernel_rfl) (hg:∀ p q,Y4 ops o ρ p q=p:=by first | exact λ _ _=>rfl | exact λ _ _=>Y1 (by assumption)):XC P N ro ops Q QP C (fuel+1) done ρ ds w:=Fs i hi hr hg h
theorem yq (i n:Nat) (h:ZL P N ro QP (λ ρ ds w=>∃ C':Wd→Prop,C' w∧XC P N ro ops Q QP C' fuel (i::done) ρ ds w) [o] ρ ds w) (hi:ops[i]?=some o:=by exact rfl) (hr:Yz ops done=[i]:=by kernel_rfl) (hm:W5 ops n done i=true:=by kernel_rfl) (hg:∀ p q,Y4 ops o ρ p q=p:=by first | exact λ _ _=>rfl | exact λ _ _=>Y1 (by assumption)):XC P N ro ops Q QP C (fuel+1) done ρ ds w:=Mx i n hi hr hm hg h
theorem yz (h:Q ρ ds w) (hr:Yz ops done=[]:=by kernel_rfl):XC P N ro ops Q QP C fuel done ρ ds w:=Rb hr h
theorem yh (S:List Nat) {id:Nat} {l:List Oper} {Q:K} {f:(Wd→Prop)→Wd→Prop} (h:Ye w f) (hk:∀ C:Wd→Prop,C (drew w)→f C (drew w)→XC P N ro l.toArray (Q .normal) (λ ch _ ds w=>∀ ρ',Fr S ρ ρ'→QP ch ρ' ds w) C l.length [] ρ ds (drew w)) (hm:P.follows .mixedOrders=true:=by kernel_rfl) (hS:l.all (λ o=>match o.dst with | some d=>S.contains d | none=>true)=true:=by kernel_rfl):den P N ro (.region id l.toArray true) Q QP ρ ds w:=let ⟨C,hC,hf⟩:=h;Rc S hm hS C (hk C hC hf)
theorem yj1 (fuel':Nat) (done' S:List Nat) (x0:Nat) {K0:KV} {A B:(Vl→Wd→Prop)→Prop} {v:Vl} {want:Bool} (h:Zq K0 λ K=>Zp v want (A K) (B K))
 (h1:∀ K:Vl→Wd→Prop,(∀ ρ' w,Fr S ρ ρ'→C w→K (ρ' x0) w→XC P N ro ops Q QP C fuel' done' ρ' ds w)→Xt v=some want→A K→XC P N ro ops Q QP C fuel done ρ ds w) (h2:∀ K:Vl→Wd→Prop,(∀ ρ' w,Fr S ρ ρ'→C w→K (ρ' x0) w→XC P N ro ops Q QP C fuel' done' ρ' ds w)→Xt v≠some want→B K→XC P N ro ops Q QP C fuel done ρ ds w)
 (hJ:∀ σ w,C w→K0 (σ x0) w→XC P N ro ops Q QP C fuel' done' (mix S ρ σ) ds w):XC P N ro ops Q QP C fuel done ρ ds w:=
 Mu fuel' done' S (λ ρ w=>K0 (ρ x0) w) (λ _ hT=>(CM h).elim (λ h=>h1 K0 hT h.1 h.2) (λ h=>h2 K0 hT h.1 h.2)) hJ
end
section
variable {P:Program} {N:Nat} {ro:Option Nat} {c:Code} {Q:K} {QP:KP} {ρ:Env} {ds:LDf} {w:Wd}
theorem yl1 (W:List Nat) (x0:Nat) {body:Vl→Wd→(Vl→Wd→Prop)→Prop} {a0:Vl} (h:Xd body a0 w) (hr:∀ σ w (k:KV),body (σ x0) w k→den P N ro c (Qx (λ ρ' ds' w'=>ds'=ds∧k (ρ' x0) w') Q) QP (mix W ρ σ) ds w) (hW:((X9 c).all (W.contains ·)&&W.all ((X9 c).contains ·))=true:=by kernel_rfl) (h0:ρ x0=a0:=by exact rfl):den P N ro (.loop c) Q QP ρ ds w:=by
 obtain ⟨I,μ,hi,hb⟩:=h
 subst h0
 exact AD W hW (λ ρ w=>I (ρ x0) w) (λ ρ w=>μ (ρ x0) w) hi λ σ w hI=>hr σ w _ (hb _ _ hI)
theorem yl2 (W:List Nat) (x0 x1:Nat) {body:Vl→Vl→Wd→(Vl→Vl→Wd→Prop)→Prop} {a0 a1:Vl} (h:U0 body a0 a1 w) (hr:∀ σ w (k:KW),body (σ x0) (σ x1) w k→den P N ro c (Qx (λ ρ' ds' w'=>ds'=ds∧k (ρ' x0) (ρ' x1) w') Q) QP (mix W ρ σ) ds w) (hW:((X9 c).all (W.contains ·)&&W.all ((X9 c).contains ·))=true:=by kernel_rfl) (h0:ρ x0=a0:=by exact rfl) (h1:ρ x1=a1:=by exact rfl):den P N ro (.loop c) Q QP ρ ds w:=by
 obtain ⟨I,μ,hi,hb⟩:=h
 subst h0 h1
 exact AD W hW (λ ρ w=>I (ρ x0) (ρ x1) w) (λ ρ w=>μ (ρ x0) (ρ x1) w) hi λ σ w hI=>hr σ w _ (hb _ _ _ hI)
theorem yl3 (W:List Nat) (x0 x1 x2:Nat) {body:Vl→Vl→Vl→Wd→(Vl→Vl→Vl→Wd→Prop)→Prop} {a0 a1 a2:Vl} (h:Kv body a0 a1 a2 w) (hr:∀ σ w (k:Vl→Vl→Vl→Wd→Prop),body (σ x0) (σ x1) (σ x2) w k→den P N ro c (Qx (λ ρ' ds' w'=>ds'=ds∧k (ρ' x0) (ρ' x1) (ρ' x2) w') Q) QP (mix W ρ σ) ds w) (hW:((X9 c).all (W.contains ·)&&W.all ((X9 c).contains ·))=true:=by kernel_rfl) (h0:ρ x0=a0:=by exact rfl) (h1:ρ x1=a1:=by exact rfl) (h2:ρ x2=a2:=by exact rfl):den P N ro (.loop c) Q QP ρ ds w:=by
 obtain ⟨I,μ,hi,hb⟩:=h
 subst h0 h1 h2
 exact AD W hW (λ ρ w=>I (ρ x0) (ρ x1) (ρ x2) w) (λ ρ w=>μ (ρ x0) (ρ x1) (ρ x2) w) hi λ σ w hI=>hr σ w _ (hb _ _ _ _ hI)
theorem yJ0 (S:List Nat) {K0:WPr} {f:(Wd→Prop)→Prop} (h:Zq K0 f) (hc:∀ (K:WPr) (k':Env→LDf→Wd→Prop),(∀ ρ' w,Fr S ρ ρ'→K w→k' ρ' ds w)→f K→den P N ro c (Qx k' Q) QP ρ ds w) (hJ:∀ σ w,K0 w→Q .normal (mix S ρ σ) ds w):den P N ro c Q QP ρ ds w:=
 xe S (λ ρ w=>K0 w) (λ k' hk=>hc K0 k' hk h) hJ
theorem yJ1 (S:List Nat) (x0:Nat) {K0:KV} {f:(Vl→Wd→Prop)→Prop} (h:Zq K0 f) (hc:∀ (K:KV) (k':Env→LDf→Wd→Prop),(∀ ρ' w,Fr S ρ ρ'→K (ρ' x0) w→k' ρ' ds w)→f K→den P N ro c (Qx k' Q) QP ρ ds w) (hJ:∀ σ w,K0 (σ x0) w→Q .normal (mix S ρ σ) ds w):den P N ro c Q QP ρ ds w:=
 xe S (λ ρ w=>K0 (ρ x0) w) (λ k' hk=>hc K0 k' hk h) hJ
theorem yJ2 (S:List Nat) (x0 x1:Nat) {K0:KW} {f:(Vl→Vl→Wd→Prop)→Prop} (h:Zq K0 f) (hc:∀ (K:KW) (k':Env→LDf→Wd→Prop),(∀ ρ' w,Fr S ρ ρ'→K (ρ' x0) (ρ' x1) w→k' ρ' ds w)→f K→den P N ro c (Qx k' Q) QP ρ ds w) (hJ:∀ σ w,K0 (σ x0) (σ x1) w→Q .normal (mix S ρ σ) ds w):den P N ro c Q QP ρ ds w:=
 xe S (λ ρ w=>K0 (ρ x0) (ρ x1) w) (λ k' hk=>hc K0 k' hk h) hJ
theorem yC {x:Operand} {A B:Code} {v:Vl} {p q:Prop} (h:Zu v p q) (hp:p→den P N ro A Q QP ρ ds w) (hq:q→den P N ro B Q QP ρ ds w) (hv:ev ρ x=v:=by exact rfl):den P N ro (.cond x A B) Q QP ρ ds w:=Ra h hv hp hq
theorem yG (n:Nat) {ops:Array Oper} {l:List Oper} (h:ZL P N ro QP (λ ρ ds w=>Z7 P N ro ops Q QP (l.drop n) none ρ ds w) (l.take n) ρ ds w) (hu:Wx (l.take n)=true:=by exact rfl):Z7 P N ro ops Q QP l none ρ ds w:=SQ n hu h
theorem yg1 (n j:Nat) (want:Bool) (S:List Nat) (x0:Nat) {ops:Array Oper} {l:List Oper} {K0:KV} {A:(Vl→Wd→Prop)→Prop} {v:Vl} {u0:Vl} (h:Zq K0 λ K=>Zp v want (A K) (K u0 w))
 (hc:∀ (K:KV) (T:Env→LDf→Wd→Prop),(∀ ρ' w,Fr S ρ ρ'→K (ρ' x0) w→T ρ' ds w)→A K→ZL P N ro QP T (l.take n) ρ ds w) (hJ:∀ σ w,K0 (σ x0) w→Z7 P N ro ops Q QP (l.drop n) none (mix S ρ σ) ds w) (hok:D8 ops j want (l.take n) (l.drop n)=true:=by exact rfl) (hv:XT ops ρ j=v:=by exact rfl) (hf:Fr S ρ (skipAll N (l.take n) ρ):=by exact Fr.skipAll rfl (Fr.refl _ _)) (hu0:skipAll N (l.take n) ρ x0=u0:=by exact rfl):Z7 P N ro ops Q QP l none ρ ds w:=by
 subst hu0;exact Ie n j want S (λ ρ w=>K0 (ρ x0) w) hok hv (λ T hT=>VM h (hc K0 T hT) λ h=>hT _ _ hf h) hJ
end
section
variable {P:Program} {f:FuncId} {fn:Func} {c:Code} {args:List Vl} {w:Wd} {R:RT}
theorem yD (hf:P.funcs[f]?=some fn) (h:den P fn.ntmps none c (VJ P fn R) (zH R) (qX args) [] w) (hb:fn.body=some c:=by exact rfl) (hn:args.length≤fn.ntmps:=by exact Nat.le_of_ble_eq_true rfl):Calls P f args.toArray w R:=Ct hf hb hn h
theorem yE (hf:P.funcs[f]?=some fn) (h:den P fn.ntmps none c (qK P fn R) (qk P fn R) (qX args) [] w) (hb:fn.body=some c:=by exact rfl) (hn:args.length≤fn.ntmps:=by exact Nat.le_of_ble_eq_true rfl):Calls P f args.toArray w R:=AY hf hb hn h
end
end Go.Sw
namespace Go.Proofs.YtgalpdihjbinjaaGreatDoor
open Sw
theorem c3:Sw.Callable Pg 3:=⟨_,func3,by kernel_rfl,rfl⟩
theorem c4:Sw.Callable Pg 4:=⟨_,func4,by kernel_rfl,rfl⟩
theorem c5:Sw.Callable Pg 5:=⟨_,func5,by kernel_rfl,rfl⟩
theorem c6:Sw.Callable Pg 6:=⟨_,func6,by kernel_rfl,rfl⟩
theorem c7:Sw.Callable Pg 7:=⟨_,func7,by kernel_rfl,rfl⟩
theorem c8:Sw.Callable Pg 8:=⟨_,func8,by kernel_rfl,rfl⟩
theorem c9:Sw.Callable Pg 9:=⟨_,func9,by kernel_rfl,rfl⟩
theorem c10:Sw.Callable Pg 10:=⟨_,func10,by kernel_rfl,rfl⟩
theorem c11:Sw.Callable Pg 11:=⟨_,func11,by kernel_rfl,rfl⟩
theorem c12:Sw.Callable Pg 12:=⟨_,func12,by kernel_rfl,rfl⟩
theorem c13:Sw.Callable Pg 13:=⟨_,func13,by kernel_rfl,rfl⟩
theorem c14:Sw.Callable Pg 14:=⟨_,func14,by kernel_rfl,rfl⟩
theorem c16:Sw.Callable Pg 16:=⟨_,func16,by kernel_rfl,rfl⟩
theorem c18:Sw.Callable Pg 18:=⟨_,func18,by kernel_rfl,rfl⟩
theorem c19:Sw.Callable Pg 19:=⟨_,func19,by kernel_rfl,rfl⟩
theorem c20:Sw.Callable Pg 20:=⟨_,func20,by kernel_rfl,rfl⟩
theorem c21:Sw.Callable Pg 21:=⟨_,func21,by kernel_rfl,rfl⟩
theorem c22:Sw.Callable Pg 22:=⟨_,func22,by kernel_rfl,rfl⟩
theorem c25:Sw.Callable Pg 25:=⟨_,func25,by kernel_rfl,rfl⟩
theorem c30:Sw.Callable Pg 30:=⟨_,func30,by kernel_rfl,rfl⟩
theorem c31:Sw.Callable Pg 31:=⟨_,func31,by kernel_rfl,rfl⟩
theorem c32:Sw.Callable Pg 32:=⟨_,func32,by kernel_rfl,rfl⟩
theorem c33:Sw.Callable Pg 33:=⟨_,func33,by kernel_rfl,rfl⟩
theorem c34:Sw.Callable Pg 34:=⟨_,func34,by kernel_rfl,rfl⟩
theorem c35:Sw.Callable Pg 35:=⟨_,func35,by kernel_rfl,rfl⟩
theorem c36:Sw.Callable Pg 36:=⟨_,func36,by kernel_rfl,rfl⟩
theorem c37:Sw.Callable Pg 37:=⟨_,func37,by kernel_rfl,rfl⟩
theorem c42:Sw.Callable Pg 42:=⟨_,func42,by kernel_rfl,rfl⟩
theorem c43:Sw.Callable Pg 43:=⟨_,func43,by kernel_rfl,rfl⟩
theorem c44:Sw.Callable Pg 44:=⟨_,func44,by kernel_rfl,rfl⟩
theorem c45:Sw.Callable Pg 45:=⟨_,func45,by kernel_rfl,rfl⟩
theorem c46:Sw.Callable Pg 46:=⟨_,func46,by kernel_rfl,rfl⟩
theorem c47:Sw.Callable Pg 47:=⟨_,func47,by kernel_rfl,rfl⟩
theorem c48:Sw.Callable Pg 48:=⟨_,func48,by kernel_rfl,rfl⟩
theorem c49:Sw.Callable Pg 49:=⟨_,func49,by kernel_rfl,rfl⟩
theorem c50:Sw.Callable Pg 50:=⟨_,func50,by kernel_rfl,rfl⟩
theorem c51:Sw.Callable Pg 51:=⟨_,func51,by kernel_rfl,rfl⟩
theorem c52:Sw.Callable Pg 52:=⟨_,func52,by kernel_rfl,rfl⟩
theorem c53:Sw.Callable Pg 53:=⟨_,func53,by kernel_rfl,rfl⟩
theorem c57:Sw.Callable Pg 57:=⟨_,func57,by kernel_rfl,rfl⟩
theorem c58:Sw.Callable Pg 58:=⟨_,func58,by kernel_rfl,rfl⟩
theorem c59:Sw.Callable Pg 59:=⟨_,func59,by kernel_rfl,rfl⟩
theorem c60:Sw.Callable Pg 60:=⟨_,func60,by kernel_rfl,rfl⟩
theorem c64:Sw.Callable Pg 64:=⟨_,func64,by kernel_rfl,rfl⟩
theorem c68:Sw.Callable Pg 68:=⟨_,func68,by kernel_rfl,rfl⟩
theorem c70:Sw.Callable Pg 70:=⟨_,func70,by kernel_rfl,rfl⟩
theorem c71:Sw.Callable Pg 71:=⟨_,func71,by kernel_rfl,rfl⟩
theorem c72:Sw.Callable Pg 72:=⟨_,func72,by kernel_rfl,rfl⟩
theorem c73:Sw.Callable Pg 73:=⟨_,func73,by kernel_rfl,rfl⟩
theorem c74:Sw.Callable Pg 74:=⟨_,func74,by kernel_rfl,rfl⟩
theorem c75:Sw.Callable Pg 75:=⟨_,func75,by kernel_rfl,rfl⟩
theorem c76:Sw.Callable Pg 76:=⟨_,func76,by kernel_rfl,rfl⟩
theorem c77:Sw.Callable Pg 77:=⟨_,func77,by kernel_rfl,rfl⟩
theorem c78:Sw.Callable Pg 78:=⟨_,func78,by kernel_rfl,rfl⟩
theorem c79:Sw.Callable Pg 79:=⟨_,func79,by kernel_rfl,rfl⟩
theorem c80:Sw.Callable Pg 80:=⟨_,func80,by kernel_rfl,rfl⟩
theorem c85:Sw.Callable Pg 85:=⟨_,func85,by kernel_rfl,rfl⟩
theorem c87:Sw.Callable Pg 87:=⟨_,func87,by kernel_rfl,rfl⟩
theorem c88:Sw.Callable Pg 88:=⟨_,func88,by kernel_rfl,rfl⟩
theorem c89:Sw.Callable Pg 89:=⟨_,func89,by kernel_rfl,rfl⟩
theorem c90:Sw.Callable Pg 90:=⟨_,func90,by kernel_rfl,rfl⟩
theorem c91:Sw.Callable Pg 91:=⟨_,func91,by kernel_rfl,rfl⟩
theorem c97:Sw.Callable Pg 97:=⟨_,func97,by kernel_rfl,rfl⟩
theorem c99:Sw.Callable Pg 99:=⟨_,func99,by kernel_rfl,rfl⟩
theorem Zft:Sw.Callable Pg 100:=⟨_,func100,by kernel_rfl,rfl⟩
theorem M4:Sw.Callable Pg 101:=⟨_,func101,by kernel_rfl,rfl⟩
theorem Zfu:Sw.Callable Pg 102:=⟨_,func102,by kernel_rfl,rfl⟩
theorem Zfv:Sw.Callable Pg 106:=⟨_,func106,by kernel_rfl,rfl⟩
theorem Zfw:Sw.Callable Pg 107:=⟨_,func107,by kernel_rfl,rfl⟩
theorem Zfx:Sw.Callable Pg 108:=⟨_,func108,by kernel_rfl,rfl⟩
theorem Zfy:Sw.Callable Pg 109:=⟨_,func109,by kernel_rfl,rfl⟩
theorem Zcd:Sw.Callable Pg 110:=⟨_,func110,by kernel_rfl,rfl⟩
theorem Zfz:Sw.Callable Pg 111:=⟨_,func111,by kernel_rfl,rfl⟩
theorem ZfA:Sw.Callable Pg 112:=⟨_,func112,by kernel_rfl,rfl⟩
theorem ZfB:Sw.Callable Pg 113:=⟨_,func113,by kernel_rfl,rfl⟩
theorem ZfC:Sw.Callable Pg 114:=⟨_,func114,by kernel_rfl,rfl⟩
theorem ZfD:Sw.Callable Pg 125:=⟨_,func125,by kernel_rfl,rfl⟩
theorem ZfE:Sw.Callable Pg 126:=⟨_,func126,by kernel_rfl,rfl⟩
theorem c127:Sw.Callable Pg 127:=⟨_,func127,by kernel_rfl,rfl⟩
theorem Zce:Sw.Callable Pg 128:=⟨_,func128,by kernel_rfl,rfl⟩
theorem ZfF:Sw.Callable Pg 129:=⟨_,func129,by kernel_rfl,rfl⟩
theorem Zcf:Sw.Callable Pg 133:=⟨_,func133,by kernel_rfl,rfl⟩
theorem Zcg:Sw.Callable Pg 134:=⟨_,func134,by kernel_rfl,rfl⟩
theorem VF:Sw.Callable Pg 135:=⟨_,func135,by kernel_rfl,rfl⟩
theorem ZfG:Sw.Callable Pg 136:=⟨_,func136,by kernel_rfl,rfl⟩
theorem ZfH:Sw.Callable Pg 137:=⟨_,func137,by kernel_rfl,rfl⟩
theorem ZfI:Sw.Callable Pg 138:=⟨_,func138,by kernel_rfl,rfl⟩
theorem ZfJ:Sw.Callable Pg 139:=⟨_,func139,by kernel_rfl,rfl⟩
theorem Zbf:Sw.Callable Pg 140:=⟨_,func140,by kernel_rfl,rfl⟩
theorem Zch:Sw.Callable Pg 141:=⟨_,func141,by kernel_rfl,rfl⟩
theorem Zci:Sw.Callable Pg 142:=⟨_,func142,by kernel_rfl,rfl⟩
theorem c143:Sw.Callable Pg 143:=⟨_,func143,by kernel_rfl,rfl⟩
theorem c145:Sw.Callable Pg 145:=⟨_,func145,by kernel_rfl,rfl⟩
theorem ZfK:Sw.Callable Pg 153:=⟨_,func153,by kernel_rfl,rfl⟩
theorem ZfL:Sw.Callable Pg 154:=⟨_,func154,by kernel_rfl,rfl⟩
theorem ZfM:Sw.Callable Pg 155:=⟨_,func155,by kernel_rfl,rfl⟩
theorem ZfN:Sw.Callable Pg 160:=⟨_,func160,by kernel_rfl,rfl⟩
theorem ZfO:Sw.Callable Pg 161:=⟨_,func161,by kernel_rfl,rfl⟩
theorem Zcj:Sw.Callable Pg 162:=⟨_,func162,by kernel_rfl,rfl⟩
theorem ZfP:Sw.Callable Pg 163:=⟨_,func163,by kernel_rfl,rfl⟩
theorem ZfQ:Sw.Callable Pg 164:=⟨_,func164,by kernel_rfl,rfl⟩
theorem ZfR:Sw.Callable Pg 165:=⟨_,func165,by kernel_rfl,rfl⟩
theorem ZfS:Sw.Callable Pg 166:=⟨_,func166,by kernel_rfl,rfl⟩
theorem c167:Sw.Callable Pg 167:=⟨_,func167,by kernel_rfl,rfl⟩
theorem c168:Sw.Callable Pg 168:=⟨_,func168,by kernel_rfl,rfl⟩
theorem c171:Sw.Callable Pg 171:=⟨_,func171,by kernel_rfl,rfl⟩
theorem c173:Sw.Callable Pg 173:=⟨_,func173,by kernel_rfl,rfl⟩
theorem c175:Sw.Callable Pg 175:=⟨_,func175,by kernel_rfl,rfl⟩
theorem Lq:Sw.Callable Pg 188:=⟨_,func188,by kernel_rfl,rfl⟩
theorem ZfT:Sw.Callable Pg 189:=⟨_,func189,by kernel_rfl,rfl⟩
theorem ZfU:Sw.Callable Pg 191:=⟨_,func191,by kernel_rfl,rfl⟩
theorem ZfV:Sw.Callable Pg 192:=⟨_,func192,by kernel_rfl,rfl⟩
theorem ZfW:Sw.Callable Pg 193:=⟨_,func193,by kernel_rfl,rfl⟩
theorem ZfX:Sw.Callable Pg 194:=⟨_,func194,by kernel_rfl,rfl⟩
theorem Lr:Sw.Callable Pg 195:=⟨_,func195,by kernel_rfl,rfl⟩
theorem Zck:Sw.Callable Pg 196:=⟨_,func196,by kernel_rfl,rfl⟩
theorem ZfY:Sw.Callable Pg 197:=⟨_,func197,by kernel_rfl,rfl⟩
theorem Zcl:Sw.Callable Pg 198:=⟨_,func198,by kernel_rfl,rfl⟩
theorem Zcm:Sw.Callable Pg 199:=⟨_,func199,by kernel_rfl,rfl⟩
theorem ZfZ:Sw.Callable Pg 200:=⟨_,func200,by kernel_rfl,rfl⟩
theorem c210:Sw.Callable Pg 210:=⟨_,func210,by kernel_rfl,rfl⟩
theorem Zf0:Sw.Callable Pg 211:=⟨_,func211,by kernel_rfl,rfl⟩
theorem c212:Sw.Callable Pg 212:=⟨_,func212,by kernel_rfl,rfl⟩
theorem c213:Sw.Callable Pg 213:=⟨_,func213,by kernel_rfl,rfl⟩
theorem Zcn:Sw.Callable Pg 214:=⟨_,func214,by kernel_rfl,rfl⟩
theorem Cr:Sw.Callable Pg 215:=⟨_,func215,by kernel_rfl,rfl⟩
theorem Zf1:Sw.Callable Pg 216:=⟨_,func216,by kernel_rfl,rfl⟩
theorem Zf2:Sw.Callable Pg 217:=⟨_,func217,by kernel_rfl,rfl⟩
theorem Zf3:Sw.Callable Pg 218:=⟨_,func218,by kernel_rfl,rfl⟩
theorem Zf4:Sw.Callable Pg 219:=⟨_,func219,by kernel_rfl,rfl⟩
theorem Zf5:Sw.Callable Pg 220:=⟨_,func220,by kernel_rfl,rfl⟩
theorem Zbg:Sw.Callable Pg 221:=⟨_,func221,by kernel_rfl,rfl⟩
theorem Zf6:Sw.Callable Pg 222:=⟨_,func222,by kernel_rfl,rfl⟩
theorem Zf7:Sw.Callable Pg 223:=⟨_,func223,by kernel_rfl,rfl⟩
theorem Zf8:Sw.Callable Pg 224:=⟨_,func224,by kernel_rfl,rfl⟩
theorem Zf9:Sw.Callable Pg 225:=⟨_,func225,by kernel_rfl,rfl⟩
theorem Zga:Sw.Callable Pg 226:=⟨_,func226,by kernel_rfl,rfl⟩
theorem Zgb:Sw.Callable Pg 227:=⟨_,func227,by kernel_rfl,rfl⟩
theorem Zbh:Sw.Callable Pg 228:=⟨_,func228,by kernel_rfl,rfl⟩
theorem Zgc:Sw.Callable Pg 229:=⟨_,func229,by kernel_rfl,rfl⟩
theorem Zgd:Sw.Callable Pg 230:=⟨_,func230,by kernel_rfl,rfl⟩
theorem Zge:Sw.Callable Pg 231:=⟨_,func231,by kernel_rfl,rfl⟩
theorem c232:Sw.Callable Pg 232:=⟨_,func232,by kernel_rfl,rfl⟩
theorem c233:Sw.Callable Pg 233:=⟨_,func233,by kernel_rfl,rfl⟩
theorem Zgf:Sw.Callable Pg 234:=⟨_,func234,by kernel_rfl,rfl⟩
theorem Zgg:Sw.Callable Pg 235:=⟨_,func235,by kernel_rfl,rfl⟩
theorem Zgh:Sw.Callable Pg 236:=⟨_,func236,by kernel_rfl,rfl⟩
theorem Zgi:Sw.Callable Pg 237:=⟨_,func237,by kernel_rfl,rfl⟩
theorem Zgj:Sw.Callable Pg 238:=⟨_,func238,by kernel_rfl,rfl⟩
theorem Zco:Sw.Callable Pg 239:=⟨_,func239,by kernel_rfl,rfl⟩
theorem Zgk:Sw.Callable Pg 240:=⟨_,func240,by kernel_rfl,rfl⟩
theorem Zgl:Sw.Callable Pg 241:=⟨_,func241,by kernel_rfl,rfl⟩
theorem Zgm:Sw.Callable Pg 244:=⟨_,func244,by kernel_rfl,rfl⟩
theorem Zgn:Sw.Callable Pg 245:=⟨_,func245,by kernel_rfl,rfl⟩
theorem Zbi:Sw.Callable Pg 246:=⟨_,func246,by kernel_rfl,rfl⟩
theorem RN:Sw.Callable Pg 247:=⟨_,func247,by kernel_rfl,rfl⟩
theorem Zcp:Sw.Callable Pg 248:=⟨_,func248,by kernel_rfl,rfl⟩
theorem Zgo:Sw.Callable Pg 249:=⟨_,func249,by kernel_rfl,rfl⟩
theorem Zgp:Sw.Callable Pg 250:=⟨_,func250,by kernel_rfl,rfl⟩
theorem Zgq:Sw.Callable Pg 251:=⟨_,func251,by kernel_rfl,rfl⟩
theorem Zgr:Sw.Callable Pg 252:=⟨_,func252,by kernel_rfl,rfl⟩
theorem Zcq:Sw.Callable Pg 253:=⟨_,func253,by kernel_rfl,rfl⟩
theorem Zgs:Sw.Callable Pg 254:=⟨_,func254,by kernel_rfl,rfl⟩
theorem Zgt:Sw.Callable Pg 255:=⟨_,func255,by kernel_rfl,rfl⟩
theorem Zgu:Sw.Callable Pg 256:=⟨_,func256,by kernel_rfl,rfl⟩
theorem Zcr:Sw.Callable Pg 257:=⟨_,func257,by kernel_rfl,rfl⟩
theorem Zgv:Sw.Callable Pg 258:=⟨_,func258,by kernel_rfl,rfl⟩
theorem Zgw:Sw.Callable Pg 259:=⟨_,func259,by kernel_rfl,rfl⟩
theorem Zcs:Sw.Callable Pg 260:=⟨_,func260,by kernel_rfl,rfl⟩
theorem Zgx:Sw.Callable Pg 261:=⟨_,func261,by kernel_rfl,rfl⟩
theorem Zgy:Sw.Callable Pg 262:=⟨_,func262,by kernel_rfl,rfl⟩
theorem Zgz:Sw.Callable Pg 263:=⟨_,func263,by kernel_rfl,rfl⟩
theorem ZgA:Sw.Callable Pg 264:=⟨_,func264,by kernel_rfl,rfl⟩
def EG (a b c:Vl) (ds:LDf) (R:RT) (w:Wd):Prop:=
 opV Pg (Instr.build 131 #[]) (Zy Pg ds [(none,c),(some 131,a),(some 4,b)] R) w λ d w=>
 opU Pg (storeAt 131 a d) (Zy Pg ds [(none,c),(some 131,a),(some 4,b)] R) w λ w=>
 opU Pg (storeAt 4 b (.bool false)) (Zy Pg ds [(none,c),(some 131,a),(some 4,b)] R) w λ w=>
 VH Pg ds [(none,c),(some 131,a),(some 4,b)] R w
def EH (f c d b:Vl) (a:WPr) (ds:LDf) (R:RT) (w:Wd):Prop:=
 qN Pg a (YL b) λ g=>
 qV Pg a (fieldAt 201 g 1) λ h=>
 qV Pg a (loadAt 198 h) λ i=>
 qV Pg a (fieldAt 27 f 2) λ j=>
 qV Pg a (loadAt 9 j) λ k=>
 qV Pg a (Instr.lookup 198 i k true) λ e=>
 qV Pg a (Instr.extract e 0) λ m=>
 qV Pg a (Instr.extract e 1) λ l=>
 Zg Pg 135 #[b,l,(.int .i64 11)] (Zy Pg ds [(none,b),(some 131,c),(some 4,d)] R) w λ n w=>
 EG c d b ds R w
def EI (d b c a:Vl) (ds:LDf) (R:RT) (w:Wd):Prop:=
 opN Pg (YL a) (Zy Pg ds [(none,a),(some 131,b),(some 4,c)] R) w λ e w=>
 opV Pg (fieldAt 201 e 3) (Zy Pg ds [(none,a),(some 131,b),(some 4,c)] R) w λ f w=>
 opU Pg (storeAt 3 f (.int .i64 (-1))) (Zy Pg ds [(none,a),(some 131,b),(some 4,c)] R) w λ w=>
 Ye w λ g w=>
 EH d b c a g ds R w
def EJ (b c a f d:Vl) (Yk:KV) (ds:LDf) (R:RT) (w:Wd):Prop:=
 opV Pg (indexAt 25 f d) (Zy Pg ds [(none,a),(some 131,b),(some 4,c)] R) w λ g w=>
 opV Pg (loadAt 74 g) (Zy Pg ds [(none,a),(some 131,b),(some 4,c)] R) w λ h w=>
 opV Pg (Instr.alloc 74 true (.tuple #[])) (Zy Pg ds [(none,a),(some 131,b),(some 4,c)] R) w λ e w=>
 opU Pg (storeAt 74 e h) (Zy Pg ds [(none,a),(some 131,b),(some 4,c)] R) w λ w=>
 opN Pg (YL a) (Zy Pg ds [(none,a),(some 131,b),(some 4,c)] R) w λ i w=>
 opV Pg (fieldAt 201 i 3) (Zy Pg ds [(none,a),(some 131,b),(some 4,c)] R) w λ j w=>
 opU Pg (storeAt 3 j d) (Zy Pg ds [(none,a),(some 131,b),(some 4,c)] R) w λ w=>
 opV Pg (loadAt 74 e) (Zy Pg ds [(none,a),(some 131,b),(some 4,c)] R) w λ k w=>
 Zg Pg 136 #[a,k] (Zy Pg ds [(none,a),(some 131,b),(some 4,c)] R) w λ m w=>
 opV Pg (Zh .add 3 true d (.int .i64 1)) (Zy Pg ds [(none,a),(some 131,b),(some 4,c)] R) w λ l w=>
 Yk l w
def BU (e a b c f g d:Vl) (Yk:KV) (ds:LDf) (R:RT) (w:Wd):Prop:=
 opV Pg (Zh .lss 3 false d g) (Zy Pg ds [(none,c),(some 131,a),(some 4,b)] R) w λ h w=>
 Zu h (
 EJ a b c f d Yk ds R w) (
 EI e a b c ds R w)
def j8 (d a b c:Vl) (ds:LDf) (R:RT) (w:Wd):Prop:=
 opV Pg (fieldAt 27 d 1) (Zy Pg ds [(none,c),(some 131,a),(some 4,b)] R) w λ f w=>
 opV Pg (loadAt 25 f) (Zy Pg ds [(none,c),(some 131,a),(some 4,b)] R) w λ e w=>
 opV Pg (Builtin.len_ #[25] 3 #[e]) (Zy Pg ds [(none,c),(some 131,a),(some 4,b)] R) w λ g w=>
 Xd (λ h w Yk=>
 BU d a b c e g h Yk ds R w) (.int .i64 0) w
def IY (d b c a e f:Vl) (ds:LDf) (R:RT) (w:Wd):Prop:=
 ZD e f (.bool false) λ g=>
 Zg Pg 135 #[a,g,(.int .i64 3)] (Zy Pg ds [(none,a),(some 131,b),(some 4,c)] R) w λ h w=>
 j8 d b c a ds R w
def IZ (d a b c:Vl) (e:KV) (ds:LDf) (R:RT) (w:Wd):Prop:=
 opV Pg (fieldAt 27 d 1) (Zy Pg ds [(none,c),(some 131,a),(some 4,b)] R) w λ f w=>
 opV Pg (loadAt 25 f) (Zy Pg ds [(none,c),(some 131,a),(some 4,b)] R) w λ g w=>
 opV Pg (Builtin.len_ #[25] 3 #[g]) (Zy Pg ds [(none,c),(some 131,a),(some 4,b)] R) w λ h w=>
 opV Pg (Zh .leq 3 true h (.int .i64 60)) (Zy Pg ds [(none,c),(some 131,a),(some 4,b)] R) w λ i w=>
 e i w
def EK (d a b c:Vl) (ds:LDf) (R:RT) (w:Wd):Prop:=
 opV Pg (fieldAt 27 d 1) (Zy Pg ds [(none,c),(some 131,a),(some 4,b)] R) w λ g w=>
 opV Pg (loadAt 25 g) (Zy Pg ds [(none,c),(some 131,a),(some 4,b)] R) w λ h w=>
 opV Pg (Builtin.len_ #[25] 3 #[h]) (Zy Pg ds [(none,c),(some 131,a),(some 4,b)] R) w λ i w=>
 opV Pg (Zh .geq 3 true i (.int .i64 1)) (Zy Pg ds [(none,c),(some 131,a),(some 4,b)] R) w λ e w=>
 Zq (λ (j:Vl) (w:Wd)=>
 IY d a b c e j ds R w) λ f=>
 Zp e true (
 IZ d a b c f ds R w) (
 f undef w)
def n78 (e:Vl) (R:RT) (w:Wd):Prop:=
 (λ (ds:LDf)=>
 opV Pg (Instr.box 27 e) (Zy Pg ds [(none,undef),(some 131,undef),(some 4,undef)] R) w λ d w=>
 opV Pg (Instr.alloc 131 true (.tuple #[])) (Zy Pg ds [(none,(Value.pointer none)),(some 131,undef),(some 4,undef)] R) w λ a w=>
 opV Pg (Instr.alloc 4 true (.tuple #[])) (Zy Pg ds [(none,(Value.pointer none)),(some 131,a),(some 4,undef)] R) w λ b w=>
 opV Pg (loadAt 27 d) (Zy Pg ds [(none,(Value.pointer none)),(some 131,a),(some 4,b)] R) w λ f w=>
 opV Pg (Instr.makeMap 198 none) (Zy Pg ds [(none,(Value.pointer none)),(some 131,a),(some 4,b)] R) w λ g w=>
 opV Pg (Instr.makeMap 199 none) (Zy Pg ds [(none,(Value.pointer none)),(some 131,a),(some 4,b)] R) w λ h w=>
 opV Pg (Instr.build 201 #[(0,f),(1,g),(2,h),(3,(.int .i64 (-1))),(4,(.int .i64 (-1)))]) (Zy Pg ds [(none,(Value.pointer none)),(some 131,a),(some 4,b)] R) w λ i w=>
 opV Pg (Instr.box 201 i) (Zy Pg ds [(none,(Value.pointer none)),(some 131,a),(some 4,b)] R) w λ c w=>
 opV Pg (makeFunc (.func 134) #[] #[a,b]) (Zy Pg ds [(none,c),(some 131,a),(some 4,b)] R) w λ j w=>
 Zbk Pg j #[] ds w λ ds w=>
 opV Pg (fieldAt 27 d 0) (Zy Pg ds [(none,c),(some 131,a),(some 4,b)] R) w λ k w=>
 opV Pg (loadAt 9 k) (Zy Pg ds [(none,c),(some 131,a),(some 4,b)] R) w λ l w=>
 Zg Pg 35 #[l] (Zy Pg ds [(none,c),(some 131,a),(some 4,b)] R) w λ m w=>
 Zg Pg 135 #[c,m,(.int .i64 1)] (Zy Pg ds [(none,c),(some 131,a),(some 4,b)] R) w λ n w=>
 EK d a b c ds R w) []
theorem ZhH {t0:Vl} {R:RT} {w:Wd} (h:n78 t0 R w):Calls Pg 106 #[t0] w R:=by
 refine yE func106 ?_
 unfold n78 at h
 dsimp only at h
 refine zs<|zr<|yv h λ _ w h=>zm<|yv h λ _ w h=>yv h λ _ w h=>zn<|zk<|zs<|zr<|yv h λ _ w h=>yv h λ _ w h=>yv h λ _ w h=>yB h λ _ w h=>yv h λ _ w h=>?_
 refine zm<|zn<|zk<|zs<|zr<|yF h λ _ w h=>?_
 refine Ca h rfl rfl ?_;intro ds w h
 refine zn<|zk<|zs<|zr<|zm<|yv h λ _ w h=>yv h λ _ w h=>yc h c35 λ _ w h=>yc h VF λ _ w h=>zn<|zk<|zs<|Zr<|yG 6<|zm ?_
 refine yv h λ _ w h=>yv h λ _ w h=>yx h λ _ w h=>yb h λ _ w h=>zm<|zn<|yg1 4 5 true [26,27,28,29] 29 h (λ _ T hT h=>?_) λ σ w h=>?_
 · refine yv h λ _ w h=>yv h λ _ w h=>yx h λ _ w h=>yb h λ _ w h=>zn ?_
   exact zt hT h
 refine yG 2<|yp h λ _ h=>yc h VF λ _ w h=>zn<|ZK<|zk<|zs<|zs<|zr<|yv h λ _ w h=>yv h λ _ w h=>yx h λ _ w h=>zm<|zn<|zk ?_
 refine Zn<|yl1 [5,6,35,36,37,38,39,40,41,42,43,44,45,46,47] 35 h λ σ w next h=>zs<|zr<|yb h λ _ w h=>zn<|zk<|zs<|yC h (λ h=>?_) λ h=>?_
 · refine Zo<|zk<|zs<|Zn<|zs<|zr<|zm<|yv h λ _ w h=>yv h λ _ w h=>yv h λ _ w h=>zm<|yu h λ w h=>zn<|zk<|zs ?_
   refine zr<|zm<|zm<|yN h λ _ w h=>yv h λ _ w h=>yu h λ w h=>zn<|zk<|zr<|zm<|yv h λ _ w h=>yc h ZfG λ _ w h=>zn<|Zf<|zk ?_
   exact zr<|yb h λ _ w h=>zm<|zn<|zk<|⟨rfl,h⟩
 refine ZR<|Ze<|Ze<|Zx<|zk<|zs<|zr<|zm<|yN h λ _ w h=>yv h λ _ w h=>yu h λ w h=>zn<|zk<|zs<|yh [7,8,51,52,53,54,55,56,57,58,59,60] h λ C hC h=>?_
 refine yw 0 hC ?_
 refine yn 1 hC h λ _ h=>?_
 refine ye 2 hC h λ _ h=>?_
 refine ye 3 hC h λ _ h=>?_
 refine ye 4 hC h λ _ h=>?_
 refine ye 5 hC h λ _ h=>?_
 refine ye 6 hC h λ _ h=>?_
 refine yw 7 hC ?_
 refine ye 8 hC h λ _ h=>?_
 refine ye 9 hC h λ _ h=>?_
 refine yw 10 hC ?_
 refine yw 11 hC ?_
 refine yz<|zk<|zs<|zr<|zm<|zm<|yc h VF λ _ w h=>zn<|zk<|zs<|zr<|zm<|yB h λ _ w h=>zm<|yu h λ w h=>?_
 exact yu h λ w h=>zn<|zk<|Zi<|XN rfl h
def ZdK (a b:Vl) (R:RT) (w:Wd):Prop:=
 Zg Pg 137 #[a,b] (Zb R) w λ c w=>
 opV Pg (Zh .geq 3 true c (.int .i64 0)) (Zb R) w λ d w=>
 R (.returned d) w
theorem ZdL {t0 t1:Vl} {R:RT} {w:Wd} (h:ZdK t0 t1 R w):Calls Pg 107 #[t0,t1] w R:=by
 refine yD func107 ?_
 refine zs<|zr<|zm<|zn<|zk<|zs<|zr<|zm<|zm<|yc h ZfH λ _ w h=>yb h λ _ w h=>zm<|zn<|zk<|Zi ?_
 exact Zk rfl rfl h
def N2 (b c a:Vl) (ZA:KV) (R:RT) (w:Wd):Prop:=
 opV Pg (indexAt 40 b a) (Zb R) w λ d w=>
 opV Pg (loadAt 5 d) (Zb R) w λ e w=>
 XO Pg c #[e] (Zb R) w λ f w=>
 Zu f (
 R (.returned a) w) (
 opV Pg (Zh .add 3 true a (.int .i64 1)) (Zb R) w λ g w=>
 ZA g w)
def Zd4 (a c:Vl) (R:RT) (w:Wd):Prop:=
 opV Pg (Builtin.len_ #[40] 3 #[a]) (Zb R) w λ d w=>
 Xd (λ b w ZA=>
 opV Pg (Zh .lss 3 false b d) (Zb R) w λ e w=>
 Zu e (
 N2 a c b ZA R w) (
 R (.returned (.int .i64 (-1))) w)) (.int .i64 0) w
theorem Zd5 {t0 t1:Vl} {R:RT} {w:Wd} (h:Zd4 t0 t1 R w):Calls Pg 108 #[t0,t1] w R:=by
 refine yD func108 ?_
 refine zs<|zr<|zm<|zn<|zk<|zs<|zs<|zr<|zm<|yx h λ _ w h=>zm<|zn<|zk<|Zn<|yl1 [4,5,8,9,10,11,12,13,14,15,16,17,18] 8 h λ σ w next h=>?_
 refine zs<|zr<|yb h λ _ w h=>zn<|zk<|zs<|yC h (λ h=>?_) λ h=>?_
 · refine Zo<|zk<|zs<|Zn<|zs<|zr<|zm<|zm<|zn<|zk<|zs<|zr<|zm<|zm<|zm ?_
   refine yv h λ _ w h=>yv h λ _ w h=>yV h λ _ w h=>zn<|zk<|yC h (λ h=>zs<|zr<|zm<|zm<|zn<|zk<|Zi<|Zj<|Zc<|Zc<|Zj<|Zc<|Zk rfl rfl h) λ h=>Zo<|Zf<|zk<|zr<|yb h λ _ w h=>zm<|zn<|zk ?_
   exact ⟨rfl,h⟩
 exact ZR<|Ze<|Ze<|Zx<|zk<|zs<|zr<|zm<|zn<|zk<|Zi<|Zk rfl rfl h
def n61 (b c:Vl) (R:RT) (w:Wd):Prop:=
 opV Pg (Instr.box 27 b) (Zb R) w λ d w=>
 opV Pg (Instr.box 9 c) (Zb R) w λ e w=>
 opV Pg (fieldAt 27 d 1) (Zb R) w λ f w=>
 opV Pg (loadAt 25 f) (Zb R) w λ g w=>
 opV Pg (makeFunc (.func 139) #[] #[e]) (Zb R) w λ h w=>
 Zg Pg 138 #[g,h] (Zb R) w λ a w=>
 opV Pg (Instr.extract a 0) (Zb R) w λ i w=>
 opV Pg (Instr.extract a 1) (Zb R) w λ j w=>
 R (.returned (.tuple #[i,j])) w
theorem Zhr {t0 t1:Vl} {R:RT} {w:Wd} (h:n61 t0 t1 R w):Calls Pg 109 #[t0,t1] w R:=by
 refine yD func109 ?_
 refine zs<|zr<|yv h λ _ w h=>yv h λ _ w h=>zm<|zm<|zn<|zk<|zs<|zr<|yv h λ _ w h=>yv h λ _ w h=>yF h λ _ w h=>yc h ZfI λ _ w h=>yv h λ _ w h=>?_
 exact yv h λ _ w h=>zm<|zm<|zn<|zk<|Zi<|Z9 rfl rfl rfl h
def TA (b c d:Vl) (a:WPr) (R:RT) (w:Wd):Prop:=
 qV Pg a (fieldAt 74 b 1) λ e=>
 qV Pg a (loadAt 72 e) λ f=>
 qV Pg a (indexAt 72 f d) λ g=>
 qV Pg a (loadAt 123 g) λ h=>
 qV Pg a (fieldAt 74 b 1) λ i=>
 qV Pg a (loadAt 72 i) λ j=>
 qV Pg a (indexAt 72 j d) λ k=>
 qV Pg a (loadAt 123 k) λ l=>
 Zg Pg 68 #[l] (Zb R) w λ m w=>
 a w∧(
 opU Pg (storeAt 123 c h) (Zb R) w λ w=>
 VY w λ n w=>
 qW Pg 123 c w λ r0=>
 R (.returned (.tuple #[r0,m])) w)
def TB (a:Vl) (R:RT) (w:Wd):Prop:=
 opV Pg (Instr.build 123 #[]) (Zb R) w λ b w=>
 opU Pg (storeAt 123 a b) (Zb R) w λ w=>
 qW Pg 123 a w λ r0=>
 R (.returned (.tuple #[r0,(.int .i64 0)])) w
def TC (c a b:Vl) (R:RT) (w:Wd):Prop:=
 opV Pg (Instr.extract b 0) (Zb R) w λ d w=>
 opV Pg (Instr.extract b 1) (Zb R) w λ e w=>
 opV Pg (Op.unary .not e) (Zb R) w λ f w=>
 Zu f (
 TB a R w) (
 Ye w λ g w=>
 TA c a d g R w)
def n36 (b c:Vl) (R:RT) (w:Wd):Prop:=
 opV Pg (Instr.box 74 b) (Zb R) w λ a w=>
 opV Pg (Instr.alloc 123 true (.tuple #[])) (Zb R) w λ d w=>
 opV Pg (loadAt 74 a) (Zb R) w λ e w=>
 Zg Pg 140 #[e,c] (Zb R) w λ f w=>
 TC a d f R w
theorem Zg2 {t0 t1:Vl} {R:RT} {w:Wd} (h:n36 t0 t1 R w):Calls Pg 110 #[t0,t1] w R:=by
 refine yD func110 ?_
 refine zs<|zr<|yv h λ _ w h=>yv h λ _ w h=>zm<|zn<|zk<|zs<|zr<|yv h λ _ w h=>zm<|yc h Zbf λ _ w h=>zm<|yv h λ _ w h=>yv h λ _ w h=>?_
 refine zm<|zm<|zn<|zk<|zs<|zs<|zr<|zm<|yv h λ _ w h=>zn<|zk<|yC h (λ h=>zs<|zr<|yB h λ _ w h=>yu h λ w h=>zm<|zn<|zk<|Zi<|Zc<|YO rfl rfl rfl h) λ h=>Zo<|zk ?_
 refine zs<|yh [5,17,18,19,20,21,22,23,24,25,26,27] h λ C hC h=>ye 0 hC h λ _ h=>?_
 refine ye 1 hC h λ _ h=>?_
 refine yw 2 hC ?_
 refine ye 3 hC h λ _ h=>?_
 refine ye 4 hC h λ _ h=>?_
 refine ye 5 hC h λ _ h=>?_
 refine ye 6 hC h λ _ h=>?_
 refine yw 7 hC ?_
 refine ye 8 hC h λ _ h=>?_
 refine ye 9 hC h λ _ h=>?_
 refine yo 10 ?_
 refine yc h c68 λ _ w h=>zn ?_
 obtain ⟨hC,h⟩:=h
 refine ⟨hC,?_⟩
 refine yq 11 5 ?_
 refine yu h λ w h=>zn ?_
 obtain ⟨C2,hC,h⟩:=h
 refine ⟨C2,hC,?_⟩
 refine yw 12 hC ?_
 exact yz<|zk<|Zi<|YO rfl rfl rfl h
def n31 (a b:Vl) (R:RT) (w:Wd):Prop:=
 opV Pg (Instr.box 43 a) (Zb R) w λ c w=>
 opV Pg (fieldAt 43 c 0) (Zb R) w λ d w=>
 opV Pg (loadAt 9 d) (Zb R) w λ e w=>
 opV Pg (fieldAt 43 b 0) (Zb R) w λ f w=>
 opV Pg (loadAt 9 f) (Zb R) w λ g w=>
 opV Pg (Zh .eql 9 false e g) (Zb R) w λ h w=>
 R (.returned h) w
theorem ZgX {t0 t1:Vl} {R:RT} {w:Wd} (h:n31 t0 t1 R w):Calls Pg 111 #[t0,t1] w R:=by
 refine yD func111 ?_
 refine zs<|zr<|yv h λ _ w h=>zm<|zn<|zk<|zs<|zr<|yv h λ _ w h=>yv h λ _ w h=>yv h λ _ w h=>yv h λ _ w h=>yb h λ _ w h=>zm<|zn ?_
 exact zk<|Zi<|Zk rfl rfl h
def xF (a b:Vl) (Yk:KW) (R:RT) (w:Wd):Prop:=
 opV Pg (fieldAt 78 a 1) (Zb R) w λ c w=>
 opV Pg (loadAt 3 c) (Zb R) w λ d w=>
 opV Pg (Zh .add 3 true b (.int .i64 1)) (Zb R) w λ e w=>
 Yk d e w
def BJ (e b f g h:Vl) (Yk:KW) (R:RT) (w:Wd):Prop:=
 ZD g h (.bool false) λ c=>
 Zq (λ (a:Vl) (w:Wd)=>
 ZD c a (.bool false) λ i=>
 Zg Pg 33 #[e,i,(.int .i64 8)] (Zb R) w λ l w=>
 xF b f Yk R w) λ d=>
 Zp c true (
 opV Pg (fieldAt 78 b 2) (Zb R) w λ j w=>
 opV Pg (loadAt 3 j) (Zb R) w λ k w=>
 Zg Pg 42 #[k] (Zb R) w λ a w=>
 d a w) (
 d undef w)
def BK (e b f g h:Vl) (Yk:KW) (R:RT) (w:Wd):Prop:=
 ZD g h (.bool false) λ c=>
 Zq (λ (a:Vl) (w:Wd)=>
 BJ e b f c a Yk R w) λ d=>
 Zp c true (
 opV Pg (fieldAt 78 b 1) (Zb R) w λ i w=>
 opV Pg (loadAt 3 i) (Zb R) w λ j w=>
 Zg Pg 42 #[j] (Zb R) w λ a w=>
 d a w) (
 d undef w)
def jY (f g h c:Vl) (Yk:KW) (R:RT) (w:Wd):Prop:=
 opV Pg (indexAt 41 g c) (Zb R) w λ i w=>
 opV Pg (loadAt 78 i) (Zb R) w λ j w=>
 opV Pg (Instr.alloc 78 true (.tuple #[])) (Zb R) w λ a w=>
 opU Pg (storeAt 78 a j) (Zb R) w λ w=>
 opV Pg (fieldAt 78 a 0) (Zb R) w λ k w=>
 opV Pg (loadAt 3 k) (Zb R) w λ l w=>
 opV Pg (Zh .gtr 3 false l h) (Zb R) w λ d w=>
 Zq (λ (b:Vl) (w:Wd)=>
 BK f a c d b Yk R w) λ e=>
 Zp d true (
 opV Pg (fieldAt 78 a 0) (Zb R) w λ m w=>
 opV Pg (loadAt 3 m) (Zb R) w λ n w=>
 opV Pg (fieldAt 78 a 1) (Zb R) w λ o w=>
 opV Pg (loadAt 3 o) (Zb R) w λ p w=>
 opV Pg (Zh .leq 3 false n p) (Zb R) w λ b w=>
 e b w) (
 e undef w)
def xG (c a:Vl) (R:RT) (w:Wd):Prop:=
 opV Pg (Builtin.len_ #[41] 3 #[a]) (Zb R) w λ d w=>
 U0 (λ e b w Yk=>
 opV Pg (Zh .lss 3 false b d) (Zb R) w λ f w=>
 Zu f (
 jY c a e b Yk R w) (
 R (.returned (.tuple #[])) w)) (.int .i64 (-1)) (.int .i64 0) w
def n32 (c a:Vl) (R:RT) (w:Wd):Prop:=
 opV Pg (Builtin.len_ #[41] 3 #[a]) (Zb R) w λ f w=>
 opV Pg (Zh .geq 3 true f (.int .i64 1)) (Zb R) w λ d w=>
 Zq (λ (b:Vl) (w:Wd)=>
 ZD d b (.bool false) λ g=>
 Zg Pg 33 #[c,g,(.int .i64 2)] (Zb R) w λ i w=>
 xG c a R w) λ e=>
 Zp d true (
 opV Pg (Builtin.len_ #[41] 3 #[a]) (Zb R) w λ h w=>
 opV Pg (Zh .leq 3 true h (.int .i64 40)) (Zb R) w λ b w=>
 e b w) (
 e undef w)
theorem ZgY {t0 t1:Vl} {R:RT} {w:Wd} (h:n32 t0 t1 R w):Calls Pg 112 #[t0,t1] w R:=by
 refine yD func112 ?_
 refine zs<|Zr<|yG 5<|zm<|zm<|yx h λ _ w h=>yb h λ _ w h=>zm<|zn<|yg1 3 4 true [12,13,14] 14 h (λ _ T hT h=>?_) λ σ w h=>?_
 · refine zm<|yx h λ _ w h=>yb h λ _ w h=>zn ?_
   exact zt hT h
 refine yG 2<|yp h λ _ h=>yc h c33 λ _ w h=>zn<|ZK<|zk<|zs<|zr<|zm<|zn<|zk<|zs<|zr<|zm<|yx h λ _ w h=>?_
 refine zm<|zn<|zk<|Zn<|yl2 [4,6,19,20,21,22,23,24,25,26,27,28,29,30,31,32,33,34,35,36,37,38,39,40,41,42,43,44,45,46,47,48] 4 19 h λ σ w next h=>zs<|zr<|yb h λ _ w h=>zn<|zk<|zs<|yC h (λ h=>?_) λ h=>?_
 · refine Zo<|zk<|zs<|Zn<|zs<|zr<|yv h λ _ w h=>yv h λ _ w h=>yv h λ _ w h=>yu h λ w h=>zn<|zk<|zs<|Zr<|yG 6 ?_
   refine zm<|yv h λ _ w h=>yv h λ _ w h=>zm<|yb h λ _ w h=>zm<|zn<|yg1 5 5 true [29,30,31,32,33] 33 h (λ _ T hT h=>?_) λ σ w h=>?_
   · refine yv h λ _ w h=>yv h λ _ w h=>yv h λ _ w h=>yv h λ _ w h=>yb h λ _ w h=>zn ?_
     exact zt hT h
   refine yG 2<|yp h λ _ h=>zm<|zn<|yg1 3 12 true [36,37,38] 38 h (λ _ T hT h=>?_) λ σ w h=>?_
   · refine yv h λ _ w h=>yv h λ _ w h=>yc h c42 λ _ w h=>zn ?_
     exact zt hT h
   refine yG 2<|yp h λ _ h=>zm<|zn<|yg1 3 17 true [41,42,43] 43 h (λ _ T hT h=>?_) λ σ w h=>?_
   · refine yv h λ _ w h=>yv h λ _ w h=>yc h c42 λ _ w h=>zn ?_
     exact zt hT h
   refine yG 2<|yp h λ _ h=>yc h c33 λ _ w h=>zn<|ZK<|zk<|zr<|yv h λ _ w h=>yv h λ _ w h=>zm<|zn<|Zf<|zk<|zr<|yb h λ _ w h=>?_
   exact zm<|zn<|zk<|⟨rfl,h⟩
 exact ZR<|Ze<|Ze<|Zx<|ZH<|ZO rfl h
def Og (a b c d:Vl) (e:WPr) (ZA:KV) (R:RT) (w:Wd):Prop:=
 ZD c d (.bool false) λ f=>
 Zg Pg 33 #[a,f,(.int .i64 9)] (Zb R) w λ h w=>
 e w∧(
 opV Pg (Zh .add 3 true b (.int .i64 1)) (Zb R) w λ g w=>
 ZA g w)
def Tr (b c d:Vl) (a:WPr) (e:KV) (R:RT) (w:Wd):Prop:=
 qV Pg a (loadAt 123 c) λ f=>
 qN Pg a (YL b) λ g=>
 qV Pg a (fieldAt 81 g 0) λ h=>
 qV Pg a (fieldAt 24 h 1) λ i=>
 qV Pg a (loadAt 22 i) λ j=>
 qV Pg a (indexAt 22 j d) λ k=>
 qV Pg a (fieldAt 60 k 1) λ l=>
 qV Pg a (loadAt 9 l) λ m=>
 Zg Pg 141 #[f] (Zb R) w λ n w=>
 a w∧(
 Zg Pg 142 #[n,m] (Zb R) w λ o w=>
 a w∧(
 e o w))
def Ts (a f g b:Vl) (ZA:KV) (R:RT) (w:Wd):Prop:=
 opV Pg (Instr.extract b 0) (Zb R) w λ h w=>
 opV Pg (Instr.extract b 1) (Zb R) w λ c w=>
 Ye w λ d w=>
 Zq (λ (i:Vl) (w:Wd)=>
 Og a g c i d ZA R w) λ e=>
 Zp c true (
 Tr a f h d e R w) (
 e undef w)
def Tt (a c d b:Vl) (ZA:KV) (R:RT) (w:Wd):Prop:=
 opV Pg (indexAt 94 d b) (Zb R) w λ e w=>
 opV Pg (loadAt 9 e) (Zb R) w λ f w=>
 opN Pg (YL a) (Zb R) w λ g w=>
 opV Pg (fieldAt 81 g 0) (Zb R) w λ h w=>
 opV Pg (loadAt 24 h) (Zb R) w λ i w=>
 Zg Pg 20 #[i,f] (Zb R) w λ j w=>
 Ts a c b j ZA R w
def Tu (c d a:Vl) (R:RT) (w:Wd):Prop:=
 opV Pg (Builtin.len_ #[94] 3 #[a]) (Zb R) w λ e w=>
 Xd (λ b w ZA=>
 opV Pg (Zh .lss 3 false b e) (Zb R) w λ f w=>
 Zu f (
 Tt c d a b ZA R w) (
 R (.returned (.tuple #[])) w)) (.int .i64 0) w
def n29 (a b c:Vl) (R:RT) (w:Wd):Prop:=
 opV Pg (Instr.box 123 b) (Zb R) w λ d w=>
 opV Pg (Instr.box 123 c) (Zb R) w λ e w=>
 opV Pg (loadAt 123 d) (Zb R) w λ f w=>
 Zg Pg 141 #[f] (Zb R) w λ g w=>
 Tu a e g R w
theorem ZgV {t0 t1 t2:Vl} {R:RT} {w:Wd} (h:n29 t0 t1 t2 R w):Calls Pg 113 #[t0,t1,t2] w R:=by
 refine yD func113 ?_
 refine zs<|zr<|yv h λ _ w h=>yv h λ _ w h=>zn<|zk<|zs<|zr<|yv h λ _ w h=>yc h Zch λ _ w h=>yx h λ _ w h=>zm<|zn<|zk<|Zn ?_
 refine yl1 [7,8,9,13,14,15,16,17,18,19,20,21,22,23,24,25,26,27,28,29,30,31,32,33,34,35,36,37,38,39,40,41,42,43] 13 h λ σ w next h=>zs<|zr<|yb h λ _ w h=>zn<|zk<|zs<|yC h (λ h=>?_) λ h=>?_
 · refine Zo<|zk<|zs<|Zn<|zs<|zr<|yv h λ _ w h=>yv h λ _ w h=>zm<|zn<|zk<|zs<|zr<|zm<|yN h λ _ w h=>?_
   refine yv h λ _ w h=>yv h λ _ w h=>zm<|yc h c20 λ _ w h=>zm<|yv h λ _ w h=>yv h λ _ w h=>zm<|zm<|zn<|zk<|yh [26,27,28,29,30,31,32,33,34,35,36,37,38,39,40,41,42] h λ C hC h=>yw 0 hC ?_
   refine yw 1 hC ?_
   refine yw 2 hC ?_
   refine yj1 2 [14,4,13,12,11,10,9,8,7,6,5,3,2,1,0] [29,30,31,32,33,34,35,36,37,38,39,40] 40 h (λ _ hT hb h=>?_) (λ _ hT hb h=>?_) λ σ w hC h=>?_
   · refine ye 3 hC h λ _ h=>?_
     refine yw 5 hC ?_
     refine yn 6 hC h λ _ h=>?_
     refine ye 7 hC h λ _ h=>?_
     refine ye 8 hC h λ _ h=>?_
     refine ye 9 hC h λ _ h=>?_
     refine yw 10 hC ?_
     refine ye 11 hC h λ _ h=>?_
     refine ye 12 hC h λ _ h=>?_
     refine ye 13 hC h λ _ h=>?_
     refine yo 4 ?_
     refine yc h Zch λ _ w h=>zn ?_
     obtain ⟨hC,h⟩:=h
     refine ⟨hC,?_⟩
     refine yo 14 ?_
     refine yc h Zci λ _ w h=>zn ?_
     obtain ⟨hC,h⟩:=h
     refine ⟨hC,?_⟩
     exact yt hT hC h
   · refine yi 3 hC ?_
     refine yi 5 hC ?_
     refine yi 6 hC ?_
     refine yi 7 hC ?_
     refine yi 8 hC ?_
     refine yi 9 hC ?_
     refine yi 10 hC ?_
     refine yi 11 hC ?_
     refine yi 12 hC ?_
     refine yi 13 hC ?_
     refine yi 4 hC ?_
     refine yi 14 hC ?_
     exact yt hT hC h
   refine yP 15 hC h λ _ h=>?_
   refine yo 16 ?_
   refine yc h c33 λ _ w h=>zn ?_
   obtain ⟨hC,h⟩:=h
   refine ⟨hC,?_⟩
   exact yz<|Zf<|zk<|zr<|yb h λ _ w h=>zm<|zn<|zk<|⟨rfl,h⟩
 exact ZR<|Ze<|Ze<|Zx<|ZH<|ZO rfl h
def NW (b c a:Vl) (ZA:KV) (R:RT) (w:Wd):Prop:=
 opV Pg (indexAt 58 b a) (Zb R) w λ d w=>
 opV Pg (loadAt 43 d) (Zb R) w λ e w=>
 XO Pg c #[e] (Zb R) w λ f w=>
 Zu f (
 R (.returned a) w) (
 opV Pg (Zh .add 3 true a (.int .i64 1)) (Zb R) w λ g w=>
 ZA g w)
def ZdU (a c:Vl) (R:RT) (w:Wd):Prop:=
 opV Pg (Builtin.len_ #[58] 3 #[a]) (Zb R) w λ d w=>
 Xd (λ b w ZA=>
 opV Pg (Zh .lss 3 false b d) (Zb R) w λ e w=>
 Zu e (
 NW a c b ZA R w) (
 R (.returned (.int .i64 (-1))) w)) (.int .i64 0) w
theorem ZdV {t0 t1:Vl} {R:RT} {w:Wd} (h:ZdU t0 t1 R w):Calls Pg 114 #[t0,t1] w R:=by
 refine yD func114 ?_
 refine zs<|zr<|zm<|zn<|zk<|zs<|zs<|zr<|zm<|yx h λ _ w h=>zm<|zn<|zk<|Zn<|yl1 [4,5,8,9,10,11,12,13,14,15,16,17,18] 8 h λ σ w next h=>?_
 refine zs<|zr<|yb h λ _ w h=>zn<|zk<|zs<|yC h (λ h=>?_) λ h=>?_
 · refine Zo<|zk<|zs<|Zn<|zs<|zr<|zm<|zm<|zn<|zk<|zs<|zr<|zm<|zm<|zm ?_
   refine yv h λ _ w h=>yv h λ _ w h=>yV h λ _ w h=>zn<|zk<|yC h (λ h=>zs<|zr<|zm<|zm<|zn<|zk<|Zi<|Zj<|Zc<|Zc<|Zj<|Zc<|Zk rfl rfl h) λ h=>Zo<|Zf<|zk<|zr<|yb h λ _ w h=>zm<|zn<|zk ?_
   exact ⟨rfl,h⟩
 exact ZR<|Ze<|Ze<|Zx<|zk<|zs<|zr<|zm<|zn<|zk<|Zi<|Zk rfl rfl h
def Hf (a b c:Vl) (ZA:KV) (R:RT) (w:Wd):Prop:=
 opV Pg (Op.unary .not c) (Zb R) w λ d w=>
 Zu d (
 R (.returned (.tuple #[])) w) (
 opV Pg (loadAt 3 a) (Zb R) w λ e w=>
 opV Pg (Zh .add 3 false b e) (Zb R) w λ f w=>
 ZA f w)
def NT (f c d a:Vl) (b:WPr) (ZA:KV) (R:RT) (w:Wd):Prop:=
 qV Pg b (loadAt 3 d) λ g=>
 qV Pg b (loadAt 40 c) λ h=>
 qV Pg b (Instr.sliceAt 40 h (some a) none none) λ i=>
 qV Pg b (Builtin.len_ #[40] 3 #[i]) λ j=>
 qV Pg b (Builtin.min_ #[3,3] 3 #[g,j]) λ e=>
 opV Pg (loadAt 40 c) (Zb R) w λ k w=>
 opV Pg (Zh .add 3 false a e) (Zb R) w λ l w=>
 opV Pg (Zh .add 3 false a e) (Zb R) w λ m w=>
 opV Pg (Instr.sliceAt 40 k (some a) (some l) (some m)) (Zb R) w λ n w=>
 XO Pg f #[n] (Zb R) w λ o w=>
 Hf d a o ZA R w
def NU (c a d b:Vl) (ZA:KV) (R:RT) (w:Wd):Prop:=
 opV Pg (loadAt 40 a) (Zb R) w λ e w=>
 opV Pg (Builtin.len_ #[40] 3 #[e]) (Zb R) w λ f w=>
 opV Pg (Zh .lss 3 false b f) (Zb R) w λ g w=>
 Zu g (
 Ye w λ h w=>
 NT c a d b h ZA R w) (
 R (.returned (.tuple #[])) w)
def Zdu (a b c:Vl) (R:RT) (w:Wd):Prop:=
 Xd (λ d w ZA=>
 NU a b c d ZA R w) (.int .i64 0) w
theorem Zdv {t0 t1 t2:Vl} {R:RT} {w:Wd} (h:Zdu t0 t1 t2 R w):Calls Pg 154 #[t0,t1,t2] w R:=by
 refine yD func154 ?_
 refine zs<|zr<|zm<|zn<|zk<|Zn<|yl1 [4,5,6,7,8,9,10,11,12,13,14,15,16,17,18,19,20,21,22,23,24,25,26,27,28,29,30] 4 h λ σ w next h=>zs<|zs<|zr<|zm<|yv h λ _ w h=>yx h λ _ w h=>yb h λ _ w h=>zn ?_
 refine zk<|yC h (λ h=>?_) λ h=>?_
 · refine Zo<|zk<|zs<|Zn<|zs<|yh [5,13,14,15,16,17,18] h λ C hC h=>ye 0 hC h λ _ h=>?_
   refine ye 1 hC h λ _ h=>?_
   refine yw 2 hC ?_
   refine ye 3 hC h λ _ h=>?_
   refine ye 4 hC h λ _ h=>?_
   refine ye 5 hC h λ _ h=>?_
   refine yw 6 hC ?_
   refine yz<|zk<|zs<|zr<|zm<|yv h λ _ w h=>zm<|zm<|zm<|yb h λ _ w h=>zm<|zm<|yb h λ _ w h=>yv h λ _ w h=>yV h λ _ w h=>?_
   refine yv h λ _ w h=>zn<|zk<|yC h (λ h=>Zi<|Zj<|Zc<|Zc<|Zj<|ZO rfl h) λ h=>Zo<|Zf<|zk<|zr<|zm<|yv h λ _ w h=>yb h λ _ w h=>zm<|zn<|zk ?_
   exact ⟨rfl,h⟩
 exact ZR<|Ze<|Ze<|Zx<|ZH<|ZO rfl h
def ZaH (a b c:Vl) (R:RT) (w:Wd):Prop:=
 opV Pg (fieldAt 255 c 1) (Zb R) w λ d w=>
 opV Pg (loadAt 253 d) (Zb R) w λ e w=>
 opV Pg (loadAt 123 b) (Zb R) w λ f w=>
 XO Pg e #[a,f] (Zb R) w λ g w=>
 R (.returned (.tuple #[])) w
def ZaI (b a c d:Vl) (R:RT) (w:Wd):Prop:=
 opV Pg (loadAt 123 d) (Zb R) w λ e w=>
 opV Pg (fieldAt 123 a 0) (Zb R) w λ f w=>
 opV Pg (loadAt 9 f) (Zb R) w λ g w=>
 opV Pg (fieldAt 123 a 1) (Zb R) w λ h w=>
 opV Pg (loadAt 117 h) (Zb R) w λ i w=>
 opV Pg (Instr.build 123 #[(0,g),(1,i)]) (Zb R) w λ j w=>
 Zg Pg 197 #[e,j] (Zb R) w λ k w=>
 Zg Pg 135 #[b,k,(.int .i64 5)] (Zb R) w λ l w=>
 ZaH b a c R w
def EE (d b c:Vl) (R:RT) (w:Wd):Prop:=
 opV Pg (loadAt 123 b) (Zb R) w λ e w=>
 opV Pg (Instr.alloc 123 true (.tuple #[])) (Zb R) w λ a w=>
 opU Pg (storeAt 123 a e) (Zb R) w λ w=>
 opV Pg (fieldAt 255 c 0) (Zb R) w λ f w=>
 opV Pg (loadAt 252 f) (Zb R) w λ g w=>
 XO Pg g #[a] (Zb R) w λ h w=>
 ZaI d b c a R w
def ZaJ (d e:Vl) (a:WPr) (f:KW) (R:RT) (w:Wd):Prop:=
 qV Pg a (Instr.lookup 257 d e true) λ b=>
 qV Pg a (Instr.extract b 0) λ g=>
 qV Pg a (Instr.extract b 1) λ h=>
 opV Pg (Instr.alloc 255 true (.tuple #[])) (Zb R) w λ c w=>
 a w∧(
 opU Pg (storeAt 255 c g) (Zb R) w λ w=>
 a w∧(
 f h c w))
def IT (b d e:Vl) (a:WPr) (f:KW) (R:RT) (w:Wd):Prop:=
 qV Pg a (Instr.lookup 257 d e true) λ c=>
 qV Pg a (Instr.extract c 0) λ g=>
 qV Pg a (Instr.extract c 1) λ h=>
 opU Pg (storeAt 255 b g) (Zb R) w λ w=>
 a w∧(
 f h b w)
def ZaK (d e:Vl) (a:WPr) (R:RT) (w:Wd):Prop:=
 qV Pg a (fieldAt 123 e 1) λ h=>
 qV Pg a (loadAt 117 h) λ f=>
 Zq (λ (i:Vl) (b:Vl) (w:Wd)=>
 Zg Pg 135 #[d,i,(.int .i64 4)] (Zb R) w λ l w=>
 EE d e b R w) λ g=>
 (
 Zg Pg 196 #[] (Zb R) w λ c w=>
 X4 a w λ j w=>
 ZaJ c f j g R w)∧(
 opV Pg (Instr.alloc 255 true (.tuple #[])) (Zb R) w λ b w=>
 a w∧(
 Zg Pg 196 #[] (Zb R) w λ c w=>
 X4 a w λ k w=>
 IT b c f k g R w))
def ZaL (a d b:Vl) (c:WPr) (R:RT) (w:Wd):Prop:=
 qV Pg c (Instr.extract b 0) λ h=>
 qV Pg c (Instr.extract b 1) λ e=>
 opV Pg (Op.unary .not e) (Zb R) w λ f w=>
 Zg Pg 135 #[a,f,(.int .i64 2)] (Zb R) w λ i w=>
 Ye w λ g w=>
 ZaK a d g R w
def ZaM (b c:Vl) (a:WPr) (R:RT) (w:Wd):Prop:=
 qV Pg a (fieldAt 123 c 0) λ d=>
 qV Pg a (loadAt 9 d) λ e=>
 Zg Pg 195 #[b] (Zb R) w λ f w=>
 a w∧(
 qV Pg a (Instr.build 74 #[(1,f)]) λ g=>
 Zg Pg 140 #[g,e] (Zb R) w λ h w=>
 a w∧(
 ZaL b c h a R w))
def n72 (a c:Vl) (R:RT) (w:Wd):Prop:=
 opV Pg (Instr.box 123 c) (Zb R) w λ b w=>
 opV Pg (fieldAt 123 b 0) (Zb R) w λ d w=>
 opV Pg (loadAt 9 d) (Zb R) w λ e w=>
 Zg Pg 35 #[e] (Zb R) w λ f w=>
 Zg Pg 135 #[a,f,(.int .i64 1)] (Zb R) w λ h w=>
 Ye w λ g w=>
 ZaM a b g R w
theorem ZhB {t0 t1:Vl} {R:RT} {w:Wd} (h:n72 t0 t1 R w):Calls Pg 161 #[t0,t1] w R:=by
 refine yD func161 ?_
 refine zs<|zr<|yv h λ _ w h=>zn<|zk<|zs<|zr<|zm<|yv h λ _ w h=>yv h λ _ w h=>yc h c35 λ _ w h=>yc h VF λ _ w h=>zn<|zk<|zs ?_
 refine yh [4,5,13,14,15,16,17,18,19,20,21] h λ C hC h=>yw 0 hC ?_
 refine ye 3 hC h λ _ h=>?_
 refine ye 4 hC h λ _ h=>?_
 refine yo 1 ?_
 refine yc h Lr λ _ w h=>zn ?_
 obtain ⟨hC,h⟩:=h
 refine ⟨hC,?_⟩
 refine ye 2 hC h λ _ h=>?_
 refine yo 5 ?_
 refine yc h Zbf λ _ w h=>zn ?_
 obtain ⟨hC,h⟩:=h
 refine ⟨hC,?_⟩
 refine yw 6 hC ?_
 refine ye 7 hC h λ _ h=>?_
 refine ye 8 hC h λ _ h=>?_
 refine yw 9 hC ?_
 refine yw 10 hC ?_
 refine yz<|zk<|zs<|zr<|zm<|zm<|yv h λ _ w h=>yc h VF λ _ w h=>zn<|zk<|zs<|yh [5,6,26,27,28,29,30,31,32] h λ C hC h=>ye 1 hC h λ _ h=>?_
 refine ye 2 hC h λ _ h=>?_
 refine Qr h (λ K3 hK h=>?_)
 refine Q5 [5,6,26,27,30,31,32] (λ ρ w=>K3 (ρ 5) (ρ 6) w) (λ T hT=>?_) (λ σ w h=>?_)
 · obtain ⟨h0,h1⟩:=h
   refine Y7 0 7 rfl rfl (by kernel_rfl) (λ _ _=>rfl) (λ _ _=>rfl) ?_ ?_
   · have h:=h0
     refine yc h Zck λ _ w h=>zn ?_
     obtain ⟨C4,hs,hC,h⟩:=h
     refine ⟨C4,hs,hC,?_⟩
     refine ye 3 hC h λ _ h=>?_
     refine yw 4 hC ?_
     refine ye 5 hC h λ _ h=>?_
     refine ye 6 hC h λ _ h=>?_
     refine yo 7 ?_
     refine yv h λ _ w h=>zn ?_
     obtain ⟨hC,h⟩:=h
     refine ⟨hC,?_⟩
     refine yo 8 ?_
     refine yu h λ w h=>zn ?_
     obtain ⟨hC,h⟩:=h
     refine ⟨hC,?_⟩
     refine yw 9 hC ?_
     refine yz ?_
     exact zt hT h
   have h:=h1
   refine yv h λ _ w h=>zn ?_
   obtain ⟨hC,h⟩:=h
   refine ⟨_,λ _ h=>h,hC,?_⟩
   refine yr 0 ?_
   refine yc h Zck λ _ w h=>zn ?_
   obtain ⟨C5,hs,hC,h⟩:=h
   refine ⟨C5,hs,hC,?_⟩
   refine ye 3 hC h λ _ h=>?_
   refine yw 4 hC ?_
   refine ye 5 hC h λ _ h=>?_
   refine ye 6 hC h λ _ h=>?_
   refine yo 8 ?_
   refine yu h λ w h=>zn ?_
   obtain ⟨hC,h⟩:=h
   refine ⟨hC,?_⟩
   refine yw 9 hC ?_
   refine yz ?_
   exact zt hT h
 subst hK
 refine zk<|zs<|zr<|zm<|zm<|yc h VF λ _ w h=>zn<|zk<|zs<|zr<|yv h λ _ w h=>yv h λ _ w h=>yu h λ w h=>zn<|zk ?_
 refine zs<|zr<|yv h λ _ w h=>yv h λ _ w h=>yV h λ _ w h=>zn<|zk<|zs<|zr<|zm<|yv h λ _ w h=>yv h λ _ w h=>yv h λ _ w h=>yv h λ _ w h=>yv h λ _ w h=>?_
 exact yB h λ _ w h=>yc h ZfY λ _ w h=>yc h VF λ _ w h=>zn<|zk<|zr<|yv h λ _ w h=>yv h λ _ w h=>zm<|yv h λ _ w h=>yV h λ _ w h=>zn<|ZH<|ZO rfl h
def xM (a d b:Vl) (QL:KV) (R:RT) (w:Wd):Prop:=
 opV Pg (indexAt 121 d b) (Zb R) w λ e w=>
 opV Pg (loadAt 213 e) (Zb R) w λ f w=>
 opV Pg (Instr.alloc 213 true (.tuple #[])) (Zb R) w λ c w=>
 opU Pg (storeAt 213 c f) (Zb R) w λ w=>
 opV Pg (loadAt 94 a) (Zb R) w λ g w=>
 opV Pg (fieldAt 213 c 2) (Zb R) w λ h w=>
 opV Pg (loadAt 9 h) (Zb R) w λ i w=>
 opV Pg (buildSlice 94 1 #[(0,i)]) (Zb R) w λ j w=>
 opV Pg (Builtin.append_ #[94,94] 94 #[g,j]) (Zb R) w λ k w=>
 opU Pg (storeAt 94 a k) (Zb R) w λ w=>
 opV Pg (Zh .add 3 true b (.int .i64 1)) (Zb R) w λ l w=>
 QL l w
def xN (c d:Vl) (e:WPr) (R:RT) (w:Wd):Prop:=
 opV Pg (fieldAt 123 d 11) (Zb R) w λ f w=>
 opV Pg (loadAt 121 f) (Zb R) w λ a w=>
 opV Pg (Builtin.len_ #[121] 3 #[a]) (Zb R) w λ g w=>
 Xd (λ b w QL=>
 opV Pg (Zh .lss 3 false b g) (Zb R) w λ h w=>
 Zu h (
 xM c a b QL R w) (
 e w)) (.int .i64 0) w
def xO (a b:Vl) (c:WPr) (R:RT) (w:Wd):Prop:=
 opV Pg (loadAt 94 a) (Zb R) w λ d w=>
 opV Pg (fieldAt 123 b 8) (Zb R) w λ e w=>
 opV Pg (loadAt 9 e) (Zb R) w λ f w=>
 opV Pg (buildSlice 94 1 #[(0,f)]) (Zb R) w λ g w=>
 opV Pg (Builtin.append_ #[94,94] 94 #[d,g]) (Zb R) w λ h w=>
 opU Pg (storeAt 94 a h) (Zb R) w λ w=>
 c w
def zf (b c d e f:Vl) (ZA:KV) (R:RT) (w:Wd):Prop:=
 Zq (λ (w:Wd)=>
 opV Pg (Zh .add 3 true d (.int .i64 1)) (Zb R) w λ g w=>
 ZA g w) λ a=>
 Zu f (
 xO b c a R w) (
 opV Pg (Zh .eql 117 true e (.int .i64 9)) (Zb R) w λ h w=>
 Zu h (
 xN b c a R w) (
 a w))
def J1 (a:Vl) (b:KV) (R:RT) (w:Wd):Prop:=
 opV Pg (Zh .eql 117 true a (.int .i64 8)) (Zb R) w λ c w=>
 Zu c (
 b c w) (
 opV Pg (Zh .eql 117 true a (.int .i64 12)) (Zb R) w λ d w=>
 b d w)
def xP (f g c:Vl) (ZA:KV) (R:RT) (w:Wd):Prop:=
 opV Pg (indexAt 72 g c) (Zb R) w λ h w=>
 opV Pg (loadAt 123 h) (Zb R) w λ i w=>
 opV Pg (Instr.alloc 123 true (.tuple #[])) (Zb R) w λ a w=>
 opU Pg (storeAt 123 a i) (Zb R) w λ w=>
 opV Pg (fieldAt 123 a 1) (Zb R) w λ j w=>
 opV Pg (loadAt 117 j) (Zb R) w λ b w=>
 opV Pg (Zh .eql 117 true b (.int .i64 7)) (Zb R) w λ d w=>
 Zq (λ (k:Vl) (w:Wd)=>
 zf f a c b k ZA R w) λ e=>
 Zu d (
 e d w) (
 J1 b e R w)
def xQ (a c d b:Vl) (ZA:KV) (R:RT) (w:Wd):Prop:=
 opV Pg (Zh .lss 3 false b d) (Zb R) w λ e w=>
 Zu e (
 xP a c b ZA R w) (
 opV Pg (makeFunc (.func 198) #[] #[a]) (Zb R) w λ f w=>
 R (.returned f) w)
def n65 (b:Vl) (R:RT) (w:Wd):Prop:=
 opV Pg (Instr.box 74 b) (Zb R) w λ c w=>
 opV Pg (Instr.alloc 94 true (.tuple #[])) (Zb R) w λ d w=>
 opV Pg (fieldAt 74 c 1) (Zb R) w λ e w=>
 opV Pg (loadAt 72 e) (Zb R) w λ a w=>
 opV Pg (Builtin.len_ #[72] 3 #[a]) (Zb R) w λ f w=>
 Xd (λ g w ZA=>
 xQ d a f g ZA R w) (.int .i64 0) w
theorem Zhv {t0:Vl} {R:RT} {w:Wd} (h:n65 t0 R w):Calls Pg 162 #[t0] w R:=by
 refine yD func162 ?_
 refine zs<|zr<|yv h λ _ w h=>zm<|zn<|zk<|zs<|zr<|yv h λ _ w h=>zn<|zk<|zs<|zs<|zr<|yv h λ _ w h=>?_
 refine yv h λ _ w h=>yx h λ _ w h=>zm<|zn<|zk<|Zn<|yl1 [5,7,11,12,13,14,15,16,17,18,19,20,21,22,23,24,25,26,27,28,29,30,31,32,33,34,35,36,37,38,39,40,41] 11 h λ σ w next h=>zs<|zr<|yb h λ _ w h=>zn<|zk<|zs<|yC h (λ h=>?_) λ h=>?_
 · refine Zo<|zk<|zs<|Zn<|zs<|zr<|yv h λ _ w h=>yv h λ _ w h=>yv h λ _ w h=>yu h λ w h=>zn<|zk<|zs<|zr<|yv h λ _ w h=>?_
   refine yv h λ _ w h=>zn<|zk<|Zn<|zs<|zs<|zr<|yb h λ _ w h=>zm<|zn<|zk<|yJ1 [17,19,20] 17 h (λ _ _ hkK2 h=>?_) λ σ w h=>?_
   · refine yC h (λ h=>?_) λ h=>?_
     · refine Zo<|zk ?_
       exact zt hkK2 h
     refine zs<|zr<|yb h λ _ w h=>zm<|zn<|zk<|yC h (λ h=>?_) λ h=>?_
     · refine Zo<|zk ?_
       exact zt hkK2 h
     refine zr<|yb h λ _ w h=>zm<|zn<|zk ?_
     exact zt hkK2 h
   refine zk<|yJ0 [7,21,22,23,24,25,26,27,28,29,30,31,32,33,34,35,36,37,38,39,40] h (λ _ _ hkK3 h=>?_) λ σ w h=>?_
   · refine yC h (λ h=>?_) λ h=>?_
     · refine zr<|yv h λ _ w h=>yv h λ _ w h=>yv h λ _ w h=>yS h λ _ w h=>yx h λ _ w h=>yu h λ w h=>zn<|zk ?_
       exact zt hkK3 h
     refine zs<|zr<|yb h λ _ w h=>zm<|zn<|zk<|yC h (λ h=>?_) λ h=>?_
     · refine zs<|zr<|yv h λ _ w h=>yv h λ _ w h=>yx h λ _ w h=>zm<|zn<|zk<|Zn<|yl1 [7,31,32,33,34,35,36,37,38,39,40] 31 h λ σ w next h=>zs<|zr<|yb h λ _ w h=>zn<|zk ?_
       refine zs<|yC h (λ h=>?_) λ h=>?_
       · refine Zo<|zk<|zs<|Zn<|zs<|zr<|yv h λ _ w h=>yv h λ _ w h=>yv h λ _ w h=>yu h λ w h=>zn<|zk<|zr<|yv h λ _ w h=>yv h λ _ w h=>?_
         exact yv h λ _ w h=>yS h λ _ w h=>yx h λ _ w h=>yu h λ w h=>zn<|Zf<|zk<|zr<|yb h λ _ w h=>zm<|zn<|zk<|⟨rfl,h⟩
       refine ZR<|Ze<|Ze<|Zx<|zk ?_
       exact zt hkK3 h
     refine Zo<|zk ?_
     exact zt hkK3 h
   exact Zf<|Zf<|zk<|zr<|yb h λ _ w h=>zm<|zn<|zk<|⟨rfl,h⟩
 exact ZR<|Ze<|Ze<|Zx<|zk<|zs<|zr<|yF h λ _ w h=>zm<|zn<|zk<|Zi<|Zk rfl rfl h
def NY (b c a:Vl) (ZA:KV) (R:RT) (w:Wd):Prop:=
 opV Pg (indexAt 25 b a) (Zb R) w λ d w=>
 opV Pg (loadAt 74 d) (Zb R) w λ e w=>
 XO Pg c #[e] (Zb R) w λ f w=>
 Zu f (
 R (.returned a) w) (
 opV Pg (Zh .add 3 true a (.int .i64 1)) (Zb R) w λ g w=>
 ZA g w)
def ZdW (a c:Vl) (R:RT) (w:Wd):Prop:=
 opV Pg (Builtin.len_ #[25] 3 #[a]) (Zb R) w λ d w=>
 Xd (λ b w ZA=>
 opV Pg (Zh .lss 3 false b d) (Zb R) w λ e w=>
 Zu e (
 NY a c b ZA R w) (
 R (.returned (.int .i64 (-1))) w)) (.int .i64 0) w
theorem ZdX {t0 t1:Vl} {R:RT} {w:Wd} (h:ZdW t0 t1 R w):Calls Pg 163 #[t0,t1] w R:=by
 refine yD func163 ?_
 refine zs<|zr<|zm<|zn<|zk<|zs<|zs<|zr<|zm<|yx h λ _ w h=>zm<|zn<|zk<|Zn<|yl1 [4,5,8,9,10,11,12,13,14,15,16,17,18] 8 h λ σ w next h=>?_
 refine zs<|zr<|yb h λ _ w h=>zn<|zk<|zs<|yC h (λ h=>?_) λ h=>?_
 · refine Zo<|zk<|zs<|Zn<|zs<|zr<|zm<|zm<|zn<|zk<|zs<|zr<|zm<|zm<|zm ?_
   refine yv h λ _ w h=>yv h λ _ w h=>yV h λ _ w h=>zn<|zk<|yC h (λ h=>zs<|zr<|zm<|zm<|zn<|zk<|Zi<|Zj<|Zc<|Zc<|Zj<|Zc<|Zk rfl rfl h) λ h=>Zo<|Zf<|zk<|zr<|yb h λ _ w h=>zm<|zn<|zk ?_
   exact ⟨rfl,h⟩
 exact ZR<|Ze<|Ze<|Zx<|zk<|zs<|zr<|zm<|zn<|zk<|Zi<|Zk rfl rfl h
def ZaO (a:Vl) (R:RT) (w:Wd):Prop:=
 opV Pg (Builtin.max_ #[3,3] 3 #[a,(.int .i64 0)]) (Zb R) w λ b w=>
 opV Pg (Zh .geq 3 true a (.int .i64 0)) (Zb R) w λ c w=>
 R (.returned (.tuple #[b,c])) w
def n80 (a b:Vl) (R:RT) (w:Wd):Prop:=
 Zg Pg 199 #[a,b] (Zb R) w λ c w=>
 ZaO c R w
theorem ZhK {t0 t1:Vl} {R:RT} {w:Wd} (h:n80 t0 t1 R w):Calls Pg 164 #[t0,t1] w R:=by
 refine yD func164 ?_
 refine zs<|zr<|zm<|zm<|zn<|zk<|zs<|zr<|zm<|zm<|yc h Zcm λ _ w h=>zm<|zn<|zk<|zs ?_
 exact zr<|zm<|yx h λ _ w h=>zm<|yb h λ _ w h=>zm<|zm<|zn<|zk<|Zi<|Z9 rfl rfl rfl h
def n60 (a b:Vl) (R:RT) (w:Wd):Prop:=
 opV Pg (Instr.box 123 a) (Zb R) w λ c w=>
 opV Pg (fieldAt 123 c 0) (Zb R) w λ d w=>
 opV Pg (loadAt 9 d) (Zb R) w λ e w=>
 opV Pg (loadAt 9 b) (Zb R) w λ f w=>
 opV Pg (Zh .eql 9 false e f) (Zb R) w λ g w=>
 R (.returned g) w
theorem Zhq {t0 t1:Vl} {R:RT} {w:Wd} (h:n60 t0 t1 R w):Calls Pg 165 #[t0,t1] w R:=by
 refine yD func165 ?_
 refine zs<|zr<|yv h λ _ w h=>zm<|zn<|zk<|zs<|zr<|yv h λ _ w h=>yv h λ _ w h=>yv h λ _ w h=>yb h λ _ w h=>zm<|zn<|zk ?_
 exact Zi<|Zk rfl rfl h
def Zdy (a:Vl) (R:RT) (w:Wd):Prop:=
 Zg Pg 200 #[(Value.slice none 0 0),a] (Zb R) w λ b w=>
 R (.returned b) w
theorem Zdz {t0:Vl} {R:RT} {w:Wd} (h:Zdy t0 R w):Calls Pg 166 #[t0] w R:=by
 refine yD func166 ?_
 exact zs<|zr<|zm<|zn<|zk<|zs<|zr<|zm<|yc h ZfZ λ _ w h=>zm<|zn<|zk<|Zi<|Zk rfl rfl h
def Hh (b c a:Vl) (ZA:KV) (R:RT) (w:Wd):Prop:=
 opV Pg (indexAt 94 b a) (Zb R) w λ d w=>
 opV Pg (loadAt 9 d) (Zb R) w λ e w=>
 opV Pg (Zh .eql 9 false c e) (Zb R) w λ f w=>
 Zu f (
 R (.returned a) w) (
 opV Pg (Zh .add 3 true a (.int .i64 1)) (Zb R) w λ g w=>
 ZA g w)
def Zea (a c:Vl) (R:RT) (w:Wd):Prop:=
 opV Pg (Builtin.len_ #[94] 3 #[a]) (Zb R) w λ d w=>
 Xd (λ b w ZA=>
 opV Pg (Zh .lss 3 false b d) (Zb R) w λ e w=>
 Zu e (
 Hh a c b ZA R w) (
 R (.returned (.int .i64 (-1))) w)) (.int .i64 0) w
theorem Zeb {t0 t1:Vl} {R:RT} {w:Wd} (h:Zea t0 t1 R w):Calls Pg 167 #[t0,t1] w R:=by
 refine yD func167 ?_
 refine zs<|zr<|zm<|zn<|zk<|zs<|zs<|zr<|zm<|yx h λ _ w h=>zm<|zn<|zk<|Zn<|yl1 [4,5,8,9,10,11,12,13,14,15,16,17,18] 8 h λ σ w next h=>?_
 refine zs<|zr<|yb h λ _ w h=>zn<|zk<|zs<|yC h (λ h=>?_) λ h=>?_
 · refine Zo<|zk<|zs<|Zn<|zs<|zr<|zm<|zm<|zn<|zk<|zs<|zr<|zm<|zm<|zm ?_
   refine yv h λ _ w h=>yv h λ _ w h=>yb h λ _ w h=>zn<|zk<|yC h (λ h=>zs<|zr<|zm<|zm<|zn<|zk<|Zi<|Zj<|Zc<|Zc<|Zj<|Zc<|Zk rfl rfl h) λ h=>Zo<|Zf<|zk<|zr<|yb h λ _ w h=>zm<|zn<|zk ?_
   exact ⟨rfl,h⟩
 exact ZR<|Ze<|Ze<|Zx<|zk<|zs<|zr<|zm<|zn<|zk<|Zi<|Zk rfl rfl h
end Go.Proofs.YtgalpdihjbinjaaGreatDoor
namespace Go.Sw
open Go.RowKit (Below)
structure LW3 (B:Nat) (w w':Wd):Prop where
 os:w'.os=w.os
 tape:w'.tape=w.tape
 output:w'.output=w.output
 size:w.heap.size≤w'.heap.size
 block:∀ b,b < B→b < w.heap.size→w'.heap[b]?=w.heap[b]?
end Go.Sw
namespace Go.Sw
open Go.RowKit (Below)
def KR5 (_B:Nat) (w w':Wd):Prop:=w.heap.size≤w'.heap.size∧(∀ (b:Nat) (r:Loop),w.heap[b]?=some (.loop r)→∃ st p,w'.heap[b]?=some (.loop { r with state:=st,pending:=p })) ∧
 (∀ (b:Nat),w.heap[b]?=some (.deferred (some []))→w'.heap[b]?=some (.deferred (some [])))
section
variable {B:Nat} {w w1 w2:Wd}
theorem KR5.of2 (h:KR B w w1):KR5 B w w1:=⟨h.1,h.2.1,h.2.2.1⟩
theorem KR5.refl (B:Nat) (w:Wd):KR5 B w w := .of2 (KR.refl B w)
theorem KR5.trans (h:KR5 B w w1) (k:KR5 B w1 w2):KR5 B w w2:=⟨Nat.le_trans h.1 k.1,λ b r hb=>by
 obtain ⟨st,p,h1⟩:=h.2.1 b r hb
 obtain ⟨st',p',h2⟩:=k.2.1 b _ h1
 exact ⟨st',p',h2⟩,λ b hb=>k.2.2 b (h.2.2 b hb)⟩
theorem KR5.of (e:Ext w w1):KR5 B w w1 := .of2 (.of e)
theorem KR5.setCell (h:KR5 B w w1) (b o:Nat) (v:Vl):KR5 B w (w1.setCell ⟨b,o,none⟩ v):=h.trans ⟨by simp,λ b r hb=>⟨r.state,r.pending,(KeepsOthers.setCell w1 _ v).same _ _ hb rfl⟩,λ b hb=>(KeepsOthers.setCell w1 _ v).same _ _ hb rfl⟩
theorem KR5.turn {l:Nat} {r:Loop} (hl:w.heap[l]?=some (.loop r)) (st:LoopState) (p:Option Code):KR5 B w (w.putObj l (.loop { r with state:=st,pending:=p })) := .of2 (.turn hl st p)
theorem KR5.grown {row:Option Nat} (h:KR5 B w w1) (hg:w1.grownBy w2 row) (hr:∀ g,row=some g→∃ cs T f,w1.heap[g]?=some (.cells cs T f)):KR5 B w w2:=h.trans ⟨hg.size,λ b r hb=>⟨r.state,r.pending,(hg.block b (Array.getElem?_eq_some_iff.1 hb).1 (λ e=>by
 obtain ⟨cs,T,f,hc⟩:=hr b e.symm
 rw [hb] at hc;cases hc)).trans hb⟩,λ b hb=>(hg.block b (Array.getElem?_eq_some_iff.1 hb).1 (λ e=>by
 obtain ⟨cs,T,f,hc⟩:=hr b e.symm
 rw [hb] at hc;cases hc)).trans hb⟩
end
def Zca (B:Nat) (R:WPr):Prop:=∀ w w',KR5 B w w'→R w→R w'
theorem Y0.firm5 (rec:Loop) (B b:Nat):Zca B (Y0 rec b):=λ w w' h ⟨h1,st,p,h2⟩=>by
 obtain ⟨st',p',h3⟩:=h.2.1 _ _ h2
 exact ⟨h.2.2 _ h1,st',p',h3⟩
end Go.Sw
namespace Go.Sw
variable {α:Type}
def P6 (cs:AVl) (o:Nat):List Vl→AVl
 | []=>cs
 | v::vs=>P6 (cs.setIfInBounds o v) (o+1) vs
theorem Fo:∀ (vs:List Vl) (cs:AVl) (o j:Nat),o+vs.length≤cs.size→(P6 cs o vs)[j]?=if o≤j∧j < o+vs.length then vs[j - o]? else cs[j]?
 | [],cs,o,j,_=>by rw [if_neg (by simp only [List.length_nil];omega)];rfl
 | v::vs,cs,o,j,h=>by
  rw [List.length_cons] at h
  rw [P6,Fo vs _ (o+1) j (by rw [Array.size_setIfInBounds];omega),List.length_cons]
  by_cases h1:j=o
  · subst h1
    rw [if_neg (by omega),if_pos (by omega),Nat.sub_self,Array.getElem?_setIfInBounds_self_of_lt (by omega)]
    rfl
  · by_cases h2:o+1≤j∧j < o+1+vs.length
    · rw [if_pos h2,if_pos (by omega),show j - o=(j - (o+1))+1 by omega,List.getElem?_cons_succ]
    · rw [if_neg h2,if_neg (by omega),Array.getElem?_setIfInBounds_ne (by omega)]
theorem Aw {vs:List Vl} {cs:AVl} (h:vs.length=cs.size):P6 cs 0 vs=vs.toArray:=by
 apply Array.ext_getElem?
 intro j
 rw [Fo vs cs 0 j (by omega)]
 by_cases hj:j < vs.length
 · rw [if_pos (by omega),Nat.sub_zero,List.getElem?_toArray]
 · have hs:vs.toArray.size=vs.length:=List.size_toArray ..
   rw [if_neg (by omega),Array.getElem?_eq_none (by omega),Array.getElem?_eq_none (by omega)]
theorem QO {T:TypeId} {b:Nat}:∀ (vs:List Vl) {w:Wd} {cs:AVl} (o:Nat),w.heap[b]?=some (.cells cs T (0,0))→(Yt w b o vs).heap[b]?=some (.cells (P6 cs o vs) T (0,0))
 | [],_,_,_,h=>h
 | v::vs,_,_,o,h=>QO vs (o+1) (Zw h v)
theorem Wz {b:Nat}:∀ (vs:List Vl) (w:Wd) (o:Nat) (g:Nat),g≠b→(Yt w b o vs).heap[g]?=w.heap[g]?
 | [],_,_,_,_=>rfl
 | v::vs,w,o,g,h=>(Wz vs _ (o+1) g h).trans (YH.setCell w b o v g h)
theorem V8 {b:Nat}:∀ (vs:List Vl) (w:Wd) (o:Nat),(Yt w b o vs).heap.size=w.heap.size
 | [],_,_=>rfl
 | v::vs,w,o=>by rw [Yt,V8 vs,World.size_setCell]
theorem UU {b:Nat}:∀ (vs:List Vl) (w:Wd) (o:Nat) (a:Wd),Ext a w→a.heap.size≤b→Ext a (Yt w b o vs)
 | [],_,_,_,e,_=>e
 | v::vs,w,o,a,e,hb=>UU vs _ (o+1) a (e.setCell (p:=⟨b,o,none⟩) hb v) hb
theorem Uu {P:Program} {w:Wd} {QP:PEn} {ku:WPr} {T T':TypeId} {n m b:Nat} {z:Vl} {cs:AVl} (h:ZF P T true n m z) (ho:w.heap[b]?=some (.cells cs T' (0,0))) {vs:List Vl} (hn:vs.length=n) (hc:n≤cs.size) (hv:∀ v∈vs,v.oneCell'=true) :
 opU P (storeAt T (.pointer (some ⟨b,0,none⟩)) (.agg vs.toArray)) QP w ku=ku (Yt w b 0 vs):=by
 refine yR (u:=()) ?_
 have hq:=Za ho
 have hcc:∀ j,j < vs.length→∃ u,w.cell? ⟨b,0+(0+j),none⟩=some u:=λ j hj=>by
  rw [hq.1]
  exact ⟨cs[j]'(by omega),by rw [Nat.zero_add,Nat.zero_add];exact Array.getElem?_eq_getElem (by omega)⟩
 have hff:∀ j,j < vs.length→w.frozen? ⟨b,0+(0+j),none⟩=false:=λ j _=>hq.2 _
 have:=WU (P:=P) b 0 vs 0 w hcc hff hv
 simp [storeAt,Instr.sureAddr,storeVar,run_sizeOf h,ZC,hn,this]
end Go.Sw
namespace Go.Sw
open Go.RowKit (Below)
def Ri:Obj→Bool
 | .loop _=>true
 | .deferred _=>true
 | .mapIter .. => true
 | _=>false
structure LW6 (B:Nat) (w w':Wd):Prop where
 os:w'.os=w.os
 tape:w'.tape=w.tape
 output:w'.output=w.output
 size:w.heap.size≤w'.heap.size
 block:∀ b,b < w.heap.size→w'.heap[b]?=w.heap[b]?∨(B≤b∧∃ o,w.heap[b]?=some o∧Ri o=true)
theorem LW6.mono {B B':Nat} {w w':Wd} (h:LW6 B w w') (hb:B'≤B):LW6 B' w w':=⟨h.os,h.tape,h.output,h.size,λ b hl=>(h.block b hl).imp_right λ h=>⟨by omega,h.2⟩⟩
theorem LW6.of {B:Nat} {w w':Wd} (e:Ext w w'):LW6 B w w':=⟨e.os,e.tape,e.output,e.size,λ b hb => .inl (e.block b hb)⟩
theorem LW6.put {B l:Nat} {w:Wd} {o1:Obj} (hb:B≤l) (hl:w.heap[l]?=some o1) (hs:Ri o1=true) (o:Obj):LW6 B w (w.putObj l o):=⟨rfl,rfl,rfl,by simp,λ b _=>by
 by_cases e:b=l
 · exact .inr ⟨by omega,o1,by rw [e];exact hl,hs⟩
 · exact .inl (World.putObj_heap_other e)⟩
def Z4 (B:Nat) (I:WPr):Prop:=∀ w w',LW6 B w w'→I w→I w'
theorem Z4.ext {B:Nat} {I:WPr} (h:Z4 B I) {w w':Wd} (hI:I w) (e:Ext w w'):I w':=h _ _ (.of e) hI
theorem Z4.loop {B l:Nat} {I:WPr} (h:Z4 B I) {w:Wd} {r:Loop} (hb:B≤l) (hI:I w) (hl:w.heap[l]?=some (.loop r)) (o:Obj):I (w.putObj l o):=h _ _ (.put hb hl rfl o) hI
theorem Z4.busied {B l:Nat} {I:WPr} {w w':Wd} (h:Z4 B I) (hb:qu l w w') (hl:B≤l) (hI:I w):I w':=by
 obtain ⟨r,hr,rfl⟩:=hb
 exact h.loop hl hI hr _
theorem Z4.mono {B B':Nat} {I:WPr} (h:Z4 B I) (hb:B≤B'):Z4 B' I:=λ _ _ hl=>h _ _ (hl.mono hb)
theorem Z4.and {B:Nat} {I J:WPr} (h:Z4 B I) (k:Z4 B J):Z4 B (λ w=>I w∧J w):=λ w w' hl hh=>⟨h _ _ hl hh.1,k _ _ hl hh.2⟩
theorem Z4.ex {B:Nat} {α:Sort _} {I:α→Wd→Prop} (h:∀ x,Z4 B (I x)):Z4 B (λ w=>∃ x,I x w):=λ w w' hl ⟨x,hx⟩=>⟨x,h x _ _ hl hx⟩
theorem Z4.const (B:Nat) (p:Prop):Z4 B (λ _=>p):=λ _ _ _ h=>h
theorem Z4.from {B:Nat} {w0:Wd} (hb:w0.heap.size≤B):Z4 B (Ext w0):=λ w w' hl e=>⟨hl.os.trans e.os,hl.tape.trans e.tape,hl.output.trans e.output,Nat.le_trans e.size hl.size,λ k hk=>by
 have:=e.size
 rcases hl.block k (by omega) with h | ⟨h,_⟩
 · rw [h];exact e.block k hk
 · omega⟩
theorem Z4.has (B:Nat) {b:Nat} {o:Obj} (h1:Ri o=false):Z4 B (λ w=>w.heap[b]?=some o):=λ w w' hl h=>by
 rcases hl.block b (Array.getElem?_eq_some_iff.1 h).1 with e | ⟨_,o',e,hs⟩
 · rw [e];exact h
 · rw [h] at e;injection e with e;subst e;rw [h1] at hs;cases hs
theorem Z4.low {B b:Nat} (hb:b < B) (o:Obj):Z4 B (λ w=>w.heap[b]?=some o):=λ w w' hl h=>by
 rcases hl.block b (Array.getElem?_eq_some_iff.1 h).1 with e | ⟨e,_⟩
 · rw [e];exact h
 · omega
theorem Z4.own {α:Type} {B base n:Nat} {T:TypeId} {enc:α→List Vl} {v:Vl} {l:List α}:Z4 B (λ w=>ZT w base T n enc v l):=λ w w' hl h=>by
 obtain ⟨h1,h2⟩:=h
 refine ⟨h1,?_⟩
 rcases h2 with h2 | ⟨g,cap,cur,hv,a1,a2,a3⟩
 · exact .inl h2
 · exact .inr ⟨g,cap,cur,hv,a1,Z4.has B (o := .cells _ _ _) rfl w w' hl a2,a3⟩
def ZcC:Obj→Bool
 | .mapIter .. => true
 | .map .. => true
 | _=>false
def KR6 (B:Nat) (w w':Wd):Prop:=KR5 B w w'∧∀ (b:Nat) (o:Obj),w.heap[b]?=some o→ZcC o=true→w'.heap[b]?=some o
section
variable {B:Nat} {w w1 w2:Wd}
theorem KR6.refl (B:Nat) (w:Wd):KR6 B w w:=⟨KR5.refl B w,λ _ _ h _=>h⟩
theorem KR6.trans (h:KR6 B w w1) (k:KR6 B w1 w2):KR6 B w w2:=⟨h.1.trans k.1,λ b o hb ho=>k.2 b o (h.2 b o hb ho) ho⟩
theorem KR6.of (e:Ext w w1):KR6 B w w1:=⟨KR5.of e,λ b o hb _=>e.obj hb⟩
theorem KR6.ext (h:KR6 B w w1) (e:Ext w1 w2):KR6 B w w2:=h.trans (.of e)
theorem KR6.turn {l:Nat} {r:Loop} (hl:w.heap[l]?=some (.loop r)) (st:LoopState) (p:Option Code):KR6 B w (w.putObj l (.loop { r with state:=st,pending:=p })):=⟨KR5.turn hl st p,λ b o hb ho=>by
 by_cases e:b=l
 · subst e;rw [hl] at hb;injection hb with hb;subst hb;cases ho
 · rw [World.putObj_heap_other e];exact hb⟩
theorem KR6.busied {l:Nat} (h:qu l w w1):KR6 B w w1:=by
 obtain ⟨r,hr,rfl⟩:=h
 exact KR6.turn hr .busy r.pending
theorem KR6.cell (h:KR6 B w w1) {b:Nat} {cs:AVl} {T:TypeId} {f:Nat×Nat} (hb:w1.heap[b]?=some (.cells cs T f)) (o:Nat) (v:Vl):KR6 B w (w1.setCell ⟨b,o,none⟩ v):=h.trans ⟨(KR5.refl B w1).setCell b o v,λ b' o' hb' ho=>by
 by_cases e:b'=b
 · subst e;rw [hb] at hb';injection hb' with hb';subst hb';cases ho
 · rw [BA e];exact hb'⟩
theorem KR6.grown {row:Option Nat} (h:KR6 B w w1) (hg:w1.grownBy w2 row) (hr:∀ g,row=some g→∃ cs T f,w1.heap[g]?=some (.cells cs T f)):KR6 B w w2:=h.trans ⟨(KR5.refl B w1).grown hg hr,λ b o hb ho=>(hg.block b (Array.getElem?_eq_some_iff.1 hb).1 (λ e=>by
 obtain ⟨cs,T,f,hc⟩:=hr b e.symm
 rw [hb] at hc;injection hc with hc;subst hc;cases ho)).trans hb⟩
end
def JX (B:Nat) (R:WPr):Prop:=∀ w w',KR6 B w w'→R w→R w'
theorem Y0.firm6 (rec:Loop) (B b:Nat):JX B (Y0 rec b):=λ w w' h hr=>Y0.firm5 rec B b w w' h.1 hr
theorem JX.and {B:Nat} {R S:WPr} (h:JX B R) (k:JX B S):JX B (λ w=>R w∧S w):=λ w w' e hh=>⟨h _ _ e hh.1,k _ _ e hh.2⟩
theorem JX.true {B:Nat}:JX B (λ _=>True):=λ _ _ _ _=>trivial
def MY (P:Program) (f:FuncId) (caps:AVl) (Al:List Vl→Vl→Prop) (Fin:List Vl→Prop) (FP:WPr):Prop:=
 ∀ (yv:Vl) (J:List Vl→Wd→Prop) (Jx:WPr) (Jp:PEn) (w:Wd),yv.oneCell'=true→(∀ k w,J k w→FP w)→(∀ k,Z4 w.heap.size (J k))→Z4 w.heap.size Jx→(∀ ch,Z4 w.heap.size (Jp ch)) →
  (∀ k x,Al k x→∀ Rk,JX w.heap.size Rk→∀ w,J k w→Rk w→XO P yv #[x] (λ ch w'=>Rk w'∧Jp ch w') w (λ v w'=>Rk w'∧((v = .bool true∧J (k++[x]) w')∨(v = .bool false∧Jx w'))))→J [] w →
  Calls P f (#[yv]++caps) w (λ e w'=>match e with
   | .returned _=>(∃ k,Fin k∧J k w')∨Jx w'
   | .panicked ch=>Jp ch w'
   | .outgrown=>False)
def rangeN6 (P:Program) (fv:Vl) (ds:LDf) (body:Nat→Vl→Wd→(Wd→Prop)→(Nat→Wd→Prop)→(List PanicEntry→Wd→Prop)→Prop) (QP:List PanicEntry→LDf→Wd→Prop) (w:Wd)
 (k:LDf→Wd→Prop) (kx:List (LDf→Wd→Prop)):Prop:=
 ∃ (f:FuncId) (caps:AVl) (Al:List Vl→Vl→Prop) (Fin:List Vl→Prop) (FP:WPr) (I:List Vl→Wd→Prop) (Ix:Nat→Wd→Prop) (Ip:PEn),
  fv = .func (.func f) #[] caps∧Callable P f∧MY P f caps Al Fin FP∧I [] w∧(∀ k w,I k w→FP w)∧(∀ k,Z4 w.heap.size (I k))∧(∀ c,Z4 w.heap.size (Ix c))∧(∀ ch,Z4 w.heap.size (Ip ch)) ∧
  (∀ (Rk:WPr),JX (w.heap.size+1+1) Rk→∀ (j:List Vl) (x:Vl) (w':Wd),Al j x→I j w'→Rk w'→w.heap.size+1 < w'.heap.size→Cm (w.heap.size+1) w' →
   body (w.heap.size+1) x w' (λ w''=>Rk w''∧I (j++[x]) w'') (λ c w''=>Rk w''∧Ix c w'') (λ ch w''=>Rk w''∧Ip ch w'')) ∧
  (∀ j w',Fin j→I j w'→Z0 w.heap.size w'→k (mark w.heap.size::ds) w') ∧
  (∀ c w',Ix c w'→Z0 w.heap.size w'→Pv kx c (mark w.heap.size::ds) w') ∧
  (∀ ch w',Ip ch w'→Z0 w.heap.size w'→QP ch (mark w.heap.size::ds) w')
section
variable {P:Program} {N:Nat}
theorem If {g:Operand} {p:Nat} {asg body:Code} {Q:K} {QP:KP} {ρ:Env} {ds:LDf} {w:Wd} {fv:Vl} {nbody:Nat→Vl→Wd→(Wd→Prop)→(Nat→Wd→Prop)→(List PanicEntry→Wd→Prop)→Prop} {QPn:List PanicEntry→LDf→Wd→Prop}
 {k:LDf→Wd→Prop} {kx:List (LDf→Wd→Prop)} (js:List Code) (h:rangeN6 P fv ds nbody QPn w k kx) (hg:ev ρ g=fv)
 (hbody:∀ l x w K X QPr,nbody l x w K X QPr→den P N (some l) asg (Qx (λ ρ' ds' w'=>ds'=[]∧qM l w' (λ w''=>den P N (some l) body (P2 js K X) (La QPr) ρ' [] w'')) (λ _ _ _ _=>False)) (λ _ _ _ _=>False) (put N ρ (some p) x) [] w)
 (hk:∀ ds w,k ds w→Q .normal ρ ds w) (hx:∀ c ds w,Pv kx c ds w→∃ code,js[c]?=some code∧((code = .ret∧Q .ret ρ ds w)∨(∃ id,code = .exit id∧Q (.exit id) ρ ds w))) (hp:∀ ch ds w,QPn ch ds w→QP ch ρ ds w) :
 den P N none (.rangeFunc g #[p] asg body) Q QP ρ ds w:=by
 intro a ha hds
 subst hds
 obtain ⟨f,caps,Al,Fin,FP,I,Ix,Ip,hfv,hcal,hseq,h0,hFP,hL,hLx,hLp,hround,hend,hjump,hpan⟩:=h
 refine Ge λ fn hfn=>?_
 obtain ⟨rec,hrec⟩:∃ rec:Loop,rec={ state := .ready,pending:=none,fn,tmps:=a.tmps,params := #[p],assign:=asg,body,defers:=w.heap.size }:=⟨_,rfl⟩
 obtain ⟨W1,hW1⟩:∃ W1,(w.alloc (.deferred (some []))).alloc (.loop rec)=W1:=⟨_,rfl⟩
 have hE1:Ext w W1:=by rw [← hW1];exact ((Ext.refl w).alloc _).alloc _
 have hW1s:W1.heap.size=w.heap.size+1+1:=by rw [← hW1];simp
 have hL1:W1.heap[w.heap.size+1]?=some (.loop rec):=by
  rw [← hW1];have:=World.alloc_heap_new (w.alloc (.deferred (some []))) (.loop rec);rwa [World.size_alloc] at this
 have hK1:Z0 w.heap.size W1:=by
  rw [← hW1];exact Z0.alloc (World.alloc_heap_new w _) _
 have hev:a.eval g=fv:=by rw [ha.eval];exact hg
 refine ⟨w.heap.size+1,[mark w.heap.size],W1,{ target := .fn (.func f) caps,args := #[.func (.yield (w.heap.size+1)) #[] #[]] },W1,f,#[.func (.yield (w.heap.size+1)) #[] #[]]++caps,W1,?_,?_,?_,?_⟩
 · rw [← hW1,hrec];exact run_enterLoop_outer _ _ _ _ _
 · simp only [resolve,hev,hfv]
   simp [go_sem]
 · simp only [invoke]
   exact XX hcal _ _
 · refine Calls.mono (hseq (.func (.yield (w.heap.size+1)) #[] #[]) (λ j w'=>I j w'∧Z0 w.heap.size w'∧∃ p,w'.heap[w.heap.size+1]?=some (.loop { rec with state := .ready,pending:=p })∧p=none)
    (λ w'=>Z0 w.heap.size w'∧∃ c code,Ix c w'∧js[c]?=some code∧w'.heap[w.heap.size+1]?=some (.loop { rec with state := .done,pending:=some code }))
    (λ ch w'=>Z0 w.heap.size w'∧Ip ch w') W1 rfl (λ j w' hj=>hFP j w' hj.1) (λ j=>((hL j).mono (by omega)).and ((Z4.low (by omega) _).and (.ex λ q=>(Z4.low (by omega) _).and (.const _ _))))
    ((Z4.low (by omega) _).and (.ex λ c => .ex λ code=>((hLx c).mono (by omega)).and ((Z4.const _ _).and (Z4.low (by omega) _)))) (λ ch=>(Z4.low (by omega) _).and ((hLp ch).mono (by omega))) ?_ ⟨(hL []).ext h0 hE1,hK1,none,by rw [hL1,hrec],rfl⟩) ?_
   · rintro j x hj Rk hF w' ⟨hi,hm,q,hl,rfl⟩ hR
     have Yq:w.heap.size+1 < w'.heap.size:=(Array.getElem?_eq_some_iff.1 hl).1
     have hy:=run_yield (P:=P) (args := #[x]) hl (by rw [hrec];rfl)
     show Vq P _ _ _ _
     have hcs:GY (.func (.yield (w.heap.size+1)) #[] #[]) #[x]=Instr.yield (w.heap.size+1) #[x]:=by
      simp [GY,Deferred.ofValue,invoke,go_sem,bind,pure,Sem.bind]
     rw [hcs,hy]
     have key:∀ R,wpV (some (w.heap.size+1)) P asg (Exit.then (λ a₁ w₁=>∃ w₂,(Instr.beginRound (w.heap.size+1)).run P w₁ = .ok () w₂∧wpV (some (w.heap.size+1)) P body (Zbl P (w.heap.size+1) R) a₁ w₂) (λ _ _ _=>False)) { tmps:=((#[p].zip #[x]).foldl (λ tmps (t,a)=>tmps.setIfInBounds t a) a.tmps),defers:=[] } w' →
      UD P (w.heap.size+1) rec.fn ((rec.params.zip #[x]).foldl (λ tmps (t,a)=>tmps.setIfInBounds t a) rec.tmps) rec.assign rec.body w' R:=by
      intro R h;rw [hrec];exact J7 hfn h
     refine key _ ?_
     have hb:=hbody _ _ _ _ _ _ (hround _ ((Y0.firm6 rec _ w.heap.size).and (hW1s ▸ hF)) j x w' hj hi ⟨⟨hm,_,_,hl⟩,hR⟩ Yq ⟨_,hl,rfl⟩)
     have hagr:Yw N ({ tmps:=((#[p].zip #[x]).foldl (λ tmps (t,a)=>tmps.setIfInBounds t a) a.tmps),defers:=[] }:Act) (put N ρ (some p) x):=by
      have:=(Yw.defers ha []).put (some p) x
      simpa [Act.put] using this
     refine XR (Wm asg _ _ _ _ _ hagr hb) ?_
     intro e a1 w1 hl1
     cases e with
     | panic ch=>obtain ⟨_,_,hf⟩:=hl1;exact hf.elim
     | outgrown=>exact hl1
     | exit id=>obtain ⟨_,_,_,hf⟩:=hl1;exact hf.elim
     | goto l=>obtain ⟨_,_,_,hf⟩:=hl1;exact hf.elim
     | ret=>obtain ⟨_,_,_,hf⟩:=hl1;exact hf.elim
     | normal=>
      obtain ⟨ρ1,ha1,_,hd1,hbz⟩:=hl1
      obtain ⟨⟨r,hr1,hr2⟩,hbz⟩:=hbz
      refine ⟨_,run_beginRound hr1 hr2,?_⟩
      rw [show a1={ a1 with defers:=[] } by rw [← hd1]]
      refine XR (Wm body _ _ _ _ _ (Yw.defers ha1 []) (hbz _ ⟨_,hr1,rfl⟩)) ?_
      have fin:∀ (jump:Option Code) (w2:Wd),Y0 rec w.heap.size w2→(Instr.endRound (w.heap.size+1) jump).run P w2 = .ok (.bool jump.isNone) (w2.putObj (w.heap.size+1) (.loop { rec with state:=if jump.isNone then .ready else .done,pending:=jump })) ∧
       (w2.putObj (w.heap.size+1) (.loop { rec with state:=if jump.isNone then .ready else .done,pending:=jump })).heap[w.heap.size+1]?=some (.loop { rec with state:=if jump.isNone then .ready else .done,pending:=jump }) ∧
       Z0 w.heap.size (w2.putObj (w.heap.size+1) (.loop { rec with state:=if jump.isNone then .ready else .done,pending:=jump })):=by
       rintro jump w2 ⟨hm2,st,q,hq⟩
       refine ⟨by have:=run_endRound (P:=P) jump hq;exact this,World.putObj_heap_same (Array.getElem?_eq_some_iff.1 hq).1,?_⟩
       unfold Z0
       rw [World.putObj_heap_other (by omega)];exact hm2
      intro e a2 w2 hl2
      cases e with
      | normal=>
       obtain ⟨_,_,_,_,⟨QI,hR2⟩,hi2⟩:=hl2
       obtain ⟨f1,f2,f3⟩:=fin none w2 QI
       obtain ⟨_,st,q,hq⟩:=QI
       exact ⟨_,_,f1,hF _ _ (KR6.turn hq _ _) hR2,.inl ⟨rfl,(hL _).loop (Nat.le_succ _) hi2 hq _,f3,none,f2,rfl⟩⟩
      | ret=>
       obtain ⟨_,_,_,_,c,hc,⟨QI,hR2⟩,hi2⟩:=hl2
       obtain ⟨f1,f2,f3⟩:=fin (some .ret) w2 QI
       obtain ⟨_,st,q,hq⟩:=QI
       exact ⟨_,_,f1,hF _ _ (KR6.turn hq _ _) hR2,.inr ⟨rfl,f3,c,_,(hLx _).loop (Nat.le_succ _) hi2 hq _,hc,f2⟩⟩
      | exit id=>
       obtain ⟨_,_,_,_,c,hc,⟨QI,hR2⟩,hi2⟩:=hl2
       obtain ⟨f1,f2,f3⟩:=fin (some (.exit id)) w2 QI
       obtain ⟨_,st,q,hq⟩:=QI
       exact ⟨_,_,f1,hF _ _ (KR6.turn hq _ _) hR2,.inr ⟨rfl,f3,c,_,(hLx _).loop (Nat.le_succ _) hi2 hq _,hc,f2⟩⟩
      | panic ch=>
       obtain ⟨_,_,hd2,⟨QI,hR2⟩,hi2⟩:=hl2
       exact ⟨hd2,hR2,QI.1,hi2⟩
      | goto l=>obtain ⟨_,_,_,hf⟩:=hl2;exact hf.elim
      | outgrown=>exact hl2
   · have hagr:Yw N ({ a with defers:=[mark w.heap.size]++a.defers }:Act) ρ:=ha
     have exh:∀ (st:LoopState) (q:Option Code) (w':Wd),w'.heap[w.heap.size+1]?=some (.loop { rec with state:=st,pending:=q })→st ≠ .busy→Z0 w.heap.size w' →
      (Instr.endLoop (w.heap.size+1)).run P w' = .ok q (w'.putObj (w.heap.size+1) (.loop { rec with state := .exhausted,pending:=q }))∧Z0 w.heap.size (w'.putObj (w.heap.size+1) (.loop { rec with state := .exhausted,pending:=q })):=by
      intro st q w' hq YW hm
      refine ⟨by have:=run_endLoop (P:=P) hq YW;exact this,?_⟩
      unfold Z0
      rw [World.putObj_heap_other (by omega)];exact hm
     rintro e w' he
     cases e with
     | returned v=>
      rcases he with ⟨j,hfin,hi,hm,q,hl,rfl⟩ | ⟨hm,c,code,hi,hc,hl⟩
      · obtain ⟨e1,e2⟩:=exh _ _ w' hl (by simp) hm
        exact ⟨none,_,e1,hagr,hk _ _ (hend j _ hfin ((hL _).loop (Nat.le_succ _) hi hl _) e2)⟩
      · obtain ⟨e1,e2⟩:=exh _ _ w' hl (by simp) hm
        refine ⟨some code,_,e1,?_⟩
        obtain ⟨code',hc',hden⟩:=hx c _ _ (hjump c _ ((hLx _).loop (Nat.le_succ _) hi hl _) e2)
        rw [hc] at hc';cases hc'
        rcases hden with ⟨rfl,hq⟩ | ⟨id,rfl,hq⟩
        · exact DC ⟨hagr,hq⟩
        · exact AR ⟨hagr,hq⟩
     | panicked ch=>exact ⟨hagr,hp _ _ _ (hpan ch _ he.2 he.1)⟩
     | outgrown=>exact he.elim
end
end Go.Sw
namespace Go.Proofs.YtgalpdihjbinjaaGreatDoor
open Sw
def Uq (d e f g:Vl) (ZA:KV) (R:RT) (w:Wd):Prop:=
 opV Pg (Op.unary .not g) (Zb R) w λ b w=>
 Zq (λ (a:Vl) (w:Wd)=>
 ZD b a (.bool false) λ h=>
 Zu h (
 R (.returned (.tuple #[])) w) (
 opV Pg (Zh .add 3 true e (.int .i64 1)) (Zb R) w λ i w=>
 ZA i w)) λ c=>
 Zp b true (
 XO Pg d #[f] (Zb R) w λ j w=>
 opV Pg (Op.unary .not j) (Zb R) w λ a w=>
 c a w) (
 c undef w)
def Ur (c d e a:Vl) (ZA:KV) (R:RT) (w:Wd):Prop:=
 opV Pg (indexAt 94 e a) (Zb R) w λ f w=>
 opV Pg (loadAt 9 f) (Zb R) w λ b w=>
 opV Pg (loadAt 94 d) (Zb R) w λ g w=>
 opV Pg (Instr.sliceAt 94 g none (some a) none) (Zb R) w λ h w=>
 Zg Pg 142 #[h,b] (Zb R) w λ i w=>
 Uq c a b i ZA R w
def n66 (d a:Vl) (R:RT) (w:Wd):Prop:=
 opV Pg (loadAt 94 a) (Zb R) w λ b w=>
 opV Pg (Builtin.len_ #[94] 3 #[b]) (Zb R) w λ e w=>
 Xd (λ c w ZA=>
 opV Pg (Zh .lss 3 false c e) (Zb R) w λ f w=>
 Zu f (
 Ur d a b c ZA R w) (
 R (.returned (.tuple #[])) w)) (.int .i64 0) w
theorem Zek {t0 t1:Vl} {R:RT} {w:Wd} (h:n66 t0 t1 R w):Calls Pg 198 #[t0,t1] w R:=by
 refine yD func198 ?_
 refine zs<|zr<|yv h λ _ w h=>yx h λ _ w h=>zm<|zn<|zk<|Zn<|yl1 [3,4,7,8,9,10,11,12,13,14,15,16,17,18,19,20,21,22,23,24] 7 h λ σ w next h=>zs<|zr<|yb h λ _ w h=>zn<|zk<|zs ?_
 refine yC h (λ h=>?_) λ h=>?_
 · refine Zo<|zk<|zs<|Zn<|zs<|zr<|zm<|yv h λ _ w h=>yv h λ _ w h=>zm<|zm<|zn<|zk<|zs<|Zr ?_
   refine yG 7<|yv h λ _ w h=>zm<|yv h λ _ w h=>zm<|yc h Zci λ _ w h=>yv h λ _ w h=>zm<|zn<|yg1 4 6 true [19,20,21,22] 22 h (λ _ T hT h=>?_) λ σ w h=>?_
   · refine zm<|zm<|yV h λ _ w h=>yv h λ _ w h=>zn ?_
     exact zt hT h
   refine yG 1<|yp h λ _ h=>zn<|ZK<|zk<|yC h (λ h=>Zi<|Zj<|Zc<|Zc<|Zj<|ZO rfl h) λ h=>Zo<|Zf<|zk<|zr<|yb h λ _ w h=>zm<|zn<|zk ?_
   exact ⟨rfl,h⟩
 exact ZR<|Ze<|Ze<|Zx<|ZH<|ZO rfl h
def NV (b c a:Vl) (ZA:KV) (R:RT) (w:Wd):Prop:=
 opV Pg (indexAt 72 b a) (Zb R) w λ d w=>
 opV Pg (loadAt 123 d) (Zb R) w λ e w=>
 XO Pg c #[e] (Zb R) w λ f w=>
 Zu f (
 R (.returned a) w) (
 opV Pg (Zh .add 3 true a (.int .i64 1)) (Zb R) w λ g w=>
 ZA g w)
def ZdS (a c:Vl) (R:RT) (w:Wd):Prop:=
 opV Pg (Builtin.len_ #[72] 3 #[a]) (Zb R) w λ d w=>
 Xd (λ b w ZA=>
 opV Pg (Zh .lss 3 false b d) (Zb R) w λ e w=>
 Zu e (
 NV a c b ZA R w) (
 R (.returned (.int .i64 (-1))) w)) (.int .i64 0) w
theorem ZdT {t0 t1:Vl} {R:RT} {w:Wd} (h:ZdS t0 t1 R w):Calls Pg 199 #[t0,t1] w R:=by
 refine yD func199 ?_
 refine zs<|zr<|zm<|zn<|zk<|zs<|zs<|zr<|zm<|yx h λ _ w h=>zm<|zn<|zk<|Zn<|yl1 [4,5,8,9,10,11,12,13,14,15,16,17,18] 8 h λ σ w next h=>?_
 refine zs<|zr<|yb h λ _ w h=>zn<|zk<|zs<|yC h (λ h=>?_) λ h=>?_
 · refine Zo<|zk<|zs<|Zn<|zs<|zr<|zm<|zm<|zn<|zk<|zs<|zr<|zm<|zm<|zm ?_
   refine yv h λ _ w h=>yv h λ _ w h=>yV h λ _ w h=>zn<|zk<|yC h (λ h=>zs<|zr<|zm<|zm<|zn<|zk<|Zi<|Zj<|Zc<|Zc<|Zj<|Zc<|Zk rfl rfl h) λ h=>Zo<|Zf<|zk<|zr<|yb h λ _ w h=>zm<|zn<|zk ?_
   exact ⟨rfl,h⟩
 exact ZR<|Ze<|Ze<|Zx<|zk<|zs<|zr<|zm<|zn<|zk<|Zi<|Zk rfl rfl h
def NS (b c:Vl) (d:WPr) (a:PEn) (R:RT) (w:Wd):Prop:=
 opV Pg (loadAt 94 b) a w λ e w=>
 opV Pg (buildSlice 94 1 #[(0,c)]) a w λ f w=>
 opV Pg (Builtin.append_ #[94,94] 94 #[e,f]) a w λ g w=>
 opU Pg (storeAt 94 b g) a w λ w=>
 d w
def ZbF (b c:Vl) (R:RT) (w:Wd):Prop:=
 (λ (ds:LDf)=>
 opV Pg (Instr.box 94 b) (Zy Pg ds [(none,undef)] R) w λ a w=>
 Sw.rangeN6 Pg c ds (λ l1 d w e h f=>
 qM l1 w λ w=>
 NS a d e f R w) (λ ch ds w=>Zy Pg ds [(none,(Value.slice none 0 0))] R ch w) w (λ ds w=>
 opV Pg (loadAt 94 a) (Zy Pg ds [(none,(Value.slice none 0 0))] R) w λ g w=>
 VH Pg ds [(none,g)] R w) []) []
theorem Zdr {t0 t1:Vl} {R:RT} {w:Wd} (h:ZbF t0 t1 R w):Calls Pg 200 #[t0,t1] w R:=by
 refine yE func200 ?_
 unfold ZbF at h
 dsimp only at h
 refine zs<|zr<|yv h λ _ w h=>zm<|zn<|zk<|zs<|zs<|zr<|zm<|zn<|zk<|Zn<|If [] h rfl (λ l1 t7 w Kr1 Xr1 Qr1 h=>?_) (λ ds w h=>?_) (λ c ds w h=>?_) (λ ch ds w h=>XM rfl h)
 · refine zr<|zm<|zn<|zk ?_
   obtain ⟨hr,h⟩:=h
   refine ⟨rfl,hr,λ w hb=>?_⟩
   have h:=h w hb
   exact Zn<|zr<|yv h λ _ w h=>zm<|yS h λ _ w h=>yx h λ _ w h=>yu h λ w h=>zn<|Zf<|⟨rfl,h⟩
 · exact Zf<|zk<|zs<|zr<|yv h λ _ w h=>zm<|zn<|zk<|Zi<|XN rfl h
 exact h.elim
def yy (b c d e:Vl) (a:WPr) (ZA:KW) (R:RT) (w:Wd):Prop:=
 qV Pg a (Zh .mul 3 false d e) λ f=>
 qV Pg a (Zh .add 3 false b f) λ g=>
 opV Pg (Zh .add 3 true c (.int .i64 1)) (Zb R) w λ h w=>
 ZA g h w
def yA (c d b e:Vl) (a:WPr) (ZA:KW) (R:RT) (w:Wd):Prop:=
 qV Pg a (fieldAt 128 b 1) λ f=>
 qV Pg a (loadAt 3 f) λ g=>
 qV Pg a (loadAt 128 b) λ h=>
 XO Pg c #[h] (Zb R) w λ i w=>
 a w∧(
 yy d e g i a ZA R w)
def yH (c d e a:Vl) (ZA:KW) (R:RT) (w:Wd):Prop:=
 opV Pg (indexAt 118 e a) (Zb R) w λ f w=>
 opV Pg (loadAt 128 f) (Zb R) w λ g w=>
 opV Pg (Instr.alloc 128 true (.tuple #[])) (Zb R) w λ b w=>
 opU Pg (storeAt 128 b g) (Zb R) w λ w=>
 Ye w λ h w=>
 yA c d b a h ZA R w
def Zdn (e f:Vl) (R:RT) (w:Wd):Prop:=
 opV Pg (Instr.box 120 e) (Zb R) w λ a w=>
 opV Pg (fieldAt 120 a 0) (Zb R) w λ g w=>
 opV Pg (loadAt 3 g) (Zb R) w λ h w=>
 opV Pg (fieldAt 120 a 1) (Zb R) w λ i w=>
 opV Pg (loadAt 118 i) (Zb R) w λ b w=>
 opV Pg (Builtin.len_ #[118] 3 #[b]) (Zb R) w λ j w=>
 U0 (λ c d w ZA=>
 opV Pg (Zh .lss 3 false d j) (Zb R) w λ k w=>
 Zu k (
 yH f c b d ZA R w) (
 R (.returned c) w)) h (.int .i64 0) w
theorem Zdo {t0 t1:Vl} {R:RT} {w:Wd} (h:Zdn t0 t1 R w):Calls Pg 261 #[t0,t1] w R:=by
 refine yD func261 ?_
 refine zs<|zr<|yv h λ _ w h=>zm<|zn<|zk<|zs<|zr<|yv h λ _ w h=>yv h λ _ w h=>zm<|zn<|zk<|zs<|zs ?_
 refine zr<|yv h λ _ w h=>yv h λ _ w h=>yx h λ _ w h=>zm<|zn<|zk<|Zn<|yl2 [5,7,13,14,15,16,17,18,19,20,21,22,23,24,25] 5 13 h λ σ w next h=>zs<|zr<|yb h λ _ w h=>zn<|zk<|zs ?_
 refine yC h (λ h=>?_) λ h=>?_
 · refine Zo<|zk<|zs<|Zn<|zs<|zr<|yv h λ _ w h=>yv h λ _ w h=>yv h λ _ w h=>yu h λ w h=>zn<|zk<|yh [5,17,18,19,20,21,22,23,24] h λ C hC h=>yw 0 hC ?_
   refine ye 1 hC h λ _ h=>?_
   refine ye 2 hC h λ _ h=>?_
   refine yw 3 hC ?_
   refine ye 4 hC h λ _ h=>?_
   refine yo 5 ?_
   refine yV h λ _ w h=>zn ?_
   obtain ⟨hC,h⟩:=h
   refine ⟨hC,?_⟩
   refine ye 6 hC h λ _ h=>?_
   refine ye 7 hC h λ _ h=>?_
   refine yw 8 hC ?_
   exact yz<|Zf<|zk<|zr<|yb h λ _ w h=>zm<|zn<|zk<|⟨rfl,h⟩
 exact ZR<|Ze<|Ze<|Zx<|zk<|zs<|zr<|zm<|zm<|zn<|zk<|Zi<|Zk rfl rfl h
def UJ (a b:Vl) (R:RT) (w:Wd):Prop:=
 opV Pg (loadAt 296 a) (Zb R) w λ c w=>
 opV Pg (fieldAt 128 b 0) (Zb R) w λ d w=>
 opV Pg (loadAt 9 d) (Zb R) w λ e w=>
 opV Pg (Instr.lookup 296 c e false) (Zb R) w λ f w=>
 opV Pg (Instr.field 300 f 1) (Zb R) w λ g w=>
 R (.returned g) w
def Zc2 (d b e:Vl) (R:RT) (w:Wd):Prop:=
 opV Pg (Instr.box 128 d) (Zb R) w λ a w=>
 opV Pg (loadAt 296 b) (Zb R) w λ f w=>
 opV Pg (fieldAt 128 a 0) (Zb R) w λ g w=>
 opV Pg (loadAt 9 g) (Zb R) w λ h w=>
 opV Pg (Instr.lookup 296 f h false) (Zb R) w λ i w=>
 opV Pg (Instr.alloc 300 true (.tuple #[])) (Zb R) w λ c w=>
 opU Pg (storeAt 300 c i) (Zb R) w λ w=>
 opV Pg (loadAt 4 e) (Zb R) w λ j w=>
 opV Pg (fieldAt 128 a 1) (Zb R) w λ k w=>
 opV Pg (loadAt 3 k) (Zb R) w λ l w=>
 opV Pg (Zh .gtr 3 true l (.int .i64 0)) (Zb R) w λ m w=>
 opV Pg (Zh .eql 4 false j m) (Zb R) w λ n w=>
 Zu n (
 opV Pg (fieldAt 300 c 0) (Zb R) w λ o w=>
 opV Pg (loadAt 3 o) (Zb R) w λ p w=>
 R (.returned p) w) (
 UJ b a R w)
theorem Zc3 {t0 t1 t2:Vl} {R:RT} {w:Wd} (h:Zc2 t0 t1 t2 R w):Calls Pg 262 #[t0,t1,t2] w R:=by
 refine yD func262 ?_
 refine zs<|zr<|yv h λ _ w h=>zm<|zn<|zk<|zs<|zs<|zr<|yv h λ _ w h=>yv h λ _ w h=>yv h λ _ w h=>yv h λ _ w h=>yv h λ _ w h=>yu h λ w h=>?_
 refine zn<|zk<|zs<|zr<|yv h λ _ w h=>yv h λ _ w h=>yv h λ _ w h=>yb h λ _ w h=>yb h λ _ w h=>zn<|zk<|yC h (λ h=>zs<|zr<|yv h λ _ w h=>yv h λ _ w h=>zm<|zn<|zk<|Zi<|Zc<|Zk rfl rfl h) λ h=>Zo<|zk ?_
 exact zs<|zr<|yv h λ _ w h=>yv h λ _ w h=>yv h λ _ w h=>yv h λ _ w h=>yv h λ _ w h=>zm<|zn<|zk<|Zi<|Zk rfl rfl h
def N1 (b c a:Vl) (ZA:KV) (R:RT) (w:Wd):Prop:=
 opV Pg (indexAt 118 b a) (Zb R) w λ d w=>
 opV Pg (loadAt 128 d) (Zb R) w λ e w=>
 XO Pg c #[e] (Zb R) w λ f w=>
 Zu f (
 R (.returned a) w) (
 opV Pg (Zh .add 3 true a (.int .i64 1)) (Zb R) w λ g w=>
 ZA g w)
def Zd2 (a c:Vl) (R:RT) (w:Wd):Prop:=
 opV Pg (Builtin.len_ #[118] 3 #[a]) (Zb R) w λ d w=>
 Xd (λ b w ZA=>
 opV Pg (Zh .lss 3 false b d) (Zb R) w λ e w=>
 Zu e (
 N1 a c b ZA R w) (
 R (.returned (.int .i64 (-1))) w)) (.int .i64 0) w
theorem Zd3 {t0 t1:Vl} {R:RT} {w:Wd} (h:Zd2 t0 t1 R w):Calls Pg 263 #[t0,t1] w R:=by
 refine yD func263 ?_
 refine zs<|zr<|zm<|zn<|zk<|zs<|zs<|zr<|zm<|yx h λ _ w h=>zm<|zn<|zk<|Zn<|yl1 [4,5,8,9,10,11,12,13,14,15,16,17,18] 8 h λ σ w next h=>?_
 refine zs<|zr<|yb h λ _ w h=>zn<|zk<|zs<|yC h (λ h=>?_) λ h=>?_
 · refine Zo<|zk<|zs<|Zn<|zs<|zr<|zm<|zm<|zn<|zk<|zs<|zr<|zm<|zm<|zm ?_
   refine yv h λ _ w h=>yv h λ _ w h=>yV h λ _ w h=>zn<|zk<|yC h (λ h=>zs<|zr<|zm<|zm<|zn<|zk<|Zi<|Zj<|Zc<|Zc<|Zj<|Zc<|Zk rfl rfl h) λ h=>Zo<|Zf<|zk<|zr<|yb h λ _ w h=>zm<|zn<|zk ?_
   exact ⟨rfl,h⟩
 exact ZR<|Ze<|Ze<|Zx<|zk<|zs<|zr<|zm<|zn<|zk<|Zi<|Zk rfl rfl h
def ZaE (d e f:Vl) (R:RT) (w:Wd):Prop:=
 ZD e (.bool true) f λ b=>
 Zq (λ (a:Vl) (w:Wd)=>
 ZD b (.bool true) a λ g=>
 R (.returned g) w) λ c=>
 Zp b false (
 opV Pg (fieldAt 123 d 1) (Zb R) w λ h w=>
 opV Pg (loadAt 117 h) (Zb R) w λ i w=>
 opV Pg (Zh .eql 117 true i (.int .i64 3)) (Zb R) w λ a w=>
 c a w) (
 c undef w)
def n63 (e:Vl) (R:RT) (w:Wd):Prop:=
 opV Pg (Instr.box 123 e) (Zb R) w λ a w=>
 opV Pg (fieldAt 123 a 1) (Zb R) w λ f w=>
 opV Pg (loadAt 117 f) (Zb R) w λ g w=>
 opV Pg (Zh .eql 117 true g (.int .i64 1)) (Zb R) w λ c w=>
 Zq (λ (b:Vl) (w:Wd)=>
 ZaE a c b R w) λ d=>
 Zp c false (
 opV Pg (fieldAt 123 a 1) (Zb R) w λ h w=>
 opV Pg (loadAt 117 h) (Zb R) w λ i w=>
 opV Pg (Zh .eql 117 true i (.int .i64 2)) (Zb R) w λ b w=>
 d b w) (
 d undef w)
theorem Zht {t0:Vl} {R:RT} {w:Wd} (h:n63 t0 R w):Calls Pg 264 #[t0] w R:=by
 refine yD func264 ?_
 refine zs<|zr<|yv h λ _ w h=>zm<|zn<|zk<|zs<|Zr<|yG 4<|yv h λ _ w h=>yv h λ _ w h=>yb h λ _ w h=>zm<|zn<|yg1 3 3 false [7,8,9] 9 h (λ _ T hT h=>?_) λ σ w h=>?_
 · refine yv h λ _ w h=>yv h λ _ w h=>yb h λ _ w h=>zn ?_
   exact zt hT h
 refine yG 2<|yp h λ _ h=>zm<|zn<|yg1 3 8 false [12,13,14] 14 h (λ _ T hT h=>?_) λ σ w h=>?_
 · refine yv h λ _ w h=>yv h λ _ w h=>yb h λ _ w h=>zn ?_
   exact zt hT h
 exact yG 2<|yp h λ _ h=>zm<|zn<|ZK<|zk<|Zi<|Zk rfl rfl h
open Go.RowKit (intOf)
theorem WV (w0:Wd) (v:Vl) (l:List Zt) (g:FuncId) (caps:AVl) (p:Zt→Bool) (hs:YC w0 v l) (hg:Callable Pg g) (hc:Uh w0 ZZ g caps p l) :
 Ret Pg 199 #[v,.func (.func g) #[] caps] w0 λ r w'=>r = .int .i64 (idx p l)∧Ext w0 w':=by
 obtain ⟨A,c,rfl,hlc,hcm,hlm,YV⟩:=Zd.open hs
 refine ZdT (R:=ZJ _) ?_
 unfold ZdS
 simp (disch:=try exact DI) only [↓PR,QR,simprocAttr]
 refine ZQ (λ i w=>∃ k:Nat,i = .int .i64 k∧k≤l.length∧Ext w0 w∧∀ (j:Nat) y,j < k→l[j]?=some y→p y=false) (λ i _=>l.length - (intOf i).toNat) ⟨0,rfl,by omega,Ext.refl _,λ j y h=>by omega⟩ ?_
 rintro i w ⟨k,rfl,hk,e,hb⟩
 by_cases Yq:k < l.length
 · obtain ⟨x,hx⟩:=getElem?_lt Yq
   obtain ⟨b,o,cs,rfl,hl,hA,hE⟩:=YV k x hx
   have hd:decide ((k:Int) < (l.length:Int))=true:=by simp;omega
   simp (disch:=try exact DI) only [↓PR,QR,simprocAttr,hd]
   unfold NV
   simp (disch:=try exact DI) only [↓PR,QR,simprocAttr]
   unfold qx at hE
   obtain ⟨tv,cv,hcs,hT,hC⟩:=hE
   subst hcs
   have hV:ZZ w0 (.agg (Zv x tv cv).toArray) x:=⟨tv,cv,rfl,hT,hC⟩
   simp (disch:=try exact DI) only [↓PR,QR,simprocAttr,hA.c15]
   rw [YP hg]
   simp only [Array.empty_append]
   refine Zl (hc w _ x (List.mem_of_getElem? hx) e (hV.ext e)) ?_
   rintro r w' ⟨rfl,e'⟩
   cases hp:p x with
   | true => 
    simp (disch:=try exact DI) only [↓PR,QR,simprocAttr]
    exact ⟨by rw [QJ hx hp hb],e.trans e'⟩
   | false=>
    simp (disch:=try exact DI) only [↓PR,QR,simprocAttr]
    refine ⟨⟨k+1,rfl,by omega,e.trans e',λ j y hj hy=>?_⟩,by simp [intOf];omega⟩
    by_cases hjk:j=k
    · subst hjk;rw [hx] at hy;injection hy with hy;subst hy;exact hp
    · exact hb j y (by omega) hy
 · have hd:decide ((k:Int) < (l.length:Int))=false:=by simp;omega
   simp (disch:=try exact DI) only [↓PR,QR,simprocAttr,hd]
   exact ⟨by rw [QK λ j y hy=>hb j y (by have:=(List.getElem?_eq_some_iff.1 hy).1;omega) hy],e⟩
theorem U8 (w0:Wd) (v:Vl) (l:List Y8) (g:FuncId) (caps:AVl) (p:Y8→Bool) (hs:Va w0 v l) (hg:Callable Pg g) (hc:Uh w0 QV g caps p l) :
 Ret Pg 163 #[v,.func (.func g) #[] caps] w0 λ r w'=>r = .int .i64 (idx p l)∧Ext w0 w':=by
 obtain ⟨A,c,rfl,hlc,hcm,hlm,YV⟩:=Zd.open hs
 refine ZdX (R:=ZJ _) ?_
 unfold ZdW
 simp (disch:=try exact DI) only [↓PR,QR,simprocAttr]
 refine ZQ (λ i w=>∃ k:Nat,i = .int .i64 k∧k≤l.length∧Ext w0 w∧∀ (j:Nat) y,j < k→l[j]?=some y→p y=false) (λ i _=>l.length - (intOf i).toNat) ⟨0,rfl,by omega,Ext.refl _,λ j y h=>by omega⟩ ?_
 rintro i w ⟨k,rfl,hk,e,hb⟩
 by_cases Yq:k < l.length
 · obtain ⟨x,hx⟩:=getElem?_lt Yq
   obtain ⟨b,o,cs,rfl,hl,hA,hE⟩:=YV k x hx
   have hd:decide ((k:Int) < (l.length:Int))=true:=by simp;omega
   simp (disch:=try exact DI) only [↓PR,QR,simprocAttr,hd]
   unfold NY
   simp (disch:=try exact DI) only [↓PR,QR,simprocAttr]
   unfold MT at hE
   obtain ⟨fv,hcs,hF⟩:=hE
   subst hcs
   have hV:QV w0 (.agg (Yc x fv).toArray) x:=⟨fv,rfl,hF⟩
   simp (disch:=try exact DI) only [↓PR,QR,simprocAttr,hA.c2]
   rw [YP hg]
   simp only [Array.empty_append]
   refine Zl (hc w _ x (List.mem_of_getElem? hx) e (hV.ext e)) ?_
   rintro r w' ⟨rfl,e'⟩
   cases hp:p x with
   | true => 
    simp (disch:=try exact DI) only [↓PR,QR,simprocAttr]
    exact ⟨by rw [QJ hx hp hb],e.trans e'⟩
   | false=>
    simp (disch:=try exact DI) only [↓PR,QR,simprocAttr]
    refine ⟨⟨k+1,rfl,by omega,e.trans e',λ j y hj hy=>?_⟩,by simp [intOf];omega⟩
    by_cases hjk:j=k
    · subst hjk;rw [hx] at hy;injection hy with hy;subst hy;exact hp
    · exact hb j y (by omega) hy
 · have hd:decide ((k:Int) < (l.length:Int))=false:=by simp;omega
   simp (disch:=try exact DI) only [↓PR,QR,simprocAttr,hd]
   exact ⟨by rw [QK λ j y hy=>hb j y (by have:=(List.getElem?_eq_some_iff.1 hy).1;omega) hy],e⟩
theorem Gf (w0:Wd) (v:Vl) (l:List UInt8) (g:FuncId) (caps:AVl) (p:UInt8→Bool) (hs:(λ w v l=>Zd w 1 Bk v l) w0 v l) (hg:Callable Pg g) (hc:Uh w0 (λ _ v x=>v = .int .u8 (x.toNat:Int)) g caps p l) :
 Ret Pg 108 #[v,.func (.func g) #[] caps] w0 λ r w'=>r = .int .i64 (idx p l)∧Ext w0 w':=by
 obtain ⟨A,c,rfl,hlc,hcm,hlm,YV⟩:=Zd.open hs
 refine Zd5 (R:=ZJ _) ?_
 unfold Zd4
 simp (disch:=try exact DI) only [↓PR,QR,simprocAttr]
 refine ZQ (λ i w=>∃ k:Nat,i = .int .i64 k∧k≤l.length∧Ext w0 w∧∀ (j:Nat) y,j < k→l[j]?=some y→p y=false) (λ i _=>l.length - (intOf i).toNat) ⟨0,rfl,by omega,Ext.refl _,λ j y h=>by omega⟩ ?_
 rintro i w ⟨k,rfl,hk,e,hb⟩
 by_cases Yq:k < l.length
 · obtain ⟨x,hx⟩:=getElem?_lt Yq
   obtain ⟨b,o,cs,rfl,hl,hA,hE⟩:=YV k x hx
   have hd:decide ((k:Int) < (l.length:Int))=true:=by simp;omega
   simp (disch:=try exact DI) only [↓PR,QR,simprocAttr,hd]
   unfold N2
   simp (disch:=try exact DI) only [↓PR,QR,simprocAttr]
   obtain rfl:=hE
   have hV:(.int .u8 (x.toNat:Int):Vl) = .int .u8 (x.toNat:Int):=rfl
   simp (disch:=try exact DI) only [↓PR,QR,simprocAttr,hA.c1]
   rw [YP hg]
   simp only [Array.empty_append]
   refine Zl (hc w _ x (List.mem_of_getElem? hx) e (hV)) ?_
   rintro r w' ⟨rfl,e'⟩
   cases hp:p x with
   | true => 
    simp (disch:=try exact DI) only [↓PR,QR,simprocAttr]
    exact ⟨by rw [QJ hx hp hb],e.trans e'⟩
   | false=>
    simp (disch:=try exact DI) only [↓PR,QR,simprocAttr]
    refine ⟨⟨k+1,rfl,by omega,e.trans e',λ j y hj hy=>?_⟩,by simp [intOf];omega⟩
    by_cases hjk:j=k
    · subst hjk;rw [hx] at hy;injection hy with hy;subst hy;exact hp
    · exact hb j y (by omega) hy
 · have hd:decide ((k:Int) < (l.length:Int))=false:=by simp;omega
   simp (disch:=try exact DI) only [↓PR,QR,simprocAttr,hd]
   exact ⟨by rw [QK λ j y hy=>hb j y (by have:=(List.getElem?_eq_some_iff.1 hy).1;omega) hy],e⟩
theorem GS (w0 w1:Wd) (v:Vl) (l:List YU) (g:FuncId) (caps:AVl) (p:Nat→Bool) (J:Nat→Wd→Prop) (hs:ZW w0 v l) (hg:Callable Pg g) (hJ:∀ k w,J k w→Ext w0 w) (h0:J 0 w1)
 (hc:∀ k x w u,l[k]?=some x→J k w→(λ _ v x=>v=VX x) w u x→Ret Pg g (#[u]++caps) w λ r w'=>r = .bool (p k)∧J (k+1) w') :
 Ret Pg 263 #[v,.func (.func g) #[] caps] w1 λ r w'=>r = .int .i64 (idx p (List.range l.length))∧∃ k,J k w':=by
 obtain ⟨A,c,rfl,hlc,hcm,hlm,YV⟩:=Zd.open hs
 refine Zd3 (R:=ZJ _) ?_
 unfold Zd2
 simp (disch:=try exact DI) only [↓PR,QR,simprocAttr]
 refine ZQ (λ i w=>∃ k:Nat,i = .int .i64 k∧k≤l.length∧J k w∧∀ (j:Nat) y,j < k→(List.range l.length)[j]?=some y→p y=false) (λ i _=>l.length - (intOf i).toNat) ⟨0,rfl,by omega,h0,λ j y h=>by omega⟩ ?_
 rintro i w ⟨k,rfl,hk,hj,hb⟩
 have e:=hJ _ _ hj
 by_cases Yq:k < l.length
 · obtain ⟨x,hx⟩:=getElem?_lt Yq
   have hr:(List.range l.length)[k]?=some k:=by simp [Yq]
   obtain ⟨b,o,cs,rfl,hl,hA,hE⟩:=YV k x hx
   have hd:decide ((k:Int) < (l.length:Int))=true:=by simp;omega
   simp (disch:=try exact DI) only [↓PR,QR,simprocAttr,hd]
   unfold N1
   simp (disch:=try exact DI) only [↓PR,QR,simprocAttr]
   obtain rfl:=hE
   have hV:(.agg (xh x).toArray:Vl)=VX x:=rfl
   simp (disch:=try exact DI) only [↓PR,QR,simprocAttr,hA.c2]
   rw [YP hg]
   simp only [Array.empty_append]
   refine Zl (hc k x w _ hx hj hV) ?_
   rintro r w' ⟨rfl,hj'⟩
   cases hp:p k with
   | true => 
    simp (disch:=try exact DI) only [↓PR,QR,simprocAttr]
    exact ⟨by rw [QJ hr hp hb],_,hj'⟩
   | false=>
    simp (disch:=try exact DI) only [↓PR,QR,simprocAttr]
    exact ⟨⟨k+1,rfl,by omega,hj',before_succ hb hr hp⟩,by simp [intOf];omega⟩
 · have hd:decide ((k:Int) < (l.length:Int))=false:=by simp;omega
   simp (disch:=try exact DI) only [↓PR,QR,simprocAttr,hd]
   exact ⟨by rw [QK λ j y hy=>hb j y (by have:=(List.getElem?_eq_some_iff.1 hy).1;simp at this;omega) hy],_,hj⟩
def n53 (R:RT) (w:Wd):Prop:=
 opV Pg (Instr.alloc 24 true (.tuple #[])) (Zb R) w λ a w=>
 opV Pg (Instr.build 43 #[(0,(.string { data := #[110] })),(1,(.int .i64 7))]) (Zb R) w λ b w=>
 opV Pg (Instr.build 43 #[(0,(.string { data := #[98] })),(1,(.int .i64 1)),(2,(.string { data := #[98] }))]) (Zb R) w λ c w=>
 opV Pg (buildSlice 58 2 #[(0,b),(1,c)]) (Zb R) w λ d w=>
 opV Pg (Instr.build 60 #[(0,(.string { data := #[65] })),(1,(.string { data := #[65] })),(2,d)]) (Zb R) w λ e w=>
 opV Pg (buildSlice 22 1 #[(0,e)]) (Zb R) w λ f w=>
 opV Pg (Instr.build 24 #[(0,(.string { data := #[109] })),(1,f)]) (Zb R) w λ g w=>
 opU Pg (storeAt 24 a g) (Zb R) w λ w=>
 qW Pg 24 a w λ r0=>
 R (.returned r0) w
theorem Zhj {R:RT} {w:Wd} (h:n53 R w):Calls Pg 30 #[] w R:=by
 refine yD func30 ?_
 refine zs<|zr<|yv h λ _ w h=>zn<|zk<|zs<|zr<|yB h λ _ w h=>yB h λ _ w h=>yS h λ _ w h=>yB h λ _ w h=>yS h λ _ w h=>yB h λ _ w h=>yu h λ w h=>zn ?_
 exact zk<|Zi<|zI rfl rfl h
def n54 (R:RT) (w:Wd):Prop:=
 opV Pg (Instr.alloc 27 true (.tuple #[])) (Zb R) w λ a w=>
 opV Pg (Instr.build 123 #[(0,(.string { data := #[110] })),(1,(.int .i64 1)),(2,(.int .i64 8)),(6,(.int .i64 255))]) (Zb R) w λ d w=>
 opV Pg (Instr.alloc 123 true (.tuple #[])) (Zb R) w λ b w=>
 opU Pg (storeAt 123 b d) (Zb R) w λ w=>
 opV Pg (Instr.build 128 #[(0,(.string { data := #[110] })),(1,(.int .i64 1))]) (Zb R) w λ e w=>
 opV Pg (buildSlice 118 1 #[(0,e)]) (Zb R) w λ f w=>
 opV Pg (Instr.build 120 #[(1,f)]) (Zb R) w λ g w=>
 opV Pg (Instr.build 123 #[(0,(.string { data := #[98] })),(1,(.int .i64 4)),(7,g)]) (Zb R) w λ h w=>
 opV Pg (Instr.alloc 123 true (.tuple #[])) (Zb R) w λ c w=>
 opU Pg (storeAt 123 c h) (Zb R) w λ w=>
 opV Pg (loadAt 123 b) (Zb R) w λ i w=>
 opV Pg (loadAt 123 c) (Zb R) w λ j w=>
 opV Pg (buildSlice 72 2 #[(0,i),(1,j)]) (Zb R) w λ k w=>
 opV Pg (Instr.build 74 #[(0,(.string { data := #[65] })),(1,k)]) (Zb R) w λ l w=>
 opV Pg (buildSlice 25 1 #[(0,l)]) (Zb R) w λ m w=>
 opV Pg (Instr.build 27 #[(0,(.string { data := #[100] })),(1,m),(2,(.string { data := #[65] }))]) (Zb R) w λ n w=>
 opU Pg (storeAt 27 a n) (Zb R) w λ w=>
 qW Pg 27 a w λ r0=>
 R (.returned r0) w
theorem Zhk {R:RT} {w:Wd} (h:n54 R w):Calls Pg 31 #[] w R:=by
 refine yD func31 ?_
 refine zs<|zr<|yv h λ _ w h=>zn<|zk<|zs<|zr<|yB h λ _ w h=>yv h λ _ w h=>yu h λ w h=>zn<|zk<|zs<|zr<|yB h λ _ w h=>?_
 refine yS h λ _ w h=>yB h λ _ w h=>yB h λ _ w h=>yv h λ _ w h=>yu h λ w h=>zn<|zk<|zs<|zr<|yv h λ _ w h=>yv h λ _ w h=>yS h λ _ w h=>yB h λ _ w h=>yS h λ _ w h=>yB h λ _ w h=>?_
 exact yu h λ w h=>zn<|zk<|Zi<|zI rfl rfl h
def Ta (a b c:Vl) (d:WPr) (R:RT) (w:Wd):Prop:=
 opV Pg (Instr.typeAssert c 20 82 false) (Zb R) w λ e w=>
 opU Pg (storeAt 34 a e) (Zb R) w λ w=>
 opU Pg (storeAt 4 b (.bool true)) (Zb R) w λ w=>
 d w
def n15 (c d a:Vl) (R:RT) (w:Wd):Prop:=
 opV Pg (Zh .neq 20 true a .nilIface) (Zb R) w λ e w=>
 Zq (λ (w:Wd)=>
 R (.returned (.tuple #[])) w) λ b=>
 Zu e (
 Ta c d a b R w) (
 b w)
theorem Zei {t0 t1:Vl} {u:FrameMode} {R:Ending→FrameMode→Wd→Prop} {w:Wd} (h:n15 t0 t1 (Sw.recM u).1 (λ e w=>R e (Sw.recM u).2 w) w):CallsDIn Fence.wide 0 Pg 32 #[t0,t1] u w R:=by
 refine JZ (args:=[t0,t1]) (d:=3) func32 rfl (Nat.le_of_ble_eq_true rfl) rfl rfl rfl rfl ?_
 generalize (recM u).1=t3 at h ⊢
 generalize hR:(λ e w=>R e (recM u).2 w)=R' at h ⊢
 clear hR
 revert h
 generalize R'=R
 intro h
 unfold n15 at h
 refine zm<|zn<|zs<|zr<|zm<|yb h λ _ w h=>zn<|zk<|yJ0 [6,7] h (λ _ _ hkK1 h=>?_) λ σ w h=>?_
 · refine yC h (λ h=>?_) λ h=>?_
   · refine zr<|zm<|yv h λ _ w h=>yu h λ w h=>yu h λ w h=>zn<|zk ?_
     exact zt hkK1 h
   refine Zo<|zk ?_
   exact zt hkK1 h
 exact ZH<|ZO rfl h
def IP (b c:Vl) (a:WPr) (R:RT) (w:Wd):Prop:=
 qN Pg a (YL b) λ d=>
 qV Pg a (fieldAt 81 d 3) λ e=>
 qV Pg a (loadAt 3 e) λ f=>
 qN Pg a (YL b) λ g=>
 qV Pg a (fieldAt 81 g 4) λ h=>
 qV Pg a (loadAt 3 h) λ i=>
 qV Pg a (Instr.build 82 #[(0,f),(1,i),(2,c)]) λ j=>
 qV Pg a (Instr.makeInterface 82 j) λ k=>
 opV Pg (Instr.panic k) (Zb R) w λ _ w=>
 False
def n28 (a b c:Vl) (R:RT) (w:Wd):Prop:=
 opV Pg (Op.unary .not b) (Zb R) w λ d w=>
 Zu d (
 Ye w λ e w=>
 IP a c e R w) (
 R (.returned (.tuple #[])) w)
theorem ZgU {t0 t1 t2:Vl} {R:RT} {w:Wd} (h:n28 t0 t1 t2 R w):Calls Pg 33 #[t0,t1,t2] w R:=by
 refine yD func33 ?_
 refine zs<|zr<|zm<|yv h λ _ w h=>zn<|zk<|yC h (λ h=>?_) λ h=>?_
 · refine yh [8,9,10,11,12,13,14,15,16,17,18] h λ C hC h=>yw 0 hC ?_
   refine yn 1 hC h λ _ h=>?_
   refine ye 2 hC h λ _ h=>?_
   refine ye 3 hC h λ _ h=>?_
   refine yw 4 hC ?_
   refine yn 5 hC h λ _ h=>?_
   refine ye 6 hC h λ _ h=>?_
   refine ye 7 hC h λ _ h=>?_
   refine yw 8 hC ?_
   refine ye 9 hC h λ _ h=>?_
   refine ye 10 hC h λ _ h=>?_
   refine yo 11 ?_
   exact yv h λ _ w h=>zn<|h.elim
 exact Zo<|ZH<|ZO rfl h
def ZaF (a:Vl) (R:RT) (w:Wd):Prop:=
 opV Pg (Instr.extract a 0) (Zb R) w λ b w=>
 opV Pg (Instr.extract a 1) (Zb R) w λ c w=>
 opV Pg (Instr.alloc 131 true (.tuple #[])) (Zb R) w λ d w=>
 opU Pg (storeAt 131 d b) (Zb R) w λ w=>
 opV Pg (Op.unary .not c) (Zb R) w λ e w=>
 R (.returned e) w
def n67 (a:Vl) (R:RT) (w:Wd):Prop:=
 opV Pg (Instr.box 27 a) (Zb R) w λ b w=>
 opV Pg (loadAt 27 b) (Zb R) w λ c w=>
 Zg Pg 70 #[c] (Zb R) w λ d w=>
 ZaF d R w
theorem Zhw {t0:Vl} {R:RT} {w:Wd} (h:n67 t0 R w):Calls Pg 34 #[t0] w R:=by
 refine yD func34 ?_
 refine zs<|zr<|yv h λ _ w h=>zm<|zn<|zk<|zs<|zr<|yv h λ _ w h=>yc h c70 λ _ w h=>zm<|yv h λ _ w h=>yv h λ _ w h=>yv h λ _ w h=>yu h λ w h=>?_
 exact zm<|zn<|zk<|zs<|zr<|zm<|yv h λ _ w h=>zm<|zn<|zk<|Zi<|Zk rfl rfl h
def Gr (d e f:Vl) (R:RT) (w:Wd):Prop:=
 ZD e f (.bool false) λ b=>
 Zq (λ (a:Vl) (w:Wd)=>
 ZD b a (.bool false) λ g=>
 R (.returned g) w) λ c=>
 Zp b true (
 opV Pg (Go.convert 9 40 d) (Zb R) w λ h w=>
 Zg Pg 75 #[h,(.func (.func 71) #[] #[])] (Zb R) w λ i w=>
 opV Pg (Op.unary .not i) (Zb R) w λ a w=>
 c a w) (
 c undef w)
def Gs (b c:Vl) (R:RT) (w:Wd):Prop:=
 Zq (λ (a:Vl) (w:Wd)=>
 Gr b c a R w) λ d=>
 Zp c true (
 opV Pg (Instr.index 9 b (.int .i64 0)) (Zb R) w λ e w=>
 Zg Pg 72 #[e] (Zb R) w λ a w=>
 d a w) (
 d undef w)
def Zc4 (a:Vl) (R:RT) (w:Wd):Prop:=
 opV Pg (Builtin.len_ #[9] 3 #[a]) (Zb R) w λ b w=>
 opV Pg (Zh .geq 3 true b (.int .i64 1)) (Zb R) w λ c w=>
 opV Pg (Builtin.len_ #[9] 3 #[a]) (Zb R) w λ d w=>
 opV Pg (Zh .leq 3 true d (.int .i64 32)) (Zb R) w λ e w=>
 opV Pg (buildSlice 170 2 #[(0,c),(1,e)]) (Zb R) w λ f w=>
 Zg Pg 74 #[f] (Zb R) w λ g w=>
 Gs a g R w
theorem Zc5 {t0:Vl} {R:RT} {w:Wd} (h:Zc4 t0 R w):Calls Pg 35 #[t0] w R:=by
 refine yD func35 ?_
 refine zs<|zr<|zm<|zn<|zk<|zs<|zr<|zm<|zn<|zk<|zs<|Zr<|yG 9<|zm<|yx h λ _ w h=>?_
 refine yb h λ _ w h=>zm<|yx h λ _ w h=>yb h λ _ w h=>yS h λ _ w h=>yc h c74 λ _ w h=>zm<|zn<|yg1 3 8 true [13,14,15] 15 h (λ _ T hT h=>?_) λ σ w h=>?_
 · refine zm<|yv h λ _ w h=>yc h c72 λ _ w h=>zn ?_
   exact zt hT h
 refine yG 2<|yp h λ _ h=>zm<|zn<|yg1 5 13 true [18,19,20,21,22] 22 h (λ _ T hT h=>?_) λ σ w h=>?_
 · refine zm<|yv h λ _ w h=>zm<|yc h c75 λ _ w h=>yv h λ _ w h=>zn ?_
   exact zt hT h
 exact yG 2<|yp h λ _ h=>zm<|zn<|ZK<|zk<|Zi<|Zk rfl rfl h
def Oh (a b:Vl) (R:RT) (w:Wd):Prop:=
 Zu b (
 R (.returned (.int .i64 5)) w) (
 opV Pg (Zh .eql 117 true a (.int .i64 9)) (Zb R) w λ c w=>
 Zu c (
 R (.returned (.int .i64 6)) w) (
 R (.returned (.int .i64 0)) w))
def Oi (a:Vl) (R:RT) (w:Wd):Prop:=
 opV Pg (Zh .eql 117 true a (.int .i64 8)) (Zb R) w λ b w=>
 Zq (λ (d:Vl) (w:Wd)=>
 Oh a d R w) λ c=>
 Zu b (
 c b w) (
 opV Pg (Zh .eql 117 true a (.int .i64 12)) (Zb R) w λ e w=>
 c e w)
def Oj (a:Vl) (R:RT) (w:Wd):Prop:=
 opV Pg (Zh .eql 117 true a (.int .i64 6)) (Zb R) w λ b w=>
 Zu b (
 R (.returned (.int .i64 3)) w) (
 opV Pg (Zh .eql 117 true a (.int .i64 7)) (Zb R) w λ c w=>
 Zu c (
 R (.returned (.int .i64 4)) w) (
 Oi a R w))
def Ok (a:Vl) (R:RT) (w:Wd):Prop:=
 opV Pg (Zh .eql 117 true a (.int .i64 4)) (Zb R) w λ b w=>
 Zq (λ (d:Vl) (w:Wd)=>
 Zu d (
 R (.returned (.int .i64 2)) w) (
 Oj a R w)) λ c=>
 Zu b (
 c b w) (
 opV Pg (Zh .eql 117 true a (.int .i64 5)) (Zb R) w λ e w=>
 c e w)
def n33 (d:Vl) (R:RT) (w:Wd):Prop:=
 opV Pg (Instr.box 123 d) (Zb R) w λ e w=>
 opV Pg (fieldAt 123 e 1) (Zb R) w λ f w=>
 opV Pg (loadAt 117 f) (Zb R) w λ a w=>
 opV Pg (Zh .eql 117 true a (.int .i64 1)) (Zb R) w λ b w=>
 Zq (λ (g:Vl) (w:Wd)=>
 Zu g (
 R (.returned (.int .i64 1)) w) (
 Ok a R w)) λ c=>
 Zu b (
 c b w) (
 opV Pg (Zh .eql 117 true a (.int .i64 3)) (Zb R) w λ h w=>
 c h w)
theorem ZgZ {t0:Vl} {R:RT} {w:Wd} (h:n33 t0 R w):Calls Pg 68 #[t0] w R:=by
 refine yD func68 ?_
 refine zs<|zr<|yv h λ _ w h=>zm<|zn<|zk<|zs<|zs<|zr<|yv h λ _ w h=>yv h λ _ w h=>zn<|zk<|Zn<|zs ?_
 refine zs<|zr<|yb h λ _ w h=>zm<|zn<|zk<|yJ1 [5,7] 5 h (λ _ _ hkK1 h=>?_) λ σ w h=>?_
 · refine yC h (λ h=>?_) λ h=>?_
   · refine Zo<|zk ?_
     exact zt hkK1 h
   refine zr<|yb h λ _ w h=>zm<|zn<|zk ?_
   exact zt hkK1 h
 refine zk<|yC h (λ h=>zs<|zr<|zm<|zn<|zk<|Zi<|Zj<|Zc<|Zk rfl rfl h) λ h=>zs<|zs<|zr<|yb h λ _ w h=>zm<|zn<|zk<|yJ1 [8,10] 8 h (λ _ _ hkK2 h=>?_) λ σ w h=>?_
 · refine yC h (λ h=>?_) λ h=>?_
   · refine Zo<|zk ?_
     exact zt hkK2 h
   refine zr<|yb h λ _ w h=>zm<|zn<|zk ?_
   exact zt hkK2 h
 refine zk<|yC h (λ h=>zs<|zr<|zm<|zn<|zk<|Zi<|Zj<|Zc<|Zk rfl rfl h) λ h=>zs<|zr<|yb h λ _ w h=>zm<|zn<|zk<|yC h (λ h=>zs<|zr<|zm<|zn<|zk<|Zi<|Zj<|Zc<|Zk rfl rfl h) λ h=>zs<|zr<|yb h λ _ w h=>zm ?_
 refine zn<|zk<|yC h (λ h=>zs<|zr<|zm<|zn<|zk<|Zi<|Zj<|Zc<|Zk rfl rfl h) λ h=>zs<|zs<|zr<|yb h λ _ w h=>zm<|zn<|zk<|yJ1 [15,17] 15 h (λ _ _ hkK3 h=>?_) λ σ w h=>?_
 · refine yC h (λ h=>?_) λ h=>?_
   · refine Zo<|zk ?_
     exact zt hkK3 h
   refine zr<|yb h λ _ w h=>zm<|zn<|zk ?_
   exact zt hkK3 h
 refine zk<|yC h (λ h=>zs<|zr<|zm<|zn<|zk<|Zi<|Zj<|Zc<|Zk rfl rfl h) λ h=>zs<|zr<|yb h λ _ w h=>zm<|zn<|zk<|yC h (λ h=>zs<|zr<|zm<|zn<|zk<|Zi<|Zj<|Zc<|Zk rfl rfl h) λ h=>Zo<|Zf<|zk<|zs ?_
 exact zr<|zm<|zn<|zk<|Zi<|Zk rfl rfl h
def ZaD (b a:Vl) (R:RT) (w:Wd):Prop:=
 opV Pg (Instr.extract a 0) (Zb R) w λ g w=>
 opV Pg (Instr.extract a 1) (Zb R) w λ d w=>
 opV Pg (Instr.extract a 2) (Zb R) w λ e w=>
 opV Pg (Instr.alloc 131 true (.tuple #[])) (Zb R) w λ c w=>
 opU Pg (storeAt 131 c d) (Zb R) w λ w=>
 opV Pg (loadAt 131 c) (Zb R) w λ f w=>
 opU Pg (storeAt 131 b f) (Zb R) w λ w=>
 qW Pg 131 b w λ r0=>
 R (.returned (.tuple #[r0,e])) w
def n58 (a:Vl) (R:RT) (w:Wd):Prop:=
 opV Pg (Instr.box 27 a) (Zb R) w λ b w=>
 opV Pg (Instr.alloc 131 true (.tuple #[])) (Zb R) w λ c w=>
 opV Pg (loadAt 27 b) (Zb R) w λ d w=>
 Zg Pg 106 #[d] (Zb R) w λ e w=>
 ZaD c e R w
theorem Zho {t0:Vl} {R:RT} {w:Wd} (h:n58 t0 R w):Calls Pg 70 #[t0] w R:=by
 refine yD func70 ?_
 refine zs<|zr<|yv h λ _ w h=>yv h λ _ w h=>zm<|zn<|zk<|zs<|zr<|yv h λ _ w h=>yc h Zfv λ _ w h=>zm<|yv h λ _ w h=>yv h λ _ w h=>yv h λ _ w h=>?_
 refine yv h λ _ w h=>zm<|yu h λ w h=>zm<|zn<|zk<|zs<|zr<|yv h λ _ w h=>zm<|yu h λ w h=>zm<|zn<|zk<|Zi ?_
 exact YO rfl rfl rfl h
def yf (d e f:Vl) (R:RT) (w:Wd):Prop:=
 ZD e f (.bool false) λ b=>
 Zq (λ (a:Vl) (w:Wd)=>
 ZD b a (.bool false) λ g=>
 R (.returned g) w) λ c=>
 Zp b true (
 opV Pg (Zh .neq 5 true d (.int .u8 95)) (Zb R) w λ a w=>
 c a w) (
 c undef w)
def yg (b e:Vl) (R:RT) (w:Wd):Prop:=
 opV Pg (Op.unary .not e) (Zb R) w λ c w=>
 Zq (λ (a:Vl) (w:Wd)=>
 yf b c a R w) λ d=>
 Zp c true (
 Zg Pg 73 #[b] (Zb R) w λ f w=>
 opV Pg (Op.unary .not f) (Zb R) w λ a w=>
 d a w) (
 d undef w)
def Zc6 (a:Vl) (R:RT) (w:Wd):Prop:=
 Zg Pg 72 #[a] (Zb R) w λ b w=>
 yg a b R w
theorem Zc7 {t0:Vl} {R:RT} {w:Wd} (h:Zc6 t0 R w):Calls Pg 71 #[t0] w R:=by
 refine yD func71 ?_
 refine zs<|zr<|zm<|zn<|zk<|zs<|Zr<|yG 4<|zm<|yc h c72 λ _ w h=>yv h λ _ w h=>zm<|zn<|yg1 3 3 true [7,8,9] 9 h (λ _ T hT h=>?_) λ σ w h=>?_
 · refine zm<|yc h c73 λ _ w h=>yv h λ _ w h=>zn ?_
   exact zt hT h
 refine yG 2<|yp h λ _ h=>zm<|zn<|yg1 2 8 true [12,13] 13 h (λ _ T hT h=>?_) λ σ w h=>?_
 · refine zm<|yb h λ _ w h=>zn ?_
   exact zt hT h
 exact yG 2<|yp h λ _ h=>zm<|zn<|ZK<|zk<|Zi<|Zk rfl rfl h
def Hd (g c d:Vl) (R:RT) (w:Wd):Prop:=
 Zq (λ (a:Vl) (w:Wd)=>
 Zq (λ (b:Vl) (w:Wd)=>
 ZD c (.bool true) b λ h=>
 R (.returned h) w) λ e=>
 Zp c false (
 ZD d a (.bool false) λ b=>
 e b w) (
 e undef w)) λ f=>
 Zp d true (
 opV Pg (Zh .leq 5 true g (.int .u8 122)) (Zb R) w λ a w=>
 f a w) (
 f undef w)
def He (a d e:Vl) (R:RT) (w:Wd):Prop:=
 ZD d e (.bool false) λ b=>
 Zq (λ (f:Vl) (w:Wd)=>
 Hd a b f R w) λ c=>
 Zp b false (
 opV Pg (Zh .geq 5 true a (.int .u8 97)) (Zb R) w λ g w=>
 c g w) (
 c undef w)
def Zdl (a:Vl) (R:RT) (w:Wd):Prop:=
 opV Pg (Zh .geq 5 true a (.int .u8 65)) (Zb R) w λ c w=>
 Zq (λ (b:Vl) (w:Wd)=>
 He a c b R w) λ d=>
 Zp c true (
 opV Pg (Zh .leq 5 true a (.int .u8 90)) (Zb R) w λ b w=>
 d b w) (
 d undef w)
theorem Zdm {t0:Vl} {R:RT} {w:Wd} (h:Zdl t0 R w):Calls Pg 72 #[t0] w R:=by
 refine yD func72 ?_
 refine zs<|zr<|zm<|zn<|zk<|zs<|Zr<|yG 3<|zm<|yb h λ _ w h=>zm<|zn<|yg1 2 2 true [6,7] 7 h (λ _ T hT h=>?_) λ σ w h=>?_
 · refine zm<|yb h λ _ w h=>zn ?_
   exact zt hT h
 refine yG 2<|yp h λ _ h=>zm<|zn<|yg1 3 6 false [10,11,12] 12 h (λ _ T hT h=>?_) λ σ w h=>?_
 · refine zm<|yb h λ _ w h=>zm<|zn ?_
   exact zt hT h
 refine yg1 2 9 true [13,14] 14 h (λ _ T hT h=>?_) λ σ w h=>?_
 · refine zm<|yb h λ _ w h=>zn ?_
   exact zt hT h
 refine yg1 1 6 false [15] 15 h (λ _ T hT h=>?_) λ σ w h=>?_
 · refine yp h λ _ h=>zn ?_
   exact zt hT h
 exact yG 2<|yp h λ _ h=>zm<|zn<|ZK<|zk<|Zi<|Zk rfl rfl h
def Zdj (b:Vl) (R:RT) (w:Wd):Prop:=
 opV Pg (Zh .geq 5 true b (.int .u8 48)) (Zb R) w λ c w=>
 Zq (λ (a:Vl) (w:Wd)=>
 ZD c a (.bool false) λ e=>
 R (.returned e) w) λ d=>
 Zp c true (
 opV Pg (Zh .leq 5 true b (.int .u8 57)) (Zb R) w λ a w=>
 d a w) (
 d undef w)
theorem Zdk {t0:Vl} {R:RT} {w:Wd} (h:Zdj t0 R w):Calls Pg 73 #[t0] w R:=by
 refine yD func73 ?_
 refine zs<|zr<|zm<|zn<|zk<|zs<|Zr<|yG 3<|zm<|yb h λ _ w h=>zm<|zn<|yg1 2 2 true [6,7] 7 h (λ _ T hT h=>?_) λ σ w h=>?_
 · refine zm<|yb h λ _ w h=>zn ?_
   exact zt hT h
 exact yG 2<|yp h λ _ h=>zm<|zn<|ZK<|zk<|Zi<|Zk rfl rfl h
def Zdg (a:Vl) (R:RT) (w:Wd):Prop:=
 Zg Pg 107 #[a,(.bool false)] (Zb R) w λ b w=>
 opV Pg (Op.unary .not b) (Zb R) w λ c w=>
 R (.returned c) w
theorem Zdh {t0:Vl} {R:RT} {w:Wd} (h:Zdg t0 R w):Calls Pg 74 #[t0] w R:=by
 refine yD func74 ?_
 exact zs<|zr<|zm<|zn<|zk<|zs<|zr<|zm<|yc h Zfw λ _ w h=>yv h λ _ w h=>zm<|zn<|zk<|Zi<|Zk rfl rfl h
def ZdG (a b:Vl) (R:RT) (w:Wd):Prop:=
 Zg Pg 108 #[a,b] (Zb R) w λ c w=>
 opV Pg (Zh .geq 3 true c (.int .i64 0)) (Zb R) w λ d w=>
 R (.returned d) w
theorem ZdH {t0 t1:Vl} {R:RT} {w:Wd} (h:ZdG t0 t1 R w):Calls Pg 75 #[t0,t1] w R:=by
 refine yD func75 ?_
 refine zs<|zr<|zm<|zn<|zk<|zs<|zr<|zm<|zm<|yc h Zfx λ _ w h=>yb h λ _ w h=>zm<|zn<|zk<|Zi ?_
 exact Zk rfl rfl h
def TE (a:Vl) (R:RT) (w:Wd):Prop:=
 opV Pg (Instr.build 74 #[]) (Zb R) w λ b w=>
 opU Pg (storeAt 74 a b) (Zb R) w λ w=>
 qW Pg 74 a w λ r0=>
 R (.returned (.tuple #[r0,(.bool false)])) w
def TF (b a c:Vl) (R:RT) (w:Wd):Prop:=
 opV Pg (fieldAt 27 b 1) (Zb R) w λ d w=>
 opV Pg (loadAt 25 d) (Zb R) w λ e w=>
 opV Pg (indexAt 25 e c) (Zb R) w λ f w=>
 opV Pg (loadAt 74 f) (Zb R) w λ g w=>
 opU Pg (storeAt 74 a g) (Zb R) w λ w=>
 qW Pg 74 a w λ r0=>
 R (.returned (.tuple #[r0,(.bool true)])) w
def TG (c a b:Vl) (R:RT) (w:Wd):Prop:=
 opV Pg (Instr.extract b 0) (Zb R) w λ d w=>
 opV Pg (Instr.extract b 1) (Zb R) w λ e w=>
 opV Pg (Op.unary .not e) (Zb R) w λ f w=>
 Zu f (
 TE a R w) (
 TF c a d R w)
def n39 (b c:Vl) (R:RT) (w:Wd):Prop:=
 opV Pg (Instr.box 27 b) (Zb R) w λ a w=>
 opV Pg (Instr.alloc 74 true (.tuple #[])) (Zb R) w λ d w=>
 opV Pg (loadAt 27 a) (Zb R) w λ e w=>
 Zg Pg 109 #[e,c] (Zb R) w λ f w=>
 TG a d f R w
theorem Zg5 {t0 t1:Vl} {R:RT} {w:Wd} (h:n39 t0 t1 R w):Calls Pg 76 #[t0,t1] w R:=by
 refine yD func76 ?_
 refine zs<|zr<|yv h λ _ w h=>yv h λ _ w h=>zm<|zn<|zk<|zs<|zr<|yv h λ _ w h=>zm<|yc h Zfy λ _ w h=>zm<|yv h λ _ w h=>yv h λ _ w h=>?_
 refine zm<|zm<|zn<|zk<|zs<|zs<|zr<|zm<|yv h λ _ w h=>zn<|zk<|yC h (λ h=>zs<|zr<|yB h λ _ w h=>yu h λ w h=>zm<|zn<|zk<|Zi<|Zc<|YO rfl rfl rfl h) λ h=>Zo<|zk ?_
 exact zs<|zr<|yv h λ _ w h=>yv h λ _ w h=>zm<|yv h λ _ w h=>yv h λ _ w h=>yu h λ w h=>zm<|zn<|zk<|Zi<|YO rfl rfl rfl h
def jP (b a:Vl) (c:WPr) (R:RT) (w:Wd):Prop:=
 opV Pg (fieldAt 43 a 3) (Zb R) w λ d w=>
 opV Pg (loadAt 3 d) (Zb R) w λ e w=>
 opV Pg (fieldAt 43 a 3) (Zb R) w λ f w=>
 opV Pg (loadAt 3 f) (Zb R) w λ g w=>
 opV Pg (Op.unary .neg g) (Zb R) w λ h w=>
 opV Pg (Builtin.max_ #[3,3] 3 #[e,h]) (Zb R) w λ i w=>
 Zg Pg 42 #[i] (Zb R) w λ j w=>
 Zg Pg 33 #[b,j,(.int .i64 8)] (Zb R) w λ k w=>
 c w
def jQ (a b:Vl) (c:WPr) (R:RT) (w:Wd):Prop:=
 opV Pg (fieldAt 43 b 4) (Zb R) w λ d w=>
 opV Pg (loadAt 3 d) (Zb R) w λ e w=>
 Zg Pg 42 #[e] (Zb R) w λ f w=>
 Zg Pg 33 #[a,f,(.int .i64 8)] (Zb R) w λ g w=>
 c w
def jR (a b:Vl) (c:WPr) (R:RT) (w:Wd):Prop:=
 opV Pg (fieldAt 43 b 5) (Zb R) w λ d w=>
 opV Pg (loadAt 40 d) (Zb R) w λ e w=>
 opV Pg (Builtin.len_ #[40] 3 #[e]) (Zb R) w λ f w=>
 opV Pg (Zh .leq 3 true f (.int .i64 1000)) (Zb R) w λ g w=>
 Zg Pg 33 #[a,g,(.int .i64 2)] (Zb R) w λ h w=>
 c w
def jS (a b:Vl) (c:WPr) (R:RT) (w:Wd):Prop:=
 opV Pg (fieldAt 43 b 6) (Zb R) w λ d w=>
 opV Pg (loadAt 41 d) (Zb R) w λ e w=>
 Zg Pg 112 #[a,e] (Zb R) w λ f w=>
 c w
def jT (a b c:Vl) (d:WPr) (R:RT) (w:Wd):Prop:=
 opV Pg (loadAt 123 c) (Zb R) w λ e w=>
 opV Pg (loadAt 123 b) (Zb R) w λ f w=>
 Zg Pg 113 #[a,e,f] (Zb R) w λ g w=>
 d w
def jU (b f g c h:Vl) (i:WPr) (R:RT) (w:Wd):Prop:=
 opV Pg (Zh .eql 124 false c h) (Zb R) w λ d w=>
 Zq (λ (a:Vl) (w:Wd)=>
 ZD d a (.bool false) λ j=>
 Zg Pg 33 #[b,j,(.int .i64 5)] (Zb R) w λ k w=>
 jT b f g i R w) λ e=>
 Zp d true (
 opV Pg (Zh .geq 124 true c (.int .i64 4)) (Zb R) w λ a w=>
 e a w) (
 e undef w)
def jV (b c d:Vl) (a:WPr) (R:RT) (w:Wd):Prop:=
 opV Pg (Zh .eql 39 true d (.int .i64 7)) (Zb R) w λ e w=>
 Zu e (
 opV Pg (Zh .eql 124 true c (.int .i64 1)) (Zb R) w λ f w=>
 Zg Pg 33 #[b,f,(.int .i64 5)] (Zb R) w λ g w=>
 a w) (
 a w)
def jW (b e f g:Vl) (h:WPr) (R:RT) (w:Wd):Prop:=
 opV Pg (Zh .eql 124 true f (.int .i64 1)) (Zb R) w λ c w=>
 Zq (λ (a:Vl) (w:Wd)=>
 ZD c a (.bool false) λ i=>
 Zg Pg 33 #[b,i,(.int .i64 5)] (Zb R) w λ j w=>
 jS b e h R w) λ d=>
 Zp c true (
 opV Pg (Zh .eql 124 true g (.int .i64 1)) (Zb R) w λ a w=>
 d a w) (
 d undef w)
def jX (a f g h b e c:Vl) (d:WPr) (R:RT) (w:Wd):Prop:=
 opV Pg (Zh .eql 39 true c (.int .i64 5)) (Zb R) w λ i w=>
 Zu i (
 jW a f b e d R w) (
 opV Pg (Zh .eql 39 true c (.int .i64 6)) (Zb R) w λ j w=>
 Zu j (
 jU a g h b e d R w) (
 jV a b c d R w))
def Gv (a b f g c h d:Vl) (e:WPr) (R:RT) (w:Wd):Prop:=
 opV Pg (Zh .eql 39 true d (.int .i64 4)) (Zb R) w λ i w=>
 Zu i (
 opV Pg (Zh .eql 124 true c (.int .i64 2)) (Zb R) w λ j w=>
 Zg Pg 33 #[a,j,(.int .i64 5)] (Zb R) w λ k w=>
 jR a b e R w) (
 jX a b f g c h d e R w)
def Gw (b e f g:Vl) (h:WPr) (R:RT) (w:Wd):Prop:=
 opV Pg (Zh .eql 124 true f (.int .i64 1)) (Zb R) w λ c w=>
 Zq (λ (a:Vl) (w:Wd)=>
 ZD c a (.bool false) λ i=>
 Zg Pg 33 #[b,i,(.int .i64 5)] (Zb R) w λ j w=>
 jP b e h R w) λ d=>
 Zp c true (
 opV Pg (Zh .eql 124 true g (.int .i64 1)) (Zb R) w λ a w=>
 d a w) (
 d undef w)
def Gx (a b f g c h d:Vl) (e:WPr) (R:RT) (w:Wd):Prop:=
 opV Pg (Zh .eql 39 true d (.int .i64 3)) (Zb R) w λ i w=>
 Zu i (
 opV Pg (Zh .eql 124 true c (.int .i64 1)) (Zb R) w λ j w=>
 Zg Pg 33 #[a,j,(.int .i64 5)] (Zb R) w λ k w=>
 jQ a b e R w) (
 Gv a b f g c h d e R w)
def Gy (e b f:Vl) (g:WPr) (R:RT) (w:Wd):Prop:=
 opV Pg (Zh .eql 124 false b f) (Zb R) w λ c w=>
 Zq (λ (a:Vl) (w:Wd)=>
 ZD c a (.bool false) λ h=>
 Zg Pg 33 #[e,h,(.int .i64 5)] (Zb R) w λ i w=>
 g w) λ d=>
 Zp c true (
 opV Pg (Zh .leq 124 true b (.int .i64 3)) (Zb R) w λ a w=>
 d a w) (
 d undef w)
def Gz (a b g h c d e:Vl) (f:WPr) (R:RT) (w:Wd):Prop:=
 opV Pg (Zh .eql 39 true e (.int .i64 2)) (Zb R) w λ i w=>
 Zu i (
 Gw a b c d f R w) (
 Gx a b g h c d e f R w)
def UK (a b i c d:Vl) (R:RT) (w:Wd):Prop:=
 opV Pg (Instr.extract d 0) (Zb R) w λ j w=>
 opV Pg (Instr.extract d 1) (Zb R) w λ e w=>
 opV Pg (Instr.alloc 123 true (.tuple #[])) (Zb R) w λ f w=>
 opU Pg (storeAt 123 f j) (Zb R) w λ w=>
 opV Pg (fieldAt 43 b 1) (Zb R) w λ k w=>
 opV Pg (loadAt 39 k) (Zb R) w λ g w=>
 opV Pg (Zh .eql 39 true g (.int .i64 1)) (Zb R) w λ l w=>
 Zq (λ (w:Wd)=>
 R (.returned (.tuple #[])) w) λ h=>
 Zu l (
 Gy a c e h R w) (
 Gz a b i f c e g h R w)
def KH (b a c d e:Vl) (R:RT) (w:Wd):Prop:=
 opV Pg (loadAt 74 c) (Zb R) w λ f w=>
 opV Pg (fieldAt 43 a 2) (Zb R) w λ g w=>
 opV Pg (loadAt 9 g) (Zb R) w λ h w=>
 Zg Pg 110 #[f,h] (Zb R) w λ i w=>
 UK b a d e i R w
def UL (a b c d e f:Vl) (R:RT) (w:Wd):Prop:=
 opV Pg (loadAt 43 b) (Zb R) w λ g w=>
 opV Pg (loadAt 105 e) (Zb R) w λ h w=>
 Zg Pg 97 #[g,h] (Zb R) w λ i w=>
 Zg Pg 33 #[a,i,(.int .i64 7)] (Zb R) w λ j w=>
 KH a b c d f R w
def KI (d e:Vl) (a:WPr) (f:KW) (R:RT) (w:Wd):Prop:=
 qV Pg a (Instr.lookup 106 d e true) λ b=>
 qV Pg a (Instr.extract b 0) λ g=>
 qV Pg a (Instr.extract b 1) λ h=>
 opV Pg (Instr.alloc 105 true (.tuple #[])) (Zb R) w λ c w=>
 a w∧(
 opU Pg (storeAt 105 c g) (Zb R) w λ w=>
 a w∧(
 f c h w))
def KJ (b d e:Vl) (a:WPr) (f:KW) (R:RT) (w:Wd):Prop:=
 qV Pg a (Instr.lookup 106 d e true) λ c=>
 qV Pg a (Instr.extract c 0) λ g=>
 qV Pg a (Instr.extract c 1) λ h=>
 opU Pg (storeAt 105 b g) (Zb R) w λ w=>
 a w∧(
 f b h w)
def KK (d e h i j:Vl) (a:WPr) (R:RT) (w:Wd):Prop:=
 qV Pg a (fieldAt 43 e 1) λ k=>
 qV Pg a (loadAt 39 k) λ f=>
 Zq (λ (b:Vl) (l:Vl) (w:Wd)=>
 Zg Pg 33 #[d,l,(.int .i64 6)] (Zb R) w λ o w=>
 UL d e h i b j R w) λ g=>
 (
 Zg Pg 57 #[] (Zb R) w λ c w=>
 X4 a w λ m w=>
 KI c f m g R w)∧(
 opV Pg (Instr.alloc 105 true (.tuple #[])) (Zb R) w λ b w=>
 a w∧(
 Zg Pg 57 #[] (Zb R) w λ c w=>
 X4 a w λ n w=>
 KJ b c f n g R w))
def KN (a b c d e f:Vl) (R:RT) (w:Wd):Prop:=
 opV Pg (Op.unary .not f) (Zb R) w λ g w=>
 Zg Pg 33 #[a,g,(.int .i64 4)] (Zb R) w λ i w=>
 Ye w λ h w=>
 KK a b c d e h R w
def KO (a f b g c:Vl) (R:RT) (w:Wd):Prop:=
 opV Pg (Instr.extract c 0) (Zb R) w λ h w=>
 opV Pg (Instr.extract c 1) (Zb R) w λ d w=>
 opV Pg (Instr.alloc 123 true (.tuple #[])) (Zb R) w λ e w=>
 opU Pg (storeAt 123 e h) (Zb R) w λ w=>
 opV Pg (Zh .neq 124 true d (.int .i64 0)) (Zb R) w λ i w=>
 Zg Pg 33 #[a,i,(.int .i64 5)] (Zb R) w λ l w=>
 opV Pg (makeFunc (.func 111) #[] #[b]) (Zb R) w λ j w=>
 Zg Pg 78 #[f,j] (Zb R) w λ k w=>
 KN a b g e d k R w
def n30 (b c d e f:Vl) (R:RT) (w:Wd):Prop:=
 opV Pg (Instr.box 43 c) (Zb R) w λ a w=>
 opV Pg (Instr.box 74 d) (Zb R) w λ g w=>
 opV Pg (Instr.box 74 e) (Zb R) w λ h w=>
 opV Pg (loadAt 74 h) (Zb R) w λ i w=>
 opV Pg (fieldAt 43 a 0) (Zb R) w λ j w=>
 opV Pg (loadAt 9 j) (Zb R) w λ k w=>
 Zg Pg 110 #[i,k] (Zb R) w λ l w=>
 KO b f a g l R w
set_option maxHeartbeats 40000000 in
theorem ZgW {t0 t1 t2 t3 t4:Vl} {R:RT} {w:Wd} (h:n30 t0 t1 t2 t3 t4 R w):Calls Pg 77 #[t0,t1,t2,t3,t4] w R:=by
 refine yD func77 ?_
 refine zs<|zr<|yv h λ _ w h=>yv h λ _ w h=>yv h λ _ w h=>zn<|zk<|zs<|zr<|yv h λ _ w h=>yv h λ _ w h=>yv h λ _ w h=>yc h Zcd λ _ w h=>zm<|yv h λ _ w h=>?_
 refine yv h λ _ w h=>yv h λ _ w h=>yu h λ w h=>zm<|zn<|zk<|zs<|zr<|zm<|zm<|yb h λ _ w h=>yc h c33 λ _ w h=>zn<|zk<|zs ?_
 refine zr<|zm<|zm<|yF h λ _ w h=>yc h c78 λ _ w h=>yv h λ _ w h=>yc h c33 λ _ w h=>zn<|zk<|zs<|yh [12,13,33,34,35,36,37,38,39] h λ C hC h=>ye 1 hC h λ _ h=>?_
 refine ye 2 hC h λ _ h=>?_
 refine Qr h (λ K2 hK h=>?_)
 refine Q5 [12,13,33,34,37,38,39] (λ ρ w=>K2 (ρ 12) (ρ 13) w) (λ T hT=>?_) (λ σ w h=>?_)
 · obtain ⟨h0,h1⟩:=h
   refine Y7 0 7 rfl rfl (by kernel_rfl) (λ _ _=>rfl) (λ _ _=>rfl) ?_ ?_
   · have h:=h0
     refine yc h c57 λ _ w h=>zn ?_
     obtain ⟨C8,hs,hC,h⟩:=h
     refine ⟨C8,hs,hC,?_⟩
     refine ye 3 hC h λ _ h=>?_
     refine yw 4 hC ?_
     refine ye 5 hC h λ _ h=>?_
     refine ye 6 hC h λ _ h=>?_
     refine yo 7 ?_
     refine yv h λ _ w h=>zn ?_
     obtain ⟨hC,h⟩:=h
     refine ⟨hC,?_⟩
     refine yo 8 ?_
     refine yu h λ w h=>zn ?_
     obtain ⟨hC,h⟩:=h
     refine ⟨hC,?_⟩
     refine yw 9 hC ?_
     refine yz ?_
     exact zt hT h
   have h:=h1
   refine yv h λ _ w h=>zn ?_
   obtain ⟨hC,h⟩:=h
   refine ⟨_,λ _ h=>h,hC,?_⟩
   refine yr 0 ?_
   refine yc h c57 λ _ w h=>zn ?_
   obtain ⟨C9,hs,hC,h⟩:=h
   refine ⟨C9,hs,hC,?_⟩
   refine ye 3 hC h λ _ h=>?_
   refine yw 4 hC ?_
   refine ye 5 hC h λ _ h=>?_
   refine ye 6 hC h λ _ h=>?_
   refine yo 8 ?_
   refine yu h λ w h=>zn ?_
   obtain ⟨hC,h⟩:=h
   refine ⟨hC,?_⟩
   refine yw 9 hC ?_
   refine yz ?_
   exact zt hT h
 subst hK
 refine zk<|zs<|zr<|zm<|zm<|yc h c33 λ _ w h=>zn<|zk<|zs<|zr<|zm<|yv h λ _ w h=>yv h λ _ w h=>yc h c97 λ _ w h=>yc h c33 λ _ w h=>?_
 refine zn<|zk<|zs<|zr<|yv h λ _ w h=>yv h λ _ w h=>yv h λ _ w h=>yc h Zcd λ _ w h=>zm<|yv h λ _ w h=>yv h λ _ w h=>yv h λ _ w h=>yu h λ w h=>zm<|zn ?_
 refine zk<|zs<|zr<|yv h λ _ w h=>yv h λ _ w h=>zn<|zk<|Zn<|zs<|zr<|yb h λ _ w h=>zm<|zn<|zk<|yJ0 [59,60,61,62,63,64,65,66,67,68,69,70,71,72,73,74,75,76,77,78,79,80,81,82,83,84,85,86,87,88,89,90,91,92,93,94,95,96,97,98,99,100,101,102,103,104,105,106,107,108,109,110,111,112,113,114,115,116,117,118,119,120,121,122,123,124,125,126,127,128,129,130,131,132,133,134,135,136,137,138,139,140,141,142,143,144] h (λ _ _ hkK3 h=>?_) λ σ w h=>?_
 · refine yC h (λ h=>?_) λ h=>?_
   · refine Zr<|yG 5<|zm<|zm<|zm<|yb h λ _ w h=>zm<|zn<|yg1 2 4 true [64,65] 65 h (λ _ T hT h=>?_) λ σ w h=>?_
     · refine zm<|yb h λ _ w h=>zn ?_
       exact zt hT h
     refine yG 2<|yp h λ _ h=>yc h c33 λ _ w h=>zn<|ZK<|zk ?_
     exact zt hkK3 h
   refine zs<|zr<|yb h λ _ w h=>zm<|zn<|zk<|yC h (λ h=>?_) λ h=>?_
   · refine zs<|Zr<|yG 4<|zm<|zm<|yb h λ _ w h=>zm<|zn<|yg1 2 3 true [74,75] 75 h (λ _ T hT h=>?_) λ σ w h=>?_
     · refine zm<|yb h λ _ w h=>zn ?_
       exact zt hT h
     refine yG 2<|yp h λ _ h=>yc h c33 λ _ w h=>zn<|ZK<|zk<|zr<|zm<|yv h λ _ w h=>yv h λ _ w h=>yv h λ _ w h=>yv h λ _ w h=>yv h λ _ w h=>yx h λ _ w h=>yc h c42 λ _ w h=>?_
     refine yc h c33 λ _ w h=>zn<|zk ?_
     exact zt hkK3 h
   refine zs<|zr<|yb h λ _ w h=>zm<|zn<|zk<|yC h (λ h=>?_) λ h=>?_
   · refine zs<|zr<|zm<|zm<|yb h λ _ w h=>yc h c33 λ _ w h=>zn<|zk<|zr<|zm<|yv h λ _ w h=>yv h λ _ w h=>yc h c42 λ _ w h=>yc h c33 λ _ w h=>zn ?_
     refine zk ?_
     exact zt hkK3 h
   refine zs<|zr<|yb h λ _ w h=>zm<|zn<|zk<|yC h (λ h=>?_) λ h=>?_
   · refine zs<|zr<|zm<|zm<|yb h λ _ w h=>yc h c33 λ _ w h=>zn<|zk<|zr<|zm<|yv h λ _ w h=>yv h λ _ w h=>yx h λ _ w h=>yb h λ _ w h=>yc h c33 λ _ w h=>?_
     refine zn<|zk ?_
     exact zt hkK3 h
   refine zs<|zr<|yb h λ _ w h=>zm<|zn<|zk<|yC h (λ h=>?_) λ h=>?_
   · refine zs<|Zr<|yG 4<|zm<|zm<|yb h λ _ w h=>zm<|zn<|yg1 2 3 true [116,117] 117 h (λ _ T hT h=>?_) λ σ w h=>?_
     · refine zm<|yb h λ _ w h=>zn ?_
       exact zt hT h
     refine yG 2<|yp h λ _ h=>yc h c33 λ _ w h=>zn<|ZK<|zk<|zr<|zm<|yv h λ _ w h=>yv h λ _ w h=>yc h ZfA λ _ w h=>zn<|zk ?_
     exact zt hkK3 h
   refine zs<|zr<|yb h λ _ w h=>zm<|zn<|zk<|yC h (λ h=>?_) λ h=>?_
   · refine zs<|Zr<|yG 5<|zm<|zm<|zm<|yb h λ _ w h=>zm<|zn<|yg1 2 4 true [131,132] 132 h (λ _ T hT h=>?_) λ σ w h=>?_
     · refine zm<|yb h λ _ w h=>zn ?_
       exact zt hT h
     refine yG 2<|yp h λ _ h=>yc h c33 λ _ w h=>zn<|ZK<|zk<|zr<|zm<|yv h λ _ w h=>yv h λ _ w h=>yc h ZfB λ _ w h=>zn<|zk ?_
     exact zt hkK3 h
   refine zs<|zr<|yb h λ _ w h=>zm<|zn<|zk<|yC h (λ h=>?_) λ h=>?_
   · refine zr<|zm<|zm<|yb h λ _ w h=>yc h c33 λ _ w h=>zn<|zk ?_
     exact zt hkK3 h
   refine Zo<|zk ?_
   exact zt hkK3 h
 exact Zf<|ZH<|ZO rfl h
def ZdC (a b:Vl) (R:RT) (w:Wd):Prop:=
 Zg Pg 114 #[a,b] (Zb R) w λ c w=>
 opV Pg (Zh .geq 3 true c (.int .i64 0)) (Zb R) w λ d w=>
 R (.returned d) w
theorem ZdD {t0 t1:Vl} {R:RT} {w:Wd} (h:ZdC t0 t1 R w):Calls Pg 78 #[t0,t1] w R:=by
 refine yD func78 ?_
 refine zs<|zr<|zm<|zn<|zk<|zs<|zr<|zm<|zm<|yc h ZfC λ _ w h=>yb h λ _ w h=>zm<|zn<|zk<|Zi ?_
 exact Zk rfl rfl h
def n27 (a b:Vl) (R:RT) (w:Wd):Prop:=
 opV Pg (Instr.box 43 a) (Zb R) w λ c w=>
 opV Pg (fieldAt 43 c 0) (Zb R) w λ d w=>
 opV Pg (loadAt 9 d) (Zb R) w λ e w=>
 opV Pg (fieldAt 123 b 0) (Zb R) w λ f w=>
 opV Pg (loadAt 9 f) (Zb R) w λ g w=>
 opV Pg (Zh .eql 9 false e g) (Zb R) w λ h w=>
 R (.returned h) w
theorem ZgT {t0 t1:Vl} {R:RT} {w:Wd} (h:n27 t0 t1 R w):Calls Pg 79 #[t0,t1] w R:=by
 refine yD func79 ?_
 refine zs<|zr<|yv h λ _ w h=>zm<|zn<|zk<|zs<|zr<|yv h λ _ w h=>yv h λ _ w h=>yv h λ _ w h=>yv h λ _ w h=>yb h λ _ w h=>zm<|zn ?_
 exact zk<|Zi<|Zk rfl rfl h
end Go.Proofs.YtgalpdihjbinjaaGreatDoor
