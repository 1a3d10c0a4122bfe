/-
  Lemmas for the claim.
-/
import Derived.Test.YtngflmjncplkaaaGreatDoorUg1
set_option linter.all false
set_option maxHeartbeats 4000000
set_option maxRecDepth 100000
namespace Go.Proofs.YtngflmjncplkaaaGreatDoor
open Sw
noncomputable abbrev Pg:=Tryz.prog
def isAggD (d:TypeDesc):Bool:=match d with | .struct _ | .array _ _=>true | _=>false
theorem ty_mk {P:Program} {T:TypeId} {agg:Bool} {n:Nat} {z:Value} {d:TypeDesc} (h:(P.info? T).map (fun i=>(i.size,i.zero))=some (n,some z)) (hu:P.underlying T=some d) (ha:isAggD d=agg):TyInfo P T agg n (P.bytesOf T) z:=by
 obtain ⟨i,hi,he⟩:=Option.map_eq_some_iff.1 h
 simp only [Prod.mk.injEq] at he
 exact ⟨⟨i,hi,he.1,by simp [Program.bytesOf,hi],he.2⟩,d,hu,ha⟩
theorem ty3:TyInfo Pg 3 false 1 (Pg.bytesOf 3) (.int .i64 0):=ty_mk (by kernel_rfl) Tryz.underlying3 rfl
theorem by3:Pg.bytesOf 3≤4096:=Nat.le_of_ble_eq_true (by kernel_rfl)
theorem ty4:TyInfo Pg 4 false 1 (Pg.bytesOf 4) (.bool false):=ty_mk (by kernel_rfl) Tryz.underlying4 rfl
theorem by4:Pg.bytesOf 4≤4096:=Nat.le_of_ble_eq_true (by kernel_rfl)
theorem ty5:TyInfo Pg 5 false 1 (Pg.bytesOf 5) (.int .u8 0):=ty_mk (by kernel_rfl) Tryz.underlying5 rfl
theorem ty9:TyInfo Pg 9 false 1 (Pg.bytesOf 9) (.string ByteArray.empty):=ty_mk (by kernel_rfl) Tryz.underlying9 rfl
theorem by9:Pg.bytesOf 9≤4096:=Nat.le_of_ble_eq_true (by kernel_rfl)
theorem ty20:TyInfo Pg 20 false 1 (Pg.bytesOf 20) (.nilIface):=ty_mk (by kernel_rfl) Tryz.underlying20 rfl
theorem by20:Pg.bytesOf 20≤4096:=Nat.le_of_ble_eq_true (by kernel_rfl)
theorem ty22:TyInfo Pg 22 false 1 (Pg.bytesOf 22) (.slice none 0 0):=ty_mk (by kernel_rfl) Tryz.underlying22 rfl
theorem ty23:TyInfo Pg 23 false 1 (Pg.bytesOf 23) (.slice none 0 0):=ty_mk (by kernel_rfl) Tryz.underlying23 rfl
theorem ty24:TyInfo Pg 24 false 1 (Pg.bytesOf 24) (.slice none 0 0):=ty_mk (by kernel_rfl) Tryz.underlying24 rfl
theorem ty26:TyInfo Pg 26 true 4 (Pg.bytesOf 26) (.agg #[.string ByteArray.empty,.slice none 0 0,.slice none 0 0,.slice none 0 0]):=ty_mk (by kernel_rfl) Tryz.underlying26 rfl
theorem ty50:TyInfo Pg 50 true 3 (Pg.bytesOf 50) (.agg #[.string ByteArray.empty,.bool false,.int .i64 0]):=ty_mk (by kernel_rfl) Tryz.underlying50 rfl
theorem by50:Pg.bytesOf 50≤4096:=Nat.le_of_ble_eq_true (by kernel_rfl)
theorem ty52:TyInfo Pg 52 true 2 (Pg.bytesOf 52) (.agg #[.string ByteArray.empty,.int .i64 0]):=ty_mk (by kernel_rfl) Tryz.underlying52 rfl
theorem by52:Pg.bytesOf 52≤4096:=Nat.le_of_ble_eq_true (by kernel_rfl)
theorem ty54:TyInfo Pg 54 false 1 (Pg.bytesOf 54) (.slice none 0 0):=ty_mk (by kernel_rfl) Tryz.underlying54 rfl
theorem ty55:TyInfo Pg 55 false 1 (Pg.bytesOf 55) (.int .i64 0):=ty_mk (by kernel_rfl) Tryz.underlying55 rfl
theorem ty57:TyInfo Pg 57 true 4 (Pg.bytesOf 57) (.agg #[.string ByteArray.empty,.slice none 0 0,.int .i64 0,.int .i64 0]):=ty_mk (by kernel_rfl) Tryz.underlying57 rfl
theorem ty69:TyInfo Pg 69 false 1 (Pg.bytesOf 69) (.int .i64 0):=ty_mk (by kernel_rfl) Tryz.underlying69 rfl
theorem ty71:TyInfo Pg 71 true 9 (Pg.bytesOf 71) (.agg #[.string ByteArray.empty,.string ByteArray.empty,.int .i64 0,.string ByteArray.empty,.string ByteArray.empty,.string ByteArray.empty,.int .i64 0,.int .i64 0,.int .i64 0]):=ty_mk (by kernel_rfl) Tryz.underlying71 rfl
theorem by71:Pg.bytesOf 71≤4096:=Nat.le_of_ble_eq_true (by kernel_rfl)
theorem ty73:TyInfo Pg 73 false 1 (Pg.bytesOf 73) (.slice none 0 0):=ty_mk (by kernel_rfl) Tryz.underlying73 rfl
theorem ty78:TyInfo Pg 78 false 1 (Pg.bytesOf 78) (.slice none 0 0):=ty_mk (by kernel_rfl) Tryz.underlying78 rfl
theorem ty87:TyInfo Pg 87 false 1 (Pg.bytesOf 87) (.nilFunc):=ty_mk (by kernel_rfl) Tryz.underlying87 rfl
theorem ty89:TyInfo Pg 89 true 3 (Pg.bytesOf 89) (.agg #[.string ByteArray.empty,.bool false,.nilFunc]):=ty_mk (by kernel_rfl) Tryz.underlying89 rfl
theorem ty104:TyInfo Pg 104 false 1 (Pg.bytesOf 104) (.nilFunc):=ty_mk (by kernel_rfl) Tryz.underlying104 rfl
theorem ty109:TyInfo Pg 109 true 3 (Pg.bytesOf 109) (.agg #[.slice none 0 0,.int .i64 0,.slice none 0 0]):=ty_mk (by kernel_rfl) Tryz.underlying109 rfl
theorem eq50 {w:World} (a0 b0:ByteArray) (a1 b1:Bool) (a2 b2:Int):(Op.equalIn (9999+1) 50 (.agg #[.string a0,.bool a1,.int .i64 a2]) (.agg #[.string b0,.bool b1,.int .i64 b2])).run Pg w = .ok (decide (a0=b0)&&(decide (a1=b1)&&(decide (a2=b2)&&true))) w :=
 equalIn_struct Tryz.underlying50 (by kernel_rfl) (eqFields_step rfl (part1 ty9 rfl) (part1 ty9 rfl) (eqString Tryz.underlying9) (eqFields_step rfl (part1 ty4 rfl) (part1 ty4 rfl) (eqBool Tryz.underlying4) (eqFields_step rfl (part1 ty3 rfl) (part1 ty3 rfl) (eqInt Tryz.underlying3) eqFields_nil)))
theorem eq52 {w:World} (a0 b0:ByteArray) (a1 b1:Int):(Op.equalIn (9999+1) 52 (.agg #[.string a0,.int .i64 a1]) (.agg #[.string b0,.int .i64 b1])).run Pg w = .ok (decide (a0=b0)&&(decide (a1=b1)&&true)) w :=
 equalIn_struct Tryz.underlying52 (by kernel_rfl) (eqFields_step rfl (part1 ty9 rfl) (part1 ty9 rfl) (eqString Tryz.underlying9) (eqFields_step rfl (part1 ty3 rfl) (part1 ty3 rfl) (eqInt Tryz.underlying3) eqFields_nil))
theorem eq71 {w:World} (a0 b0:ByteArray) (a1 b1:ByteArray) (a2 b2:Int) (a3 b3:ByteArray) (a4 b4:ByteArray) (a5 b5:ByteArray) (a6 b6:Int) (a7 b7:Int) (a8 b8:Int):(Op.equalIn (9999+1) 71 (.agg #[.string a0,.string a1,.int .i64 a2,.string a3,.string a4,.string a5,.int .i64 a6,.int .i64 a7,.int .i64 a8]) (.agg #[.string b0,.string b1,.int .i64 b2,.string b3,.string b4,.string b5,.int .i64 b6,.int .i64 b7,.int .i64 b8])).run Pg w = .ok (decide (a0=b0)&&(decide (a1=b1)&&(decide (a2=b2)&&(decide (a3=b3)&&(decide (a4=b4)&&(decide (a5=b5)&&(decide (a6=b6)&&(decide (a7=b7)&&(decide (a8=b8)&&true))))))))) w :=
 equalIn_struct Tryz.underlying71 (by kernel_rfl) (eqFields_step rfl (part1 ty9 rfl) (part1 ty9 rfl) (eqString Tryz.underlying9) (eqFields_step rfl (part1 ty9 rfl) (part1 ty9 rfl) (eqString Tryz.underlying9) (eqFields_step rfl (part1 ty69 rfl) (part1 ty69 rfl) (eqInt Tryz.underlying69) (eqFields_step rfl (part1 ty9 rfl) (part1 ty9 rfl) (eqString Tryz.underlying9) (eqFields_step rfl (part1 ty9 rfl) (part1 ty9 rfl) (eqString Tryz.underlying9) (eqFields_step rfl (part1 ty9 rfl) (part1 ty9 rfl) (eqString Tryz.underlying9) (eqFields_step rfl (part1 ty3 rfl) (part1 ty3 rfl) (eqInt Tryz.underlying3) (eqFields_step rfl (part1 ty3 rfl) (part1 ty3 rfl) (eqInt Tryz.underlying3) (eqFields_step rfl (part1 ty3 rfl) (part1 ty3 rfl) (eqInt Tryz.underlying3) eqFields_nil)))))))))
section
variable {QP:List PanicEntry→World→Prop} {w:World} {k:Value→World→Prop}
def o0:=op_loadC (QP:=QP) (w:=w) (k:=k) ty3
theorem o1:(∀ u,opV Pg (Instr.alloc 3 true u) QP w k=k (.pointer (some ⟨w.heap.size,0,none⟩)) (w.alloc (.cells ((.int .i64 0):Value).cells 3))):=(op_alloc ty3)
def o2:=op_loadC (QP:=QP) (w:=w) (k:=k) ty4
theorem o3:(∀ c a b,opV Pg (binS .eql 4 c (.bool a) (.bool b)) QP w k=k (.bool (a == b)) w):=(op_beql Tryz.underlying4)
theorem o4:(∀ c a b,opV Pg (binS .neq 4 c (.bool a) (.bool b)) QP w k=k (.bool (a != b)) w):=(op_bneq Tryz.underlying4)
theorem o5:(∀ u,opV Pg (Instr.alloc 4 true u) QP w k=k (.pointer (some ⟨w.heap.size,0,none⟩)) (w.alloc (.cells ((.bool false):Value).cells 4))):=(op_alloc ty4)
def o6:=op_loadC (QP:=QP) (w:=w) (k:=k) ty5
def o7:=op_loadC (QP:=QP) (w:=w) (k:=k) ty9
theorem o8:(∀ r s,opV Pg (Builtin.len_ #[9] r #[.string s]) QP w k=k (.int .i64 (s.size:Int)) w):=(fun r=>op_len_string (r:=r) Tryz.underlying9)
def o9:=op_loadC (QP:=QP) (w:=w) (k:=k) ty20
def o10:=op_loadC (QP:=QP) (w:=w) (k:=k) ty22
theorem o11:(∀ r a n c,opV Pg (Builtin.len_ #[22] r #[.slice a n c]) QP w k=k (.int .i64 (n:Int)) w):=(fun r=>op_len_slice (r:=r) Tryz.underlying22)
theorem o12:(∀ b o len cap ik (i:Nat),i < len→opV Pg (Instr.indexAt 22 (.slice (some ⟨b,o,none⟩) len cap) (.int ik (i:Int))) QP w k=k (.pointer (some ⟨b,o+i*3,none⟩)) w):=(op_indexN Tryz.underlying22 ty50)
def o13:=op_loadC (QP:=QP) (w:=w) (k:=k) ty23
theorem o14:(∀ r a n c,opV Pg (Builtin.len_ #[23] r #[.slice a n c]) QP w k=k (.int .i64 (n:Int)) w):=(fun r=>op_len_slice (r:=r) Tryz.underlying23)
theorem o15:(∀ b o len cap ik (i:Nat),i < len→opV Pg (Instr.indexAt 23 (.slice (some ⟨b,o,none⟩) len cap) (.int ik (i:Int))) QP w k=k (.pointer (some ⟨b,o+i*2,none⟩)) w):=(op_indexN Tryz.underlying23 ty52)
def o16:=op_loadC (QP:=QP) (w:=w) (k:=k) ty24
theorem o17:(∀ r a n c,opV Pg (Builtin.len_ #[24] r #[.slice a n c]) QP w k=k (.int .i64 (n:Int)) w):=(fun r=>op_len_slice (r:=r) Tryz.underlying24)
theorem o18:(∀ b o len cap ik (i:Nat),i < len→opV Pg (Instr.indexAt 24 (.slice (some ⟨b,o,none⟩) len cap) (.int ik (i:Int))) QP w k=k (.pointer (some ⟨b,o+i*9,none⟩)) w):=(op_indexN Tryz.underlying24 ty71)
theorem o19:(∀ u,opV Pg (Instr.alloc 24 true u) QP w k=k (.pointer (some ⟨w.heap.size,0,none⟩)) (w.alloc (.cells ((.slice none 0 0):Value).cells 24))):=(op_alloc ty24)
def o20:=op_field0 (QP:=QP) (w:=w) (k:=k) (i:=0) (ft:=9) (n:=1) Tryz.underlying26 rfl ty9 rfl
def o21:=op_fieldO (QP:=QP) (w:=w) (k:=k) (i:=1) (ft:=22) (off:=1) (n:=1) Tryz.underlying26 rfl ty22 rfl
def o22:=op_fieldO (QP:=QP) (w:=w) (k:=k) (i:=2) (ft:=23) (off:=2) (n:=1) Tryz.underlying26 rfl ty23 rfl
def o23:=op_fieldO (QP:=QP) (w:=w) (k:=k) (i:=3) (ft:=24) (off:=3) (n:=1) Tryz.underlying26 rfl ty24 rfl
theorem o24:(∀ b o,opV Pg (Instr.loadAt 26 (.pointer (some ⟨b,o,none⟩))) QP w k=onCells [w.cell? ⟨b,o,none⟩,w.cell? ⟨b,o+1,none⟩,w.cell? ⟨b,o+2,none⟩,w.cell? ⟨b,o+3,none⟩] (fun vs=>k (.agg vs.toArray) w) (opVx Pg (Instr.loadAt 26 (.pointer (some ⟨b,o,none⟩))) QP w k)):=(by intro b o;exact op_loadA ty26 b o _ rfl)
theorem o25:(∀ u,opV Pg (Instr.alloc 26 true u) QP w k=k (.pointer (some ⟨w.heap.size,0,none⟩)) (w.alloc (.cells ((.agg #[.string ByteArray.empty,.slice none 0 0,.slice none 0 0,.slice none 0 0]):Value).cells 26))):=(op_alloc ty26)
def o26:=op_field0 (QP:=QP) (w:=w) (k:=k) (i:=0) (ft:=9) (n:=1) Tryz.underlying50 rfl ty9 rfl
def o27:=op_fieldO (QP:=QP) (w:=w) (k:=k) (i:=1) (ft:=4) (off:=1) (n:=1) Tryz.underlying50 rfl ty4 rfl
def o28:=op_fieldO (QP:=QP) (w:=w) (k:=k) (i:=2) (ft:=3) (off:=2) (n:=1) Tryz.underlying50 rfl ty3 rfl
theorem o29:(∀ b o,opV Pg (Instr.loadAt 50 (.pointer (some ⟨b,o,none⟩))) QP w k=onCells [w.cell? ⟨b,o,none⟩,w.cell? ⟨b,o+1,none⟩,w.cell? ⟨b,o+2,none⟩] (fun vs=>k (.agg vs.toArray) w) (opVx Pg (Instr.loadAt 50 (.pointer (some ⟨b,o,none⟩))) QP w k)):=(by intro b o;exact op_loadA ty50 b o _ rfl)
theorem o30:(∀ u,opV Pg (Instr.alloc 50 true u) QP w k=k (.pointer (some ⟨w.heap.size,0,none⟩)) (w.alloc (.cells ((.agg #[.string ByteArray.empty,.bool false,.int .i64 0]):Value).cells 50))):=(op_alloc ty50)
def o31:=op_field0 (QP:=QP) (w:=w) (k:=k) (i:=0) (ft:=9) (n:=1) Tryz.underlying52 rfl ty9 rfl
def o32:=op_fieldO (QP:=QP) (w:=w) (k:=k) (i:=1) (ft:=3) (off:=1) (n:=1) Tryz.underlying52 rfl ty3 rfl
theorem o33:(∀ b o,opV Pg (Instr.loadAt 52 (.pointer (some ⟨b,o,none⟩))) QP w k=onCells [w.cell? ⟨b,o,none⟩,w.cell? ⟨b,o+1,none⟩] (fun vs=>k (.agg vs.toArray) w) (opVx Pg (Instr.loadAt 52 (.pointer (some ⟨b,o,none⟩))) QP w k)):=(by intro b o;exact op_loadA ty52 b o _ rfl)
theorem o34:(∀ u,opV Pg (Instr.alloc 52 true u) QP w k=k (.pointer (some ⟨w.heap.size,0,none⟩)) (w.alloc (.cells ((.agg #[.string ByteArray.empty,.int .i64 0]):Value).cells 52))):=(op_alloc ty52)
def o35:=op_loadC (QP:=QP) (w:=w) (k:=k) ty54
theorem o36:(∀ r a n c,opV Pg (Builtin.len_ #[54] r #[.slice a n c]) QP w k=k (.int .i64 (n:Int)) w):=(fun r=>op_len_slice (r:=r) Tryz.underlying54)
theorem o37:(∀ b o len cap ik (i:Nat),i < len→opV Pg (Instr.indexAt 54 (.slice (some ⟨b,o,none⟩) len cap) (.int ik (i:Int))) QP w k=k (.pointer (some ⟨b,o+i*4,none⟩)) w):=(op_indexN Tryz.underlying54 ty26)
def o38:=op_loadC (QP:=QP) (w:=w) (k:=k) ty55
def o39:=op_field0 (QP:=QP) (w:=w) (k:=k) (i:=0) (ft:=9) (n:=1) Tryz.underlying57 rfl ty9 rfl
def o40:=op_fieldO (QP:=QP) (w:=w) (k:=k) (i:=1) (ft:=54) (off:=1) (n:=1) Tryz.underlying57 rfl ty54 rfl
def o41:=op_fieldO (QP:=QP) (w:=w) (k:=k) (i:=2) (ft:=55) (off:=2) (n:=1) Tryz.underlying57 rfl ty55 rfl
def o42:=op_fieldO (QP:=QP) (w:=w) (k:=k) (i:=3) (ft:=3) (off:=3) (n:=1) Tryz.underlying57 rfl ty3 rfl
theorem o43:(∀ b o,opV Pg (Instr.loadAt 57 (.pointer (some ⟨b,o,none⟩))) QP w k=onCells [w.cell? ⟨b,o,none⟩,w.cell? ⟨b,o+1,none⟩,w.cell? ⟨b,o+2,none⟩,w.cell? ⟨b,o+3,none⟩] (fun vs=>k (.agg vs.toArray) w) (opVx Pg (Instr.loadAt 57 (.pointer (some ⟨b,o,none⟩))) QP w k)):=(by intro b o;exact op_loadA ty57 b o _ rfl)
def o45:=op_loadC (QP:=QP) (w:=w) (k:=k) ty69
def o46:=op_field0 (QP:=QP) (w:=w) (k:=k) (i:=0) (ft:=9) (n:=1) Tryz.underlying71 rfl ty9 rfl
def o47:=op_fieldO (QP:=QP) (w:=w) (k:=k) (i:=1) (ft:=9) (off:=1) (n:=1) Tryz.underlying71 rfl ty9 rfl
def o48:=op_fieldO (QP:=QP) (w:=w) (k:=k) (i:=2) (ft:=69) (off:=2) (n:=1) Tryz.underlying71 rfl ty69 rfl
def o49:=op_fieldO (QP:=QP) (w:=w) (k:=k) (i:=3) (ft:=9) (off:=3) (n:=1) Tryz.underlying71 rfl ty9 rfl
def o50:=op_fieldO (QP:=QP) (w:=w) (k:=k) (i:=4) (ft:=9) (off:=4) (n:=1) Tryz.underlying71 rfl ty9 rfl
def o51:=op_fieldO (QP:=QP) (w:=w) (k:=k) (i:=5) (ft:=9) (off:=5) (n:=1) Tryz.underlying71 rfl ty9 rfl
def o52:=op_fieldO (QP:=QP) (w:=w) (k:=k) (i:=6) (ft:=3) (off:=6) (n:=1) Tryz.underlying71 rfl ty3 rfl
def o53:=op_fieldO (QP:=QP) (w:=w) (k:=k) (i:=7) (ft:=3) (off:=7) (n:=1) Tryz.underlying71 rfl ty3 rfl
def o54:=op_fieldO (QP:=QP) (w:=w) (k:=k) (i:=8) (ft:=3) (off:=8) (n:=1) Tryz.underlying71 rfl ty3 rfl
theorem o55:(∀ b o,opV Pg (Instr.loadAt 71 (.pointer (some ⟨b,o,none⟩))) QP w k=onCells [w.cell? ⟨b,o,none⟩,w.cell? ⟨b,o+1,none⟩,w.cell? ⟨b,o+2,none⟩,w.cell? ⟨b,o+3,none⟩,w.cell? ⟨b,o+4,none⟩,w.cell? ⟨b,o+5,none⟩,w.cell? ⟨b,o+6,none⟩,w.cell? ⟨b,o+7,none⟩,w.cell? ⟨b,o+8,none⟩] (fun vs=>k (.agg vs.toArray) w) (opVx Pg (Instr.loadAt 71 (.pointer (some ⟨b,o,none⟩))) QP w k)):=(by intro b o;exact op_loadA ty71 b o _ rfl)
theorem o56:(∀ u,opV Pg (Instr.alloc 71 true u) QP w k=k (.pointer (some ⟨w.heap.size,0,none⟩)) (w.alloc (.cells ((.agg #[.string ByteArray.empty,.string ByteArray.empty,.int .i64 0,.string ByteArray.empty,.string ByteArray.empty,.string ByteArray.empty,.int .i64 0,.int .i64 0,.int .i64 0]):Value).cells 71))):=(op_alloc ty71)
def o57:=op_loadC (QP:=QP) (w:=w) (k:=k) ty73
theorem o58:(∀ r a n c,opV Pg (Builtin.len_ #[73] r #[.slice a n c]) QP w k=k (.int .i64 (n:Int)) w):=(fun r=>op_len_slice (r:=r) Tryz.underlying73)
theorem o59:(∀ b o len cap ik (i:Nat),i < len→opV Pg (Instr.indexAt 73 (.slice (some ⟨b,o,none⟩) len cap) (.int ik (i:Int))) QP w k=k (.pointer (some ⟨b,o+i*1,none⟩)) w):=(op_indexN Tryz.underlying73 ty9)
def o60:=op_loadC (QP:=QP) (w:=w) (k:=k) ty78
theorem o61:(∀ r a n c,opV Pg (Builtin.len_ #[78] r #[.slice a n c]) QP w k=k (.int .i64 (n:Int)) w):=(fun r=>op_len_slice (r:=r) Tryz.underlying78)
theorem o62:(∀ b o len cap ik (i:Nat),i < len→opV Pg (Instr.indexAt 78 (.slice (some ⟨b,o,none⟩) len cap) (.int ik (i:Int))) QP w k=k (.pointer (some ⟨b,o+i*1,none⟩)) w):=(op_indexN Tryz.underlying78 ty3)
theorem o63:(∀ u,opV Pg (Instr.alloc 78 true u) QP w k=k (.pointer (some ⟨w.heap.size,0,none⟩)) (w.alloc (.cells ((.slice none 0 0):Value).cells 78))):=(op_alloc ty78)
theorem o64:(∀ r a n c,opV Pg (Builtin.len_ #[86] r #[.slice a n c]) QP w k=k (.int .i64 (n:Int)) w):=(fun r=>op_len_slice (r:=r) Tryz.underlying86)
theorem o65:(∀ b o len cap ik (i:Nat),i < len→opV Pg (Instr.indexAt 86 (.slice (some ⟨b,o,none⟩) len cap) (.int ik (i:Int))) QP w k=k (.pointer (some ⟨b,o+i*1,none⟩)) w):=(op_indexN Tryz.underlying86 ty20)
def o67:=op_field0 (QP:=QP) (w:=w) (k:=k) (i:=0) (ft:=9) (n:=1) Tryz.underlying89 rfl ty9 rfl
def o68:=op_fieldO (QP:=QP) (w:=w) (k:=k) (i:=1) (ft:=4) (off:=1) (n:=1) Tryz.underlying89 rfl ty4 rfl
def o69:=op_fieldO (QP:=QP) (w:=w) (k:=k) (i:=2) (ft:=87) (off:=2) (n:=1) Tryz.underlying89 rfl ty87 rfl
theorem o70:(∀ v0 v1 v2,opV Pg (Instr.field 89 (.agg #[v0,v1,v2]) 0) QP w k=k v0 w):=(by intro v0 v1 v2;exact op_fieldV1 Tryz.underlying89 rfl ty9 rfl)
theorem o71:(∀ v0 v1 v2,opV Pg (Instr.field 89 (.agg #[v0,v1,v2]) 1) QP w k=k v1 w):=(by intro v0 v1 v2;exact op_fieldV1 Tryz.underlying89 rfl ty4 rfl)
theorem o72:(∀ u,opV Pg (Instr.alloc 89 true u) QP w k=k (.pointer (some ⟨w.heap.size,0,none⟩)) (w.alloc (.cells ((.agg #[.string ByteArray.empty,.bool false,.nilFunc]):Value).cells 89))):=(op_alloc ty89)
theorem o74:(∀ r a n c,opV Pg (Builtin.len_ #[94] r #[.slice a n c]) QP w k=k (.int .i64 (n:Int)) w):=(fun r=>op_len_slice (r:=r) Tryz.underlying94)
theorem o75:(∀ b o len cap ik (i:Nat),i < len→opV Pg (Instr.indexAt 94 (.slice (some ⟨b,o,none⟩) len cap) (.int ik (i:Int))) QP w k=k (.pointer (some ⟨b,o+i*1,none⟩)) w):=(op_indexN Tryz.underlying94 ty5)
def o76:=op_loadC (QP:=QP) (w:=w) (k:=k) ty104
theorem o77:(∀ u,opV Pg (Instr.alloc 104 true u) QP w k=k (.pointer (some ⟨w.heap.size,0,none⟩)) (w.alloc (.cells ((.nilFunc):Value).cells 104))):=(op_alloc ty104)
def o78:=op_field0 (QP:=QP) (w:=w) (k:=k) (i:=0) (ft:=73) (n:=1) Tryz.underlying109 rfl ty73 rfl
def o79:=op_fieldO (QP:=QP) (w:=w) (k:=k) (i:=1) (ft:=3) (off:=1) (n:=1) Tryz.underlying109 rfl ty3 rfl
def o80:=op_fieldO (QP:=QP) (w:=w) (k:=k) (i:=2) (ft:=73) (off:=2) (n:=1) Tryz.underlying109 rfl ty73 rfl
theorem o94:(opV Pg (Instr.build 26 #[]) QP w k=k (.agg #[.string ByteArray.empty,.slice none 0 0,.slice none 0 0,.slice none 0 0]) w):=(by exact op_build (places := #[(0,1),(1,1),(2,1),(3,1)]) Tryz.underlying26 ty26 (by intro w;simp [List.mapM_cons,Sem.run_bind,Sw.run_sizeOf ty22,Sw.run_sizeOf ty23,Sw.run_sizeOf ty24,Sw.run_sizeOf ty9]) (by simp [Instr.fill,cells_agg]))
theorem o95:(∀ v0:Value,v0.oneCell'=true→opV Pg (Instr.build 26 #[(0,v0)]) QP w k=k (.agg #[v0,.slice none 0 0,.slice none 0 0,.slice none 0 0]) w):=(by intro v0 hv0;exact op_build (places := #[(0,1),(1,1),(2,1),(3,1)]) Tryz.underlying26 ty26 (by intro w;simp [List.mapM_cons,Sem.run_bind,Sw.run_sizeOf ty22,Sw.run_sizeOf ty23,Sw.run_sizeOf ty24,Sw.run_sizeOf ty9]) (by simp [Instr.fill,cells_agg,cells_one hv0]))
theorem o96:(∀ v0 v2:Value,v0.oneCell'=true→v2.oneCell'=true→opV Pg (Instr.build 26 #[(0,v0),(2,v2)]) QP w k=k (.agg #[v0,.slice none 0 0,v2,.slice none 0 0]) w):=(by intro v0 v2 hv0 hv2;exact op_build (places := #[(0,1),(1,1),(2,1),(3,1)]) Tryz.underlying26 ty26 (by intro w;simp [List.mapM_cons,Sem.run_bind,Sw.run_sizeOf ty22,Sw.run_sizeOf ty23,Sw.run_sizeOf ty24,Sw.run_sizeOf ty9]) (by simp [Instr.fill,cells_agg,cells_one hv0,cells_one hv2]))
theorem o97:(∀ v0 v2 v1:Value,v0.oneCell'=true→v2.oneCell'=true→v1.oneCell'=true→opV Pg (Instr.build 26 #[(0,v0),(2,v2),(1,v1)]) QP w k=k (.agg #[v0,v1,v2,.slice none 0 0]) w):=(by intro v0 v2 v1 hv0 hv2 hv1;exact op_build (places := #[(0,1),(1,1),(2,1),(3,1)]) Tryz.underlying26 ty26 (by intro w;simp [List.mapM_cons,Sem.run_bind,Sw.run_sizeOf ty22,Sw.run_sizeOf ty23,Sw.run_sizeOf ty24,Sw.run_sizeOf ty9]) (by simp [Instr.fill,cells_agg,cells_one hv0,cells_one hv2,cells_one hv1]))
theorem o98:(∀ v0 v2 v1 v3:Value,v0.oneCell'=true→v2.oneCell'=true→v1.oneCell'=true→v3.oneCell'=true→opV Pg (Instr.build 26 #[(0,v0),(2,v2),(1,v1),(3,v3)]) QP w k=k (.agg #[v0,v1,v2,v3]) w):=(by intro v0 v2 v1 v3 hv0 hv2 hv1 hv3;exact op_build (places := #[(0,1),(1,1),(2,1),(3,1)]) Tryz.underlying26 ty26 (by intro w;simp [List.mapM_cons,Sem.run_bind,Sw.run_sizeOf ty22,Sw.run_sizeOf ty23,Sw.run_sizeOf ty24,Sw.run_sizeOf ty9]) (by simp [Instr.fill,cells_agg,cells_one hv0,cells_one hv2,cells_one hv1,cells_one hv3]))
theorem o99:(opV Pg (Instr.build 50 #[]) QP w k=k (.agg #[.string ByteArray.empty,.bool false,.int .i64 0]) w):=(by exact op_build (places := #[(0,1),(1,1),(2,1)]) Tryz.underlying50 ty50 (by intro w;simp [List.mapM_cons,Sem.run_bind,Sw.run_sizeOf ty3,Sw.run_sizeOf ty4,Sw.run_sizeOf ty9]) (by simp [Instr.fill,cells_agg]))
theorem o100:(∀ v0:Value,v0.oneCell'=true→opV Pg (Instr.build 50 #[(0,v0)]) QP w k=k (.agg #[v0,.bool false,.int .i64 0]) w):=(by intro v0 hv0;exact op_build (places := #[(0,1),(1,1),(2,1)]) Tryz.underlying50 ty50 (by intro w;simp [List.mapM_cons,Sem.run_bind,Sw.run_sizeOf ty3,Sw.run_sizeOf ty4,Sw.run_sizeOf ty9]) (by simp [Instr.fill,cells_agg,cells_one hv0]))
theorem o101:(∀ v0 v1:Value,v0.oneCell'=true→v1.oneCell'=true→opV Pg (Instr.build 50 #[(0,v0),(1,v1)]) QP w k=k (.agg #[v0,v1,.int .i64 0]) w):=(by intro v0 v1 hv0 hv1;exact op_build (places := #[(0,1),(1,1),(2,1)]) Tryz.underlying50 ty50 (by intro w;simp [List.mapM_cons,Sem.run_bind,Sw.run_sizeOf ty3,Sw.run_sizeOf ty4,Sw.run_sizeOf ty9]) (by simp [Instr.fill,cells_agg,cells_one hv0,cells_one hv1]))
theorem o102:(∀ v0 v1 v2:Value,v0.oneCell'=true→v1.oneCell'=true→v2.oneCell'=true→opV Pg (Instr.build 50 #[(0,v0),(1,v1),(2,v2)]) QP w k=k (.agg #[v0,v1,v2]) w):=(by intro v0 v1 v2 hv0 hv1 hv2;exact op_build (places := #[(0,1),(1,1),(2,1)]) Tryz.underlying50 ty50 (by intro w;simp [List.mapM_cons,Sem.run_bind,Sw.run_sizeOf ty3,Sw.run_sizeOf ty4,Sw.run_sizeOf ty9]) (by simp [Instr.fill,cells_agg,cells_one hv0,cells_one hv1,cells_one hv2]))
theorem o103:(∀ v0 v1:Value,v0.oneCell'=true→v1.oneCell'=true→opV Pg (Instr.build 52 #[(0,v0),(1,v1)]) QP w k=k (.agg #[v0,v1]) w):=(by intro v0 v1 hv0 hv1;exact op_build (places := #[(0,1),(1,1)]) Tryz.underlying52 ty52 (by intro w;simp [List.mapM_cons,Sem.run_bind,Sw.run_sizeOf ty3,Sw.run_sizeOf ty9]) (by simp [Instr.fill,cells_agg,cells_one hv0,cells_one hv1]))
theorem o106:(opV Pg (Instr.build 71 #[]) QP w k=k (.agg #[.string ByteArray.empty,.string ByteArray.empty,.int .i64 0,.string ByteArray.empty,.string ByteArray.empty,.string ByteArray.empty,.int .i64 0,.int .i64 0,.int .i64 0]) w):=(by exact op_build (places := #[(0,1),(1,1),(2,1),(3,1),(4,1),(5,1),(6,1),(7,1),(8,1)]) Tryz.underlying71 ty71 (by intro w;simp [List.mapM_cons,Sem.run_bind,Sw.run_sizeOf ty3,Sw.run_sizeOf ty69,Sw.run_sizeOf ty9]) (by simp [Instr.fill,cells_agg]))
theorem o107:(∀ v0 v1:Value,v0.oneCell'=true→v1.oneCell'=true→opV Pg (Instr.build 71 #[(0,v0),(1,v1)]) QP w k=k (.agg #[v0,v1,.int .i64 0,.string ByteArray.empty,.string ByteArray.empty,.string ByteArray.empty,.int .i64 0,.int .i64 0,.int .i64 0]) w):=(by intro v0 v1 hv0 hv1;exact op_build (places := #[(0,1),(1,1),(2,1),(3,1),(4,1),(5,1),(6,1),(7,1),(8,1)]) Tryz.underlying71 ty71 (by intro w;simp [List.mapM_cons,Sem.run_bind,Sw.run_sizeOf ty3,Sw.run_sizeOf ty69,Sw.run_sizeOf ty9]) (by simp [Instr.fill,cells_agg,cells_one hv0,cells_one hv1]))
theorem o108:(∀ v0 v1 v2:Value,v0.oneCell'=true→v1.oneCell'=true→v2.oneCell'=true→opV Pg (Instr.build 71 #[(0,v0),(1,v1),(2,v2)]) QP w k=k (.agg #[v0,v1,v2,.string ByteArray.empty,.string ByteArray.empty,.string ByteArray.empty,.int .i64 0,.int .i64 0,.int .i64 0]) w):=(by intro v0 v1 v2 hv0 hv1 hv2;exact op_build (places := #[(0,1),(1,1),(2,1),(3,1),(4,1),(5,1),(6,1),(7,1),(8,1)]) Tryz.underlying71 ty71 (by intro w;simp [List.mapM_cons,Sem.run_bind,Sw.run_sizeOf ty3,Sw.run_sizeOf ty69,Sw.run_sizeOf ty9]) (by simp [Instr.fill,cells_agg,cells_one hv0,cells_one hv1,cells_one hv2]))
theorem o109:(∀ v0 v1 v2 v3 v4 v5 v7 v8:Value,v0.oneCell'=true→v1.oneCell'=true→v2.oneCell'=true→v3.oneCell'=true→v4.oneCell'=true→v5.oneCell'=true→v7.oneCell'=true→v8.oneCell'=true→opV Pg (Instr.build 71 #[(0,v0),(1,v1),(2,v2),(3,v3),(4,v4),(5,v5),(7,v7),(8,v8)]) QP w k=k (.agg #[v0,v1,v2,v3,v4,v5,.int .i64 0,v7,v8]) w):=(by intro v0 v1 v2 v3 v4 v5 v7 v8 hv0 hv1 hv2 hv3 hv4 hv5 hv7 hv8;exact op_build (places := #[(0,1),(1,1),(2,1),(3,1),(4,1),(5,1),(6,1),(7,1),(8,1)]) Tryz.underlying71 ty71 (by intro w;simp [List.mapM_cons,Sem.run_bind,Sw.run_sizeOf ty3,Sw.run_sizeOf ty69,Sw.run_sizeOf ty9]) (by simp [Instr.fill,cells_agg,cells_one hv0,cells_one hv1,cells_one hv2,cells_one hv3,cells_one hv4,cells_one hv5,cells_one hv7,cells_one hv8]))
theorem o110:(∀ v0 v1 v2:Value,v0.oneCell'=true→v1.oneCell'=true→v2.oneCell'=true→opV Pg (Instr.build 89 #[(0,v0),(1,v1),(2,v2)]) QP w k=k (.agg #[v0,v1,v2]) w):=(by intro v0 v1 v2 hv0 hv1 hv2;exact op_build (places := #[(0,1),(1,1),(2,1)]) Tryz.underlying89 ty89 (by intro w;simp [List.mapM_cons,Sem.run_bind,Sw.run_sizeOf ty4,Sw.run_sizeOf ty87,Sw.run_sizeOf ty9]) (by simp [Instr.fill,cells_agg,cells_one hv0,cells_one hv1,cells_one hv2]))
theorem o111:(∀ v0:Value,v0.oneCell'=true→opV Pg (Instr.build 109 #[(0,v0)]) QP w k=k (.agg #[v0,.int .i64 0,.slice none 0 0]) w):=(by intro v0 hv0;exact op_build (places := #[(0,1),(1,1),(2,1)]) Tryz.underlying109 ty109 (by intro w;simp [List.mapM_cons,Sem.run_bind,Sw.run_sizeOf ty3,Sw.run_sizeOf ty73]) (by simp [Instr.fill,cells_agg,cells_one hv0]))
theorem o115:(opV Pg (Instr.buildSlice 22 0 #[]) QP w k=k (.slice (some ⟨w.heap.size,0,none⟩) 0 0) (w.alloc (.cells #[] 50))):=(by exact op_buildSlice Tryz.underlying22 ty50 (by decide) (base := #[]) (by kernel_rfl) (by simp [Instr.fill,cells_agg]))
theorem o116:(∀ v0_0 v0_1 v0_2:Value,opV Pg (Instr.buildSlice 22 1 #[(0,(.agg #[v0_0,v0_1,v0_2]))]) QP w k=k (.slice (some ⟨w.heap.size,0,none⟩) 1 1) (w.alloc (.cells #[v0_0,v0_1,v0_2] 50))):=(by intro v0_0 v0_1 v0_2;exact op_buildSlice Tryz.underlying22 ty50 (by decide) (base := #[.string ByteArray.empty,.bool false,.int .i64 0]) (by kernel_rfl) (by simp [Instr.fill,cells_agg]))
theorem o117:(∀ v0_0 v0_1 v0_2 v1_0 v1_1 v1_2:Value,opV Pg (Instr.buildSlice 22 2 #[(0,(.agg #[v0_0,v0_1,v0_2])),(1,(.agg #[v1_0,v1_1,v1_2]))]) QP w k=k (.slice (some ⟨w.heap.size,0,none⟩) 2 2) (w.alloc (.cells #[v0_0,v0_1,v0_2,v1_0,v1_1,v1_2] 50))):=(by intro v0_0 v0_1 v0_2 v1_0 v1_1 v1_2;exact op_buildSlice Tryz.underlying22 ty50 (by decide) (base := #[.string ByteArray.empty,.bool false,.int .i64 0,.string ByteArray.empty,.bool false,.int .i64 0]) (by kernel_rfl) (by simp [Instr.fill,cells_agg]))
theorem o118:(opV Pg (Instr.buildSlice 23 0 #[]) QP w k=k (.slice (some ⟨w.heap.size,0,none⟩) 0 0) (w.alloc (.cells #[] 52))):=(by exact op_buildSlice Tryz.underlying23 ty52 (by decide) (base := #[]) (by kernel_rfl) (by simp [Instr.fill,cells_agg]))
theorem o119:(∀ v0_0 v0_1:Value,opV Pg (Instr.buildSlice 23 1 #[(0,(.agg #[v0_0,v0_1]))]) QP w k=k (.slice (some ⟨w.heap.size,0,none⟩) 1 1) (w.alloc (.cells #[v0_0,v0_1] 52))):=(by intro v0_0 v0_1;exact op_buildSlice Tryz.underlying23 ty52 (by decide) (base := #[.string ByteArray.empty,.int .i64 0]) (by kernel_rfl) (by simp [Instr.fill,cells_agg]))
theorem o120:(opV Pg (Instr.buildSlice 24 0 #[]) QP w k=k (.slice (some ⟨w.heap.size,0,none⟩) 0 0) (w.alloc (.cells #[] 71))):=(by exact op_buildSlice Tryz.underlying24 ty71 (by decide) (base := #[]) (by kernel_rfl) (by simp [Instr.fill,cells_agg]))
theorem o121:(∀ v0_0 v0_1 v0_2 v0_3 v0_4 v0_5 v0_6 v0_7 v0_8:Value,opV Pg (Instr.buildSlice 24 1 #[(0,(.agg #[v0_0,v0_1,v0_2,v0_3,v0_4,v0_5,v0_6,v0_7,v0_8]))]) QP w k=k (.slice (some ⟨w.heap.size,0,none⟩) 1 1) (w.alloc (.cells #[v0_0,v0_1,v0_2,v0_3,v0_4,v0_5,v0_6,v0_7,v0_8] 71))):=(by intro v0_0 v0_1 v0_2 v0_3 v0_4 v0_5 v0_6 v0_7 v0_8;exact op_buildSlice Tryz.underlying24 ty71 (by decide) (base := #[.string ByteArray.empty,.string ByteArray.empty,.int .i64 0,.string ByteArray.empty,.string ByteArray.empty,.string ByteArray.empty,.int .i64 0,.int .i64 0,.int .i64 0]) (by kernel_rfl) (by simp [Instr.fill,cells_agg]))
theorem o122:(∀ v0_0 v0_1 v0_2 v0_3 v0_4 v0_5 v0_6 v0_7 v0_8 v1_0 v1_1 v1_2 v1_3 v1_4 v1_5 v1_6 v1_7 v1_8:Value,opV Pg (Instr.buildSlice 24 2 #[(0,(.agg #[v0_0,v0_1,v0_2,v0_3,v0_4,v0_5,v0_6,v0_7,v0_8])),(1,(.agg #[v1_0,v1_1,v1_2,v1_3,v1_4,v1_5,v1_6,v1_7,v1_8]))]) QP w k=k (.slice (some ⟨w.heap.size,0,none⟩) 2 2) (w.alloc (.cells #[v0_0,v0_1,v0_2,v0_3,v0_4,v0_5,v0_6,v0_7,v0_8,v1_0,v1_1,v1_2,v1_3,v1_4,v1_5,v1_6,v1_7,v1_8] 71))):=(by intro v0_0 v0_1 v0_2 v0_3 v0_4 v0_5 v0_6 v0_7 v0_8 v1_0 v1_1 v1_2 v1_3 v1_4 v1_5 v1_6 v1_7 v1_8;exact op_buildSlice Tryz.underlying24 ty71 (by decide) (base := #[.string ByteArray.empty,.string ByteArray.empty,.int .i64 0,.string ByteArray.empty,.string ByteArray.empty,.string ByteArray.empty,.int .i64 0,.int .i64 0,.int .i64 0,.string ByteArray.empty,.string ByteArray.empty,.int .i64 0,.string ByteArray.empty,.string ByteArray.empty,.string ByteArray.empty,.int .i64 0,.int .i64 0,.int .i64 0]) (by kernel_rfl) (by simp [Instr.fill,cells_agg]))
theorem o124:(∀ v0:Value,v0.oneCell'=true→opV Pg (Instr.buildSlice 73 1 #[(0,v0)]) QP w k=k (.slice (some ⟨w.heap.size,0,none⟩) 1 1) (w.alloc (.cells #[v0] 9))):=(by intro v0 hv0;exact op_buildSlice Tryz.underlying73 ty9 (by decide) (base := #[.string ByteArray.empty]) (by kernel_rfl) (by simp [Instr.fill,cells_agg,cells_one hv0]))
theorem o125:(∀ v0 v1 v2 v3:Value,v0.oneCell'=true→v1.oneCell'=true→v2.oneCell'=true→v3.oneCell'=true→opV Pg (Instr.buildSlice 73 4 #[(0,v0),(1,v1),(2,v2),(3,v3)]) QP w k=k (.slice (some ⟨w.heap.size,0,none⟩) 4 4) (w.alloc (.cells #[v0,v1,v2,v3] 9))):=(by intro v0 v1 v2 v3 hv0 hv1 hv2 hv3;exact op_buildSlice Tryz.underlying73 ty9 (by decide) (base := #[.string ByteArray.empty,.string ByteArray.empty,.string ByteArray.empty,.string ByteArray.empty]) (by kernel_rfl) (by simp [Instr.fill,cells_agg,cells_one hv0,cells_one hv1,cells_one hv2,cells_one hv3]))
theorem o126:(∀ v0 v1 v2 v3 v4:Value,v0.oneCell'=true→v1.oneCell'=true→v2.oneCell'=true→v3.oneCell'=true→v4.oneCell'=true→opV Pg (Instr.buildSlice 73 5 #[(0,v0),(1,v1),(2,v2),(3,v3),(4,v4)]) QP w k=k (.slice (some ⟨w.heap.size,0,none⟩) 5 5) (w.alloc (.cells #[v0,v1,v2,v3,v4] 9))):=(by intro v0 v1 v2 v3 v4 hv0 hv1 hv2 hv3 hv4;exact op_buildSlice Tryz.underlying73 ty9 (by decide) (base := #[.string ByteArray.empty,.string ByteArray.empty,.string ByteArray.empty,.string ByteArray.empty,.string ByteArray.empty]) (by kernel_rfl) (by simp [Instr.fill,cells_agg,cells_one hv0,cells_one hv1,cells_one hv2,cells_one hv3,cells_one hv4]))
theorem o127:(∀ v0:Value,v0.oneCell'=true→opV Pg (Instr.buildSlice 78 1 #[(0,v0)]) QP w k=k (.slice (some ⟨w.heap.size,0,none⟩) 1 1) (w.alloc (.cells #[v0] 3))):=(by intro v0 hv0;exact op_buildSlice Tryz.underlying78 ty3 (by decide) (base := #[.int .i64 0]) (by kernel_rfl) (by simp [Instr.fill,cells_agg,cells_one hv0]))
theorem o128:(∀ v0:Value,v0.oneCell'=true→opV Pg (Instr.buildSlice 86 1 #[(0,v0)]) QP w k=k (.slice (some ⟨w.heap.size,0,none⟩) 1 1) (w.alloc (.cells #[v0] 20))):=(by intro v0 hv0;exact op_buildSlice Tryz.underlying86 ty20 (by decide) (base := #[.nilIface]) (by kernel_rfl) (by simp [Instr.fill,cells_agg,cells_one hv0]))
theorem o129:(∀ v0 v1:Value,v0.oneCell'=true→v1.oneCell'=true→opV Pg (Instr.buildSlice 86 2 #[(0,v0),(1,v1)]) QP w k=k (.slice (some ⟨w.heap.size,0,none⟩) 2 2) (w.alloc (.cells #[v0,v1] 20))):=(by intro v0 v1 hv0 hv1;exact op_buildSlice Tryz.underlying86 ty20 (by decide) (base := #[.nilIface,.nilIface]) (by kernel_rfl) (by simp [Instr.fill,cells_agg,cells_one hv0,cells_one hv1]))
theorem o130:(∀ v0 v1 v2:Value,v0.oneCell'=true→v1.oneCell'=true→v2.oneCell'=true→opV Pg (Instr.buildSlice 86 3 #[(0,v0),(1,v1),(2,v2)]) QP w k=k (.slice (some ⟨w.heap.size,0,none⟩) 3 3) (w.alloc (.cells #[v0,v1,v2] 20))):=(by intro v0 v1 v2 hv0 hv1 hv2;exact op_buildSlice Tryz.underlying86 ty20 (by decide) (base := #[.nilIface,.nilIface,.nilIface]) (by kernel_rfl) (by simp [Instr.fill,cells_agg,cells_one hv0,cells_one hv1,cells_one hv2]))
theorem o131:(∀ v0 v1 v2 v3:Value,v0.oneCell'=true→v1.oneCell'=true→v2.oneCell'=true→v3.oneCell'=true→opV Pg (Instr.buildSlice 86 4 #[(0,v0),(1,v1),(2,v2),(3,v3)]) QP w k=k (.slice (some ⟨w.heap.size,0,none⟩) 4 4) (w.alloc (.cells #[v0,v1,v2,v3] 20))):=(by intro v0 v1 v2 v3 hv0 hv1 hv2 hv3;exact op_buildSlice Tryz.underlying86 ty20 (by decide) (base := #[.nilIface,.nilIface,.nilIface,.nilIface]) (by kernel_rfl) (by simp [Instr.fill,cells_agg,cells_one hv0,cells_one hv1,cells_one hv2,cells_one hv3]))
theorem o132:(∀ v0 v1 v2 v3 v4:Value,v0.oneCell'=true→v1.oneCell'=true→v2.oneCell'=true→v3.oneCell'=true→v4.oneCell'=true→opV Pg (Instr.buildSlice 86 5 #[(0,v0),(1,v1),(2,v2),(3,v3),(4,v4)]) QP w k=k (.slice (some ⟨w.heap.size,0,none⟩) 5 5) (w.alloc (.cells #[v0,v1,v2,v3,v4] 20))):=(by intro v0 v1 v2 v3 v4 hv0 hv1 hv2 hv3 hv4;exact op_buildSlice Tryz.underlying86 ty20 (by decide) (base := #[.nilIface,.nilIface,.nilIface,.nilIface,.nilIface]) (by kernel_rfl) (by simp [Instr.fill,cells_agg,cells_one hv0,cells_one hv1,cells_one hv2,cells_one hv3,cells_one hv4]))
theorem o133:(∀ v0:Value,v0.oneCell'=true→opV Pg (Instr.buildSlice 94 1 #[(0,v0)]) QP w k=k (.slice (some ⟨w.heap.size,0,none⟩) 1 1) (w.alloc (.cells #[v0] 5))):=(by intro v0 hv0;exact op_buildSlice Tryz.underlying94 ty5 (by decide) (base := #[.int .u8 0]) (by kernel_rfl) (by simp [Instr.fill,cells_agg,cells_one hv0]))
theorem o135:(∀ q n,opV Pg (Go.convert 3 5 (.int q n)) QP w k=k (.int .u8 (IntKind.u8.wrap n)) w):=(op_convInt (by rw [Tryz.underlying3];rfl) Tryz.underlying5)
theorem o139:(∀ q n,opV Pg (Go.convert 5 3 (.int q n)) QP w k=k (.int .i64 (IntKind.i64.wrap n)) w):=(op_convInt (by rw [Tryz.underlying5];rfl) Tryz.underlying3)
theorem o149:(∀ v,opV Pg (Instr.makeInterface 3 v) QP w k=k (.iface 3 v) w):=(op_iface Tryz.underlying3 rfl)
theorem o150:(∀ v,opV Pg (Instr.makeInterface 9 v) QP w k=k (.iface 9 v) w):=(op_iface Tryz.underlying9 rfl)
theorem o151:(∀ v,opV Pg (Instr.makeInterface 133 v) QP w k=k (.iface 133 v) w):=(op_iface Tryz.underlying133 rfl)
theorem o155:(∀ v,opV Pg (Instr.typeAssert (.iface 3 v) 20 3 true) QP w k=k (.tuple #[v,.bool true]) w):=(op_assert_ok Tryz.underlying3 rfl)
theorem o156:(∀ v,opV Pg (Instr.typeAssert (.iface 9 v) 20 9 true) QP w k=k (.tuple #[v,.bool true]) w):=(op_assert_ok Tryz.underlying9 rfl)
theorem o160:(∀ c A n m,opV Pg (binS .eql 22 c (.slice A n m) (.slice none 0 0)) QP w k=k (.bool A.isNone) w):=(op_eqNilS Tryz.underlying22)
theorem o161:(∀ c A n m,opV Pg (binS .eql 23 c (.slice A n m) (.slice none 0 0)) QP w k=k (.bool A.isNone) w):=(op_eqNilS Tryz.underlying23)
theorem o162:(∀ c A n m,opV Pg (binS .eql 24 c (.slice A n m) (.slice none 0 0)) QP w k=k (.bool A.isNone) w):=(op_eqNilS Tryz.underlying24)
theorem o164:(∀ c (a0 b0:ByteArray) (a1 b1:Bool) (a2 b2:Int),opV Pg (binS .neq 50 c (.agg #[.string a0,.bool a1,.int .i64 a2]) (.agg #[.string b0,.bool b1,.int .i64 b2])) QP w k=k (.bool (!(decide (a0=b0)&&(decide (a1=b1)&&(decide (a2=b2)&&true))))) w):=(by intro c a0 b0 a1 b1 a2 b2;exact op_aggNe (by kernel_rfl) (fun w=>eq50 a0 b0 a1 b1 a2 b2) c)
theorem o166:(∀ c (a0 b0:ByteArray) (a1 b1:Int),opV Pg (binS .neq 52 c (.agg #[.string a0,.int .i64 a1]) (.agg #[.string b0,.int .i64 b1])) QP w k=k (.bool (!(decide (a0=b0)&&(decide (a1=b1)&&true)))) w):=(by intro c a0 b0 a1 b1;exact op_aggNe (by kernel_rfl) (fun w=>eq52 a0 b0 a1 b1) c)
theorem o167:(∀ c (a0 b0:ByteArray) (a1 b1:ByteArray) (a2 b2:Int) (a3 b3:ByteArray) (a4 b4:ByteArray) (a5 b5:ByteArray) (a6 b6:Int) (a7 b7:Int) (a8 b8:Int),opV Pg (binS .eql 71 c (.agg #[.string a0,.string a1,.int .i64 a2,.string a3,.string a4,.string a5,.int .i64 a6,.int .i64 a7,.int .i64 a8]) (.agg #[.string b0,.string b1,.int .i64 b2,.string b3,.string b4,.string b5,.int .i64 b6,.int .i64 b7,.int .i64 b8])) QP w k=k (.bool (decide (a0=b0)&&(decide (a1=b1)&&(decide (a2=b2)&&(decide (a3=b3)&&(decide (a4=b4)&&(decide (a5=b5)&&(decide (a6=b6)&&(decide (a7=b7)&&(decide (a8=b8)&&true)))))))))) w):=(by intro c a0 b0 a1 b1 a2 b2 a3 b3 a4 b4 a5 b5 a6 b6 a7 b7 a8 b8;exact op_aggEq (by kernel_rfl) (fun w=>eq71 a0 b0 a1 b1 a2 b2 a3 b3 a4 b4 a5 b5 a6 b6 a7 b7 a8 b8) c)
theorem o168:(∀ c (a0 b0:ByteArray) (a1 b1:ByteArray) (a2 b2:Int) (a3 b3:ByteArray) (a4 b4:ByteArray) (a5 b5:ByteArray) (a6 b6:Int) (a7 b7:Int) (a8 b8:Int),opV Pg (binS .neq 71 c (.agg #[.string a0,.string a1,.int .i64 a2,.string a3,.string a4,.string a5,.int .i64 a6,.int .i64 a7,.int .i64 a8]) (.agg #[.string b0,.string b1,.int .i64 b2,.string b3,.string b4,.string b5,.int .i64 b6,.int .i64 b7,.int .i64 b8])) QP w k=k (.bool (!(decide (a0=b0)&&(decide (a1=b1)&&(decide (a2=b2)&&(decide (a3=b3)&&(decide (a4=b4)&&(decide (a5=b5)&&(decide (a6=b6)&&(decide (a7=b7)&&(decide (a8=b8)&&true))))))))))) w):=(by intro c a0 b0 a1 b1 a2 b2 a3 b3 a4 b4 a5 b5 a6 b6 a7 b7 a8 b8;exact op_aggNe (by kernel_rfl) (fun w=>eq71 a0 b0 a1 b1 a2 b2 a3 b3 a4 b4 a5 b5 a6 b6 a7 b7 a8 b8) c)
theorem o170:(∀ c f x y,opV Pg (binS .eql 76 c (.func f x y) .nilFunc) QP w k=k (.bool false) w):=(op_eqNilF Tryz.underlying76)
end
theorem qV_two {P:Program} {C:World→Prop} [ClassNe C] {k:Value→Prop} {s:Nat→Nat→Sem Value} {v:Nat→Nat→Value} (h:∀ QP w k b o,opV P (s b o) QP w k=k (v b o) w) (b o:Nat):qV P C (s b o) k=k (v b o):=qV_of fun QP w k=>h QP w k b o
def OPU0 {QP:List PanicEntry→World→Prop} {w:World} {ku:World→Prop}:=And.intro (op_storeC (QP:=QP) (w:=w) (ku:=ku) ty3)<|And.intro (op_storeC (QP:=QP) (w:=w) (ku:=ku) ty4)<|And.intro (op_storeC (QP:=QP) (w:=w) (ku:=ku) ty9)<|And.intro (op_storeC (QP:=QP) (w:=w) (ku:=ku) ty22)<|And.intro (op_storeC (QP:=QP) (w:=w) (ku:=ku) ty23)<|And.intro (op_storeC (QP:=QP) (w:=w) (ku:=ku) ty24)<|And.intro ((by intro b T' u0 u1 u2 u3 v0 v1 v2 v3 hb h0 h1 h2 h3;exact op_storeN ty26 b hb _ T' _ rfl rfl (by intro v hv;simp only [List.mem_cons,List.not_mem_nil,or_false] at hv;rcases hv with rfl | rfl | rfl | rfl<;>assumption)):(∀ (b:Nat) (T':TypeId) u0 u1 u2 u3 v0 v1 v2 v3,b=w.heap.size→v0.oneCell'=true→v1.oneCell'=true→v2.oneCell'=true→v3.oneCell'=true→opU Pg (Instr.storeAt 26 (.pointer (some ⟨b,0,none⟩)) (.agg #[v0,v1,v2,v3])) QP (w.alloc (.cells #[u0,u1,u2,u3] T')) ku=ku (w.alloc (.cells #[v0,v1,v2,v3] T'))))<|And.intro (op_storeC (QP:=QP) (w:=w) (ku:=ku) ty69)<|And.intro ((by intro b T' u0 u1 u2 u3 u4 u5 u6 u7 u8 v0 v1 v2 v3 v4 v5 v6 v7 v8 hb h0 h1 h2 h3 h4 h5 h6 h7 h8;exact op_storeN ty71 b hb _ T' _ rfl rfl (by intro v hv;simp only [List.mem_cons,List.not_mem_nil,or_false] at hv;rcases hv with rfl | rfl | rfl | rfl | rfl | rfl | rfl | rfl | rfl<;>assumption)):(∀ (b:Nat) (T':TypeId) u0 u1 u2 u3 u4 u5 u6 u7 u8 v0 v1 v2 v3 v4 v5 v6 v7 v8,b=w.heap.size→v0.oneCell'=true→v1.oneCell'=true→v2.oneCell'=true→v3.oneCell'=true→v4.oneCell'=true→v5.oneCell'=true→v6.oneCell'=true→v7.oneCell'=true→v8.oneCell'=true→opU Pg (Instr.storeAt 71 (.pointer (some ⟨b,0,none⟩)) (.agg #[v0,v1,v2,v3,v4,v5,v6,v7,v8])) QP (w.alloc (.cells #[u0,u1,u2,u3,u4,u5,u6,u7,u8] T')) ku=ku (w.alloc (.cells #[v0,v1,v2,v3,v4,v5,v6,v7,v8] T'))))<|And.intro (op_storeC (QP:=QP) (w:=w) (ku:=ku) ty73)<|And.intro (op_storeC (QP:=QP) (w:=w) (ku:=ku) ty78)<|And.intro ((by intro b T' u0 u1 u2 v0 v1 v2 hb h0 h1 h2;exact op_storeN ty89 b hb _ T' _ rfl rfl (by intro v hv;simp only [List.mem_cons,List.not_mem_nil,or_false] at hv;rcases hv with rfl | rfl | rfl<;>assumption)):(∀ (b:Nat) (T':TypeId) u0 u1 u2 v0 v1 v2,b=w.heap.size→v0.oneCell'=true→v1.oneCell'=true→v2.oneCell'=true→opU Pg (Instr.storeAt 89 (.pointer (some ⟨b,0,none⟩)) (.agg #[v0,v1,v2])) QP (w.alloc (.cells #[u0,u1,u2] T')) ku=ku (w.alloc (.cells #[v0,v1,v2] T'))))<|(op_storeC (QP:=QP) (w:=w) (ku:=ku) ty104)
def OPA0 {QP:List PanicEntry→World→Prop} {w:World} {ku:World→Prop}:=And.intro ((by intro b o v0 v1 v2 v3 h0 h1 h2 h3;exact op_storeA ty26 b o _ rfl (by intro v hv;simp only [List.mem_cons,List.not_mem_nil,or_false] at hv;rcases hv with rfl | rfl | rfl | rfl<;>assumption) _ rfl _ rfl):(∀ b o v0 v1 v2 v3,v0.oneCell'=true→v1.oneCell'=true→v2.oneCell'=true→v3.oneCell'=true→opU Pg (Instr.storeAt 26 (.pointer (some ⟨b,o,none⟩)) (.agg #[v0,v1,v2,v3])) QP w ku=onCells [w.cell? ⟨b,o,none⟩,w.cell? ⟨b,o+1,none⟩,w.cell? ⟨b,o+2,none⟩,w.cell? ⟨b,o+3,none⟩] (fun _=>onFree [w.frozen? ⟨b,o,none⟩,w.frozen? ⟨b,o+1,none⟩,w.frozen? ⟨b,o+2,none⟩,w.frozen? ⟨b,o+3,none⟩] (ku ((((w.setCell ⟨b,o,none⟩ v0).setCell ⟨b,o+1,none⟩ v1).setCell ⟨b,o+2,none⟩ v2).setCell ⟨b,o+3,none⟩ v3)) (opUx Pg (Instr.storeAt 26 (.pointer (some ⟨b,o,none⟩)) (.agg #[v0,v1,v2,v3])) QP w ku)) (opUx Pg (Instr.storeAt 26 (.pointer (some ⟨b,o,none⟩)) (.agg #[v0,v1,v2,v3])) QP w ku)))<|And.intro ((by intro b o v0 v1 v2 h0 h1 h2;exact op_storeA ty50 b o _ rfl (by intro v hv;simp only [List.mem_cons,List.not_mem_nil,or_false] at hv;rcases hv with rfl | rfl | rfl<;>assumption) _ rfl _ rfl):(∀ b o v0 v1 v2,v0.oneCell'=true→v1.oneCell'=true→v2.oneCell'=true→opU Pg (Instr.storeAt 50 (.pointer (some ⟨b,o,none⟩)) (.agg #[v0,v1,v2])) QP w ku=onCells [w.cell? ⟨b,o,none⟩,w.cell? ⟨b,o+1,none⟩,w.cell? ⟨b,o+2,none⟩] (fun _=>onFree [w.frozen? ⟨b,o,none⟩,w.frozen? ⟨b,o+1,none⟩,w.frozen? ⟨b,o+2,none⟩] (ku (((w.setCell ⟨b,o,none⟩ v0).setCell ⟨b,o+1,none⟩ v1).setCell ⟨b,o+2,none⟩ v2)) (opUx Pg (Instr.storeAt 50 (.pointer (some ⟨b,o,none⟩)) (.agg #[v0,v1,v2])) QP w ku)) (opUx Pg (Instr.storeAt 50 (.pointer (some ⟨b,o,none⟩)) (.agg #[v0,v1,v2])) QP w ku)))<|And.intro ((by intro b o v0 v1 h0 h1;exact op_storeA ty52 b o _ rfl (by intro v hv;simp only [List.mem_cons,List.not_mem_nil,or_false] at hv;rcases hv with rfl | rfl<;>assumption) _ rfl _ rfl):(∀ b o v0 v1,v0.oneCell'=true→v1.oneCell'=true→opU Pg (Instr.storeAt 52 (.pointer (some ⟨b,o,none⟩)) (.agg #[v0,v1])) QP w ku=onCells [w.cell? ⟨b,o,none⟩,w.cell? ⟨b,o+1,none⟩] (fun _=>onFree [w.frozen? ⟨b,o,none⟩,w.frozen? ⟨b,o+1,none⟩] (ku ((w.setCell ⟨b,o,none⟩ v0).setCell ⟨b,o+1,none⟩ v1)) (opUx Pg (Instr.storeAt 52 (.pointer (some ⟨b,o,none⟩)) (.agg #[v0,v1])) QP w ku)) (opUx Pg (Instr.storeAt 52 (.pointer (some ⟨b,o,none⟩)) (.agg #[v0,v1])) QP w ku)))<|((by intro b o v0 v1 v2 h0 h1 h2;exact op_storeA ty89 b o _ rfl (by intro v hv;simp only [List.mem_cons,List.not_mem_nil,or_false] at hv;rcases hv with rfl | rfl | rfl<;>assumption) _ rfl _ rfl):(∀ b o v0 v1 v2,v0.oneCell'=true→v1.oneCell'=true→v2.oneCell'=true→opU Pg (Instr.storeAt 89 (.pointer (some ⟨b,o,none⟩)) (.agg #[v0,v1,v2])) QP w ku=onCells [w.cell? ⟨b,o,none⟩,w.cell? ⟨b,o+1,none⟩,w.cell? ⟨b,o+2,none⟩] (fun _=>onFree [w.frozen? ⟨b,o,none⟩,w.frozen? ⟨b,o+1,none⟩,w.frozen? ⟨b,o+2,none⟩] (ku (((w.setCell ⟨b,o,none⟩ v0).setCell ⟨b,o+1,none⟩ v1).setCell ⟨b,o+2,none⟩ v2)) (opUx Pg (Instr.storeAt 89 (.pointer (some ⟨b,o,none⟩)) (.agg #[v0,v1,v2])) QP w ku)) (opUx Pg (Instr.storeAt 89 (.pointer (some ⟨b,o,none⟩)) (.agg #[v0,v1,v2])) QP w ku)))
section
def OPW0 {w:World} {k:Value→Prop}:=And.intro (qV_loadC (w:=w) (k:=k) ty3)<|And.intro (qV_loadKB (w:=w) (k:=k) ty4)<|And.intro (qV_loadC (w:=w) (k:=k) ty9)<|And.intro (qV_loadKB (w:=w) (k:=k) ty9)<|And.intro (qV_loadC (w:=w) (k:=k) ty22)<|And.intro (qV_loadKB (w:=w) (k:=k) ty22)<|And.intro (qV_loadC (w:=w) (k:=k) ty23)<|And.intro (qV_loadKB (w:=w) (k:=k) ty23)<|And.intro (qV_loadC (w:=w) (k:=k) ty24)<|And.intro (qV_loadKB (w:=w) (k:=k) ty24)<|And.intro ((by intro b o;exact qV_loadA ty26 b o _ rfl):(∀ b o,qV Pg (EC w) (Instr.loadAt 26 (.pointer (some ⟨b,o,none⟩))) k=onCells [w.cell? ⟨b,o,none⟩,w.cell? ⟨b,o+1,none⟩,w.cell? ⟨b,o+2,none⟩,w.cell? ⟨b,o+3,none⟩] (fun vs=>k (.agg vs.toArray)) (qVx Pg (EC w) (Instr.loadAt 26 (.pointer (some ⟨b,o,none⟩))) k)))<|And.intro ((by intro b o;exact qV_loadA ty50 b o _ rfl):(∀ b o,qV Pg (EC w) (Instr.loadAt 50 (.pointer (some ⟨b,o,none⟩))) k=onCells [w.cell? ⟨b,o,none⟩,w.cell? ⟨b,o+1,none⟩,w.cell? ⟨b,o+2,none⟩] (fun vs=>k (.agg vs.toArray)) (qVx Pg (EC w) (Instr.loadAt 50 (.pointer (some ⟨b,o,none⟩))) k)))<|And.intro ((by intro b o;exact qV_loadA ty52 b o _ rfl):(∀ b o,qV Pg (EC w) (Instr.loadAt 52 (.pointer (some ⟨b,o,none⟩))) k=onCells [w.cell? ⟨b,o,none⟩,w.cell? ⟨b,o+1,none⟩] (fun vs=>k (.agg vs.toArray)) (qVx Pg (EC w) (Instr.loadAt 52 (.pointer (some ⟨b,o,none⟩))) k)))<|And.intro (qV_loadC (w:=w) (k:=k) ty55)<|And.intro (qV_loadC (w:=w) (k:=k) ty69)<|And.intro ((by intro b o;exact qV_loadA ty71 b o _ rfl):(∀ b o,qV Pg (EC w) (Instr.loadAt 71 (.pointer (some ⟨b,o,none⟩))) k=onCells [w.cell? ⟨b,o,none⟩,w.cell? ⟨b,o+1,none⟩,w.cell? ⟨b,o+2,none⟩,w.cell? ⟨b,o+3,none⟩,w.cell? ⟨b,o+4,none⟩,w.cell? ⟨b,o+5,none⟩,w.cell? ⟨b,o+6,none⟩,w.cell? ⟨b,o+7,none⟩,w.cell? ⟨b,o+8,none⟩] (fun vs=>k (.agg vs.toArray)) (qVx Pg (EC w) (Instr.loadAt 71 (.pointer (some ⟨b,o,none⟩))) k)))<|And.intro (qV_loadC (w:=w) (k:=k) ty73)<|And.intro (qV_loadC (w:=w) (k:=k) ty78)<|And.intro (qV_loadC (w:=w) (k:=k) ty87)<|(qV_loadC (w:=w) (k:=k) ty104)
def OPW1 {w:World} {k:Value→Prop}:=And.intro (qW_loadC (w:=w) (k:=k) ty3)<|And.intro (qW_loadC (w:=w) (k:=k) ty4)<|And.intro ((by intro b o;exact qW_loadA ty26 b o _ rfl):(∀ b o,qW Pg 26 (.pointer (some ⟨b,o,none⟩)) w k=onCells [w.cell? ⟨b,o,none⟩,w.cell? ⟨b,o+1,none⟩,w.cell? ⟨b,o+2,none⟩,w.cell? ⟨b,o+3,none⟩] (fun vs=>k (.agg vs.toArray)) (qWx Pg 26 (.pointer (some ⟨b,o,none⟩)) w k)))<|And.intro ((by intro b o;exact qW_loadA ty50 b o _ rfl):(∀ b o,qW Pg 50 (.pointer (some ⟨b,o,none⟩)) w k=onCells [w.cell? ⟨b,o,none⟩,w.cell? ⟨b,o+1,none⟩,w.cell? ⟨b,o+2,none⟩] (fun vs=>k (.agg vs.toArray)) (qWx Pg 50 (.pointer (some ⟨b,o,none⟩)) w k)))<|((by intro b o;exact qW_loadA ty71 b o _ rfl):(∀ b o,qW Pg 71 (.pointer (some ⟨b,o,none⟩)) w k=onCells [w.cell? ⟨b,o,none⟩,w.cell? ⟨b,o+1,none⟩,w.cell? ⟨b,o+2,none⟩,w.cell? ⟨b,o+3,none⟩,w.cell? ⟨b,o+4,none⟩,w.cell? ⟨b,o+5,none⟩,w.cell? ⟨b,o+6,none⟩,w.cell? ⟨b,o+7,none⟩,w.cell? ⟨b,o+8,none⟩] (fun vs=>k (.agg vs.toArray)) (qWx Pg 71 (.pointer (some ⟨b,o,none⟩)) w k)))
def OPQ0 {C:World→Prop} [ClassNe C] {k:Value→Prop}:=And.intro ((by intros;apply qV_of;intros;apply o12<;>assumption):(∀ b o len cap ik (i:Nat),i < len→qV Pg C (Instr.indexAt 22 (.slice (some ⟨b,o,none⟩) len cap) (.int ik (i:Int))) k=k (.pointer (some ⟨b,o+i*3,none⟩))))<|And.intro ((by intros;apply qV_of;intros;apply o15<;>assumption):(∀ b o len cap ik (i:Nat),i < len→qV Pg C (Instr.indexAt 23 (.slice (some ⟨b,o,none⟩) len cap) (.int ik (i:Int))) k=k (.pointer (some ⟨b,o+i*2,none⟩))))<|And.intro ((by intros;apply qV_of;intros;apply o18<;>assumption):(∀ b o len cap ik (i:Nat),i < len→qV Pg C (Instr.indexAt 24 (.slice (some ⟨b,o,none⟩) len cap) (.int ik (i:Int))) k=k (.pointer (some ⟨b,o+i*9,none⟩))))<|And.intro (qV_two (C:=C) (k:=k) fun QP w k => @o20 QP w k)<|And.intro (qV_two (C:=C) (k:=k) fun QP w k => @o21 QP w k)<|And.intro (qV_two (C:=C) (k:=k) fun QP w k => @o22 QP w k)<|And.intro (qV_two (C:=C) (k:=k) fun QP w k => @o23 QP w k)<|And.intro (qV_two (C:=C) (k:=k) fun QP w k => @o26 QP w k)<|And.intro (qV_two (C:=C) (k:=k) fun QP w k => @o27 QP w k)<|And.intro (qV_two (C:=C) (k:=k) fun QP w k => @o28 QP w k)<|And.intro (qV_two (C:=C) (k:=k) fun QP w k => @o31 QP w k)<|And.intro (qV_two (C:=C) (k:=k) fun QP w k => @o32 QP w k)<|And.intro (qV_two (C:=C) (k:=k) fun QP w k => @o39 QP w k)<|And.intro (qV_two (C:=C) (k:=k) fun QP w k => @o41 QP w k)<|And.intro (qV_two (C:=C) (k:=k) fun QP w k => @o42 QP w k)<|And.intro (qV_two (C:=C) (k:=k) fun QP w k => @o46 QP w k)<|And.intro (qV_two (C:=C) (k:=k) fun QP w k => @o47 QP w k)<|And.intro (qV_two (C:=C) (k:=k) fun QP w k => @o48 QP w k)<|And.intro (qV_two (C:=C) (k:=k) fun QP w k => @o49 QP w k)<|And.intro (qV_two (C:=C) (k:=k) fun QP w k => @o50 QP w k)<|And.intro (qV_two (C:=C) (k:=k) fun QP w k => @o51 QP w k)<|And.intro (qV_two (C:=C) (k:=k) fun QP w k => @o52 QP w k)<|And.intro (qV_two (C:=C) (k:=k) fun QP w k => @o53 QP w k)<|And.intro (qV_two (C:=C) (k:=k) fun QP w k => @o54 QP w k)<|And.intro ((by intros;apply qV_of;intros;apply o58<;>assumption):(∀ r a n c,qV Pg C (Builtin.len_ #[73] r #[.slice a n c]) k=k (.int .i64 (n:Int))))<|And.intro ((by intros;apply qV_of;intros;apply o59<;>assumption):(∀ b o len cap ik (i:Nat),i < len→qV Pg C (Instr.indexAt 73 (.slice (some ⟨b,o,none⟩) len cap) (.int ik (i:Int))) k=k (.pointer (some ⟨b,o+i*1,none⟩))))<|And.intro ((by intros;apply qV_of;intros;apply o61<;>assumption):(∀ r a n c,qV Pg C (Builtin.len_ #[78] r #[.slice a n c]) k=k (.int .i64 (n:Int))))<|((by intros;apply qV_of;intros;apply o62<;>assumption):(∀ b o len cap ik (i:Nat),i < len→qV Pg C (Instr.indexAt 78 (.slice (some ⟨b,o,none⟩) len cap) (.int ik (i:Int))) k=k (.pointer (some ⟨b,o+i*1,none⟩))))
def OPQ1 {C:World→Prop} [ClassNe C] {k:Value→Prop}:=And.intro (qV_two (C:=C) (k:=k) fun QP w k => @o69 QP w k)<|And.intro ((by intros;apply qV_of;intros;apply o70<;>assumption):(∀ v0 v1 v2,qV Pg C (Instr.field 89 (.agg #[v0,v1,v2]) 0) k=k v0))<|And.intro ((by intros;apply qV_of;intros;apply o71<;>assumption):(∀ v0 v1 v2,qV Pg C (Instr.field 89 (.agg #[v0,v1,v2]) 1) k=k v1))<|And.intro (qV_two (C:=C) (k:=k) fun QP w k => @o78 QP w k)<|And.intro (qV_two (C:=C) (k:=k) fun QP w k => @o79 QP w k)<|And.intro (qV_two (C:=C) (k:=k) fun QP w k => @o80 QP w k)<|And.intro ((by intros;apply qV_of;intros;apply o97<;>assumption):(∀ v0 v2 v1:Value,v0.oneCell'=true→v2.oneCell'=true→v1.oneCell'=true→qV Pg C (Instr.build 26 #[(0,v0),(2,v2),(1,v1)]) k=k (.agg #[v0,v1,v2,.slice none 0 0])))<|And.intro ((by intros;apply qV_of;intros;apply o101<;>assumption):(∀ v0 v1:Value,v0.oneCell'=true→v1.oneCell'=true→qV Pg C (Instr.build 50 #[(0,v0),(1,v1)]) k=k (.agg #[v0,v1,.int .i64 0])))<|And.intro ((by intros;apply qV_of;intros;apply o103<;>assumption):(∀ v0 v1:Value,v0.oneCell'=true→v1.oneCell'=true→qV Pg C (Instr.build 52 #[(0,v0),(1,v1)]) k=k (.agg #[v0,v1])))<|((by intros;apply qV_of;intros;apply o107<;>assumption):(∀ v0 v1:Value,v0.oneCell'=true→v1.oneCell'=true→qV Pg C (Instr.build 71 #[(0,v0),(1,v1)]) k=k (.agg #[v0,v1,.int .i64 0,.string ByteArray.empty,.string ByteArray.empty,.string ByteArray.empty,.int .i64 0,.int .i64 0,.int .i64 0])))
def OPQ2 {C:World→Prop} [ClassNe C] {k:Value→Prop}:=And.intro ((by intros;apply qV_of;intros;apply o149<;>assumption):(∀ v,qV Pg C (Instr.makeInterface 3 v) k=k (.iface 3 v)))<|And.intro ((by intros;apply qV_of;intros;apply o150<;>assumption):(∀ v,qV Pg C (Instr.makeInterface 9 v) k=k (.iface 9 v)))<|And.intro ((by intros;apply qV_of;intros;apply o164<;>assumption):(∀ c (a0 b0:ByteArray) (a1 b1:Bool) (a2 b2:Int),qV Pg C (binS .neq 50 c (.agg #[.string a0,.bool a1,.int .i64 a2]) (.agg #[.string b0,.bool b1,.int .i64 b2])) k=k (.bool (!(decide (a0=b0)&&(decide (a1=b1)&&(decide (a2=b2)&&true)))))))<|And.intro ((by intros;apply qV_of;intros;apply o166<;>assumption):(∀ c (a0 b0:ByteArray) (a1 b1:Int),qV Pg C (binS .neq 52 c (.agg #[.string a0,.int .i64 a1]) (.agg #[.string b0,.int .i64 b1])) k=k (.bool (!(decide (a0=b0)&&(decide (a1=b1)&&true))))))<|And.intro ((by intros;apply qV_of;intros;apply o167<;>assumption):(∀ c (a0 b0:ByteArray) (a1 b1:ByteArray) (a2 b2:Int) (a3 b3:ByteArray) (a4 b4:ByteArray) (a5 b5:ByteArray) (a6 b6:Int) (a7 b7:Int) (a8 b8:Int),qV Pg C (binS .eql 71 c (.agg #[.string a0,.string a1,.int .i64 a2,.string a3,.string a4,.string a5,.int .i64 a6,.int .i64 a7,.int .i64 a8]) (.agg #[.string b0,.string b1,.int .i64 b2,.string b3,.string b4,.string b5,.int .i64 b6,.int .i64 b7,.int .i64 b8])) k=k (.bool (decide (a0=b0)&&(decide (a1=b1)&&(decide (a2=b2)&&(decide (a3=b3)&&(decide (a4=b4)&&(decide (a5=b5)&&(decide (a6=b6)&&(decide (a7=b7)&&(decide (a8=b8)&&true))))))))))))<|((by intros;apply qV_of;intros;apply o168<;>assumption):(∀ c (a0 b0:ByteArray) (a1 b1:ByteArray) (a2 b2:Int) (a3 b3:ByteArray) (a4 b4:ByteArray) (a5 b5:ByteArray) (a6 b6:Int) (a7 b7:Int) (a8 b8:Int),qV Pg C (binS .neq 71 c (.agg #[.string a0,.string a1,.int .i64 a2,.string a3,.string a4,.string a5,.int .i64 a6,.int .i64 a7,.int .i64 a8]) (.agg #[.string b0,.string b1,.int .i64 b2,.string b3,.string b4,.string b5,.int .i64 b6,.int .i64 b7,.int .i64 b8])) k=k (.bool (!(decide (a0=b0)&&(decide (a1=b1)&&(decide (a2=b2)&&(decide (a3=b3)&&(decide (a4=b4)&&(decide (a5=b5)&&(decide (a6=b6)&&(decide (a7=b7)&&(decide (a8=b8)&&true)))))))))))))
end
def PR:=And.intro @GEN<|And.intro @op_makeMap<|And.intro @CTL<|And.intro @GENQ<|And.intro @o0<|And.intro @o1<|And.intro @o2<|And.intro @o3<|And.intro @o5<|And.intro @o6<|And.intro @o7<|And.intro @o8<|And.intro @o9<|And.intro @o10<|And.intro @o11<|And.intro @o12<|And.intro @o13<|And.intro @o14<|And.intro @o15<|And.intro @o16<|And.intro @o17<|And.intro @o18<|And.intro @o19<|And.intro @o20<|And.intro @o21<|And.intro @o22<|And.intro @o23<|And.intro @o24<|And.intro @o25<|And.intro @o26<|And.intro @o27<|And.intro @o28<|And.intro @o29<|And.intro @o30<|And.intro @o31<|And.intro @o32<|And.intro @o33<|And.intro @o34<|And.intro @o35<|And.intro @o36<|And.intro @o37<|And.intro @o38<|And.intro @o39<|And.intro @o40<|And.intro @o41<|And.intro @o42<|And.intro @o43<|And.intro @o45<|And.intro @o46<|And.intro @o47<|And.intro @o48<|And.intro @o49<|And.intro @o50<|And.intro @o51<|And.intro @o52<|And.intro @o53<|And.intro @o54<|And.intro @o55<|And.intro @o56<|And.intro @o57<|And.intro @o58<|And.intro @o59<|And.intro @o60<|And.intro @o61<|And.intro @o63<|And.intro @o64<|And.intro @o65<|And.intro @o67<|And.intro @o68<|And.intro @o72<|And.intro @o74<|And.intro @o75<|And.intro @o76<|And.intro @o77<|And.intro @o79<|And.intro @o80<|And.intro @o94<|And.intro @o95<|And.intro @o96<|And.intro @o98<|And.intro @o99<|And.intro @o100<|And.intro @o102<|And.intro @o103<|And.intro @o106<|And.intro @o108<|And.intro @o109<|And.intro @o110<|And.intro @o111<|And.intro @o115<|And.intro @o116<|And.intro @o117<|And.intro @o118<|And.intro @o119<|And.intro @o120<|And.intro @o121<|And.intro @o122<|And.intro @o124<|And.intro @o125<|And.intro @o126<|And.intro @o127<|And.intro @o128<|And.intro @o129<|And.intro @o130<|And.intro @o131<|And.intro @o132<|And.intro @o133<|And.intro @o135<|And.intro @o139<|And.intro @o149<|And.intro @o150<|And.intro @o151<|And.intro @o155<|And.intro @o156<|And.intro @o160<|And.intro @o161<|And.intro @o162<|And.intro @o167<|And.intro @o170<|And.intro @OPU0<|And.intro @OPW0<|And.intro @OPW1<|And.intro @OPQ0<|And.intro @OPQ1<|And.intro @OPQ2<|And.intro @joinK_eq<|And.intro @op_rem <| @guard_undef
def QR:=And.intro @OPA0<|And.intro @dirty_eq<|And.intro @onCells_nil<|And.intro @onCells_some<|And.intro @onFree_nil<|And.intro @onFree_false<|And.intro @guard_and<|And.intro @STD<|And.intro @heap_newE<|And.intro @heap_oldE<|And.intro @heap_setE<|And.intro @cell_newE<|And.intro @frozen_newE<|And.intro @set_newE<|And.intro @cell_old<|And.intro @frozen_old<|And.intro @set_old<|And.intro @wrap_succ<|And.intro @List.setIfInBounds_toArray.{0}<|And.intro @List.set_cons_zero.{0}<|And.intro @List.set_cons_succ.{0}<|And.intro @decide_true<|And.intro @decide_false<|And.intro @Bool.false_eq_true<|And.intro @cell_set_map<|And.intro @cell_set_other<|And.intro @Option.map_some.{0,0}<|And.intro @List.getElem?_toArray.{0}<|And.intro @List.getElem?_cons_succ.{0}<|And.intro @List.getElem?_cons_zero.{0}<|And.intro @Nat.zero_add<|And.intro @Nat.add_zero<|And.intro @World.size_alloc<|And.intro @World.size_setCell<|And.intro @Bool.not_true<|And.intro @Bool.not_false<|And.intro @Bool.and_true<|And.intro @Bool.true_and<|And.intro @Bool.and_false<|And.intro @Bool.false_and<|And.intro @Bool.or_true<|And.intro @Bool.true_or<|And.intro @Bool.or_false <| @Bool.false_or
theorem SZ:type_of% (And.intro @World.size_alloc<|And.intro @World.size_setCell<|And.intro @World.size_drew<|And.intro @World.putObj_size <| @putW_size):=(And.intro @World.size_alloc<|And.intro @World.size_setCell<|And.intro @World.size_drew<|And.intro @World.putObj_size <| @putW_size)
theorem DI {p:Prop} (h:p:=by first | assumption | (simp only [ONE];done) | rfl | (simp only [SZ];done) | omega | (simp only [SZ] at *;omega)):p:=h
theorem ee {a b:World} (h:Ext a b:=by repeat' first | exact Ext.refl _ | assumption | apply Ext.alloc | apply Ext.wdrew | apply Ext.drew | (refine Ext.setCell ?_ (by first | omega | (simp only [SZ] at *;omega)) _) | (refine Ext.putObj ?_ (by first | omega | (simp only [SZ] at *;omega)) _) | (refine Ext.trans ?_ (by assumption))):Ext a b:=h
structure TermD where
 field:ByteArray
 factor:Int
 deriving DecidableEq
structure CaseD where
 low:Int
 high:Int
 of:ByteArray
 deriving DecidableEq
structure FieldD where
 name:ByteArray
 kind:Int
 bits:Int
 little:Bool
 loose:Bool
 low:Int
 high:Int
 base:Int
 terms:List TermD
 of:ByteArray
 tag:ByteArray
 fr:ByteArray
 cases:List CaseD
 check:Int
 key:Int
 deriving DecidableEq
structure MsgD where
 name:ByteArray
 fields:List FieldD
 deriving DecidableEq
structure DefD where
 name:ByteArray
 msgs:List MsgD
 start:ByteArray
 deriving DecidableEq
def EStr (_:World) (cs:List Value) (s:ByteArray):Prop:=cs=[.string s]
theorem keptStr:Kept EStr:=fun _ _ _ _ _ h=>h
def Tests {α:Type} (w0:World) (V:World→Value→α→Prop) (g:FuncId) (caps:Array Value) (p:α→Bool) (l:List α):Prop :=
 ∀ w v x,x∈l→Ext w0 w→V w v x→Ret Pg g (#[v]++caps) w fun r w'=>r = .bool (p x)∧Ext w w'
end Go.Proofs.YtngflmjncplkaaaGreatDoor
namespace Go.Sw
theorem ElemAt.c9 {w w':World} {b o:Nat} {c0 c1 c2 c3 c4 c5 c6 c7 c8:Value} (h:ElemAt w b o [c0,c1,c2,c3,c4,c5,c6,c7,c8]) (e:Ext w w'):w'.cell? ⟨b,o,none⟩=some c0∧w'.cell? ⟨b,o+1,none⟩=some c1∧w'.cell? ⟨b,o+2,none⟩=some c2∧w'.cell? ⟨b,o+3,none⟩=some c3∧w'.cell? ⟨b,o+4,none⟩=some c4∧w'.cell? ⟨b,o+5,none⟩=some c5∧w'.cell? ⟨b,o+6,none⟩=some c6∧w'.cell? ⟨b,o+7,none⟩=some c7∧w'.cell? ⟨b,o+8,none⟩=some c8:=⟨e.cell (h 0 _ rfl),e.cell (h 1 _ rfl),e.cell (h 2 _ rfl),e.cell (h 3 _ rfl),e.cell (h 4 _ rfl),e.cell (h 5 _ rfl),e.cell (h 6 _ rfl),e.cell (h 7 _ rfl),e.cell (h 8 _ rfl)⟩
end Go.Sw
namespace Go.Proofs.YtngflmjncplkaaaGreatDoor
open Sw
open Go.RowKit (intOf Below)
structure CntD where
 name:ByteArray
 limit:Int
 deriving DecidableEq
structure StaD where
 name:ByteArray
 final:Bool
 wait:Int
 deriving DecidableEq
structure StpD where
 fr:ByteArray
 to:ByteArray
 kind:Int
 message:ByteArray
 peer:ByteArray
 counter:ByteArray
 low:Int
 high:Int
 add:Int
 deriving DecidableEq
structure RolD where
 name:ByteArray
 states:List StaD
 counters:List CntD
 steps:List StpD
 deriving DecidableEq
structure SesD where
 name:ByteArray
 roles:List RolD
 cls:Int
 capacity:Int
 deriving DecidableEq
abbrev cntCells (x:CntD):List Value:=[.string x.name,.int .i64 x.limit]
abbrev staCells (x:StaD):List Value:=[.string x.name,.bool x.final,.int .i64 x.wait]
abbrev stpCells (x:StpD):List Value:=[.string x.fr,.string x.to,.int .i64 x.kind,.string x.message,.string x.peer,.string x.counter,.int .i64 x.low,.int .i64 x.high,.int .i64 x.add]
abbrev rolCells (r:RolD) (sv cv tv:Value):List Value:=[.string r.name,sv,cv,tv]
def ECnt (_:World) (cs:List Value) (x:CntD):Prop:=cs=cntCells x
def ESta (_:World) (cs:List Value) (x:StaD):Prop:=cs=staCells x
def EStp (_:World) (cs:List Value) (x:StpD):Prop:=cs=stpCells x
theorem keptCnt:Kept ECnt:=fun _ _ _ _ _ h=>h
theorem keptSta:Kept ESta:=fun _ _ _ _ _ h=>h
theorem keptStp:Kept EStp:=fun _ _ _ _ _ h=>h
def CntsOf (w:World) (v:Value) (l:List CntD):Prop:=SliceOf w 2 ECnt v l
def StasOf (w:World) (v:Value) (l:List StaD):Prop:=SliceOf w 3 ESta v l
def StpsOf (w:World) (v:Value) (l:List StpD):Prop:=SliceOf w 9 EStp v l
section
variable {w w':World} {v:Value}
theorem CntsOf.ext {l:List CntD} (h:CntsOf w v l) (e:Ext w w'):CntsOf w' v l:=SliceOf.ext keptCnt h e
theorem StasOf.ext {l:List StaD} (h:StasOf w v l) (e:Ext w w'):StasOf w' v l:=SliceOf.ext keptSta h e
theorem StpsOf.ext {l:List StpD} (h:StpsOf w v l) (e:Ext w w'):StpsOf w' v l:=SliceOf.ext keptStp h e
end
def ERol (w:World) (cs:List Value) (r:RolD):Prop:=∃ sv cv tv,cs=rolCells r sv cv tv∧StasOf w sv r.states∧CntsOf w cv r.counters∧StpsOf w tv r.steps
def RolVal (w:World) (v:Value) (r:RolD):Prop:=∃ sv cv tv,v = .agg (rolCells r sv cv tv).toArray∧StasOf w sv r.states∧CntsOf w cv r.counters∧StpsOf w tv r.steps
section
variable {w w':World} {v:Value}
theorem RolVal.ext {r:RolD} (h:RolVal w v r) (e:Ext w w'):RolVal w' v r:=by obtain ⟨sv,cv,tv,h,h1,h2,h3⟩:=h;exact ⟨sv,cv,tv,h,h1.ext e,h2.ext e,h3.ext e⟩
theorem RolVal.op {r:RolD} (h:RolVal w v r):∃ sv cv tv,v = .agg (rolCells r sv cv tv).toArray∧StasOf w sv r.states∧CntsOf w cv r.counters∧StpsOf w tv r.steps∧sv.oneCell'=true∧cv.oneCell'=true∧tv.oneCell'=true:=by
 obtain ⟨sv,cv,tv,h,h1,h2,h3⟩:=h;exact ⟨sv,cv,tv,h,h1,h2,h3,SliceOf.oneCell h1,SliceOf.oneCell h2,SliceOf.oneCell h3⟩
end
def cntVal (x:CntD):Value := .agg (cntCells x).toArray
def staVal (x:StaD):Value := .agg (staCells x).toArray
def stpVal (x:StpD):Value := .agg (stpCells x).toArray
def letB (c:UInt8):Bool:=(decide (97≤(c.toNat:Int))&&decide ((c.toNat:Int)≤122))||(decide (65≤(c.toNat:Int))&&decide ((c.toNat:Int)≤90))
def digB (c:UInt8):Bool:=decide (48≤(c.toNat:Int))&&decide ((c.toNat:Int)≤57)
def wordB (c:UInt8):Bool:=letB c||digB c||((c.toNat:Int) == 95)
def nameB (s:ByteArray):Bool:=decide (1≤(s.size:Int))&&decide ((s.size:Int)≤32)&&(match s.data.toList with | []=>false | c::_=>letB c)&&s.data.toList.all wordB
def stateI (r:RolD) (s:ByteArray):Int:=idx (fun x:StaD=>decide (x.name=s)) r.states
def counterI (r:RolD) (s:ByteArray):Int:=idx (fun x:CntD=>decide (x.name=s)) r.counters
def speaksB (k:Int):Bool:=decide (k=1)||decide (k=2)
def waitsB (r:RolD) (s:ByteArray):Bool:=match r.states[(stateI r s).toNat]? with
 | some x=>decide (0 < x.wait)
 | none=>false
def guardB (r:RolD) (s:StpD):Bool:=if s.counter=ByteArray.empty then decide (s.low=0)&&(decide (s.high=0)&&decide (s.add=0)) else match r.counters[(counterI r s.counter).toNat]? with
 | some c=>decide (0≤counterI r s.counter)&&(decide (0≤s.low)&&(decide (s.low≤s.high)&&(decide (-1000≤s.add)&&(decide (s.add≤1000)&&(decide (s.high≤c.limit)&&(decide (0≤s.low+s.add)&&decide (s.high+s.add≤c.limit)))))))
 | none=>false
def partsB (r:RolD) (s:StpD):Bool:=if speaksB s.kind then nameB s.message&&(nameB s.peer&&decide (s.peer≠r.name)) else decide (s.message=ByteArray.empty)&&decide (s.peer=ByteArray.empty)
def allowB (r:RolD) (n:Nat) (s:StpD):Bool:=decide (1≤s.kind∧s.kind≤4)&&(decide (0≤stateI r s.fr)&&(decide (0≤stateI r s.to)&&(!((r.steps.take n).any fun x=>decide (x=s))&&((decide (s.kind≠3)||waitsB r s.fr)&&(partsB r s&&guardB r s)))))
def cntB (r:RolD) (i:Nat):Bool:=match r.counters[i]? with
 | some c=>nameB c.name&&(decide (counterI r c.name=i)&&(decide (1≤c.limit)&&decide (c.limit≤1000)))
 | none=>false
def staB (r:RolD) (i:Nat):Bool:=match r.states[i]? with
 | some c=>nameB c.name&&(decide (stateI r c.name=i)&&(decide (0≤c.wait)&&decide (c.wait≤1048576)))
 | none=>false
def stpB (r:RolD) (i:Nat):Bool:=match r.steps[i]? with
 | some s=>allowB r i s
 | none=>false
def fewP (n least most:Nat) (ok:Nat→Bool):Int:=if n < least then 0 else if most < n then most else idx (fun i=>!ok i) (List.range n)
def checkR (r:RolD):Int×Int:=if nameB r.name=false then (0,290) else
 if 0≤fewP r.counters.length 0 4 (cntB r) then (fewP r.counters.length 0 4 (cntB r),291) else
 if 0≤fewP r.states.length 1 24 (staB r) then (fewP r.states.length 1 24 (staB r),292) else
 if 0≤fewP r.steps.length 0 80 (stpB r) then (fewP r.steps.length 0 80 (stpB r),293) else (0,0)
end Go.Proofs.YtngflmjncplkaaaGreatDoor
namespace Go.Sw
section
variable {P:Program} {N:Nat} {ro:Option Nat} {QP:KP} {T:Env→List Deferred→World→Prop} {o:Oper} {rest:List Oper} {ρ:Env} {ds:List Deferred} {w:World}
theorem zm {v:Value} (h:denSeq P N ro QP T rest (put N ρ o.dst v) ds w) (hs:execOp (ev ρ) o=Sem.pure (.value v):=by exact rfl) (hd:isDefer o.op=false:=by exact rfl):denSeq P N ro QP T (o::rest) ρ ds w:=sim_move hd hs h
theorem zq {s:Sem Value} {QP':List PanicEntry→World→Prop} {k:Value→World→Prop} (h:opV P s QP' w k) (hk:∀ v w,k v w→denSeq P N ro QP T rest (put N ρ o.dst v) ds w) (hs:execOp (ev ρ) o=(do pure (.value (← s))):=by exact rfl) (hd:isDefer o.op=false:=by exact rfl) (hp:∀ ch w,QP' ch w→QP ch ρ ds w:=by exact fun _ _ h=>outQ_of rfl h):denSeq P N ro QP T (o::rest) ρ ds w:=sim_val h hd hs hp hk
theorem zc {f:FuncId} {l:List Operand} {ats:Array TypeId} {ty:TypeId} {dst:Option Nat} {pos:String} {after:Array Edge} {g:Option (Nat×Bool)} {args:List Value} {QP':List PanicEntry→World→Prop} {k:Value→World→Prop}
 (h:callK P f args.toArray QP' w k) (hf:Callable P f) (hk:∀ v w',k v w'→denSeq P N ro QP T rest (put N ρ dst v) ds w') (h2:l.map (ev ρ)=args:=by exact rfl) (hp:∀ ch w,QP' ch w→QP ch ρ ds w:=by exact fun _ _ h=>⟨rfl,h⟩) :
 denSeq P N ro QP T (⟨dst,.call ⟨.value (.func f),l.toArray,ats⟩,ty,pos,after,g⟩::rest) ρ ds w:=sim_call h hf h2 hp hk
theorem zt {S:List Nat} {J G:Env→World→Prop} (hT:∀ ρ' w,Fr S ρ ρ'→J ρ' w→G ρ' w) {ρ':Env} {w:World} (h:J ρ' w) (hf:Fr S ρ ρ':=by repeat (first | exact Fr.refl _ _ | refine Fr.put rfl ?_ | refine Fr.put_none ?_ | refine Fr.mix rfl ?_ | refine Fr.skipAll rfl ?_)):G ρ' w:=hT ρ' w hf h
end
section
variable {P:Program} {N:Nat} {ro:Option Nat} {ops:Array Oper} {Q:Env→List Deferred→World→Prop} {QP0:List PanicEntry→List Deferred→World→Prop} {C:World→Prop}
theorem zw (i:Nat) {fuel:Nat} {done:List Nat} {o:Oper} {v:Value} {ρ:Env} {ds:List Deferred} {w:World} (hC:C w) (h:denD P N ro ops Q (fun ch _ ds w=>QP0 ch ds w) C fuel (i::done) (put N ρ o.dst v) ds w)
 (hi:ops[i]?=some o:=by exact rfl) (hr:(readyL ops done).contains i=true:=by kernel_rfl) (hf:freeB ops done i=true:=by kernel_rfl) (hg:∀ p q,guardO ops o ρ p q=p:=by exact fun _ _=>rfl) (hd:isDefer o.op=false:=by exact rfl) (hs:execOp (ev ρ) o=Sem.pure (.value v):=by exact rfl) :
 denD P N ro ops Q (fun ch _ ds w=>QP0 ch ds w) C (fuel+1) done ρ ds w:=sim_dsilent i hC hi hr hf hg hd (move_run hs) h
end
theorem zr {P:Program} {N:Nat} {ro:Option Nat} {id:Nat} {l:List Oper} {Q:K} {QP:KP} {ρ:Env} {ds:List Deferred} {w:World} (h:denSeq P N ro QP (fun ρ ds w=>Q .normal ρ ds w) l ρ ds w) (hu:unguarded l=true:=by exact rfl):den P N ro (.region id l.toArray false) Q QP ρ ds w:=sim_region hu h
theorem zn:type_of% @sim_nil := @sim_nil
theorem zk:type_of% @sim_then := @sim_then
theorem zs:type_of% @sim_seq := @sim_seq
end Go.Sw
namespace Go.Sw
open Go.RowKit (Below)
structure LW (B:Nat) (w w':World):Prop where
 os:w'.os=w.os
 tape:w'.tape=w.tape
 output:w'.output=w.output
 size:w.heap.size≤w'.heap.size
 block:∀ b,b < w.heap.size→w'.heap[b]?=w.heap[b]?∨(B≤b∧((∃ r,w.heap[b]?=some (.loop r))∨∃ d,w.heap[b]?=some (.deferred d)))
theorem LW.mono {B B':Nat} {w w':World} (h:LW B w w') (hb:B'≤B):LW B' w w':=⟨h.os,h.tape,h.output,h.size,fun b hl=>(h.block b hl).imp_right fun h=>⟨by omega,h.2⟩⟩
theorem LW.of {B:Nat} {w w':World} (e:Ext w w'):LW B w w':=⟨e.os,e.tape,e.output,e.size,fun b hb => .inl (e.block b hb)⟩
theorem LW.loop {B l:Nat} {w:World} {r:Loop} (hb:B≤l) (hl:w.heap[l]?=some (.loop r)) (o:Obj):LW B w (w.putObj l o):=⟨rfl,rfl,rfl,by simp,fun b _=>by
 by_cases e:b=l
 · exact .inr ⟨by omega,.inl ⟨r,by rw [e];exact hl⟩⟩
 · exact .inl (World.putObj_heap_other e)⟩
def Lasts2 (B:Nat) (I:World→Prop):Prop:=∀ w w',LW B w w'→I w→I w'
theorem Lasts2.ext {B:Nat} {I:World→Prop} (h:Lasts2 B I) {w w':World} (hI:I w) (e:Ext w w'):I w':=h _ _ (.of e) hI
theorem Lasts2.loop {B l:Nat} {I:World→Prop} (h:Lasts2 B I) {w:World} {r:Loop} (hb:B≤l) (hI:I w) (hl:w.heap[l]?=some (.loop r)) (o:Obj):I (w.putObj l o):=h _ _ (.loop hb hl o) hI
theorem Lasts2.busied {B l:Nat} {I:World→Prop} {w w':World} (h:Lasts2 B I) (hb:Busied l w w') (hl:B≤l) (hI:I w):I w':=by
 obtain ⟨r,hr,rfl⟩:=hb
 exact h.loop hl hI hr _
theorem Lasts2.mono {B B':Nat} {I:World→Prop} (h:Lasts2 B I) (hb:B≤B'):Lasts2 B' I:=fun _ _ hl=>h _ _ (hl.mono hb)
theorem Lasts2.and {B:Nat} {I J:World→Prop} (h:Lasts2 B I) (k:Lasts2 B J):Lasts2 B (fun w=>I w∧J w):=fun w w' hl hh=>⟨h _ _ hl hh.1,k _ _ hl hh.2⟩
theorem Lasts2.ex {B:Nat} {α:Sort _} {I:α→World→Prop} (h:∀ x,Lasts2 B (I x)):Lasts2 B (fun w=>∃ x,I x w):=fun w w' hl ⟨x,hx⟩=>⟨x,h x _ _ hl hx⟩
theorem Lasts2.const (B:Nat) (p:Prop):Lasts2 B (fun _=>p):=fun _ _ _ h=>h
theorem Lasts2.from {B:Nat} {w0:World} (hb:w0.heap.size≤B):Lasts2 B (Ext w0):=fun w w' hl e=>⟨hl.os.trans e.os,hl.tape.trans e.tape,hl.output.trans e.output,Nat.le_trans e.size hl.size,fun k hk=>by
 have:=e.size
 rcases hl.block k (by omega) with h | ⟨h,_⟩
 · rw [h];exact e.block k hk
 · omega⟩
theorem Lasts2.has (B:Nat) {b:Nat} {o:Obj} (h1:∀ r,o ≠ .loop r) (h2:∀ d,o ≠ .deferred d):Lasts2 B (fun w=>w.heap[b]?=some o):=fun w w' hl h=>by
 rcases hl.block b (Array.getElem?_eq_some_iff.1 h).1 with e | ⟨_,⟨r,e⟩ | ⟨d,e⟩⟩
 · rw [e];exact h
 · rw [h] at e;injection e with e;exact absurd e (h1 r)
 · rw [h] at e;injection e with e;exact absurd e (h2 d)
theorem Lasts2.low {B b:Nat} (hb:b < B) (o:Obj):Lasts2 B (fun w=>w.heap[b]?=some o):=fun w w' hl h=>by
 rcases hl.block b (Array.getElem?_eq_some_iff.1 h).1 with e | ⟨e,_⟩
 · rw [e];exact h
 · omega
def KR (B:Nat) (w w':World):Prop:=w.heap.size≤w'.heap.size∧(∀ (b:Nat) (r:Loop),w.heap[b]?=some (.loop r)→∃ st p,w'.heap[b]?=some (.loop { r with state:=st,pending:=p })) ∧
 (∀ (b:Nat),w.heap[b]?=some (.deferred (some []))→w'.heap[b]?=some (.deferred (some [])))∧∀ (b:Nat),B≤b→b < w.heap.size→(∀ r,w.heap[b]?≠some (.loop r))→w'.heap[b]?=w.heap[b]?
section
variable {B:Nat} {w w1 w2:World}
theorem KR.refl (B:Nat) (w:World):KR B w w:=⟨Nat.le_refl _,fun b r h=>⟨r.state,r.pending,h⟩,fun _ h=>h,fun _ _ _ _=>rfl⟩
theorem KR.of (e:Ext w w1):KR B w w1:=⟨e.size,fun b r h=>⟨r.state,r.pending,e.obj h⟩,fun _ h=>e.obj h,fun b _ hl _=>e.block b hl⟩
theorem KR.setCell (h:KR B w w1) (b o:Nat) (v:Value) (hb:b < B∨w.heap.size≤b):KR B w (w1.setCell ⟨b,o,none⟩ v):=⟨by simpa using h.1,fun b r hb=>by
 obtain ⟨st,p,h1⟩:=h.2.1 b r hb
 exact ⟨st,p,(KeepsOthers.setCell w1 _ v).same _ _ h1 rfl⟩,fun b hb=>(KeepsOthers.setCell w1 _ v).same _ _ (h.2.2.1 b hb) rfl,fun b' hb' hl hr=>by
 rw [heap_setE (by omega)];exact h.2.2.2 b' hb' hl hr⟩
theorem KR.turn {l:Nat} {r:Loop} (hl:w.heap[l]?=some (.loop r)) (st:LoopState) (p:Option Code):KR B w (w.putObj l (.loop { r with state:=st,pending:=p })):=⟨by simp,fun b r' hb=>by
 by_cases e:b=l
 · subst e
   rw [hl] at hb;injection hb with hb;injection hb with hb;subst hb
   exact ⟨st,p,World.putObj_heap_same (Array.getElem?_eq_some_iff.1 hl).1⟩
 · rw [World.putObj_heap_other e];exact ⟨r'.state,r'.pending,hb⟩,fun b hb=>by
 by_cases e:b=l
 · subst e;rw [hl] at hb;cases hb
 · rw [World.putObj_heap_other e];exact hb,fun b _ _ hr=>by
 by_cases e:b=l
 · subst e;exact absurd hl (hr _)
 · rw [World.putObj_heap_other e]⟩
theorem KR.busied {l:Nat} (h:Busied l w w1):KR B w w1:=by
 obtain ⟨r,hr,rfl⟩:=h
 exact KR.turn hr .busy r.pending
end
def Firm (B:Nat) (R:World→Prop):Prop:=∀ w w',KR B w w'→R w→R w'
theorem RecAt.firm (rec:Loop) (B b:Nat):Firm B (RecAt rec b):=fun w w' h ⟨h1,st,p,h2⟩=>by
 obtain ⟨st',p',h3⟩:=h.2.1 _ _ h2
 exact ⟨h.2.2.1 _ h1,st',p',h3⟩
theorem Firm.and {B:Nat} {R S:World→Prop} (h:Firm B R) (k:Firm B S):Firm B (fun w=>R w∧S w):=fun w w' e hh=>⟨h _ _ e hh.1,k _ _ e hh.2⟩
theorem Firm.true {B:Nat}:Firm B (fun _=>True):=fun _ _ _ _=>trivial
def SeqIt2 (P:Program) (f:FuncId) (caps:Array Value) (n:Nat) (xs ys:Nat→Value) (FP:World→Prop):Prop :=
 ∀ (yv:Value) (J:Nat→World→Prop) (Jx:World→Prop) (Jp:List PanicEntry→World→Prop) (w:World),yv.oneCell'=true→(∀ k w,J k w→FP w)→(∀ k,Lasts2 w.heap.size (J k))→Lasts2 w.heap.size Jx→(∀ ch,Lasts2 w.heap.size (Jp ch)) →
  (∀ k,k < n→∀ Rk,Firm w.heap.size Rk→∀ w,J k w→Rk w→callV P yv #[xs k,ys k] (fun ch w'=>Rk w'∧Jp ch w') w (fun v w'=>Rk w'∧((v = .bool true∧J (k+1) w')∨(v = .bool false∧Jx w'))))→J 0 w →
  Calls P f (#[yv]++caps) w (fun e w'=>match e with
   | .returned _=>J n w'∨Jx w'
   | .panicked ch=>Jp ch w'
   | .outgrown=>False)
def rangeN2 (P:Program) (fv:Value) (ds:List Deferred) (body:Nat→Value→Value→World→(World→Prop)→(Nat→World→Prop)→(List PanicEntry→World→Prop)→Prop) (QP:List PanicEntry→List Deferred→World→Prop) (w:World)
 (k:List Deferred→World→Prop) (kx:List (List Deferred→World→Prop)):Prop :=
 ∃ (f:FuncId) (caps:Array Value) (n:Nat) (xs ys:Nat→Value) (FP:World→Prop) (I:Nat→World→Prop) (Ix:Nat→World→Prop) (Ip:List PanicEntry→World→Prop),
  fv = .func (.func f) #[] caps∧Callable P f∧SeqIt2 P f caps n xs ys FP∧I 0 w∧(∀ k w,I k w→FP w)∧(∀ k,Lasts2 w.heap.size (I k))∧(∀ c,Lasts2 w.heap.size (Ix c))∧(∀ ch,Lasts2 w.heap.size (Ip ch)) ∧
  (∀ (Rk:World→Prop),Firm (w.heap.size+1+1) Rk→∀ (j:Nat) (w':World),j < n→I j w'→Rk w'→w.heap.size+1 < w'.heap.size→ReadyAt (w.heap.size+1) w' →
   body (w.heap.size+1) (xs j) (ys j) w' (fun w''=>Rk w''∧I (j+1) w'') (fun c w''=>Rk w''∧Ix c w'') (fun ch w''=>Rk w''∧Ip ch w'')) ∧
  (∀ w',I n w'→MarkAt w.heap.size w'→k (mark w.heap.size::ds) w') ∧
  (∀ c w',Ix c w'→MarkAt w.heap.size w'→nthK kx c (mark w.heap.size::ds) w') ∧
  (∀ ch w',Ip ch w'→MarkAt w.heap.size w'→QP ch (mark w.heap.size::ds) w')
section
variable {P:Program} {N:Nat}
theorem sim_range2 {g:Operand} {p p2:Nat} {asg body:Code} {Q:K} {QP:KP} {ρ:Env} {ds:List Deferred} {w:World} {fv:Value} {nbody:Nat→Value→Value→World→(World→Prop)→(Nat→World→Prop)→(List PanicEntry→World→Prop)→Prop} {QPn:List PanicEntry→List Deferred→World→Prop}
 {k:List Deferred→World→Prop} {kx:List (List Deferred→World→Prop)} (js:List Code) (h:rangeN2 P fv ds nbody QPn w k kx) (hg:ev ρ g=fv)
 (hbody:∀ l x y w K X QPr,nbody l x y w K X QPr→den P N (some l) asg (thenK (fun ρ' ds' w'=>ds'=[]∧busyK l w' (fun w''=>den P N (some l) body (roundK js K X) (roundQP QPr) ρ' [] w'')) (fun _ _ _ _=>False)) (fun _ _ _ _=>False) (put N (put N ρ (some p) x) (some p2) y) [] w)
 (hk:∀ ds w,k ds w→Q .normal ρ ds w) (hx:∀ c ds w,nthK kx c ds w→∃ code,js[c]?=some code∧((code = .ret∧Q .ret ρ ds w)∨(∃ id,code = .exit id∧Q (.exit id) ρ ds w))) (hp:∀ ch ds w,QPn ch ds w→QP ch ρ ds w) :
 den P N none (.rangeFunc g #[p,p2] asg body) Q QP ρ ds w:=by
 intro a ha hds
 subst hds
 obtain ⟨f,caps,n,xs,ys,FP,I,Ix,Ip,hfv,hcal,hseq,h0,hFP,hL,hLx,hLp,hround,hend,hjump,hpan⟩:=h
 refine wpV_rangeFunc fun fn hfn=>?_
 obtain ⟨rec,hrec⟩:∃ rec:Loop,rec={ state := .ready,pending:=none,fn,tmps:=a.tmps,params := #[p,p2],assign:=asg,body,defers:=w.heap.size }:=⟨_,rfl⟩
 obtain ⟨W1,hW1⟩:∃ W1,(w.alloc (.deferred (some []))).alloc (.loop rec)=W1:=⟨_,rfl⟩
 have hE1:Ext w W1:=by rw [← hW1];exact ((Ext.refl w).alloc _).alloc _
 have hW1s:W1.heap.size=w.heap.size+1+1:=by rw [← hW1];simp
 have hL1:W1.heap[w.heap.size+1]?=some (.loop rec):=by
  rw [← hW1];have:=World.alloc_heap_new (w.alloc (.deferred (some []))) (.loop rec);rwa [World.size_alloc] at this
 have hK1:MarkAt w.heap.size W1:=by
  rw [← hW1];exact MarkAt.alloc (World.alloc_heap_new w _) _
 have hev:a.eval g=fv:=by rw [ha.eval];exact hg
 refine ⟨w.heap.size+1,[mark w.heap.size],W1,{ target := .fn (.func f) caps,args := #[.func (.yield (w.heap.size+1)) #[] #[]] },W1,f,#[.func (.yield (w.heap.size+1)) #[] #[]]++caps,W1,?_,?_,?_,?_⟩
 · rw [← hW1,hrec];exact run_enterLoop_outer _ _ _ _ _
 · simp only [resolve,hev,hfv]
   simp [go_sem]
 · simp only [invoke]
   exact callFunc_run hcal _ _
 · refine Calls.mono (hseq (.func (.yield (w.heap.size+1)) #[] #[]) (fun j w'=>I j w'∧MarkAt w.heap.size w'∧∃ p,w'.heap[w.heap.size+1]?=some (.loop { rec with state := .ready,pending:=p })∧p=none)
    (fun w'=>MarkAt w.heap.size w'∧∃ c code,Ix c w'∧js[c]?=some code∧w'.heap[w.heap.size+1]?=some (.loop { rec with state := .done,pending:=some code }))
    (fun ch w'=>MarkAt w.heap.size w'∧Ip ch w') W1 rfl (fun j w' hj=>hFP j w' hj.1) (fun j=>((hL j).mono (by omega)).and ((Lasts2.low (by omega) _).and (.ex fun q=>(Lasts2.low (by omega) _).and (.const _ _))))
    ((Lasts2.low (by omega) _).and (.ex fun c => .ex fun code=>((hLx c).mono (by omega)).and ((Lasts2.const _ _).and (Lasts2.low (by omega) _)))) (fun ch=>(Lasts2.low (by omega) _).and ((hLp ch).mono (by omega))) ?_ ⟨(hL 0).ext h0 hE1,hK1,none,by rw [hL1,hrec],rfl⟩) ?_
   · rintro j hj Rk hF w' ⟨hi,hm,q,hl,rfl⟩ hR
     have hlt:w.heap.size+1 < w'.heap.size:=(Array.getElem?_eq_some_iff.1 hl).1
     have hy:=run_yield (P:=P) (args := #[xs j,ys j]) hl (by rw [hrec];rfl)
     show onNext P _ _ _ _
     have hcs:callS (.func (.yield (w.heap.size+1)) #[] #[]) #[xs j,ys j]=Instr.yield (w.heap.size+1) #[xs j,ys j]:=by
      simp [callS,Deferred.ofValue,invoke,go_sem,bind,pure,Sem.bind]
     rw [hcs,hy]
     have key:∀ R,wpV (some (w.heap.size+1)) P asg (Exit.then (fun a₁ w₁=>∃ w₂,(Instr.beginRound (w.heap.size+1)).run P w₁ = .ok () w₂∧wpV (some (w.heap.size+1)) P body (endV P (w.heap.size+1) R) a₁ w₂) (fun _ _ _=>False)) { tmps:=((#[p,p2].zip #[xs j,ys j]).foldl (fun tmps (t,a)=>tmps.setIfInBounds t a) a.tmps),defers:=[] } w' →
      RoundV P (w.heap.size+1) rec.fn ((rec.params.zip #[xs j,ys j]).foldl (fun tmps (t,a)=>tmps.setIfInBounds t a) rec.tmps) rec.assign rec.body w' R:=by
      intro R h;rw [hrec];exact roundV_of_wpV hfn h
     refine key _ ?_
     have hb:=hbody _ _ _ _ _ _ _ (hround _ ((RecAt.firm rec _ w.heap.size).and (hW1s ▸ hF)) j w' hj hi ⟨⟨hm,_,_,hl⟩,hR⟩ hlt ⟨_,hl,rfl⟩)
     have hagr:Agrees N ({ tmps:=((#[p,p2].zip #[xs j,ys j]).foldl (fun tmps (t,a)=>tmps.setIfInBounds t a) a.tmps),defers:=[] }:Act) (put N (put N ρ (some p) (xs j)) (some p2) (ys j)):=by
      have:=((Agrees.defers ha []).put (some p) (xs j)).put (some p2) (ys j)
      simpa [Act.put] using this
     refine wpV_mono (den_sound asg _ _ _ _ _ hagr hb) ?_
     intro e a1 w1 hl1
     cases e with
     | panic ch=>obtain ⟨_,_,hf⟩:=hl1;exact hf.elim
     | outgrown=>exact hl1
     | exit id=>obtain ⟨_,_,_,hf⟩:=hl1;exact hf.elim
     | goto l=>obtain ⟨_,_,_,hf⟩:=hl1;exact hf.elim
     | ret=>obtain ⟨_,_,_,hf⟩:=hl1;exact hf.elim
     | normal =>
      obtain ⟨ρ1,ha1,_,hd1,hbz⟩:=hl1
      obtain ⟨⟨r,hr1,hr2⟩,hbz⟩:=hbz
      refine ⟨_,run_beginRound hr1 hr2,?_⟩
      rw [show a1={ a1 with defers:=[] } by rw [← hd1]]
      refine wpV_mono (den_sound body _ _ _ _ _ (Agrees.defers ha1 []) (hbz _ ⟨_,hr1,rfl⟩)) ?_
      have fin:∀ (jump:Option Code) (w2:World),RecAt rec w.heap.size w2→(Instr.endRound (w.heap.size+1) jump).run P w2 = .ok (.bool jump.isNone) (w2.putObj (w.heap.size+1) (.loop { rec with state:=if jump.isNone then .ready else .done,pending:=jump })) ∧
       (w2.putObj (w.heap.size+1) (.loop { rec with state:=if jump.isNone then .ready else .done,pending:=jump })).heap[w.heap.size+1]?=some (.loop { rec with state:=if jump.isNone then .ready else .done,pending:=jump }) ∧
       MarkAt w.heap.size (w2.putObj (w.heap.size+1) (.loop { rec with state:=if jump.isNone then .ready else .done,pending:=jump })):=by
       rintro jump w2 ⟨hm2,st,q,hq⟩
       refine ⟨by have:=run_endRound (P:=P) jump hq;exact this,World.putObj_heap_same (Array.getElem?_eq_some_iff.1 hq).1,?_⟩
       unfold MarkAt
       rw [World.putObj_heap_other (by omega)];exact hm2
      intro e a2 w2 hl2
      cases e with
      | normal =>
       obtain ⟨_,_,_,_,⟨hrec2,hR2⟩,hi2⟩:=hl2
       obtain ⟨f1,f2,f3⟩:=fin none w2 hrec2
       obtain ⟨_,st,q,hq⟩:=hrec2
       exact ⟨_,_,f1,hF _ _ (KR.turn hq _ _) hR2,.inl ⟨rfl,(hL _).loop (Nat.le_succ _) hi2 hq _,f3,none,f2,rfl⟩⟩
      | ret =>
       obtain ⟨_,_,_,_,c,hc,⟨hrec2,hR2⟩,hi2⟩:=hl2
       obtain ⟨f1,f2,f3⟩:=fin (some .ret) w2 hrec2
       obtain ⟨_,st,q,hq⟩:=hrec2
       exact ⟨_,_,f1,hF _ _ (KR.turn hq _ _) hR2,.inr ⟨rfl,f3,c,_,(hLx _).loop (Nat.le_succ _) hi2 hq _,hc,f2⟩⟩
      | exit id =>
       obtain ⟨_,_,_,_,c,hc,⟨hrec2,hR2⟩,hi2⟩:=hl2
       obtain ⟨f1,f2,f3⟩:=fin (some (.exit id)) w2 hrec2
       obtain ⟨_,st,q,hq⟩:=hrec2
       exact ⟨_,_,f1,hF _ _ (KR.turn hq _ _) hR2,.inr ⟨rfl,f3,c,_,(hLx _).loop (Nat.le_succ _) hi2 hq _,hc,f2⟩⟩
      | panic ch =>
       obtain ⟨_,_,hd2,⟨hrec2,hR2⟩,hi2⟩:=hl2
       exact ⟨hd2,hR2,hrec2.1,hi2⟩
      | goto l=>obtain ⟨_,_,_,hf⟩:=hl2;exact hf.elim
      | outgrown=>exact hl2
   · have hagr:Agrees N ({ a with defers:=[mark w.heap.size]++a.defers }:Act) ρ:=ha
     have exh:∀ (st:LoopState) (q:Option Code) (w':World),w'.heap[w.heap.size+1]?=some (.loop { rec with state:=st,pending:=q })→st ≠ .busy→MarkAt w.heap.size w' →
      (Instr.endLoop (w.heap.size+1)).run P w' = .ok q (w'.putObj (w.heap.size+1) (.loop { rec with state := .exhausted,pending:=q }))∧MarkAt w.heap.size (w'.putObj (w.heap.size+1) (.loop { rec with state := .exhausted,pending:=q })):=by
      intro st q w' hq hne hm
      refine ⟨by have:=run_endLoop (P:=P) hq hne;exact this,?_⟩
      unfold MarkAt
      rw [World.putObj_heap_other (by omega)];exact hm
     rintro e w' he
     cases e with
     | returned v =>
      rcases he with ⟨hi,hm,q,hl,rfl⟩ | ⟨hm,c,code,hi,hc,hl⟩
      · obtain ⟨e1,e2⟩:=exh _ _ w' hl (by simp) hm
        exact ⟨none,_,e1,hagr,hk _ _ (hend _ ((hL _).loop (Nat.le_succ _) hi hl _) e2)⟩
      · obtain ⟨e1,e2⟩:=exh _ _ w' hl (by simp) hm
        refine ⟨some code,_,e1,?_⟩
        obtain ⟨code',hc',hden⟩:=hx c _ _ (hjump c _ ((hLx _).loop (Nat.le_succ _) hi hl _) e2)
        rw [hc] at hc';cases hc'
        rcases hden with ⟨rfl,hq⟩ | ⟨id,rfl,hq⟩
        · exact wpV_ret ⟨hagr,hq⟩
        · exact wpV_exit ⟨hagr,hq⟩
     | panicked ch=>exact ⟨hagr,hp _ _ _ (hpan ch _ he.2 he.1)⟩
     | outgrown=>exact he.elim
end
section
variable {P:Program} {fn:Func} {R:RT} {ρ:Env} {w:World}
theorem results_runCTT {t u x:Tmp} {c:TypeId} {v:Value} (hf:fn.results = #[.cell t c,.tmp u,.tmp x]) (tmps:Array Value) (h:(do loadVar c (← asAddr (tmps.getD t undef)):Sem Value).run P w = .ok v w):(results fn tmps).run P w = .ok (.tuple #[v,tmps.getD u undef,tmps.getD x undef]) w:=by
 rw [Sem.run_bind] at h
 simp [results,hf,Sem.run_bind]
 cases hr:(asAddr (tmps.getD t undef)).run P w with
 | ok a w'=>rw [← Array.getD_eq_getD_getElem?,hr];rw [hr] at h;simp [Result.andThen] at h ⊢;rw [h]
 | halt x w'=>rw [hr] at h;simp [Result.andThen] at h
theorem body_retCTT {t u x:Tmp} {c:TypeId} {a b d:Value} (hf:fn.results = #[.cell t c,.tmp u,.tmp x]) (h1:ρ t=a) (h2:ρ u=b) (h3:ρ x=d) (h:qW P c a w fun v=>R (.returned (.tuple #[v,b,d])) w):bodyK P fn R .ret ρ [] w:=by
 obtain ⟨v,hv,h⟩:=h
 exact ⟨rfl,fun tmps ht=>⟨_,results_runCTT hf tmps (by rw [ht,h1];exact hv),by rw [ht,ht,h2,h3];exact h⟩⟩
end
end Go.Sw
namespace Go.Sw
section
variable {P:Program} {N:Nat} {ro:Option Nat} {QP:KP} {T:Env→List Deferred→World→Prop} {o:Oper} {rest:List Oper} {ρ:Env} {ds:List Deferred} {w:World} {ty:TypeId} {dst:Option Nat} {d:Nat} {pos:String} {after:Array Edge} {g:Option (Nat×Bool)} {QP':List PanicEntry→World→Prop} {k:Value→World→Prop}
theorem yv {s:Sem Value} (h:opV P s QP' w k) (hk:∀ v w,k v w→denSeq P N ro QP T rest (put N ρ o.dst v) ds w) (hs:execOp (ev ρ) o=(do pure (.value (← s))):=by exact rfl) (hd:isDefer o.op=false:=by exact rfl) (hp:∀ ch w,QP' ch w→QP ch ρ ds w:=by first | exact fun _ _ h=>⟨rfl,h⟩ | exact fun _ _ h=>outQ_of rfl h | exact fun _ _ h _ _=>⟨rfl,h⟩ | exact fun _ _ h=>outQ_ofD rfl rfl h | exact fun _ _ h=>h):denSeq P N ro QP T (o::rest) ρ ds w:=sim_val h hd hs hp hk
theorem yu {s:Sem Unit} {k:World→Prop} (h:opU P s QP' w k) (hk:∀ w,k w→denSeq P N ro QP T rest (put N ρ o.dst undef) ds w) (hs:execOp (ev ρ) o=(do s;pure .skip):=by exact rfl) (hd:isDefer o.op=false:=by exact rfl) (hp:∀ ch w,QP' ch w→QP ch ρ ds w:=by first | exact fun _ _ h=>⟨rfl,h⟩ | exact fun _ _ h=>outQ_of rfl h | exact fun _ _ h _ _=>⟨rfl,h⟩ | exact fun _ _ h=>outQ_ofD rfl rfl h | exact fun _ _ h=>h):denSeq P N ro QP T (o::rest) ρ ds w:=sim_unit h hd hs hp hk
theorem yN {s:Sem Next} (h:opN P s QP' w k) (hk:∀ v w,k v w→denSeq P N ro QP T rest (put N ρ o.dst v) ds w) (hs:execOp (ev ρ) o=s:=by exact rfl) (hd:isDefer o.op=false:=by exact rfl) (hp:∀ ch w,QP' ch w→QP ch ρ ds w:=by first | exact fun _ _ h=>⟨rfl,h⟩ | exact fun _ _ h=>outQ_of rfl h | exact fun _ _ h _ _=>⟨rfl,h⟩ | exact fun _ _ h=>outQ_ofD rfl rfl h | exact fun _ _ h=>h):denSeq P N ro QP T (o::rest) ρ ds w:=sim_next h hd hs hp hk
theorem yb {op:BinOp} {t:TypeId} {x y:Operand} {t2:TypeId} {c:Bool} {a b:Value} (h:opV P (binS op t c a b) QP' w k) (hk:∀ v w',k v w'→denSeq P N ro QP T rest (put N ρ (some d) v) ds w') (hc:(isConst x||isConst y)=c:=by exact rfl) (h1:ev ρ x=a:=by exact rfl) (h2:ev ρ y=b:=by exact rfl) (hp:∀ ch w,QP' ch w→QP ch ρ ds w:=by first | exact fun _ _ h=>⟨rfl,h⟩ | exact fun _ _ h=>outQ_of rfl h | exact fun _ _ h _ _=>⟨rfl,h⟩ | exact fun _ _ h=>outQ_ofD rfl rfl h | exact fun _ _ h=>h) :
 denSeq P N ro QP T (⟨some d,.binOp op t x y t2,ty,pos,after,g⟩::rest) ρ ds w:=sim_bin h hc h1 h2 hp hk
theorem yc {f:FuncId} {l:List Operand} {ats:Array TypeId} {args:List Value} (h:callK P f args.toArray QP' w k) (hf:Callable P f) (hk:∀ v w',k v w'→denSeq P N ro QP T rest (put N ρ dst v) ds w') (h2:l.map (ev ρ)=args:=by exact rfl) (hp:∀ ch w,QP' ch w→QP ch ρ ds w:=by first | exact fun _ _ h=>⟨rfl,h⟩ | exact fun _ _ h=>outQ_of rfl h | exact fun _ _ h _ _=>⟨rfl,h⟩ | exact fun _ _ h=>outQ_ofD rfl rfl h | exact fun _ _ h=>h) :
 denSeq P N ro QP T (⟨dst,.call ⟨.value (.func f),l.toArray,ats⟩,ty,pos,after,g⟩::rest) ρ ds w:=sim_call h hf h2 hp hk
theorem yV {fo:Operand} {l:List Operand} {ats:Array TypeId} {fv:Value} {args:List Value} (h:callV P fv args.toArray QP' w k) (hk:∀ v w',k v w'→denSeq P N ro QP T rest (put N ρ dst v) ds w') (h1:ev ρ fo=fv:=by exact rfl) (h2:l.map (ev ρ)=args:=by exact rfl) (hp:∀ ch w,QP' ch w→QP ch ρ ds w:=by first | exact fun _ _ h=>⟨rfl,h⟩ | exact fun _ _ h=>outQ_of rfl h | exact fun _ _ h _ _=>⟨rfl,h⟩ | exact fun _ _ h=>outQ_ofD rfl rfl h | exact fun _ _ h=>h) :
 denSeq P N ro QP T (⟨dst,.call ⟨.value fo,l.toArray,ats⟩,ty,pos,after,g⟩::rest) ρ ds w:=sim_callV h h1 h2 hp hk
theorem yx {b:Builtin} {l:List Operand} {ats:Array TypeId} {s:Sem Value} (h:opV P s QP' w k) (hk:∀ v w',k v w'→denSeq P N ro QP T rest (put N ρ (some d) v) ds w') (hs:builtin b ats ty ((l.map fun | .const _=>true | _=>false).toArray) (l.map (ev ρ)).toArray=(do pure (.value (← s))):=by exact rfl) (hp:∀ ch w,QP' ch w→QP ch ρ ds w:=by first | exact fun _ _ h=>⟨rfl,h⟩ | exact fun _ _ h=>outQ_of rfl h | exact fun _ _ h _ _=>⟨rfl,h⟩ | exact fun _ _ h=>outQ_ofD rfl rfl h | exact fun _ _ h=>h) :
 denSeq P N ro QP T (⟨some d,.call ⟨.builtin b,l.toArray,ats⟩,ty,pos,after,g⟩::rest) ρ ds w:=sim_builtin h hs hp hk
theorem yB {t:TypeId} {ps:List (Nat×Operand)} {vs:List (Nat×Value)} (h:opV P (Instr.build t vs.toArray) QP' w k) (hk:∀ v w',k v w'→denSeq P N ro QP T rest (put N ρ (some d) v) ds w') (h2:(ps.map fun (i,x)=>(i,ev ρ x))=vs:=by exact rfl) (hp:∀ ch w,QP' ch w→QP ch ρ ds w:=by first | exact fun _ _ h=>⟨rfl,h⟩ | exact fun _ _ h=>outQ_of rfl h | exact fun _ _ h _ _=>⟨rfl,h⟩ | exact fun _ _ h=>outQ_ofD rfl rfl h | exact fun _ _ h=>h) :
 denSeq P N ro QP T (⟨some d,.build t ps.toArray,ty,pos,after,g⟩::rest) ρ ds w:=sim_build h h2 hp hk
theorem yS {t:TypeId} {n:Nat} {ps:List (Nat×Operand)} {vs:List (Nat×Value)} (h:opV P (Instr.buildSlice t n vs.toArray) QP' w k) (hk:∀ v w',k v w'→denSeq P N ro QP T rest (put N ρ (some d) v) ds w') (h2:(ps.map fun (i,x)=>(i,ev ρ x))=vs:=by exact rfl) (hp:∀ ch w,QP' ch w→QP ch ρ ds w:=by first | exact fun _ _ h=>⟨rfl,h⟩ | exact fun _ _ h=>outQ_of rfl h | exact fun _ _ h _ _=>⟨rfl,h⟩ | exact fun _ _ h=>outQ_ofD rfl rfl h | exact fun _ _ h=>h) :
 denSeq P N ro QP T (⟨some d,.buildSlice t n ps.toArray,ty,pos,after,g⟩::rest) ρ ds w:=sim_buildSlice h h2 hp hk
theorem yF {fn:Fn} {fs cs:List Operand} {vf vs:List Value} (h:opV P (Instr.makeFunc fn vf.toArray vs.toArray) QP' w k) (hk:∀ v w',k v w'→denSeq P N ro QP T rest (put N ρ (some d) v) ds w') (h1:fs.map (ev ρ)=vf:=by exact rfl) (h2:cs.map (ev ρ)=vs:=by exact rfl) (hp:∀ ch w,QP' ch w→QP ch ρ ds w:=by first | exact fun _ _ h=>⟨rfl,h⟩ | exact fun _ _ h=>outQ_of rfl h | exact fun _ _ h _ _=>⟨rfl,h⟩ | exact fun _ _ h=>outQ_ofD rfl rfl h | exact fun _ _ h=>h) :
 denSeq P N ro QP T (⟨some d,.makeFunc fn fs.toArray cs.toArray,ty,pos,after,g⟩::rest) ρ ds w:=sim_makeFunc h h1 h2 hp hk
theorem yp {c a b:Operand} {vc va vb:Value} {k:Value→Prop} (h:pickK vc va vb k) (hk:∀ v,k v→denSeq P N ro QP T rest (put N ρ (some d) v) ds w) (h1:ev ρ c=vc:=by exact rfl) (h2:ev ρ a=va:=by exact rfl) (h3:ev ρ b=vb:=by exact rfl):denSeq P N ro QP T (⟨some d,.pick c a b,ty,pos,after,g⟩::rest) ρ ds w:=sim_pick h h1 h2 h3 hk
theorem yt {S:List Nat} {J G:Env→World→Prop} {C:World→Prop} (hT:∀ ρ' w,Fr S ρ ρ'→C w→J ρ' w→G ρ' w) {ρ':Env} {w:World} (hC:C w) (h:J ρ' w) (hf:Fr S ρ ρ':=by repeat (first | exact Fr.refl _ _ | refine Fr.put rfl ?_ | refine Fr.put_none ?_ | refine Fr.mix rfl ?_ | refine Fr.skipAll rfl ?_)):G ρ' w:=hT ρ' w hf hC h
end
section
variable {P:Program} {N:Nat} {ro:Option Nat} {ops:Array Oper} {Q:Env→List Deferred→World→Prop} {QP0:List PanicEntry→List Deferred→World→Prop} {QP:KP} {C:World→Prop} {fuel:Nat} {done:List Nat} {o:Oper} {ρ:Env} {ds:List Deferred} {w:World}
theorem ye (i:Nat) {k:Value→Prop} (hC:C w) {s:Sem Value} (h:qV P C s k) (hk:∀ v,k v→denD P N ro ops Q (fun ch _ ds w=>QP0 ch ds w) C fuel (i::done) (put N ρ o.dst v) ds w) (hi:ops[i]?=some o:=by exact rfl) (hr:(readyL ops done).contains i=true:=by kernel_rfl) (hf:freeB ops done i=true:=by kernel_rfl) (hg:∀ p q,guardO ops o ρ p q=p:=by first | exact fun _ _=>rfl | exact fun _ _=>guardP_true (by assumption)) (hd:isDefer o.op=false:=by exact rfl) (hs:∀ v,(∀ w,C w→s.run P w = .ok v w)→∀ w,C w→(execOp (ev ρ) o).run P w = .ok (.value v) w:=by first | exact fun _ h=>qV_run rfl h | exact fun _ h=>qV_bin rfl rfl rfl h | exact fun _ h=>qV_builtin rfl h | exact fun _ h=>qV_build rfl h | exact fun _ h=>qV_makeFunc rfl rfl h) :
 denD P N ro ops Q (fun ch _ ds w=>QP0 ch ds w) C (fuel+1) done ρ ds w:=let ⟨v,hv,hkv⟩:=h;sim_dsilent i hC hi hr hf hg hd (hs v hv) (hk v hkv)
theorem yn (i:Nat) {k:Value→Prop} (hC:C w) {s:Sem Next} (h:qN P C s k) (hk:∀ v,k v→denD P N ro ops Q (fun ch _ ds w=>QP0 ch ds w) C fuel (i::done) (put N ρ o.dst v) ds w) (hi:ops[i]?=some o:=by exact rfl) (hr:(readyL ops done).contains i=true:=by kernel_rfl) (hf:freeB ops done i=true:=by kernel_rfl) (hg:∀ p q,guardO ops o ρ p q=p:=by first | exact fun _ _=>rfl | exact fun _ _=>guardP_true (by assumption)) (hd:isDefer o.op=false:=by exact rfl) (hs:execOp (ev ρ) o=s:=by exact rfl) :
 denD P N ro ops Q (fun ch _ ds w=>QP0 ch ds w) C (fuel+1) done ρ ds w:=let ⟨v,hv,hkv⟩:=h;sim_dsilent i hC hi hr hf hg hd (qN_run hs hv) (hk v hkv)
theorem yw (i:Nat) {v:Value} (hC:C w) (h:denD P N ro ops Q (fun ch _ ds w=>QP0 ch ds w) C fuel (i::done) (put N ρ o.dst v) ds w) (hi:ops[i]?=some o:=by exact rfl) (hr:(readyL ops done).contains i=true:=by kernel_rfl) (hf:freeB ops done i=true:=by kernel_rfl) (hg:∀ p q,guardO ops o ρ p q=p:=by first | exact fun _ _=>rfl | exact fun _ _=>guardP_true (by assumption)) (hd:isDefer o.op=false:=by exact rfl) (hs:execOp (ev ρ) o=Sem.pure (.value v):=by exact rfl) :
 denD P N ro ops Q (fun ch _ ds w=>QP0 ch ds w) C (fuel+1) done ρ ds w:=sim_dsilent i hC hi hr hf hg hd (move_run hs) h
theorem yi (i:Nat) (hC:C w) (h:denD P N ro ops Q (fun ch _ ds w=>QP0 ch ds w) C fuel (i::done) (put N ρ o.dst undef) ds w) (hi:ops[i]?=some o:=by exact rfl) (hr:(readyL ops done).contains i=true:=by kernel_rfl) (hf:freeB ops done i=true:=by kernel_rfl) (hg:∀ p q,guardO ops o ρ p q=q:=by exact fun _ _=>guardP_false (by assumption)) :
 denD P N ro ops Q (fun ch _ ds w=>QP0 ch ds w) C (fuel+1) done ρ ds w:=sim_dskip i hC hi hr hf hg h
theorem yP (i:Nat) {c a b:Operand} {d:Nat} {ty:TypeId} {pos:String} {after:Array Edge} {g:Option (Nat×Bool)} {vc va vb:Value} {k:Value→Prop} (hC:C w) (h:pickK vc va vb k) (hk:∀ v,k v→denD P N ro ops Q (fun ch _ ds w=>QP0 ch ds w) C fuel (i::done) (put N ρ (some d) v) ds w) (hi:ops[i]?=some ⟨some d,.pick c a b,ty,pos,after,g⟩:=by exact rfl) (hr:(readyL ops done).contains i=true:=by kernel_rfl) (hf:freeB ops done i=true:=by kernel_rfl) (hg:∀ p q,guardO ops ⟨some d,.pick c a b,ty,pos,after,g⟩ ρ p q=p:=by first | exact fun _ _=>rfl | exact fun _ _=>guardP_true (by assumption)) (h1:ev ρ c=vc:=by exact rfl) (h2:ev ρ a=va:=by exact rfl) (h3:ev ρ b=vb:=by exact rfl) :
 denD P N ro ops Q (fun ch _ ds w=>QP0 ch ds w) C (fuel+1) done ρ ds w:=by
 obtain ⟨t,ht,h⟩:=pickK_elim h
 exact sim_dsilent i hC hi hr hf hg rfl (pick_run (h1.trans ht) h2 h3) (hk _ h)
theorem yo (i:Nat) (h:denSeq P N ro QP (fun ρ ds w=>C w∧denD P N ro ops Q QP C fuel (i::done) ρ ds w) [o] ρ ds w) (hi:ops[i]?=some o:=by exact rfl) (hr:readyL ops done=[i]:=by kernel_rfl) (hg:∀ p q,guardO ops o ρ p q=p:=by first | exact fun _ _=>rfl | exact fun _ _=>guardP_true (by assumption)):denD P N ro ops Q QP C (fuel+1) done ρ ds w:=sim_dloud i hi hr hg h
theorem yr (i:Nat) (h:denSeq P N ro QP (fun ρ ds w=>∃ C':World→Prop,(∀ x,C' x→C x)∧C' w∧denD P N ro ops Q QP C' fuel (i::done) ρ ds w) [o] ρ ds w) (hi:ops[i]?=some o:=by exact rfl) (hr:readyL ops done=[i]:=by kernel_rfl) (hg:∀ p q,guardO ops o ρ p q=p:=by first | exact fun _ _=>rfl | exact fun _ _=>guardP_true (by assumption)):denD P N ro ops Q QP C (fuel+1) done ρ ds w:=sim_dnarrow i hi hr hg h
theorem yq (i n:Nat) (h:denSeq P N ro QP (fun ρ ds w=>∃ C':World→Prop,C' w∧denD P N ro ops Q QP C' fuel (i::done) ρ ds w) [o] ρ ds w) (hi:ops[i]?=some o:=by exact rfl) (hr:readyL ops done=[i]:=by kernel_rfl) (hm:mayTurn ops n done i=true:=by kernel_rfl) (hg:∀ p q,guardO ops o ρ p q=p:=by first | exact fun _ _=>rfl | exact fun _ _=>guardP_true (by assumption)):denD P N ro ops Q QP C (fuel+1) done ρ ds w:=sim_dturn i n hi hr hm hg h
theorem yz (h:Q ρ ds w) (hr:readyL ops done=[]:=by kernel_rfl):denD P N ro ops Q QP C fuel done ρ ds w:=sim_dend hr h
theorem yh (S:List Nat) {id:Nat} {l:List Oper} {Q:K} {f:(World→Prop)→World→Prop} (h:drawK w f) (hk:∀ C:World→Prop,C (drew w)→f C (drew w)→denD P N ro l.toArray (Q .normal) (fun ch _ ds w=>∀ ρ',Fr S ρ ρ'→QP ch ρ' ds w) C l.length [] ρ ds (drew w)) (hm:P.follows .mixedOrders=true:=by kernel_rfl) (hS:l.all (fun o=>match o.dst with | some d=>S.contains d | none=>true)=true:=by kernel_rfl):den P N ro (.region id l.toArray true) Q QP ρ ds w:=let ⟨C,hC,hf⟩:=h;sim_draw S hm hS C (hk C hC hf)
theorem yj1 (fuel':Nat) (done' S:List Nat) (x0:Nat) {K0:Value→World→Prop} {A B:(Value→World→Prop)→Prop} {v:Value} {want:Bool} (h:joinK K0 fun K=>guardP v want (A K) (B K))
 (h1:∀ K:Value→World→Prop,(∀ ρ' w,Fr S ρ ρ'→C w→K (ρ' x0) w→denD P N ro ops Q QP C fuel' done' ρ' ds w)→boolOf v=some want→A K→denD P N ro ops Q QP C fuel done ρ ds w) (h2:∀ K:Value→World→Prop,(∀ ρ' w,Fr S ρ ρ'→C w→K (ρ' x0) w→denD P N ro ops Q QP C fuel' done' ρ' ds w)→boolOf v≠some want→B K→denD P N ro ops Q QP C fuel done ρ ds w)
 (hJ:∀ σ w,C w→K0 (σ x0) w→denD P N ro ops Q QP C fuel' done' (mix S ρ σ) ds w):denD P N ro ops Q QP C fuel done ρ ds w :=
 sim_djoin fuel' done' S (fun ρ w=>K0 (ρ x0) w) (fun _ hT=>(guardP_cases h).elim (fun h=>h1 K0 hT h.1 h.2) (fun h=>h2 K0 hT h.1 h.2)) hJ
end
section
variable {P:Program} {N:Nat} {ro:Option Nat} {c:Code} {Q:K} {QP:KP} {ρ:Env} {ds:List Deferred} {w:World}
theorem yl0 (W:List Nat) {body:World→(World→Prop)→Prop} (h:loop0 body w) (hr:∀ σ w (k:World→Prop),body w k→den P N ro c (thenK (fun ρ' ds' w'=>ds'=ds∧k w') Q) QP (mix W ρ σ) ds w) (hW:((writes c).all (W.contains ·)&&W.all ((writes c).contains ·))=true:=by kernel_rfl):den P N ro (.loop c) Q QP ρ ds w:=by
 obtain ⟨I,μ,hi,hb⟩:=h
 exact sim_loop W hW (fun ρ w=>I w) (fun ρ w=>μ w) hi fun σ w hI=>hr σ w _ (hb _ hI)
theorem yl1 (W:List Nat) (x0:Nat) {body:Value→World→(Value→World→Prop)→Prop} {a0:Value} (h:loop1 body a0 w) (hr:∀ σ w (k:Value→World→Prop),body (σ x0) w k→den P N ro c (thenK (fun ρ' ds' w'=>ds'=ds∧k (ρ' x0) w') Q) QP (mix W ρ σ) ds w) (hW:((writes c).all (W.contains ·)&&W.all ((writes c).contains ·))=true:=by kernel_rfl) (h0:ρ x0=a0:=by exact rfl):den P N ro (.loop c) Q QP ρ ds w:=by
 obtain ⟨I,μ,hi,hb⟩:=h
 subst h0
 exact sim_loop W hW (fun ρ w=>I (ρ x0) w) (fun ρ w=>μ (ρ x0) w) hi fun σ w hI=>hr σ w _ (hb _ _ hI)
theorem yL1 (W:List Nat) (x0:Nat) {body:List Deferred→Value→World→(List Deferred→Value→World→Prop)→Prop} {a0:Value} (h:loopM1 body ds a0 w) (hr:∀ σ ds w (k:List Deferred→Value→World→Prop),body ds (σ x0) w k→den P N ro c (thenK (fun ρ' ds' w'=>k ds' (ρ' x0) w') Q) QP (mix W ρ σ) ds w) (hW:((writes c).all (W.contains ·)&&W.all ((writes c).contains ·))=true:=by kernel_rfl) (h0:ρ x0=a0:=by exact rfl):den P N ro (.loop c) Q QP ρ ds w:=by
 obtain ⟨I,μ,hi,hb⟩:=h
 subst h0
 exact sim_loopM W hW (fun ρ ds w=>I ds (ρ x0) w) (fun ρ w=>μ (ρ x0) w) hi fun σ ds w hI=>hr σ ds w _ (hb _ _ _ hI)
theorem yl2 (W:List Nat) (x0 x1:Nat) {body:Value→Value→World→(Value→Value→World→Prop)→Prop} {a0 a1:Value} (h:loop2 body a0 a1 w) (hr:∀ σ w (k:Value→Value→World→Prop),body (σ x0) (σ x1) w k→den P N ro c (thenK (fun ρ' ds' w'=>ds'=ds∧k (ρ' x0) (ρ' x1) w') Q) QP (mix W ρ σ) ds w) (hW:((writes c).all (W.contains ·)&&W.all ((writes c).contains ·))=true:=by kernel_rfl) (h0:ρ x0=a0:=by exact rfl) (h1:ρ x1=a1:=by exact rfl):den P N ro (.loop c) Q QP ρ ds w:=by
 obtain ⟨I,μ,hi,hb⟩:=h
 subst h0 h1
 exact sim_loop W hW (fun ρ w=>I (ρ x0) (ρ x1) w) (fun ρ w=>μ (ρ x0) (ρ x1) w) hi fun σ w hI=>hr σ w _ (hb _ _ _ hI)
theorem yJ0 (S:List Nat) {K0:World→Prop} {f:(World→Prop)→Prop} (h:joinK K0 f) (hc:∀ (K:World→Prop) (k':Env→List Deferred→World→Prop),(∀ ρ' w,Fr S ρ ρ'→K w→k' ρ' ds w)→f K→den P N ro c (thenK k' Q) QP ρ ds w) (hJ:∀ σ w,K0 w→Q .normal (mix S ρ σ) ds w):den P N ro c Q QP ρ ds w :=
 sim_joinQ S (fun ρ w=>K0 w) (fun k' hk=>hc K0 k' hk h) hJ
theorem yJ1 (S:List Nat) (x0:Nat) {K0:Value→World→Prop} {f:(Value→World→Prop)→Prop} (h:joinK K0 f) (hc:∀ (K:Value→World→Prop) (k':Env→List Deferred→World→Prop),(∀ ρ' w,Fr S ρ ρ'→K (ρ' x0) w→k' ρ' ds w)→f K→den P N ro c (thenK k' Q) QP ρ ds w) (hJ:∀ σ w,K0 (σ x0) w→Q .normal (mix S ρ σ) ds w):den P N ro c Q QP ρ ds w :=
 sim_joinQ S (fun ρ w=>K0 (ρ x0) w) (fun k' hk=>hc K0 k' hk h) hJ
theorem yC {x:Operand} {A B:Code} {v:Value} {p q:Prop} (h:condP v p q) (hp:p→den P N ro A Q QP ρ ds w) (hq:q→den P N ro B Q QP ρ ds w) (hv:ev ρ x=v:=by exact rfl):den P N ro (.cond x A B) Q QP ρ ds w:=sim_cond h hv hp hq
theorem yG (n:Nat) {ops:Array Oper} {l:List Oper} (h:denSeq P N ro QP (fun ρ ds w=>denOps P N ro ops Q QP (l.drop n) none ρ ds w) (l.take n) ρ ds w) (hu:unguarded (l.take n)=true:=by exact rfl):denOps P N ro ops Q QP l none ρ ds w:=sim_seg n hu h
theorem yg1 (n j:Nat) (want:Bool) (S:List Nat) (x0:Nat) {ops:Array Oper} {l:List Oper} {K0:Value→World→Prop} {A:(Value→World→Prop)→Prop} {v:Value} {u0:Value} (h:joinK K0 fun K=>guardP v want (A K) (K u0 w))
 (hc:∀ (K:Value→World→Prop) (T:Env→List Deferred→World→Prop),(∀ ρ' w,Fr S ρ ρ'→K (ρ' x0) w→T ρ' ds w)→A K→denSeq P N ro QP T (l.take n) ρ ds w) (hJ:∀ σ w,K0 (σ x0) w→denOps P N ro ops Q QP (l.drop n) none (mix S ρ σ) ds w) (hok:grpOK ops j want (l.take n) (l.drop n)=true:=by exact rfl) (hv:gslot ops ρ j=v:=by exact rfl) (hf:Fr S ρ (skipAll N (l.take n) ρ):=by exact Fr.skipAll rfl (Fr.refl _ _)) (hu0:skipAll N (l.take n) ρ x0=u0:=by exact rfl):denOps P N ro ops Q QP l none ρ ds w:=by
 subst hu0;exact sim_groupJ n j want S (fun ρ w=>K0 (ρ x0) w) hok hv (fun T hT=>guardP_mono h (hc K0 T hT) fun h=>hT _ _ hf h) hJ
end
section
variable {P:Program} {f:FuncId} {fn:Func} {c:Code} {args:List Value} {w:World} {R:RT}
theorem yD (hf:P.funcs[f]?=some fn) (h:den P fn.ntmps none c (bodyK P fn R) (bodyQP R) (env0 args) [] w) (hb:fn.body=some c:=by exact rfl) (hn:args.length≤fn.ntmps:=by exact Nat.le_of_ble_eq_true rfl):Calls P f args.toArray w R:=calls_of_den hf hb hn h
theorem yE (hf:P.funcs[f]?=some fn) (h:den P fn.ntmps none c (bodyKM P fn R) (bodyQPM P fn R) (env0 args) [] w) (hb:fn.body=some c:=by exact rfl) (hn:args.length≤fn.ntmps:=by exact Nat.le_of_ble_eq_true rfl):Calls P f args.toArray w R:=calls_of_denM hf hb hn h
end
end Go.Sw
namespace Go.Proofs.YtngflmjncplkaaaGreatDoor
open Sw
theorem c3:Sw.Callable Pg 3:=⟨_,Tryz.func3,by kernel_rfl,rfl⟩
theorem c4:Sw.Callable Pg 4:=⟨_,Tryz.func4,by kernel_rfl,rfl⟩
theorem c5:Sw.Callable Pg 5:=⟨_,Tryz.func5,by kernel_rfl,rfl⟩
theorem c6:Sw.Callable Pg 6:=⟨_,Tryz.func6,by kernel_rfl,rfl⟩
theorem c7:Sw.Callable Pg 7:=⟨_,Tryz.func7,by kernel_rfl,rfl⟩
theorem c8:Sw.Callable Pg 8:=⟨_,Tryz.func8,by kernel_rfl,rfl⟩
theorem c9:Sw.Callable Pg 9:=⟨_,Tryz.func9,by kernel_rfl,rfl⟩
theorem c10:Sw.Callable Pg 10:=⟨_,Tryz.func10,by kernel_rfl,rfl⟩
theorem c11:Sw.Callable Pg 11:=⟨_,Tryz.func11,by kernel_rfl,rfl⟩
theorem c12:Sw.Callable Pg 12:=⟨_,Tryz.func12,by kernel_rfl,rfl⟩
theorem c13:Sw.Callable Pg 13:=⟨_,Tryz.func13,by kernel_rfl,rfl⟩
theorem c14:Sw.Callable Pg 14:=⟨_,Tryz.func14,by kernel_rfl,rfl⟩
theorem c15:Sw.Callable Pg 15:=⟨_,Tryz.func15,by kernel_rfl,rfl⟩
theorem c17:Sw.Callable Pg 17:=⟨_,Tryz.func17,by kernel_rfl,rfl⟩
theorem c19:Sw.Callable Pg 19:=⟨_,Tryz.func19,by kernel_rfl,rfl⟩
theorem c20:Sw.Callable Pg 20:=⟨_,Tryz.func20,by kernel_rfl,rfl⟩
theorem c21:Sw.Callable Pg 21:=⟨_,Tryz.func21,by kernel_rfl,rfl⟩
theorem c22:Sw.Callable Pg 22:=⟨_,Tryz.func22,by kernel_rfl,rfl⟩
theorem c23:Sw.Callable Pg 23:=⟨_,Tryz.func23,by kernel_rfl,rfl⟩
theorem c33:Sw.Callable Pg 33:=⟨_,Tryz.func33,by kernel_rfl,rfl⟩
theorem c34:Sw.Callable Pg 34:=⟨_,Tryz.func34,by kernel_rfl,rfl⟩
theorem c35:Sw.Callable Pg 35:=⟨_,Tryz.func35,by kernel_rfl,rfl⟩
theorem c36:Sw.Callable Pg 36:=⟨_,Tryz.func36,by kernel_rfl,rfl⟩
theorem c37:Sw.Callable Pg 37:=⟨_,Tryz.func37,by kernel_rfl,rfl⟩
theorem c38:Sw.Callable Pg 38:=⟨_,Tryz.func38,by kernel_rfl,rfl⟩
theorem c39:Sw.Callable Pg 39:=⟨_,Tryz.func39,by kernel_rfl,rfl⟩
theorem c40:Sw.Callable Pg 40:=⟨_,Tryz.func40,by kernel_rfl,rfl⟩
theorem c41:Sw.Callable Pg 41:=⟨_,Tryz.func41,by kernel_rfl,rfl⟩
theorem c42:Sw.Callable Pg 42:=⟨_,Tryz.func42,by kernel_rfl,rfl⟩
theorem c46:Sw.Callable Pg 46:=⟨_,Tryz.func46,by kernel_rfl,rfl⟩
theorem c47:Sw.Callable Pg 47:=⟨_,Tryz.func47,by kernel_rfl,rfl⟩
theorem c48:Sw.Callable Pg 48:=⟨_,Tryz.func48,by kernel_rfl,rfl⟩
theorem c50:Sw.Callable Pg 50:=⟨_,Tryz.func50,by kernel_rfl,rfl⟩
theorem c51:Sw.Callable Pg 51:=⟨_,Tryz.func51,by kernel_rfl,rfl⟩
theorem c52:Sw.Callable Pg 52:=⟨_,Tryz.func52,by kernel_rfl,rfl⟩
theorem c53:Sw.Callable Pg 53:=⟨_,Tryz.func53,by kernel_rfl,rfl⟩
theorem c55:Sw.Callable Pg 55:=⟨_,Tryz.func55,by kernel_rfl,rfl⟩
theorem c56:Sw.Callable Pg 56:=⟨_,Tryz.func56,by kernel_rfl,rfl⟩
theorem c57:Sw.Callable Pg 57:=⟨_,Tryz.func57,by kernel_rfl,rfl⟩
theorem c62:Sw.Callable Pg 62:=⟨_,Tryz.func62,by kernel_rfl,rfl⟩
theorem c65:Sw.Callable Pg 65:=⟨_,Tryz.func65,by kernel_rfl,rfl⟩
theorem c66:Sw.Callable Pg 66:=⟨_,Tryz.func66,by kernel_rfl,rfl⟩
theorem c67:Sw.Callable Pg 67:=⟨_,Tryz.func67,by kernel_rfl,rfl⟩
theorem c68:Sw.Callable Pg 68:=⟨_,Tryz.func68,by kernel_rfl,rfl⟩
theorem c69:Sw.Callable Pg 69:=⟨_,Tryz.func69,by kernel_rfl,rfl⟩
theorem c70:Sw.Callable Pg 70:=⟨_,Tryz.func70,by kernel_rfl,rfl⟩
theorem c71:Sw.Callable Pg 71:=⟨_,Tryz.func71,by kernel_rfl,rfl⟩
theorem c73:Sw.Callable Pg 73:=⟨_,Tryz.func73,by kernel_rfl,rfl⟩
theorem c74:Sw.Callable Pg 74:=⟨_,Tryz.func74,by kernel_rfl,rfl⟩
theorem c75:Sw.Callable Pg 75:=⟨_,Tryz.func75,by kernel_rfl,rfl⟩
theorem c76:Sw.Callable Pg 76:=⟨_,Tryz.func76,by kernel_rfl,rfl⟩
theorem c77:Sw.Callable Pg 77:=⟨_,Tryz.func77,by kernel_rfl,rfl⟩
theorem c78:Sw.Callable Pg 78:=⟨_,Tryz.func78,by kernel_rfl,rfl⟩
theorem c79:Sw.Callable Pg 79:=⟨_,Tryz.func79,by kernel_rfl,rfl⟩
theorem c80:Sw.Callable Pg 80:=⟨_,Tryz.func80,by kernel_rfl,rfl⟩
theorem c82:Sw.Callable Pg 82:=⟨_,Tryz.func82,by kernel_rfl,rfl⟩
theorem c83:Sw.Callable Pg 83:=⟨_,Tryz.func83,by kernel_rfl,rfl⟩
theorem c84:Sw.Callable Pg 84:=⟨_,Tryz.func84,by kernel_rfl,rfl⟩
theorem c85:Sw.Callable Pg 85:=⟨_,Tryz.func85,by kernel_rfl,rfl⟩
theorem c88:Sw.Callable Pg 88:=⟨_,Tryz.func88,by kernel_rfl,rfl⟩
theorem c89:Sw.Callable Pg 89:=⟨_,Tryz.func89,by kernel_rfl,rfl⟩
theorem c90:Sw.Callable Pg 90:=⟨_,Tryz.func90,by kernel_rfl,rfl⟩
theorem c91:Sw.Callable Pg 91:=⟨_,Tryz.func91,by kernel_rfl,rfl⟩
theorem c94:Sw.Callable Pg 94:=⟨_,Tryz.func94,by kernel_rfl,rfl⟩
theorem c97:Sw.Callable Pg 97:=⟨_,Tryz.func97,by kernel_rfl,rfl⟩
theorem c98:Sw.Callable Pg 98:=⟨_,Tryz.func98,by kernel_rfl,rfl⟩
theorem c101:Sw.Callable Pg 101:=⟨_,Tryz.func101,by kernel_rfl,rfl⟩
theorem c102:Sw.Callable Pg 102:=⟨_,Tryz.func102,by kernel_rfl,rfl⟩
theorem c107:Sw.Callable Pg 107:=⟨_,Tryz.func107,by kernel_rfl,rfl⟩
theorem c127:Sw.Callable Pg 127:=⟨_,Tryz.func127,by kernel_rfl,rfl⟩
theorem c143:Sw.Callable Pg 143:=⟨_,Tryz.func143,by kernel_rfl,rfl⟩
theorem c145:Sw.Callable Pg 145:=⟨_,Tryz.func145,by kernel_rfl,rfl⟩
def n20c1 (t17 t37 t41 t51:Value) (next2:KV) (R:RT) (w:World):Prop :=
 joinK (fun (t52:Value) (w:World) =>
 pickK t37 t52 (.bool false) fun t53 =>
 condP t53 (
 R (.returned (.bool false)) w) (
 opV Pg (binS .add 3 true t17 (.int .i64 1)) (panK R) w fun t54 w =>
 next2 t54 w)) fun K13 =>
 guardP t37 true (
 pickK t41 (.bool true) t51 fun t52 =>
 K13 t52 w) (
 K13 undef w)
def n20c2 (t17 t37 t41 t44 t47 t49:Value) (next2:KV) (R:RT) (w:World):Prop :=
 joinK (fun (t50:Value) (w:World) =>
 joinK (fun (t51:Value) (w:World) =>
 n20c1 t17 t37 t41 t51 next2 R w) fun K12 =>
 guardP t41 false (
 pickK t44 t50 (.bool false) fun t51 =>
 K12 t51 w) (
 K12 undef w)) fun K11 =>
 guardP t44 true (
 pickK t47 (.bool true) t49 fun t50 =>
 K11 t50 w) (
 K11 undef w)
def n20c3 (t17 t21 t37 t41 t44 t47:Value) (next2:KV) (R:RT) (w:World):Prop :=
 joinK (fun (t49:Value) (w:World) =>
 n20c2 t17 t37 t41 t44 t47 t49 next2 R w) fun K10 =>
 guardP t47 false (
 opV Pg (binS .gtr 5 true t21 (.int .u8 57)) (panK R) w fun t49 w =>
 K10 t49 w) (
 K10 undef w)
def n20c4 (t17 t21 t37 t41 t44:Value) (next2:KV) (R:RT) (w:World):Prop :=
 joinK (fun (t47:Value) (w:World) =>
 n20c3 t17 t21 t37 t41 t44 t47 next2 R w) fun K9 =>
 guardP t44 true (
 opV Pg (binS .lss 5 true t21 (.int .u8 48)) (panK R) w fun t46 w =>
 K9 t46 w) (
 K9 undef w)
def n20c5 (t17 t21 t37 t41:Value) (next2:KV) (R:RT) (w:World):Prop :=
 joinK (fun (t44:Value) (w:World) =>
 n20c4 t17 t21 t37 t41 t44 next2 R w) fun K8 =>
 guardP t41 false (
 opV Pg (binS .neq 5 true t21 (.int .u8 95)) (panK R) w fun t43 w =>
 K8 t43 w) (
 K8 undef w)
def n20c6 (t17 t21 t27 t34:Value) (next2:KV) (R:RT) (w:World):Prop :=
 pickK t27 (.bool true) t34 fun t35 =>
 opV Pg (Op.unary .not t35) (panK R) w fun t37 w =>
 joinK (fun (t41:Value) (w:World) =>
 n20c5 t17 t21 t37 t41 next2 R w) fun K7 =>
 guardP t37 true (
 opV Pg (binS .eql 3 true t17 (.int .i64 0)) (panK R) w fun t40 w =>
 K7 t40 w) (
 K7 undef w)
def n20c7 (t17 t21 t27 t31:Value) (next2:KV) (R:RT) (w:World):Prop :=
 joinK (fun (t33:Value) (w:World) =>
 joinK (fun (t34:Value) (w:World) =>
 n20c6 t17 t21 t27 t34 next2 R w) fun K6 =>
 guardP t27 false (
 pickK t31 t33 (.bool false) fun t34 =>
 K6 t34 w) (
 K6 undef w)) fun K5 =>
 guardP t31 true (
 opV Pg (binS .leq 5 true t21 (.int .u8 90)) (panK R) w fun t33 w =>
 K5 t33 w) (
 K5 undef w)
def n20c8 (t17 t21 t23 t26:Value) (next2:KV) (R:RT) (w:World):Prop :=
 pickK t23 t26 (.bool false) fun t27 =>
 joinK (fun (t31:Value) (w:World) =>
 n20c7 t17 t21 t27 t31 next2 R w) fun K4 =>
 guardP t27 false (
 opV Pg (binS .geq 5 true t21 (.int .u8 65)) (panK R) w fun t30 w =>
 K4 t30 w) (
 K4 undef w)
def n20c9 (t15 t17:Value) (next2:KV) (R:RT) (w:World):Prop :=
 opV Pg (Instr.indexAt 94 t15 t17) (panK R) w fun t20 w =>
 opV Pg (Instr.loadAt 5 t20) (panK R) w fun t21 w =>
 opV Pg (binS .geq 5 true t21 (.int .u8 97)) (panK R) w fun t23 w =>
 joinK (fun (t26:Value) (w:World) =>
 n20c8 t17 t21 t23 t26 next2 R w) fun K3 =>
 guardP t23 true (
 opV Pg (binS .leq 5 true t21 (.int .u8 122)) (panK R) w fun t26 w =>
 K3 t26 w) (
 K3 undef w)
def n20c10 (t0:Value) (R:RT) (w:World):Prop :=
 opV Pg (Go.convert 9 94 t0) (panK R) w fun t15 w =>
 opV Pg (Builtin.len_ #[94] 3 #[t15]) (panK R) w fun t16 w =>
 loop1 (fun t17 w next2 =>
 opV Pg (binS .lss 3 false t17 t16) (panK R) w fun t18 w =>
 condP t18 (
 n20c9 t15 t17 next2 R w) (
 R (.returned (.bool true)) w)) (.int .i64 0) w
def n20 (t0:Value) (R:RT) (w:World):Prop :=
 opV Pg (Builtin.len_ #[9] 3 #[t0]) (panK R) w fun t7 w =>
 opV Pg (binS .lss 3 true t7 (.int .i64 1)) (panK R) w fun t8 w =>
 joinK (fun (t12:Value) (w:World) =>
 pickK t8 (.bool true) t12 fun t13 =>
 condP t13 (
 R (.returned (.bool false)) w) (
 n20c10 t0 R w)) fun K1 =>
 guardP t8 false (
 opV Pg (Builtin.len_ #[9] 3 #[t0]) (panK R) w fun t11 w =>
 opV Pg (binS .gtr 3 true t11 (.int .i64 32)) (panK R) w fun t12 w =>
 K1 t12 w) (
 K1 undef w)
set_option maxHeartbeats 40000000 in
theorem n20s {t0:Value} {R:RT} {w:World} (h:n20 t0 R w):Calls Pg 17 #[t0] w R:=by
 refine yD Tryz.func17 ?_
 refine zs<|zr<|zm<|zn<|zk<|zs<|zs<|sim_regionG<|yG 4<|zm<|yx h fun _ w h=>yb h fun _ w h=>zm<|zn<|yg1 3 3 false [10,11,12] 12 h (fun _ T hT h=>?_) fun σ w h=>?_
 · refine zm<|yx h fun _ w h=>yb h fun _ w h=>zn ?_
   exact zt hT h
 refine yG 1<|yp h fun _ h=>zn<|sim_end<|zk<|yC h (fun h=>zs<|zr<|zm<|zn<|zk<|sim_ret<|sim_then_ret<|body_ret1 rfl rfl h) fun h=>sim_skip<|zk<|zs<|zs<|zr<|zm<|yv h fun _ w h=>yx h fun _ w h=>?_
 refine zm<|zn<|zk<|sim_block<|yl1 [2,3,4,5,17,18,19,20,21,22,23,24,25,26,27,28,29,30,31,32,33,34,35,36,37,38,39,40,41,42,43,44,45,46,47,48,49,50,51,52,53,54] 17 h fun σ w next h=>zs<|zr<|yb h fun _ w h=>zn<|zk<|zs<|yC h (fun h=>?_) fun h=>?_
 · refine sim_skip<|zk<|zs<|sim_block<|zs<|zr<|zm<|yv h fun _ w h=>yv h fun _ w h=>zm<|zm<|zn<|zk<|zs<|sim_regionG ?_
   refine yG 3<|zm<|yb h fun _ w h=>zm<|zn<|yg1 2 2 true [25,26] 26 h (fun _ T hT h=>?_) fun σ w h=>?_
   · refine zm<|yb h fun _ w h=>zn ?_
     exact zt hT h
   refine yG 2<|yp h fun _ h=>zm<|zn<|yg1 3 6 false [29,30,31] 31 h (fun _ T hT h=>?_) fun σ w h=>?_
   · refine zm<|yb h fun _ w h=>zm<|zn ?_
     exact zt hT h
   refine yg1 2 9 true [32,33] 33 h (fun _ T hT h=>?_) fun σ w h=>?_
   · refine zm<|yb h fun _ w h=>zn ?_
     exact zt hT h
   refine yg1 1 6 false [34] 34 h (fun _ T hT h=>?_) fun σ w h=>?_
   · refine yp h fun _ h=>zn ?_
     exact zt hT h
   refine yG 2<|yp h fun _ h=>zm<|zn<|sim_end<|zk<|zs<|sim_regionG<|yG 3<|zm<|yv h fun _ w h=>zm<|zn<|yg1 3 2 true [39,40,41] 41 h (fun _ T hT h=>?_) fun σ w h=>?_
   · refine zm<|yb h fun _ w h=>zm<|zn ?_
     exact zt hT h
   refine yg1 3 5 false [42,43,44] 44 h (fun _ T hT h=>?_) fun σ w h=>?_
   · refine zm<|yb h fun _ w h=>zm<|zn ?_
     exact zt hT h
   refine yg1 3 8 true [45,46,47] 47 h (fun _ T hT h=>?_) fun σ w h=>?_
   · refine zm<|yb h fun _ w h=>zm<|zn ?_
     exact zt hT h
   refine yg1 2 11 false [48,49] 49 h (fun _ T hT h=>?_) fun σ w h=>?_
   · refine zm<|yb h fun _ w h=>zn ?_
     exact zt hT h
   refine yg1 1 8 true [50] 50 h (fun _ T hT h=>?_) fun σ w h=>?_
   · refine yp h fun _ h=>zn ?_
     exact zt hT h
   refine yg1 1 5 false [51] 51 h (fun _ T hT h=>?_) fun σ w h=>?_
   · refine yp h fun _ h=>zn ?_
     exact zt hT h
   refine yg1 1 2 true [52] 52 h (fun _ T hT h=>?_) fun σ w h=>?_
   · refine yp h fun _ h=>zn ?_
     exact zt hT h
   refine yG 1<|yp h fun _ h=>zn<|sim_end<|zk<|yC h (fun h=>zs<|zr<|zm<|zn<|zk<|sim_ret<|sim_block_ret<|sim_then_ret<|sim_then_ret<|sim_block_ret<|sim_then_ret<|body_ret1 rfl rfl h) fun h=>sim_skip<|sim_block_normal<|zk<|zr<|yb h fun _ w h=>zm<|zn<|zk ?_
   exact ⟨rfl,h⟩
 exact sim_exit<|sim_then_exit<|sim_then_exit<|sim_block_hit<|zk<|zs<|zr<|zm<|zn<|zk<|sim_ret<|body_ret1 rfl rfl h
open Go.RowKit (intOf Below)
theorem op_boxA {P:Program} {QP:List PanicEntry→World→Prop} {w:World} {k:Value→World→Prop} (T:TypeId) (cs:Array Value):opV P (Instr.box T (.agg cs)) QP w k=k (.pointer (some ⟨w.heap.size,0,none⟩)) (w.alloc (.cells cs T)):=op_box T (.agg cs)
def goodAt (k:Nat) (c:UInt8):Bool:=letB c||(decide (k≠0)&&(((c.toNat:Int) == 95)||digB c))
theorem good_all {l:List UInt8}:(∀ k x,l[k]?=some x→goodAt k x=true)↔((match l with | []=>true | c::_=>letB c)&&l.all wordB)=true:=by
 cases l with
 | nil=>simp
 | cons c l =>
  simp only [Bool.and_eq_true,List.all_eq_true]
  constructor
  · intro h
    have h0:=h 0 c rfl
    have hc:letB c=true:=by simpa [goodAt] using h0
    refine ⟨hc,fun x hx=>?_⟩
    obtain ⟨k,hk⟩:=List.getElem?_of_mem hx
    have:=h k x hk
    unfold goodAt at this
    unfold wordB
    simp only [Bool.or_eq_true,Bool.and_eq_true] at this ⊢
    rcases this with h | ⟨_,h | h⟩
    · exact .inl (.inl h)
    · exact .inr h
    · exact .inl (.inr h)
  · rintro ⟨h1,h2⟩ k x hk
    unfold goodAt
    cases k with
    | zero=>injection hk with hk;subst hk;rw [h1];rfl
    | succ k =>
     have:=h2 x (List.mem_of_getElem? hk)
     unfold wordB at this
     simp only [Bool.or_eq_true,Bool.and_eq_true,decide_eq_true_eq] at this ⊢
     rcases this with (h | h) | h
     · exact .inl h
     · exact .inr ⟨by omega,.inr h⟩
     · exact .inr ⟨by omega,.inl h⟩
theorem name_eq (s:ByteArray) (h1:1≤s.size) (h2:s.size≤32):nameB s=((match s.data.toList with | []=>true | c::_=>letB c)&&s.data.toList.all wordB):=by
 have hl:s.data.toList.length=s.size:=by rw [Array.length_toList];rfl
 unfold nameB
 rw [show decide (1≤(s.size:Int))=true by simp;omega,show decide ((s.size:Int)≤32)=true by simp;omega]
 cases hs:s.data.toList with
 | nil=>rw [hs] at hl;simp at hl;omega
 | cons c l=>rfl
theorem name_short (s:ByteArray) (h:¬ (1≤s.size∧s.size≤32)):nameB s=false:=by
 unfold nameB
 by_cases h1:1≤s.size
 · rw [show decide ((s.size:Int)≤32)=false by simp;omega];simp
 · rw [show decide (1≤(s.size:Int))=false by simp;omega];simp
theorem name_iff (s:ByteArray) (h1:1≤s.size) (h2:s.size≤32):nameB s=true↔∀ k x,s.data.toList[k]?=some x→goodAt k x=true:=by rw [name_eq s h1 h2,good_all]
theorem Name_ret (w0:World) (s:ByteArray):Ret Pg 17 #[.string s] w0 fun r w'=>r = .bool (nameB s)∧Ext w0 w':=by
 have hsz:s.data.toList.length=s.size:=by rw [Array.length_toList];rfl
 refine n20s (R:=retR _) ?_;unfold n20
 by_cases h1:s.size < 1
 · have d1:decide ((s.size:Int) < 1)=true:=decide_eq_true (by omega)
   simp (disch:=try exact DI) only [↓PR,QR,simprocAttr,d1,name_short s (by omega)]
   exact ⟨by trivial,Ext.refl _⟩
 have h1:1≤s.size:=by omega
 have d1:decide ((s.size:Int) < 1)=false:=decide_eq_false (by omega)
 by_cases h2:32 < s.size
 · have d2:decide ((s.size:Int) > 32)=true:=decide_eq_true (by omega)
   simp (disch:=try exact DI) only [↓PR,QR,simprocAttr,d1,d2,name_short s (by omega)]
   exact ⟨by trivial,Ext.refl _⟩
 have h2:s.size≤32:=by omega
 have d2:decide ((s.size:Int) > 32)=false:=decide_eq_false (by omega)
 simp (disch:=try exact DI) only [↓PR,QR,simprocAttr,d1,d2,↓n20c10]
 refine op_bytes Tryz.underlying9 Tryz.underlying94 Tryz.underlying5 s (by omega) ?_
 rintro v w1 e1 ⟨A,cp,rfl,hc1,hc2,b,rfl,hcell⟩
 simp (disch:=try exact DI) only [↓PR,QR,simprocAttr]
 refine loop1_intro (fun a w=>∃ k:Nat,a = .int .i64 k∧k≤s.size∧Ext w1 w∧∀ j x,j < k→s.data.toList[j]?=some x→goodAt j x=true) (fun a _=>s.size - (intOf a).toNat) ⟨0,rfl,by omega,Ext.refl _,fun j x h=>by omega⟩ ?_
 rintro _ w ⟨k,rfl,hk,e,hI⟩
 by_cases hkn:k < s.size
 · obtain ⟨x,hx⟩:=getElem?_lt (l:=s.data.toList) (k:=k) (by omega)
   have d3:decide ((k:Int) < (s.size:Int))=true:=decide_eq_true (by omega)
   have hc:=e.cell (hcell k x hx)
   have hwk:IntKind.i64.wrap ((k:Int)+1)=((k+1:Nat):Int):=by rw [wrap_ok (by omega) (by omega)];omega
   have good:goodAt k x=true→∃ k':Nat,(Value.int .i64 ((k+1:Nat):Int)) = .int .i64 k'∧k'≤s.size∧Ext w1 w∧∀ j x,j < k'→s.data.toList[j]?=some x→goodAt j x=true:=fun hg=>⟨k+1,rfl,by omega,e,fun j y hj hy=>by
    by_cases hjk:j=k
    · subst hjk;rw [hx] at hy;injection hy with hy;subst hy;exact hg
    · exact hI j y (by omega) hy⟩
   have bad:goodAt k x=false→nameB s=false:=fun hg=>by
    rw [Bool.eq_false_iff]
    intro hn
    have:=(name_iff s h1 h2).1 hn k x hx
    rw [hg] at this;cases this
   have k0:((k:Int) == 0)=decide (k=0):=by
    rw [Bool.eq_iff_iff,beq_iff_eq,decide_eq_true_iff];omega
   have hms:=meas_lt (kd := .i64) hkn
   have hend:goodAt k x=false→retR (fun r w'=>r = .bool (nameB s)∧Ext w0 w') (.returned (.bool false)) w:=fun hg=>⟨_,rfl,by rw [bad hg],e1.trans e⟩
   have hnext:goodAt k x=true→(fun (a0':Value) (w':World)=>(∃ k:Nat,a0' = .int .i64 (k:Int)∧k≤s.size∧Ext w1 w'∧∀ j x,j < k→s.data.toList[j]?=some x→goodAt j x=true)∧s.size - (intOf a0').toNat < s.size - (intOf (Value.int .i64 (k:Int))).toNat) (.int .i64 ((k+1:Nat):Int)) w:=fun hg=>⟨good hg,hms⟩
   clear good bad hms hI
   generalize (fun (a0':Value) (w':World)=>(∃ k:Nat,a0' = .int .i64 (k:Int)∧k≤s.size∧Ext w1 w'∧∀ j x,j < k→s.data.toList[j]?=some x→goodAt j x=true)∧s.size - (intOf a0').toNat < s.size - (intOf (Value.int .i64 (k:Int))).toNat)=nx at hnext ⊢
   generalize (retR (fun r w'=>r = .bool (nameB s)∧Ext w0 w'))=R at hend ⊢
   unfold goodAt at hend hnext
   have rest:letB x=false→n20c5 (.int .i64 (k:Int)) (.int .u8 (x.toNat:Int)) (.bool true) (.bool (decide (k=0))) nx R w:=by
    intro hl
    rw [hl] at hend hnext
    unfold n20c5
    by_cases hk0:k=0
    · have h0:decide (k=0)=true:=decide_eq_true hk0
      have h0':decide (k≠0)=false:=by simp [hk0]
      rw [h0'] at hend
      simp (disch:=try exact DI) only [↓PR,QR,simprocAttr,h0,↓n20c4,↓n20c3,↓n20c2,↓n20c1]
      exact hend rfl
    · have h0:decide (k=0)=false:=decide_eq_false hk0
      have h0':decide (k≠0)=true:=by simp [hk0]
      rw [h0'] at hend hnext
      have b95:((x.toNat:Int) != 95)=!((x.toNat:Int) == 95):=rfl
      cases h95:((x.toNat:Int) == 95) with
      | true =>
       rw [h95] at hnext b95
       simp (disch:=try exact DI) only [↓PR,QR,simprocAttr,h0,b95,↓n20c4,↓n20c3,↓n20c2,↓n20c1,hwk]
       exact hnext rfl
      | false =>
       rw [h95] at hnext hend b95
       unfold digB at hnext hend
       by_cases h48:(x.toNat:Int) < 48
       · have e1:decide ((x.toNat:Int) < 48)=true:=decide_eq_true h48
         have e2:decide (48≤(x.toNat:Int))=false:=decide_eq_false (by omega)
         rw [e2] at hend
         simp (disch:=try exact DI) only [↓PR,QR,simprocAttr,h0,b95,e1,↓n20c4,↓n20c3,↓n20c2,↓n20c1]
         exact hend rfl
       · have e1:decide ((x.toNat:Int) < 48)=false:=decide_eq_false h48
         have e2:decide (48≤(x.toNat:Int))=true:=decide_eq_true (by omega)
         by_cases h57:(x.toNat:Int) > 57
         · have e3:decide ((x.toNat:Int) > 57)=true:=decide_eq_true h57
           have e4:decide ((x.toNat:Int)≤57)=false:=decide_eq_false (by omega)
           rw [e2,e4] at hend
           simp (disch:=try exact DI) only [↓PR,QR,simprocAttr,h0,b95,e1,e3,↓n20c4,↓n20c3,↓n20c2,↓n20c1]
           exact hend rfl
         · have e3:decide ((x.toNat:Int) > 57)=false:=decide_eq_false h57
           have e4:decide ((x.toNat:Int)≤57)=true:=decide_eq_true (by omega)
           rw [e2,e4] at hnext
           simp (disch:=try exact DI) only [↓PR,QR,simprocAttr,h0,b95,e1,e3,↓n20c4,↓n20c3,↓n20c2,↓n20c1,hwk]
           exact hnext rfl
   unfold letB at rest hnext
   have hc':w.cell? ⟨b,k*1,none⟩=some (.int .u8 (x.toNat:Int)):=by rw [Nat.mul_one];exact hc
   clear hend hcell
   have key:∀ b1 b2 b3 b4:Bool,decide ((x.toNat:Int)≥97)=b1→decide ((x.toNat:Int)≤122)=b2→decide ((x.toNat:Int)≥65)=b3→decide ((x.toNat:Int)≤90)=b4→((b1&&b2||b3&&b4)=false→n20c5 (.int .i64 (k:Int)) (.int .u8 (x.toNat:Int)) (.bool true) (.bool (decide (k=0))) nx R w)→((b1&&b2||b3&&b4)=true→nx (.int .i64 ((k+1:Nat):Int)) w)→n20c9 (.slice (some ⟨b,0,none⟩) s.size cp) (.int .i64 (k:Int)) nx R w:=by
    intro b1 b2 b3 b4 g1 g2 g3 g4 rest hnext
    unfold n20c9
    simp (disch:=try exact DI) only [↓PR,QR,simprocAttr,hc',g1]
    cases b1<;>cases b2<;>cases b3<;>cases b4<;>first | (simp (disch:=try exact DI) only [↓PR,QR,simprocAttr,g2,g3,g4,↓n20c8,↓n20c7,↓n20c6,k0];exact rest rfl) | (simp (disch:=try exact DI) only [↓PR,QR,simprocAttr,g2,g3,g4,↓n20c8,↓n20c7,↓n20c6,k0,hwk,↓n20c5,↓n20c4,↓n20c3,↓n20c2,↓n20c1];exact hnext rfl)
   simp (disch:=try exact DI) only [↓PR,QR,simprocAttr,d3]
   exact key _ _ _ _ rfl rfl rfl rfl rest fun h=>hnext (by rw [show ((decide (97≤(x.toNat:Int))&&decide ((x.toNat:Int)≤122))||(decide (65≤(x.toNat:Int))&&decide ((x.toNat:Int)≤90)))=true from h];rfl)
 · have d3:decide ((k:Int) < (s.size:Int))=false:=decide_eq_false (by omega)
   simp (disch:=try exact DI) only [↓PR,QR,simprocAttr,d3]
   have:nameB s=true:=(name_iff s h1 h2).2 fun j x hx=>hI j x (by have:=(List.getElem?_eq_some_iff.1 hx).1;omega) hx
   rw [this]
   exact ⟨by trivial,e1.trans e⟩
def n19c1 (t2 t4:Value) (K5:KV) (R:RT) (w:World):Prop :=
 opV Pg (Instr.fieldAt 71 t4 3) (panK R) w fun t25 w =>
 opV Pg (Instr.loadAt 9 t25) (panK R) w fun t26 w =>
 opV Pg (Instr.buildSlice 73 1 #[(0,t26)]) (panK R) w fun t27 w =>
 opV Pg (Builtin.append_ #[73,73] 73 #[t2,t27]) (panK R) w fun t28 w =>
 K5 t28 w
def n19c2 (t2 t4 t8 t16 t22:Value) (next1:KW) (R:RT) (w:World):Prop :=
 pickK t16 t22 (.bool false) fun t23 =>
 joinK (fun (t2:Value) (w:World) =>
 opV Pg (binS .add 3 true t8 (.int .i64 1)) (panK R) w fun t29 w =>
 next1 t2 t29 w) fun K5 =>
 condP t23 (
 n19c1 t2 t4 K5 R w) (
 K5 t2 w)
def n19c3 (t2 t4 t8 t12 t14:Value) (C3:World→Prop) (next1:KW) (R:RT) (w:World):Prop :=
 qV Pg C3 (Instr.lookup 90 t12 t14 false) fun t15 =>
 qV Pg C3 (Instr.field 89 t15 1) fun t16 =>
 joinK (fun (t22:Value) (w:World) =>
 n19c2 t2 t4 t8 t16 t22 next1 R w) fun K4 =>
 guardP t16 true (
 qV Pg C3 (Instr.fieldAt 71 t4 3) fun t19 =>
 qV Pg C3 (Instr.loadAt 9 t19) fun t20 =>
 callK Pg 73 #[t2,t20] (panK R) w fun t21 w =>
 C3 w∧(
 qV Pg C3 (Op.unary .not t21) fun t22 =>
 K4 t22 w)) (
 K4 undef w)
def n19c4 (t2 t4 t8:Value) (C2:World→Prop) (next1:KW) (R:RT) (w:World):Prop :=
 qV Pg C2 (Instr.fieldAt 71 t4 2) fun t13 =>
 qV Pg C2 (Instr.loadAt 69 t13) fun t14 =>
 callK Pg 47 #[] (panK R) w fun t12 w =>
 narrowK C2 w fun C3 w =>
 n19c3 t2 t4 t8 t12 t14 C3 next1 R w
def n19c5 (t2 t6 t8:Value) (next1:KW) (R:RT) (w:World):Prop :=
 opV Pg (Instr.indexAt 24 t6 t8) (panK R) w fun t10 w =>
 opV Pg (Instr.loadAt 71 t10) (panK R) w fun t11 w =>
 opV Pg (Instr.alloc 71 true (.tuple #[])) (panK R) w fun t4 w =>
 opU Pg (Instr.storeAt 71 t4 t11) (panK R) w fun w =>
 drawK w fun C2 w =>
 n19c4 t2 t4 t8 C2 next1 R w
def n19c6 (t2 t6 t7 t8:Value) (next1:KW) (R:RT) (w:World):Prop :=
 opV Pg (binS .lss 3 false t8 t7) (panK R) w fun t9 w =>
 condP t9 (
 n19c5 t2 t6 t8 next1 R w) (
 callK Pg 74 #[t2] (panK R) w fun t31 w =>
 R (.returned t2) w)
def n19 (t0:Value) (R:RT) (w:World):Prop :=
 opV Pg (Instr.box 26 t0) (panK R) w fun t1 w =>
 opV Pg (Instr.fieldAt 26 t1 3) (panK R) w fun t5 w =>
 opV Pg (Instr.loadAt 24 t5) (panK R) w fun t6 w =>
 opV Pg (Builtin.len_ #[24] 3 #[t6]) (panK R) w fun t7 w =>
 loop2 (fun t2 t8 w next1 =>
 n19c6 t2 t6 t7 t8 next1 R w) (Value.slice none 0 0) (.int .i64 0) w
theorem n19s {t0:Value} {R:RT} {w:World} (h:n19 t0 R w):Calls Pg 33 #[t0] w R:=by
 refine yD Tryz.func33 ?_
 refine zs<|zr<|yv h fun _ w h=>zm<|zn<|zk<|zs<|zs<|zr<|yv h fun _ w h=>yv h fun _ w h=>yx h fun _ w h=>zm<|zn<|zk ?_
 refine sim_block<|yl2 [2,4,8,9,10,11,12,13,14,15,16,17,18,19,20,21,22,23,24,25,26,27,28,29] 2 8 h fun σ w next h=>zs<|zr<|yb h fun _ w h=>zn<|zk<|zs<|yC h (fun h=>?_) fun h=>?_
 · refine sim_skip<|zk<|zs<|sim_block<|zs<|zr<|yv h fun _ w h=>yv h fun _ w h=>yv h fun _ w h=>yu h fun w h=>zn<|zk<|zs<|yh [12,13,14,15,16,17,18,19,20,21,22,23] h fun C hC h=>ye 1 hC h fun _ h=>?_
   refine ye 2 hC h fun _ h=>?_
   refine yr 0 ?_
   refine yc h c47 fun _ w h=>zn ?_
   obtain ⟨C3,hs,hC,h⟩:=h
   refine ⟨C3,hs,hC,?_⟩
   refine ye 3 hC h fun _ h=>?_
   refine ye 4 hC h fun _ h=>?_
   refine yw 5 hC ?_
   refine yj1 1 [10,9,8,7,6,5,4,3,0,2,1] [18,19,20,21,22] 22 h (fun _ hT hb h=>?_) (fun _ hT hb h=>?_) fun σ w hC h=>?_
   · refine yw 6 hC ?_
     refine ye 7 hC h fun _ h=>?_
     refine ye 8 hC h fun _ h=>?_
     refine yo 9 ?_
     refine yc h c73 fun _ w h=>zn ?_
     obtain ⟨hC,h⟩:=h
     refine ⟨hC,?_⟩
     refine ye 10 hC h fun _ h=>?_
     exact yt hT hC h
   · refine yi 6 hC ?_
     refine yi 7 hC ?_
     refine yi 8 hC ?_
     refine yi 9 hC ?_
     refine yi 10 hC ?_
     exact yt hT hC h
   refine yP 11 hC h fun _ h=>?_
   refine yz<|zk<|yJ1 [2,24,25,26,27,28] 2 h (fun _ _ hkK5 h=>?_) fun σ w h=>?_
   · refine yC h (fun h=>?_) fun h=>?_
     · refine zr<|zm<|yv h fun _ w h=>yv h fun _ w h=>yS h fun _ w h=>yx h fun _ w h=>zm<|zn<|zk ?_
       exact zt hkK5 h
     refine sim_skip<|zk ?_
     exact zt hkK5 h
   exact sim_block_normal<|zk<|zr<|yb h fun _ w h=>zm<|zn<|zk<|⟨rfl,h⟩
 refine sim_exit<|sim_then_exit<|sim_then_exit<|sim_block_hit<|zk<|zs<|zr<|zm<|yc h c74 fun _ w h=>zn<|zk<|zs<|zr<|zm<|zm ?_
 exact zn<|zk<|sim_ret<|body_ret1 rfl rfl h
def n17c1 (t3 t8:Value) (R:RT) (w:World):Prop :=
 opV Pg (Instr.alloc 24 true (.tuple #[])) (panK R) w fun t5 w =>
 opU Pg (Instr.storeAt 24 t5 t8) (panK R) w fun w =>
 opV Pg (Instr.makeFunc (.func 76) #[] #[t5,t3]) (panK R) w fun t9 w =>
 R (.returned t9) w
def n17 (t0 t1:Value) (R:RT) (w:World):Prop :=
 opV Pg (Instr.box 26 t0) (panK R) w fun t2 w =>
 opV Pg (Instr.box 9 t1) (panK R) w fun t3 w =>
 opV Pg (Instr.fieldAt 26 t2 3) (panK R) w fun t6 w =>
 opV Pg (Instr.loadAt 24 t6) (panK R) w fun t7 w =>
 callK Pg 75 #[t7] (panK R) w fun t8 w =>
 n17c1 t3 t8 R w
theorem n17s {t0 t1:Value} {R:RT} {w:World} (h:n17 t0 t1 R w):Calls Pg 34 #[t0,t1] w R:=by
 refine yD Tryz.func34 ?_
 refine zs<|zr<|yv h fun _ w h=>yv h fun _ w h=>zm<|zn<|zk<|zs<|zr<|yv h fun _ w h=>yv h fun _ w h=>yc h c75 fun _ w h=>yv h fun _ w h=>yu h fun w h=>zn ?_
 exact zk<|zs<|zr<|yF h fun _ w h=>zm<|zn<|zk<|sim_ret<|body_ret1 rfl rfl h
def n12 (R:RT) (w:World):Prop :=
 opV Pg (Instr.alloc 26 true (.tuple #[])) (panK R) w fun t0 w =>
 opV Pg (Instr.build 52 #[(0,(.string { data := #[110] })),(1,(.int .i64 2))]) (panK R) w fun t1 w =>
 opV Pg (Instr.buildSlice 23 1 #[(0,t1)]) (panK R) w fun t2 w =>
 opV Pg (Instr.build 50 #[(0,(.string { data := #[97] }))]) (panK R) w fun t3 w =>
 opV Pg (Instr.build 50 #[(0,(.string { data := #[98] })),(1,(.bool true)),(2,(.int .i64 5))]) (panK R) w fun t4 w =>
 opV Pg (Instr.buildSlice 22 2 #[(0,t3),(1,t4)]) (panK R) w fun t5 w =>
 opV Pg (Instr.build 71 #[(0,(.string { data := #[97] })),(1,(.string { data := #[98] })),(2,(.int .i64 1)),(3,(.string { data := #[109] })),(4,(.string { data := #[115] })),(5,(.string { data := #[110] })),(7,(.int .i64 1)),(8,(.int .i64 1))]) (panK R) w fun t6 w =>
 opV Pg (Instr.build 71 #[(0,(.string { data := #[98] })),(1,(.string { data := #[97] })),(2,(.int .i64 3))]) (panK R) w fun t7 w =>
 opV Pg (Instr.buildSlice 24 2 #[(0,t6),(1,t7)]) (panK R) w fun t8 w =>
 opV Pg (Instr.build 26 #[(0,(.string { data := #[99] })),(2,t2),(1,t5),(3,t8)]) (panK R) w fun t9 w =>
 opU Pg (Instr.storeAt 26 t0 t9) (panK R) w fun w =>
 qW Pg 26 t0 w fun r0 =>
 R (.returned r0) w
theorem n12s {R:RT} {w:World} (h:n12 R w):Calls Pg 35 #[] w R:=by
 refine yD Tryz.func35 ?_
 refine zs<|zr<|yv h fun _ w h=>zn<|zk<|zs<|zr<|yB h fun _ w h=>yS h fun _ w h=>yB h fun _ w h=>yB h fun _ w h=>yS h fun _ w h=>yB h fun _ w h=>yB h fun _ w h=>yS h fun _ w h=>?_
 exact yB h fun _ w h=>yu h fun w h=>zn<|zk<|sim_ret<|body_retC rfl rfl h
def n28c1 (t0 t3 t20:Value) (next1:KV) (R:RT) (w:World):Prop :=
 opV Pg (binS .lss 3 false t20 t0) (panK R) w fun t21 w =>
 condP t21 (
 callV Pg t3 #[t20] (panK R) w fun t25 w =>
 condP t25 (
 R (.returned t20) w) (
 opV Pg (binS .add 3 true t20 (.int .i64 1)) (panK R) w fun t27 w =>
 next1 t27 w)) (
 R (.returned (.int .i64 (-1))) w)
def n28 (t0 t1 t2 t3:Value) (R:RT) (w:World):Prop :=
 opV Pg (binS .lss 3 false t0 t1) (panK R) w fun t13 w =>
 condP t13 (
 R (.returned (.int .i64 0)) w) (
 opV Pg (binS .gtr 3 false t0 t2) (panK R) w fun t17 w =>
 condP t17 (
 R (.returned t2) w) (
 loop1 (fun t20 w next1 =>
 n28c1 t0 t3 t20 next1 R w) (.int .i64 0) w))
theorem n28s {t0 t1 t2 t3:Value} {R:RT} {w:World} (h:n28 t0 t1 t2 t3 R w):Calls Pg 36 #[t0,t1,t2,t3] w R:=by
 refine yD Tryz.func36 ?_
 refine zs<|zr<|zm<|zn<|zk<|zs<|sim_block<|zs<|zr<|zm<|zm<|yb h fun _ w h=>zm<|zn<|zk ?_
 refine yC h (fun h=>zs<|zr<|zm<|zn<|zk<|sim_ret<|sim_block_ret<|sim_then_ret<|body_ret1 rfl rfl h) fun h=>zs<|zr<|zm<|zm<|yb h fun _ w h=>zm<|zn<|zk<|yC h (fun h=>zs<|zr<|zm<|zm<|zn<|zk<|sim_ret<|sim_block_ret<|sim_then_ret<|body_ret1 rfl rfl h) fun h=>sim_skip<|sim_block_normal<|zk ?_
 refine zs<|zs<|zr<|zm<|zm<|zn<|zk<|sim_block<|yl1 [8,9,20,21,22,23,24,25,26,27] 20 h fun σ w next h=>zs<|zr<|yb h fun _ w h=>zn<|zk<|zs ?_
 refine yC h (fun h=>?_) fun h=>?_
 · refine sim_skip<|zk<|zs<|sim_block<|zs<|zr<|zm<|zm<|zn<|zk<|zs<|zr<|zm<|zm<|yV h fun _ w h=>?_
   exact zn<|zk<|yC h (fun h=>zs<|zr<|zm<|zm<|zn<|zk<|sim_ret<|sim_block_ret<|sim_then_ret<|sim_then_ret<|sim_block_ret<|sim_then_ret<|body_ret1 rfl rfl h) fun h=>sim_skip<|sim_block_normal<|zk<|zr<|yb h fun _ w h=>zm<|zn<|zk<|⟨rfl,h⟩
 exact sim_exit<|sim_then_exit<|sim_then_exit<|sim_block_hit<|zk<|zs<|zr<|zm<|zn<|zk<|sim_ret<|body_ret1 rfl rfl h
def n14c1 (t4 t21 t25:Value) (R:RT) (w:World):Prop :=
 pickK t21 (.bool true) t25 fun t26 =>
 joinK (fun (t30:Value) (w:World) =>
 pickK t26 (.bool true) t30 fun t31 =>
 R (.returned t31) w) fun K3 =>
 guardP t26 false (
 opV Pg (Instr.fieldAt 52 t4 1) (panK R) w fun t28 w =>
 opV Pg (Instr.loadAt 3 t28) (panK R) w fun t29 w =>
 opV Pg (binS .gtr 3 true t29 (.int .i64 1000)) (panK R) w fun t30 w =>
 K3 t30 w) (
 K3 undef w)
def n14c2 (t4 t13 t20:Value) (R:RT) (w:World):Prop :=
 pickK t13 (.bool true) t20 fun t21 =>
 joinK (fun (t25:Value) (w:World) =>
 n14c1 t4 t21 t25 R w) fun K2 =>
 guardP t21 false (
 opV Pg (Instr.fieldAt 52 t4 1) (panK R) w fun t23 w =>
 opV Pg (Instr.loadAt 3 t23) (panK R) w fun t24 w =>
 opV Pg (binS .lss 3 true t24 (.int .i64 1)) (panK R) w fun t25 w =>
 K2 t25 w) (
 K2 undef w)
def n14c3 (t0 t1 t4 t12:Value) (R:RT) (w:World):Prop :=
 opV Pg (Op.unary .not t12) (panK R) w fun t13 w =>
 joinK (fun (t20:Value) (w:World) =>
 n14c2 t4 t13 t20 R w) fun K1 =>
 guardP t13 false (
 opV Pg (Instr.loadAt 26 t1) (panK R) w fun t15 w =>
 opV Pg (Instr.fieldAt 52 t4 0) (panK R) w fun t16 w =>
 opV Pg (Instr.loadAt 9 t16) (panK R) w fun t17 w =>
 callK Pg 38 #[t15,t17] (panK R) w fun t18 w =>
 opV Pg (binS .lss 3 false t18 t0) (panK R) w fun t20 w =>
 K1 t20 w) (
 K1 undef w)
def n14 (t0 t1:Value) (R:RT) (w:World):Prop :=
 opV Pg (Instr.fieldAt 26 t1 2) (panK R) w fun t5 w =>
 opV Pg (Instr.loadAt 23 t5) (panK R) w fun t6 w =>
 opV Pg (Instr.indexAt 23 t6 t0) (panK R) w fun t8 w =>
 opV Pg (Instr.loadAt 52 t8) (panK R) w fun t9 w =>
 opV Pg (Instr.alloc 52 true (.tuple #[])) (panK R) w fun t4 w =>
 opU Pg (Instr.storeAt 52 t4 t9) (panK R) w fun w =>
 opV Pg (Instr.fieldAt 52 t4 0) (panK R) w fun t10 w =>
 opV Pg (Instr.loadAt 9 t10) (panK R) w fun t11 w =>
 callK Pg 17 #[t11] (panK R) w fun t12 w =>
 n14c3 t0 t1 t4 t12 R w
theorem n14s {t0 t1:Value} {R:RT} {w:World} (h:n14 t0 t1 R w):Calls Pg 37 #[t0,t1] w R:=by
 refine yD Tryz.func37 ?_
 refine zs<|zr<|zm<|zn<|zk<|zs<|zr<|yv h fun _ w h=>yv h fun _ w h=>zm<|yv h fun _ w h=>yv h fun _ w h=>yv h fun _ w h=>yu h fun w h=>zn ?_
 refine zk<|zs<|sim_regionG<|yG 5<|yv h fun _ w h=>yv h fun _ w h=>yc h c17 fun _ w h=>yv h fun _ w h=>zm<|zn<|yg1 6 4 false [15,16,17,18,19,20] 20 h (fun _ T hT h=>?_) fun σ w h=>?_
 · refine yv h fun _ w h=>yv h fun _ w h=>yv h fun _ w h=>yc h c38 fun _ w h=>zm<|yb h fun _ w h=>zn ?_
   exact zt hT h
 refine yG 2<|yp h fun _ h=>zm<|zn<|yg1 3 12 false [23,24,25] 25 h (fun _ T hT h=>?_) fun σ w h=>?_
 · refine yv h fun _ w h=>yv h fun _ w h=>yb h fun _ w h=>zn ?_
   exact zt hT h
 refine yG 2<|yp h fun _ h=>zm<|zn<|yg1 3 17 false [28,29,30] 30 h (fun _ T hT h=>?_) fun σ w h=>?_
 · refine yv h fun _ w h=>yv h fun _ w h=>yb h fun _ w h=>zn ?_
   exact zt hT h
 exact yG 2<|yp h fun _ h=>zm<|zn<|sim_end<|zk<|sim_ret<|body_ret1 rfl rfl h
def n26 (t0 t1:Value) (R:RT) (w:World):Prop :=
 opV Pg (Instr.box 26 t0) (panK R) w fun t2 w =>
 opV Pg (Instr.box 9 t1) (panK R) w fun t3 w =>
 opV Pg (Instr.fieldAt 26 t2 2) (panK R) w fun t5 w =>
 opV Pg (Instr.loadAt 23 t5) (panK R) w fun t6 w =>
 opV Pg (Instr.makeFunc (.func 78) #[] #[t3]) (panK R) w fun t7 w =>
 callK Pg 77 #[t6,t7] (panK R) w fun t8 w =>
 R (.returned t8) w
theorem n26s {t0 t1:Value} {R:RT} {w:World} (h:n26 t0 t1 R w):Calls Pg 38 #[t0,t1] w R:=by
 refine yD Tryz.func38 ?_
 refine zs<|zr<|yv h fun _ w h=>yv h fun _ w h=>zm<|zn<|zk<|zs<|zr<|yv h fun _ w h=>yv h fun _ w h=>yF h fun _ w h=>yc h c77 fun _ w h=>zm<|zn ?_
 exact zk<|sim_ret<|body_ret1 rfl rfl h
def n15c1 (t4 t21 t25:Value) (R:RT) (w:World):Prop :=
 pickK t21 (.bool true) t25 fun t26 =>
 joinK (fun (t30:Value) (w:World) =>
 pickK t26 (.bool true) t30 fun t31 =>
 R (.returned t31) w) fun K3 =>
 guardP t26 false (
 opV Pg (Instr.fieldAt 50 t4 2) (panK R) w fun t28 w =>
 opV Pg (Instr.loadAt 3 t28) (panK R) w fun t29 w =>
 opV Pg (binS .gtr 3 true t29 (.int .i64 1048576)) (panK R) w fun t30 w =>
 K3 t30 w) (
 K3 undef w)
def n15c2 (t4 t13 t20:Value) (R:RT) (w:World):Prop :=
 pickK t13 (.bool true) t20 fun t21 =>
 joinK (fun (t25:Value) (w:World) =>
 n15c1 t4 t21 t25 R w) fun K2 =>
 guardP t21 false (
 opV Pg (Instr.fieldAt 50 t4 2) (panK R) w fun t23 w =>
 opV Pg (Instr.loadAt 3 t23) (panK R) w fun t24 w =>
 opV Pg (binS .lss 3 true t24 (.int .i64 0)) (panK R) w fun t25 w =>
 K2 t25 w) (
 K2 undef w)
def n15c3 (t0 t1 t4 t12:Value) (R:RT) (w:World):Prop :=
 opV Pg (Op.unary .not t12) (panK R) w fun t13 w =>
 joinK (fun (t20:Value) (w:World) =>
 n15c2 t4 t13 t20 R w) fun K1 =>
 guardP t13 false (
 opV Pg (Instr.loadAt 26 t1) (panK R) w fun t15 w =>
 opV Pg (Instr.fieldAt 50 t4 0) (panK R) w fun t16 w =>
 opV Pg (Instr.loadAt 9 t16) (panK R) w fun t17 w =>
 callK Pg 40 #[t15,t17] (panK R) w fun t18 w =>
 opV Pg (binS .lss 3 false t18 t0) (panK R) w fun t20 w =>
 K1 t20 w) (
 K1 undef w)
def n15 (t0 t1:Value) (R:RT) (w:World):Prop :=
 opV Pg (Instr.fieldAt 26 t1 1) (panK R) w fun t5 w =>
 opV Pg (Instr.loadAt 22 t5) (panK R) w fun t6 w =>
 opV Pg (Instr.indexAt 22 t6 t0) (panK R) w fun t8 w =>
 opV Pg (Instr.loadAt 50 t8) (panK R) w fun t9 w =>
 opV Pg (Instr.alloc 50 true (.tuple #[])) (panK R) w fun t4 w =>
 opU Pg (Instr.storeAt 50 t4 t9) (panK R) w fun w =>
 opV Pg (Instr.fieldAt 50 t4 0) (panK R) w fun t10 w =>
 opV Pg (Instr.loadAt 9 t10) (panK R) w fun t11 w =>
 callK Pg 17 #[t11] (panK R) w fun t12 w =>
 n15c3 t0 t1 t4 t12 R w
theorem n15s {t0 t1:Value} {R:RT} {w:World} (h:n15 t0 t1 R w):Calls Pg 39 #[t0,t1] w R:=by
 refine yD Tryz.func39 ?_
 refine zs<|zr<|zm<|zn<|zk<|zs<|zr<|yv h fun _ w h=>yv h fun _ w h=>zm<|yv h fun _ w h=>yv h fun _ w h=>yv h fun _ w h=>yu h fun w h=>zn ?_
 refine zk<|zs<|sim_regionG<|yG 5<|yv h fun _ w h=>yv h fun _ w h=>yc h c17 fun _ w h=>yv h fun _ w h=>zm<|zn<|yg1 6 4 false [15,16,17,18,19,20] 20 h (fun _ T hT h=>?_) fun σ w h=>?_
 · refine yv h fun _ w h=>yv h fun _ w h=>yv h fun _ w h=>yc h c40 fun _ w h=>zm<|yb h fun _ w h=>zn ?_
   exact zt hT h
 refine yG 2<|yp h fun _ h=>zm<|zn<|yg1 3 12 false [23,24,25] 25 h (fun _ T hT h=>?_) fun σ w h=>?_
 · refine yv h fun _ w h=>yv h fun _ w h=>yb h fun _ w h=>zn ?_
   exact zt hT h
 refine yG 2<|yp h fun _ h=>zm<|zn<|yg1 3 17 false [28,29,30] 30 h (fun _ T hT h=>?_) fun σ w h=>?_
 · refine yv h fun _ w h=>yv h fun _ w h=>yb h fun _ w h=>zn ?_
   exact zt hT h
 exact yG 2<|yp h fun _ h=>zm<|zn<|sim_end<|zk<|sim_ret<|body_ret1 rfl rfl h
def n47 (t0 t1:Value) (R:RT) (w:World):Prop :=
 opV Pg (Instr.box 26 t0) (panK R) w fun t2 w =>
 opV Pg (Instr.box 9 t1) (panK R) w fun t3 w =>
 opV Pg (Instr.fieldAt 26 t2 1) (panK R) w fun t5 w =>
 opV Pg (Instr.loadAt 22 t5) (panK R) w fun t6 w =>
 opV Pg (Instr.makeFunc (.func 80) #[] #[t3]) (panK R) w fun t7 w =>
 callK Pg 79 #[t6,t7] (panK R) w fun t8 w =>
 R (.returned t8) w
theorem n47s {t0 t1:Value} {R:RT} {w:World} (h:n47 t0 t1 R w):Calls Pg 40 #[t0,t1] w R:=by
 refine yD Tryz.func40 ?_
 refine zs<|zr<|yv h fun _ w h=>yv h fun _ w h=>zm<|zn<|zk<|zs<|zr<|yv h fun _ w h=>yv h fun _ w h=>yF h fun _ w h=>yc h c79 fun _ w h=>zm<|zn ?_
 exact zk<|sim_ret<|body_ret1 rfl rfl h
def n16 (t0 t1:Value) (R:RT) (w:World):Prop :=
 opV Pg (Instr.loadAt 26 t1) (panK R) w fun t4 w =>
 callK Pg 42 #[t4,t0] (panK R) w fun t6 w =>
 opV Pg (Op.unary .not t6) (panK R) w fun t7 w =>
 R (.returned t7) w
theorem n16s {t0 t1:Value} {R:RT} {w:World} (h:n16 t0 t1 R w):Calls Pg 41 #[t0,t1] w R:=by
 refine yD Tryz.func41 ?_
 refine zs<|zr<|zm<|zn<|zk<|zs<|zr<|yv h fun _ w h=>zm<|yc h c42 fun _ w h=>yv h fun _ w h=>zm<|zn<|zk<|sim_ret ?_
 exact body_ret1 rfl rfl h
def n49 (t0:Value) (R:RT) (w:World):Prop :=
 opV Pg (binS .eql 23 true t0 (Value.slice none 0 0)) (panK R) w fun t4 w =>
 condP t4 (
 R (.returned (Value.slice none 0 0)) w) (
 opV Pg (Instr.buildSlice 23 0 #[]) (panK R) w fun t5 w =>
 opV Pg (Builtin.append_ #[23,23] 23 #[t5,t0]) (panK R) w fun t7 w =>
 R (.returned t7) w)
theorem n49s {t0:Value} {R:RT} {w:World} (h:n49 t0 R w):Calls Pg 55 #[t0] w R:=by
 refine yD Tryz.func55 ?_
 refine zs<|zr<|zm<|zn<|zk<|zs<|zs<|zr<|zm<|yb h fun _ w h=>zn<|zk<|yC h (fun h=>zs<|zr<|zm<|zn<|zk<|sim_ret<|sim_then_ret<|body_ret1 rfl rfl h) fun h=>sim_skip ?_
 exact zk<|zs<|zr<|yS h fun _ w h=>zm<|yx h fun _ w h=>zm<|zn<|zk<|sim_ret<|body_ret1 rfl rfl h
def n50 (t0:Value) (R:RT) (w:World):Prop :=
 opV Pg (binS .eql 22 true t0 (Value.slice none 0 0)) (panK R) w fun t4 w =>
 condP t4 (
 R (.returned (Value.slice none 0 0)) w) (
 opV Pg (Instr.buildSlice 22 0 #[]) (panK R) w fun t5 w =>
 opV Pg (Builtin.append_ #[22,22] 22 #[t5,t0]) (panK R) w fun t7 w =>
 R (.returned t7) w)
theorem n50s {t0:Value} {R:RT} {w:World} (h:n50 t0 R w):Calls Pg 56 #[t0] w R:=by
 refine yD Tryz.func56 ?_
 refine zs<|zr<|zm<|zn<|zk<|zs<|zs<|zr<|zm<|yb h fun _ w h=>zn<|zk<|yC h (fun h=>zs<|zr<|zm<|zn<|zk<|sim_ret<|sim_then_ret<|body_ret1 rfl rfl h) fun h=>sim_skip ?_
 exact zk<|zs<|zr<|yS h fun _ w h=>zm<|yx h fun _ w h=>zm<|zn<|zk<|sim_ret<|body_ret1 rfl rfl h
def n52 (t0 t1:Value) (R:RT) (w:World):Prop :=
 opV Pg (Instr.box 71 t1) (panK R) w fun t3 w =>
 opV Pg (Instr.loadAt 71 t3) (panK R) w fun t6 w =>
 callK Pg 94 #[t0,t6] (panK R) w fun t7 w =>
 opV Pg (binS .geq 3 true t7 (.int .i64 0)) (panK R) w fun t8 w =>
 R (.returned t8) w
theorem n52s {t0 t1:Value} {R:RT} {w:World} (h:n52 t0 t1 R w):Calls Pg 57 #[t0,t1] w R:=by
 refine yD Tryz.func57 ?_
 refine zs<|zr<|yv h fun _ w h=>zm<|zn<|zk<|zs<|zr<|zm<|yv h fun _ w h=>yc h c94 fun _ w h=>yb h fun _ w h=>zm<|zn<|zk ?_
 exact sim_ret<|body_ret1 rfl rfl h
def n40c1 (t0 t40:Value) (C3:World→Prop) (R:RT) (w:World):Prop :=
 qN Pg C3 (nilN t0) fun t43 =>
 qV Pg C3 (Instr.fieldAt 109 t43 2) fun t44 =>
 opU Pg (Instr.storeAt 73 t44 t40) (panK R) w fun w =>
 turnK w fun C4 w =>
 R (.returned (.bool true)) w
def n40c2 (t0 t37 t40:Value) (C3:World→Prop) (R:RT) (w:World):Prop :=
 qV Pg C3 (binS .add 3 true t37 (.int .i64 1)) fun t38 =>
 qN Pg C3 (nilN t0) fun t41 =>
 qV Pg C3 (Instr.fieldAt 109 t41 1) fun t42 =>
 opU Pg (Instr.storeAt 3 t42 t38) (panK R) w fun w =>
 C3 w∧(
 n40c1 t0 t40 C3 R w)
def n40c3 (t0 t26:Value) (C3:World→Prop) (R:RT) (w:World):Prop :=
 qN Pg C3 (nilN t0) fun t35 =>
 qV Pg C3 (Instr.fieldAt 109 t35 1) fun t36 =>
 qV Pg C3 (Instr.sliceAt 73 t26 (some (.int .i64 1)) none none) fun t40 =>
 opV Pg (Instr.loadAt 3 t36) (panK R) w fun t37 w =>
 C3 w∧(
 n40c2 t0 t37 t40 C3 R w)
def n40c4 (t0 t1 t26:Value) (R:RT) (w:World):Prop :=
 opV Pg (Instr.indexAt 73 t26 (.int .i64 0)) (panK R) w fun t28 w =>
 opV Pg (Instr.loadAt 9 t28) (panK R) w fun t29 w =>
 opV Pg (binS .neq 9 false t29 t1) (panK R) w fun t31 w =>
 condP t31 (
 R (.returned (.bool false)) w) (
 drawK w fun C3 w =>
 n40c3 t0 t26 C3 R w)
def n40c5 (t0 t1:Value) (C2:World→Prop) (R:RT) (w:World):Prop :=
 qN Pg C2 (nilN t0) fun t17 =>
 qV Pg C2 (Instr.fieldAt 109 t17 0) fun t18 =>
 qV Pg C2 (Instr.loadAt 73 t18) fun t19 =>
 qN Pg C2 (nilN t0) fun t21 =>
 qV Pg C2 (Instr.fieldAt 109 t21 1) fun t22 =>
 qV Pg C2 (Instr.loadAt 3 t22) fun t23 =>
 qV Pg C2 (Instr.indexAt 73 t19 t23) fun t24 =>
 qV Pg C2 (Instr.loadAt 9 t24) fun t25 =>
 callK Pg 89 #[t25,(.string { data := #[32] })] (panK R) w fun t26 w =>
 C2 w∧(
 n40c4 t0 t1 t26 R w)
def n40c6 (t0 t1:Value) (C1:World→Prop) (R:RT) (w:World):Prop :=
 qN Pg C1 (nilN t0) fun t7 =>
 qV Pg C1 (Instr.fieldAt 109 t7 1) fun t8 =>
 qV Pg C1 (Instr.loadAt 3 t8) fun t9 =>
 qN Pg C1 (nilN t0) fun t11 =>
 qV Pg C1 (Instr.fieldAt 109 t11 0) fun t12 =>
 qV Pg C1 (Instr.loadAt 73 t12) fun t13 =>
 qV Pg C1 (Builtin.len_ #[73] 3 #[t13]) fun t14 =>
 qV Pg C1 (binS .eql 3 false t9 t14) fun t15 =>
 condP t15 (
 R (.returned (.bool false)) w) (
 drawK w fun C2 w =>
 n40c5 t0 t1 C2 R w)
def n40 (t0 t1:Value) (R:RT) (w:World):Prop :=
 drawK w fun C1 w =>
 n40c6 t0 t1 C1 R w
theorem n40s {t0 t1:Value} {R:RT} {w:World} (h:n40 t0 t1 R w):Calls Pg 65 #[t0,t1] w R:=by
 refine yD Tryz.func65 ?_
 refine zs<|zr<|zm<|zn<|zk<|zs<|zs<|yh [6,7,8,9,10,11,12,13,14,15] h fun C hC h=>yw 0 hC ?_
 refine yn 1 hC h fun _ h=>?_
 refine ye 2 hC h fun _ h=>?_
 refine ye 3 hC h fun _ h=>?_
 refine yw 4 hC ?_
 refine yn 5 hC h fun _ h=>?_
 refine ye 6 hC h fun _ h=>?_
 refine ye 7 hC h fun _ h=>?_
 refine ye 8 hC h fun _ h=>?_
 refine ye 9 hC h fun _ h=>?_
 refine yz<|zk<|yC h (fun h=>zs<|zr<|zm<|zn<|zk<|sim_ret<|sim_then_ret<|body_ret1 rfl rfl h) fun h=>sim_skip<|zk<|zs<|yh [5,16,17,18,19,20,21,22,23,24,25,26] h fun C hC h=>yw 0 hC ?_
 refine yn 1 hC h fun _ h=>?_
 refine ye 2 hC h fun _ h=>?_
 refine ye 3 hC h fun _ h=>?_
 refine yw 4 hC ?_
 refine yn 5 hC h fun _ h=>?_
 refine ye 6 hC h fun _ h=>?_
 refine ye 7 hC h fun _ h=>?_
 refine ye 8 hC h fun _ h=>?_
 refine ye 9 hC h fun _ h=>?_
 refine yo 10 ?_
 refine yc h c89 fun _ w h=>zn ?_
 obtain ⟨hC,h⟩:=h
 refine ⟨hC,?_⟩
 refine yw 11 hC ?_
 refine yz<|zk<|zs<|zs<|zr<|zm<|yv h fun _ w h=>yv h fun _ w h=>zm<|yb h fun _ w h=>zn<|zk<|yC h (fun h=>zs<|zr<|zm<|zn<|zk<|sim_ret<|sim_then_ret<|body_ret1 rfl rfl h) fun h=>sim_skip ?_
 refine zk<|zs<|yh [32,33,34,35,36,37,38,39,40,41,42,43,44] h fun C hC h=>yw 0 hC ?_
 refine yw 1 hC ?_
 refine yw 2 hC ?_
 refine yn 3 hC h fun _ h=>?_
 refine ye 4 hC h fun _ h=>?_
 refine yw 7 hC ?_
 refine ye 8 hC h fun _ h=>?_
 refine yo 5 ?_
 refine yv h fun _ w h=>zn ?_
 obtain ⟨hC,h⟩:=h
 refine ⟨hC,?_⟩
 refine ye 6 hC h fun _ h=>?_
 refine yn 9 hC h fun _ h=>?_
 refine ye 10 hC h fun _ h=>?_
 refine yo 11 ?_
 refine yu h fun w h=>zn ?_
 obtain ⟨hC,h⟩:=h
 refine ⟨hC,?_⟩
 refine yn 12 hC h fun _ h=>?_
 refine ye 13 hC h fun _ h=>?_
 refine yq 14 2 ?_
 refine yu h fun w h=>zn ?_
 obtain ⟨C4,hC,h⟩:=h
 refine ⟨C4,hC,?_⟩
 exact yz<|zk<|zs<|zr<|zm<|zn<|zk<|sim_ret<|body_ret1 rfl rfl h
def n38c1 (t0:Value) (R:RT) (w:World):Prop :=
 opN Pg (nilN t0) (panK R) w fun t7 w =>
 opV Pg (Instr.fieldAt 109 t7 1) (panK R) w fun t8 w =>
 opV Pg (Instr.loadAt 3 t8) (panK R) w fun t9 w =>
 opV Pg (Instr.makeInterface 133 t9) (panK R) w fun t10 w =>
 opV Pg (Instr.panic t10) (panK R) w fun _ w =>
 False
def n38 (t0 t1:Value) (R:RT) (w:World):Prop :=
 opV Pg (Op.unary .not t1) (panK R) w fun t5 w =>
 condP t5 (
 n38c1 t0 R w) (
 R (.returned (.tuple #[])) w)
theorem n38s {t0 t1:Value} {R:RT} {w:World} (h:n38 t0 t1 R w):Calls Pg 66 #[t0,t1] w R:=by
 refine yD Tryz.func66 ?_
 exact zs<|zr<|zm<|yv h fun _ w h=>zn<|zk<|yC h (fun h=>zr<|zm<|yN h fun _ w h=>yv h fun _ w h=>yv h fun _ w h=>yv h fun _ w h=>yv h fun _ w h=>zn<|h.elim) fun h=>sim_skip<|body_normal<|body_ret0 rfl h
def n39 (t0:Value) (R:RT) (w:World):Prop :=
 callK Pg 69 #[t0] (panK R) w fun t5 w =>
 callK Pg 17 #[t5] (panK R) w fun t8 w =>
 callK Pg 66 #[t0,t8] (panK R) w fun t9 w =>
 R (.returned t5) w
theorem n39s {t0:Value} {R:RT} {w:World} (h:n39 t0 R w):Calls Pg 67 #[t0] w R:=by
 refine yD Tryz.func67 ?_
 refine zs<|zr<|zm<|zn<|zk<|zs<|zr<|zm<|yc h c69 fun _ w h=>zm<|zn<|zk<|zs<|zr<|zm ?_
 exact zm<|yc h c17 fun _ w h=>yc h c66 fun _ w h=>zn<|zk<|zs<|zr<|zm<|zm<|zn<|zk<|sim_ret<|body_ret1 rfl rfl h
def n57c1 (t0 t1 t8:Value) (next1:KV) (R:RT) (w:World):Prop :=
 opV Pg (Instr.indexAt 73 t0 t8) (panK R) w fun t14 w =>
 opV Pg (Instr.loadAt 9 t14) (panK R) w fun t15 w =>
 opV Pg (binS .eql 9 false t1 t15) (panK R) w fun t16 w =>
 condP t16 (
 R (.returned t8) w) (
 opV Pg (binS .add 3 true t8 (.int .i64 1)) (panK R) w fun t18 w =>
 next1 t18 w)
def n57 (t0 t1:Value) (R:RT) (w:World):Prop :=
 opV Pg (Builtin.len_ #[73] 3 #[t0]) (panK R) w fun t7 w =>
 loop1 (fun t8 w next1 =>
 opV Pg (binS .lss 3 false t8 t7) (panK R) w fun t9 w =>
 condP t9 (
 n57c1 t0 t1 t8 next1 R w) (
 R (.returned (.int .i64 (-1))) w)) (.int .i64 0) w
theorem n57s {t0 t1:Value} {R:RT} {w:World} (h:n57 t0 t1 R w):Calls Pg 68 #[t0,t1] w R:=by
 refine yD Tryz.func68 ?_
 refine zs<|zr<|zm<|zn<|zk<|zs<|zs<|zr<|zm<|yx h fun _ w h=>zm<|zn<|zk<|sim_block<|yl1 [4,5,8,9,10,11,12,13,14,15,16,17,18] 8 h fun σ w next h=>?_
 refine zs<|zr<|yb h fun _ w h=>zn<|zk<|zs<|yC h (fun h=>?_) fun h=>?_
 · refine sim_skip<|zk<|zs<|sim_block<|zs<|zr<|zm<|zm<|zn<|zk<|zs<|zr<|zm<|zm<|zm ?_
   refine yv h fun _ w h=>yv h fun _ w h=>yb h fun _ w h=>zn<|zk<|yC h (fun h=>zs<|zr<|zm<|zm<|zn<|zk<|sim_ret<|sim_block_ret<|sim_then_ret<|sim_then_ret<|sim_block_ret<|sim_then_ret<|body_ret1 rfl rfl h) fun h=>sim_skip<|sim_block_normal<|zk<|zr<|yb h fun _ w h=>zm<|zn<|zk ?_
   exact ⟨rfl,h⟩
 exact sim_exit<|sim_then_exit<|sim_then_exit<|sim_block_hit<|zk<|zs<|zr<|zm<|zn<|zk<|sim_ret<|body_ret1 rfl rfl h
def n46c1 (t0:Value) (C1:World→Prop) (R:RT) (w:World):Prop :=
 qN Pg C1 (nilN t0) fun t13 =>
 qV Pg C1 (Instr.fieldAt 109 t13 2) fun t14 =>
 qV Pg C1 (Instr.loadAt 73 t14) fun t15 =>
 qV Pg C1 (Instr.indexAt 73 t15 (.int .i64 0)) fun t16 =>
 qV Pg C1 (Instr.loadAt 9 t16) fun t17 =>
 qN Pg C1 (nilN t0) fun t19 =>
 qV Pg C1 (Instr.fieldAt 109 t19 2) fun t20 =>
 qV Pg C1 (Instr.loadAt 73 t20) fun t21 =>
 qV Pg C1 (Instr.sliceAt 73 t21 (some (.int .i64 1)) none none) fun t22 =>
 qN Pg C1 (nilN t0) fun t23 =>
 qV Pg C1 (Instr.fieldAt 109 t23 2) fun t24 =>
 opU Pg (Instr.storeAt 73 t24 t22) (panK R) w fun w =>
 turnK w fun C2 w =>
 R (.returned t17) w
def n46 (t0:Value) (R:RT) (w:World):Prop :=
 opN Pg (nilN t0) (panK R) w fun t5 w =>
 opV Pg (Instr.fieldAt 109 t5 2) (panK R) w fun t6 w =>
 opV Pg (Instr.loadAt 73 t6) (panK R) w fun t7 w =>
 opV Pg (Builtin.len_ #[73] 3 #[t7]) (panK R) w fun t8 w =>
 opV Pg (binS .gtr 3 true t8 (.int .i64 0)) (panK R) w fun t9 w =>
 callK Pg 66 #[t0,t9] (panK R) w fun t10 w =>
 drawK w fun C1 w =>
 n46c1 t0 C1 R w
theorem n46s {t0:Value} {R:RT} {w:World} (h:n46 t0 R w):Calls Pg 69 #[t0] w R:=by
 refine yD Tryz.func69 ?_
 refine zs<|zr<|zm<|zn<|zk<|zs<|zr<|zm<|zm<|yN h fun _ w h=>yv h fun _ w h=>yv h fun _ w h=>yx h fun _ w h=>yb h fun _ w h=>yc h c66 fun _ w h=>?_
 refine zn<|zk<|zs<|yh [2,11,12,13,14,15,16,17,18,19,20,21,22,23,24] h fun C hC h=>yw 0 hC ?_
 refine yw 1 hC ?_
 refine yn 2 hC h fun _ h=>?_
 refine ye 3 hC h fun _ h=>?_
 refine ye 4 hC h fun _ h=>?_
 refine ye 5 hC h fun _ h=>?_
 refine ye 6 hC h fun _ h=>?_
 refine yw 7 hC ?_
 refine yn 8 hC h fun _ h=>?_
 refine ye 9 hC h fun _ h=>?_
 refine ye 10 hC h fun _ h=>?_
 refine ye 11 hC h fun _ h=>?_
 refine yw 12 hC ?_
 refine yn 13 hC h fun _ h=>?_
 refine ye 14 hC h fun _ h=>?_
 refine yq 15 2 ?_
 refine yu h fun w h=>zn ?_
 obtain ⟨C2,hC,h⟩:=h
 refine ⟨C2,hC,?_⟩
 exact yz<|zk<|zs<|zr<|zm<|zm<|zn<|zk<|sim_ret<|body_ret1 rfl rfl h
def n41c1 (t0 t7 t11 t15 t20:Value) (R:RT) (w:World):Prop :=
 pickK t15 t20 (.bool false) fun t21 =>
 joinK (fun (t26:Value) (w:World) =>
 pickK t21 t26 (.bool false) fun t27 =>
 callK Pg 66 #[t0,t27] (panK R) w fun t28 w =>
 R (.returned t11) w) fun K2 =>
 guardP t21 true (
 callK Pg 98 #[t7,(.string { data := #[45] })] (panK R) w fun t24 w =>
 opV Pg (Builtin.len_ #[9] 3 #[t24]) (panK R) w fun t25 w =>
 opV Pg (binS .leq 3 true t25 (.int .i64 10)) (panK R) w fun t26 w =>
 K2 t26 w) (
 K2 undef w)
def n41c2 (t0 t7 t10:Value) (R:RT) (w:World):Prop :=
 opV Pg (Instr.extract t10 0) (panK R) w fun t11 w =>
 opV Pg (Instr.extract t10 1) (panK R) w fun t12 w =>
 opV Pg (binS .eql 130 true t12 .nilIface) (panK R) w fun t15 w =>
 joinK (fun (t20:Value) (w:World) =>
 n41c1 t0 t7 t11 t15 t20 R w) fun K1 =>
 guardP t15 true (
 callK Pg 82 #[t11] (panK R) w fun t18 w =>
 opV Pg (binS .eql 9 false t18 t7) (panK R) w fun t20 w =>
 K1 t20 w) (
 K1 undef w)
def n41 (t0:Value) (R:RT) (w:World):Prop :=
 callK Pg 69 #[t0] (panK R) w fun t7 w =>
 callK Pg 97 #[t7] (panK R) w fun t10 w =>
 n41c2 t0 t7 t10 R w
theorem n41s {t0:Value} {R:RT} {w:World} (h:n41 t0 R w):Calls Pg 70 #[t0] w R:=by
 refine yD Tryz.func70 ?_
 refine zs<|zr<|zm<|zn<|zk<|zs<|zr<|zm<|yc h c69 fun _ w h=>zm<|zn<|zk<|zs<|zr<|zm ?_
 refine yc h c97 fun _ w h=>zm<|yv h fun _ w h=>yv h fun _ w h=>zm<|zm<|zn<|zk<|zs<|sim_regionG<|yG 4<|zm<|zm<|yb h fun _ w h=>zm ?_
 refine zn<|yg1 4 3 true [17,18,19,20] 20 h (fun _ T hT h=>?_) fun σ w h=>?_
 · refine zm<|yc h c82 fun _ w h=>zm<|yb h fun _ w h=>zn ?_
   exact zt hT h
 refine yG 2<|yp h fun _ h=>zm<|zn<|yg1 4 9 true [23,24,25,26] 26 h (fun _ T hT h=>?_) fun σ w h=>?_
 · refine zm<|yc h c98 fun _ w h=>yx h fun _ w h=>yb h fun _ w h=>zn ?_
   exact zt hT h
 exact yG 2<|yp h fun _ h=>yc h c66 fun _ w h=>zn<|sim_end<|zk<|zs<|zr<|zm<|zm<|zn<|zk<|sim_ret<|body_ret1 rfl rfl h
def n37 (t0:Value) (R:RT) (w:World):Prop :=
 opN Pg (nilN t0) (panK R) w fun t4 w =>
 opV Pg (Instr.fieldAt 109 t4 2) (panK R) w fun t5 w =>
 opV Pg (Instr.loadAt 73 t5) (panK R) w fun t6 w =>
 opV Pg (Builtin.len_ #[73] 3 #[t6]) (panK R) w fun t7 w =>
 opV Pg (binS .eql 3 true t7 (.int .i64 0)) (panK R) w fun t8 w =>
 callK Pg 66 #[t0,t8] (panK R) w fun t9 w =>
 R (.returned (.tuple #[])) w
theorem n37s {t0:Value} {R:RT} {w:World} (h:n37 t0 R w):Calls Pg 71 #[t0] w R:=by
 refine yD Tryz.func71 ?_
 exact zr<|zm<|zm<|yN h fun _ w h=>yv h fun _ w h=>yv h fun _ w h=>yx h fun _ w h=>yb h fun _ w h=>yc h c66 fun _ w h=>zn<|body_normal<|body_ret0 rfl h
def n53 (t0 t1:Value) (R:RT) (w:World):Prop :=
 callK Pg 68 #[t0,t1] (panK R) w fun t7 w =>
 opV Pg (binS .geq 3 true t7 (.int .i64 0)) (panK R) w fun t8 w =>
 R (.returned t8) w
theorem n53s {t0 t1:Value} {R:RT} {w:World} (h:n53 t0 t1 R w):Calls Pg 73 #[t0,t1] w R:=by
 refine yD Tryz.func73 ?_
 refine zs<|zr<|zm<|zn<|zk<|zs<|zr<|zm<|zm<|yc h c68 fun _ w h=>yb h fun _ w h=>zm<|zn<|zk<|sim_ret ?_
 exact body_ret1 rfl rfl h
def n51 (t0:Value) (R:RT) (w:World):Prop :=
 opV Pg (binS .eql 24 true t0 (Value.slice none 0 0)) (panK R) w fun t4 w =>
 condP t4 (
 R (.returned (Value.slice none 0 0)) w) (
 opV Pg (Instr.buildSlice 24 0 #[]) (panK R) w fun t5 w =>
 opV Pg (Builtin.append_ #[24,24] 24 #[t5,t0]) (panK R) w fun t7 w =>
 R (.returned t7) w)
theorem n51s {t0:Value} {R:RT} {w:World} (h:n51 t0 R w):Calls Pg 75 #[t0] w R:=by
 refine yD Tryz.func75 ?_
 refine zs<|zr<|zm<|zn<|zk<|zs<|zs<|zr<|zm<|yb h fun _ w h=>zn<|zk<|yC h (fun h=>zs<|zr<|zm<|zn<|zk<|sim_ret<|sim_then_ret<|body_ret1 rfl rfl h) fun h=>sim_skip ?_
 exact zk<|zs<|zr<|yS h fun _ w h=>zm<|yx h fun _ w h=>zm<|zn<|zk<|sim_ret<|body_ret1 rfl rfl h
def n18c1 (t0 t2 t6 t8:Value) (K1:World→Prop) (next2:KV) (R:RT) (w:World):Prop :=
 opV Pg (Instr.indexAt 24 t6 t8) (panK R) w fun t11 w =>
 opV Pg (Instr.loadAt 71 t11) (panK R) w fun t12 w =>
 opV Pg (Instr.alloc 71 true (.tuple #[])) (panK R) w fun t5 w =>
 opU Pg (Instr.storeAt 71 t5 t12) (panK R) w fun w =>
 opV Pg (Instr.fieldAt 71 t5 0) (panK R) w fun t13 w =>
 opV Pg (Instr.loadAt 9 t13) (panK R) w fun t14 w =>
 opV Pg (Instr.loadAt 9 t2) (panK R) w fun t15 w =>
 opV Pg (binS .eql 9 false t14 t15) (panK R) w fun t16 w =>
 joinK (fun (t22:Value) (w:World) =>
 pickK t16 t22 (.bool false) fun t23 =>
 condP t23 (
 K1 w) (
 opV Pg (binS .add 3 true t8 (.int .i64 1)) (panK R) w fun t24 w =>
 next2 t24 w)) fun K3 =>
 guardP t16 true (
 opV Pg (Instr.loadAt 71 t5) (panK R) w fun t20 w =>
 callV Pg t0 #[t8,t20] (panK R) w fun t21 w =>
 opV Pg (Op.unary .not t21) (panK R) w fun t22 w =>
 K3 t22 w) (
 K3 undef w)
def n18 (t0 t1 t2:Value) (R:RT) (w:World):Prop :=
 opV Pg (Instr.loadAt 24 t1) (panK R) w fun t6 w =>
 opV Pg (Builtin.len_ #[24] 3 #[t6]) (panK R) w fun t7 w =>
 joinK (fun (w:World) =>
 R (.returned (.tuple #[])) w) fun K1 =>
 loop1 (fun t8 w next2 =>
 opV Pg (binS .lss 3 false t8 t7) (panK R) w fun t9 w =>
 condP t9 (
 n18c1 t0 t2 t6 t8 K1 next2 R w) (
 K1 w)) (.int .i64 0) w
theorem n18s {t0 t1 t2:Value} {R:RT} {w:World} (h:n18 t0 t1 t2 R w):Calls Pg 76 #[t0,t1,t2] w R:=by
 refine yD Tryz.func76 ?_
 refine sim_scope<|zs<|sim_label<|zk<|zs<|zr<|yv h fun _ w h=>yx h fun _ w h=>zm<|zn<|zk<|yJ0 [4,5,8,9,10,11,12,13,14,15,16,17,18,19,20,21,22,23,24] h (fun _ _ hkK1 h=>?_) fun σ w h=>?_
 · refine sim_block<|yl1 [4,5,8,9,10,11,12,13,14,15,16,17,18,19,20,21,22,23,24] 8 h fun σ w next h=>zs<|zr<|yb h fun _ w h=>zn<|zk<|zs<|yC h (fun h=>?_) fun h=>?_
   · refine sim_skip<|zk<|zs<|sim_block<|zs<|zr<|zm<|yv h fun _ w h=>yv h fun _ w h=>yv h fun _ w h=>zm<|yu h fun w h=>zn<|zk<|zs ?_
     refine sim_regionG<|yG 5<|yv h fun _ w h=>yv h fun _ w h=>yv h fun _ w h=>yb h fun _ w h=>zm<|zn<|yg1 5 4 true [18,19,20,21,22] 22 h (fun _ T hT h=>?_) fun σ w h=>?_
     · refine zm<|zm<|yv h fun _ w h=>yV h fun _ w h=>yv h fun _ w h=>zn ?_
       exact zt hT h
     refine yG 1<|yp h fun _ h=>zn<|sim_end<|zk<|yC h (fun h=>?_) fun h=>?_
     · refine sim_exit<|sim_block_miss rfl<|sim_then_exit<|sim_then_exit<|sim_block_hit<|zk ?_
       exact zt hkK1 h
     exact sim_skip<|sim_block_normal<|zk<|zr<|yb h fun _ w h=>zm<|zn<|zk<|⟨rfl,h⟩
   refine sim_exit<|sim_then_exit<|sim_then_exit<|sim_block_hit<|zk ?_
   exact zt hkK1 h
 exact body_normal<|body_ret0 rfl h
def n29 (t0 t1:Value) (R:RT) (w:World):Prop :=
 callK Pg 101 #[t0,t1] (panK R) w fun t7 w =>
 R (.returned t7) w
theorem n29s {t0 t1:Value} {R:RT} {w:World} (h:n29 t0 t1 R w):Calls Pg 77 #[t0,t1] w R:=by
 refine yD Tryz.func77 ?_
 exact zs<|zr<|zm<|zn<|zk<|zs<|zr<|zm<|zm<|yc h c101 fun _ w h=>zm<|zn<|zk<|sim_ret<|body_ret1 rfl rfl h
def n27 (t0 t1:Value) (R:RT) (w:World):Prop :=
 opV Pg (Instr.box 52 t0) (panK R) w fun t2 w =>
 opV Pg (Instr.fieldAt 52 t2 0) (panK R) w fun t4 w =>
 opV Pg (Instr.loadAt 9 t4) (panK R) w fun t5 w =>
 opV Pg (Instr.loadAt 9 t1) (panK R) w fun t6 w =>
 opV Pg (binS .eql 9 false t5 t6) (panK R) w fun t7 w =>
 R (.returned t7) w
theorem n27s {t0 t1:Value} {R:RT} {w:World} (h:n27 t0 t1 R w):Calls Pg 78 #[t0,t1] w R:=by
 refine yD Tryz.func78 ?_
 refine zs<|zr<|yv h fun _ w h=>zm<|zn<|zk<|zs<|zr<|yv h fun _ w h=>yv h fun _ w h=>yv h fun _ w h=>yb h fun _ w h=>zm<|zn<|zk ?_
 exact sim_ret<|body_ret1 rfl rfl h
def n30 (t0 t1:Value) (R:RT) (w:World):Prop :=
 callK Pg 102 #[t0,t1] (panK R) w fun t7 w =>
 R (.returned t7) w
theorem n30s {t0 t1:Value} {R:RT} {w:World} (h:n30 t0 t1 R w):Calls Pg 79 #[t0,t1] w R:=by
 refine yD Tryz.func79 ?_
 exact zs<|zr<|zm<|zn<|zk<|zs<|zr<|zm<|zm<|yc h c102 fun _ w h=>zm<|zn<|zk<|sim_ret<|body_ret1 rfl rfl h
def n48 (t0 t1:Value) (R:RT) (w:World):Prop :=
 opV Pg (Instr.box 50 t0) (panK R) w fun t2 w =>
 opV Pg (Instr.fieldAt 50 t2 0) (panK R) w fun t4 w =>
 opV Pg (Instr.loadAt 9 t4) (panK R) w fun t5 w =>
 opV Pg (Instr.loadAt 9 t1) (panK R) w fun t6 w =>
 opV Pg (binS .eql 9 false t5 t6) (panK R) w fun t7 w =>
 R (.returned t7) w
theorem n48s {t0 t1:Value} {R:RT} {w:World} (h:n48 t0 t1 R w):Calls Pg 80 #[t0,t1] w R:=by
 refine yD Tryz.func80 ?_
 refine zs<|zr<|yv h fun _ w h=>zm<|zn<|zk<|zs<|zr<|yv h fun _ w h=>yv h fun _ w h=>yv h fun _ w h=>yb h fun _ w h=>zm<|zn<|zk ?_
 exact sim_ret<|body_ret1 rfl rfl h
def n56c1 (t0 t3 t8:Value) (C2:World→Prop) (next1:KV) (R:RT) (w:World):Prop :=
 qV Pg C2 (Instr.loadAt 71 t3) fun t11 =>
 qV Pg C2 (Instr.indexAt 24 t0 t8) fun t14 =>
 qV Pg C2 (Instr.loadAt 71 t14) fun t15 =>
 qV Pg C2 (binS .eql 71 false t11 t15) fun t16 =>
 condP t16 (
 R (.returned t8) w) (
 opV Pg (binS .add 3 true t8 (.int .i64 1)) (panK R) w fun t18 w =>
 next1 t18 w)
def n56 (t0 t1:Value) (R:RT) (w:World):Prop :=
 opV Pg (Instr.box 71 t1) (panK R) w fun t3 w =>
 opV Pg (Builtin.len_ #[24] 3 #[t0]) (panK R) w fun t7 w =>
 loop1 (fun t8 w next1 =>
 opV Pg (binS .lss 3 false t8 t7) (panK R) w fun t9 w =>
 condP t9 (
 drawK w fun C2 w =>
 n56c1 t0 t3 t8 C2 next1 R w) (
 R (.returned (.int .i64 (-1))) w)) (.int .i64 0) w
theorem n56s {t0 t1:Value} {R:RT} {w:World} (h:n56 t0 t1 R w):Calls Pg 94 #[t0,t1] w R:=by
 refine yD Tryz.func94 ?_
 refine zs<|zr<|yv h fun _ w h=>zm<|zn<|zk<|zs<|zs<|zr<|zm<|yx h fun _ w h=>zm<|zn<|zk<|sim_block ?_
 refine yl1 [4,5,8,9,10,11,12,13,14,15,16,17,18] 8 h fun σ w next h=>zs<|zr<|yb h fun _ w h=>zn<|zk<|zs<|yC h (fun h=>?_) fun h=>?_
 · refine sim_skip<|zk<|zs<|sim_block<|zs<|zr<|zm<|zm<|zn<|zk<|zs<|yh [11,12,13,14,15,16] h fun C hC h=>ye 0 hC h fun _ h=>?_
   refine yw 1 hC ?_
   refine yw 2 hC ?_
   refine ye 3 hC h fun _ h=>?_
   refine ye 4 hC h fun _ h=>?_
   refine ye 5 hC h fun _ h=>?_
   exact yz<|zk<|yC h (fun h=>zs<|zr<|zm<|zm<|zn<|zk<|sim_ret<|sim_block_ret<|sim_then_ret<|sim_then_ret<|sim_block_ret<|sim_then_ret<|body_ret1 rfl rfl h) fun h=>sim_skip<|sim_block_normal<|zk<|zr<|yb h fun _ w h=>zm<|zn<|zk<|⟨rfl,h⟩
 exact sim_exit<|sim_then_exit<|sim_then_exit<|sim_block_hit<|zk<|zs<|zr<|zm<|zn<|zk<|sim_ret<|body_ret1 rfl rfl h
def n54c1 (t0 t1 t8:Value) (next1:KV) (R:RT) (w:World):Prop :=
 opV Pg (Instr.indexAt 23 t0 t8) (panK R) w fun t14 w =>
 opV Pg (Instr.loadAt 52 t14) (panK R) w fun t15 w =>
 callV Pg t1 #[t15] (panK R) w fun t16 w =>
 condP t16 (
 R (.returned t8) w) (
 opV Pg (binS .add 3 true t8 (.int .i64 1)) (panK R) w fun t18 w =>
 next1 t18 w)
def n54 (t0 t1:Value) (R:RT) (w:World):Prop :=
 opV Pg (Builtin.len_ #[23] 3 #[t0]) (panK R) w fun t7 w =>
 loop1 (fun t8 w next1 =>
 opV Pg (binS .lss 3 false t8 t7) (panK R) w fun t9 w =>
 condP t9 (
 n54c1 t0 t1 t8 next1 R w) (
 R (.returned (.int .i64 (-1))) w)) (.int .i64 0) w
theorem n54s {t0 t1:Value} {R:RT} {w:World} (h:n54 t0 t1 R w):Calls Pg 101 #[t0,t1] w R:=by
 refine yD Tryz.func101 ?_
 refine zs<|zr<|zm<|zn<|zk<|zs<|zs<|zr<|zm<|yx h fun _ w h=>zm<|zn<|zk<|sim_block<|yl1 [4,5,8,9,10,11,12,13,14,15,16,17,18] 8 h fun σ w next h=>?_
 refine zs<|zr<|yb h fun _ w h=>zn<|zk<|zs<|yC h (fun h=>?_) fun h=>?_
 · refine sim_skip<|zk<|zs<|sim_block<|zs<|zr<|zm<|zm<|zn<|zk<|zs<|zr<|zm<|zm<|zm ?_
   refine yv h fun _ w h=>yv h fun _ w h=>yV h fun _ w h=>zn<|zk<|yC h (fun h=>zs<|zr<|zm<|zm<|zn<|zk<|sim_ret<|sim_block_ret<|sim_then_ret<|sim_then_ret<|sim_block_ret<|sim_then_ret<|body_ret1 rfl rfl h) fun h=>sim_skip<|sim_block_normal<|zk<|zr<|yb h fun _ w h=>zm<|zn<|zk ?_
   exact ⟨rfl,h⟩
 exact sim_exit<|sim_then_exit<|sim_then_exit<|sim_block_hit<|zk<|zs<|zr<|zm<|zn<|zk<|sim_ret<|body_ret1 rfl rfl h
def n55c1 (t0 t1 t8:Value) (next1:KV) (R:RT) (w:World):Prop :=
 opV Pg (Instr.indexAt 22 t0 t8) (panK R) w fun t14 w =>
 opV Pg (Instr.loadAt 50 t14) (panK R) w fun t15 w =>
 callV Pg t1 #[t15] (panK R) w fun t16 w =>
 condP t16 (
 R (.returned t8) w) (
 opV Pg (binS .add 3 true t8 (.int .i64 1)) (panK R) w fun t18 w =>
 next1 t18 w)
def n55 (t0 t1:Value) (R:RT) (w:World):Prop :=
 opV Pg (Builtin.len_ #[22] 3 #[t0]) (panK R) w fun t7 w =>
 loop1 (fun t8 w next1 =>
 opV Pg (binS .lss 3 false t8 t7) (panK R) w fun t9 w =>
 condP t9 (
 n55c1 t0 t1 t8 next1 R w) (
 R (.returned (.int .i64 (-1))) w)) (.int .i64 0) w
theorem n55s {t0 t1:Value} {R:RT} {w:World} (h:n55 t0 t1 R w):Calls Pg 102 #[t0,t1] w R:=by
 refine yD Tryz.func102 ?_
 refine zs<|zr<|zm<|zn<|zk<|zs<|zs<|zr<|zm<|yx h fun _ w h=>zm<|zn<|zk<|sim_block<|yl1 [4,5,8,9,10,11,12,13,14,15,16,17,18] 8 h fun σ w next h=>?_
 refine zs<|zr<|yb h fun _ w h=>zn<|zk<|zs<|yC h (fun h=>?_) fun h=>?_
 · refine sim_skip<|zk<|zs<|sim_block<|zs<|zr<|zm<|zm<|zn<|zk<|zs<|zr<|zm<|zm<|zm ?_
   refine yv h fun _ w h=>yv h fun _ w h=>yV h fun _ w h=>zn<|zk<|yC h (fun h=>zs<|zr<|zm<|zm<|zn<|zk<|sim_ret<|sim_block_ret<|sim_then_ret<|sim_then_ret<|sim_block_ret<|sim_then_ret<|body_ret1 rfl rfl h) fun h=>sim_skip<|sim_block_normal<|zk<|zr<|yb h fun _ w h=>zm<|zn<|zk ?_
   exact ⟨rfl,h⟩
 exact sim_exit<|sim_then_exit<|sim_then_exit<|sim_block_hit<|zk<|zs<|zr<|zm<|zn<|zk<|sim_ret<|body_ret1 rfl rfl h
def n43c1 (t0:Value) (R:RT) (w:World):Prop :=
 opN Pg (nilN t0) (panK R) w fun t23 w =>
 opV Pg (Instr.fieldAt 109 t23 2) (panK R) w fun t24 w =>
 opV Pg (Instr.loadAt 73 t24) (panK R) w fun t25 w =>
 opV Pg (Instr.sliceAt 73 t25 (some (.int .i64 1)) none none) (panK R) w fun t26 w =>
 opN Pg (nilN t0) (panK R) w fun t27 w =>
 opV Pg (Instr.fieldAt 109 t27 2) (panK R) w fun t28 w =>
 opU Pg (Instr.storeAt 73 t28 t26) (panK R) w fun w =>
 R (.returned (.bool true)) w
def n43 (t0 t1:Value) (R:RT) (w:World):Prop :=
 opN Pg (nilN t0) (panK R) w fun t6 w =>
 opV Pg (Instr.fieldAt 109 t6 2) (panK R) w fun t7 w =>
 opV Pg (Instr.loadAt 73 t7) (panK R) w fun t8 w =>
 opV Pg (Builtin.len_ #[73] 3 #[t8]) (panK R) w fun t9 w =>
 opV Pg (binS .eql 3 true t9 (.int .i64 0)) (panK R) w fun t10 w =>
 joinK (fun (t19:Value) (w:World) =>
 pickK t10 (.bool true) t19 fun t20 =>
 condP t20 (
 R (.returned (.bool false)) w) (
 n43c1 t0 R w)) fun K1 =>
 guardP t10 false (
 opN Pg (nilN t0) (panK R) w fun t13 w =>
 opV Pg (Instr.fieldAt 109 t13 2) (panK R) w fun t14 w =>
 opV Pg (Instr.loadAt 73 t14) (panK R) w fun t15 w =>
 opV Pg (Instr.indexAt 73 t15 (.int .i64 0)) (panK R) w fun t16 w =>
 opV Pg (Instr.loadAt 9 t16) (panK R) w fun t17 w =>
 opV Pg (binS .neq 9 false t17 t1) (panK R) w fun t19 w =>
 K1 t19 w) (
 K1 undef w)
theorem n43s {t0 t1:Value} {R:RT} {w:World} (h:n43 t0 t1 R w):Calls Pg 107 #[t0,t1] w R:=by
 refine yD Tryz.func107 ?_
 refine zs<|zr<|zm<|zn<|zk<|zs<|zs<|sim_regionG<|yG 7<|zm<|yN h fun _ w h=>yv h fun _ w h=>yv h fun _ w h=>yx h fun _ w h=>yb h fun _ w h=>?_
 refine zm<|zn<|yg1 8 6 false [12,13,14,15,16,17,18,19] 19 h (fun _ T hT h=>?_) fun σ w h=>?_
 · refine zm<|yN h fun _ w h=>yv h fun _ w h=>yv h fun _ w h=>yv h fun _ w h=>yv h fun _ w h=>zm<|yb h fun _ w h=>zn ?_
   exact zt hT h
 refine yG 1<|yp h fun _ h=>zn<|sim_end<|zk<|yC h (fun h=>zs<|zr<|zm<|zn<|zk<|sim_ret<|sim_then_ret<|body_ret1 rfl rfl h) fun h=>sim_skip<|zk<|zs<|zr<|zm<|zm<|yN h fun _ w h=>yv h fun _ w h=>?_
 exact yv h fun _ w h=>yv h fun _ w h=>yN h fun _ w h=>yv h fun _ w h=>yu h fun w h=>zn<|zk<|zs<|zr<|zm<|zn<|zk<|sim_ret<|body_ret1 rfl rfl h
theorem before_succ {α:Type} {p:α→Bool} {l:List α} {k:Nat} {x:α} (h:∀ (j:Nat) y,j < k→l[j]?=some y→p y=false) (hx:l[k]?=some x) (hp:p x=false):∀ (j:Nat) y,j < k+1→l[j]?=some y→p y=false:=fun j y hj hy=>by
 by_cases hjk:j=k
 · subst hjk;rw [hx] at hy;injection hy with hy;subst hy;exact hp
 · exact h j y (by omega) hy
theorem IndexFunc_State_ret (w0:World) (v:Value) (l:List StaD) (g:FuncId) (caps:Array Value) (p:StaD→Bool) (hs:StasOf w0 v l) (hg:Callable Pg g) (hc:Tests w0 (fun _ v x=>v=staVal x) g caps p l) :
 Ret Pg 102 #[v,.func (.func g) #[] caps] w0 fun r w'=>r = .int .i64 (idx p l)∧Ext w0 w':=by
 obtain ⟨A,c,rfl,hlc,hcm,hlm,hel⟩:=SliceOf.open hs
 refine n55s (R:=retR _) ?_;unfold n55
 simp (disch:=try exact DI) only [↓PR,QR,simprocAttr]
 refine loop1_intro (fun i w=>∃ k:Nat,i = .int .i64 k∧k≤l.length∧Ext w0 w∧∀ (j:Nat) y,j < k→l[j]?=some y→p y=false) (fun i _=>l.length - (intOf i).toNat) ⟨0,rfl,by omega,Ext.refl _,fun j y h=>by omega⟩ ?_
 rintro i w ⟨k,rfl,hk,e,hb⟩
 by_cases hlt:k < l.length
 · obtain ⟨x,hx⟩:=getElem?_lt hlt
   obtain ⟨b,o,cs,rfl,hl,hA,hE⟩:=hel k x hx
   have hd:decide ((k:Int) < (l.length:Int))=true:=by simp;omega
   simp (disch:=try exact DI) only [↓PR,QR,simprocAttr,hd]
   unfold n55c1
   simp (disch:=try exact DI) only [↓PR,QR,simprocAttr]
   obtain rfl:=hE
   have hV:(.agg (staCells x).toArray:Value)=staVal x:=rfl
   simp (disch:=try exact DI) only [↓PR,QR,simprocAttr,hA.c3 e]
   rw [callV_func hg]
   simp only [Array.empty_append]
   refine callK_ret (hc w _ x (List.mem_of_getElem? hx) e (hV)) ?_
   rintro r w' ⟨rfl,e'⟩
   cases hp:p x with
   | true =>
    simp (disch:=try exact DI) only [↓PR,QR,simprocAttr]
    exact ⟨by rw [idx_here hx hp hb],e.trans e'⟩
   | false =>
    simp (disch:=try exact DI) only [↓PR,QR,simprocAttr]
    exact ⟨⟨k+1,rfl,by omega,e.trans e',before_succ hb hx hp⟩,by simp [intOf];omega⟩
 · have hd:decide ((k:Int) < (l.length:Int))=false:=by simp;omega
   simp (disch:=try exact DI) only [↓PR,QR,simprocAttr,hd]
   exact ⟨by rw [idx_none fun j y hy=>hb j y (by have:=(List.getElem?_eq_some_iff.1 hy).1;omega) hy],e⟩
theorem index_State_ret (w0:World) (v:Value) (l:List StaD) (g:FuncId) (caps:Array Value) (p:StaD→Bool) (hs:StasOf w0 v l) (hg:Callable Pg g) (hc:Tests w0 (fun _ v x=>v=staVal x) g caps p l) :
 Ret Pg 79 #[v,.func (.func g) #[] caps] w0 fun r w'=>r = .int .i64 (idx p l)∧Ext w0 w':=by
 refine n30s (R:=retR _) ?_;unfold n30
 refine callK_ret (IndexFunc_State_ret w0 v l g caps p hs hg hc) ?_
 rintro _ w' ⟨rfl,e⟩
 simp (disch:=try exact DI) only [↓PR,QR,simprocAttr]
 exact ⟨by trivial,e⟩
theorem IndexFunc_Counter_ret (w0:World) (v:Value) (l:List CntD) (g:FuncId) (caps:Array Value) (p:CntD→Bool) (hs:CntsOf w0 v l) (hg:Callable Pg g) (hc:Tests w0 (fun _ v x=>v=cntVal x) g caps p l) :
 Ret Pg 101 #[v,.func (.func g) #[] caps] w0 fun r w'=>r = .int .i64 (idx p l)∧Ext w0 w':=by
 obtain ⟨A,c,rfl,hlc,hcm,hlm,hel⟩:=SliceOf.open hs
 refine n54s (R:=retR _) ?_;unfold n54
 simp (disch:=try exact DI) only [↓PR,QR,simprocAttr]
 refine loop1_intro (fun i w=>∃ k:Nat,i = .int .i64 k∧k≤l.length∧Ext w0 w∧∀ (j:Nat) y,j < k→l[j]?=some y→p y=false) (fun i _=>l.length - (intOf i).toNat) ⟨0,rfl,by omega,Ext.refl _,fun j y h=>by omega⟩ ?_
 rintro i w ⟨k,rfl,hk,e,hb⟩
 by_cases hlt:k < l.length
 · obtain ⟨x,hx⟩:=getElem?_lt hlt
   obtain ⟨b,o,cs,rfl,hl,hA,hE⟩:=hel k x hx
   have hd:decide ((k:Int) < (l.length:Int))=true:=by simp;omega
   simp (disch:=try exact DI) only [↓PR,QR,simprocAttr,hd]
   unfold n54c1
   simp (disch:=try exact DI) only [↓PR,QR,simprocAttr]
   obtain rfl:=hE
   have hV:(.agg (cntCells x).toArray:Value)=cntVal x:=rfl
   simp (disch:=try exact DI) only [↓PR,QR,simprocAttr,hA.c2 e]
   rw [callV_func hg]
   simp only [Array.empty_append]
   refine callK_ret (hc w _ x (List.mem_of_getElem? hx) e (hV)) ?_
   rintro r w' ⟨rfl,e'⟩
   cases hp:p x with
   | true =>
    simp (disch:=try exact DI) only [↓PR,QR,simprocAttr]
    exact ⟨by rw [idx_here hx hp hb],e.trans e'⟩
   | false =>
    simp (disch:=try exact DI) only [↓PR,QR,simprocAttr]
    exact ⟨⟨k+1,rfl,by omega,e.trans e',before_succ hb hx hp⟩,by simp [intOf];omega⟩
 · have hd:decide ((k:Int) < (l.length:Int))=false:=by simp;omega
   simp (disch:=try exact DI) only [↓PR,QR,simprocAttr,hd]
   exact ⟨by rw [idx_none fun j y hy=>hb j y (by have:=(List.getElem?_eq_some_iff.1 hy).1;omega) hy],e⟩
theorem index_Counter_ret (w0:World) (v:Value) (l:List CntD) (g:FuncId) (caps:Array Value) (p:CntD→Bool) (hs:CntsOf w0 v l) (hg:Callable Pg g) (hc:Tests w0 (fun _ v x=>v=cntVal x) g caps p l) :
 Ret Pg 77 #[v,.func (.func g) #[] caps] w0 fun r w'=>r = .int .i64 (idx p l)∧Ext w0 w':=by
 refine n29s (R:=retR _) ?_;unfold n29
 refine callK_ret (IndexFunc_Counter_ret w0 v l g caps p hs hg hc) ?_
 rintro _ w' ⟨rfl,e⟩
 simp (disch:=try exact DI) only [↓PR,QR,simprocAttr]
 exact ⟨by trivial,e⟩
theorem stateS1_ret (w:World) (x:StaD) (q:Nat) (s:ByteArray) (hq:w.heap[q]?=some (.cells #[.string s] 9 (0,0))):Ret Pg 80 #[staVal x,.pointer (some ⟨q,0,none⟩)] w fun r w'=>r = .bool (decide (x.name=s))∧Ext w w':=by
 refine n48s (R:=retR _) ?_;unfold n48
 unfold staVal
 rw [op_boxA]
 have hBW:=ElemAt.new (w:=w) (staCells x) (50)
 have eW:Ext w (w.alloc (Obj.cells (List.toArray (staCells x)) (50))):=(Ext.refl _).alloc _
 generalize (w.alloc (Obj.cells (List.toArray (staCells x)) (50)))=W at hBW eW ⊢
 have c:=cells_of_heap (eW.obj hq)
 simp (disch:=try exact DI) only [↓PR,QR,simprocAttr,hBW.c3 (Ext.refl W),c.1]
 exact ⟨by trivial,eW⟩
theorem counterS1_ret (w:World) (x:CntD) (q:Nat) (s:ByteArray) (hq:w.heap[q]?=some (.cells #[.string s] 9 (0,0))):Ret Pg 78 #[cntVal x,.pointer (some ⟨q,0,none⟩)] w fun r w'=>r = .bool (decide (x.name=s))∧Ext w w':=by
 refine n27s (R:=retR _) ?_;unfold n27
 unfold cntVal
 rw [op_boxA]
 have hBW:=ElemAt.new (w:=w) (cntCells x) (52)
 have eW:Ext w (w.alloc (Obj.cells (List.toArray (cntCells x)) (52))):=(Ext.refl _).alloc _
 generalize (w.alloc (Obj.cells (List.toArray (cntCells x)) (52)))=W at hBW eW ⊢
 have c:=cells_of_heap (eW.obj hq)
 simp (disch:=try exact DI) only [↓PR,QR,simprocAttr,hBW.c2 (Ext.refl W),c.1]
 exact ⟨by trivial,eW⟩
theorem state_ret (w0:World) (v:Value) (r:RolD) (s:ByteArray) (hr:RolVal w0 v r):Ret Pg 40 #[v,.string s] w0 fun u w'=>u = .int .i64 (stateI r s)∧Ext w0 w':=by
 obtain ⟨sv,cv,tv,rfl,h1,h2,h3,o1,o2,o3⟩:=hr.op
 refine n47s (R:=retR _) ?_;unfold n47
 rw [op_boxA]
 have hBW:=ElemAt.new (w:=w0) (rolCells r sv cv tv) (26)
 have eW:Ext w0 (w0.alloc (Obj.cells (List.toArray (rolCells r sv cv tv)) (26))):=(Ext.refl _).alloc _
 generalize (w0.alloc (Obj.cells (List.toArray (rolCells r sv cv tv)) (26)))=W at hBW eW ⊢
 simp (disch:=try exact DI) only [↓PR,QR,simprocAttr,fun o=>hBW.c4 ((Ext.refl W).alloc o)]
 generalize hV:World.alloc W _=V
 have oV:V.heap[W.heap.size]?=some (.cells #[.string s] 9 (0,0)):=by rw [← hV];exact heap_new _ _ _
 have eV:Ext W V:=by rw [← hV];exact (Ext.refl W).alloc _
 clear hV
 refine callK_ret (index_State_ret V _ r.states _ _ (fun x=>decide (x.name=s)) (h1.ext (eW.trans eV)) c80 fun w u x _ e hu=>?_) ?_
 · subst hu
   exact stateS1_ret w x _ s (e.obj oV)
 · rintro _ w' ⟨rfl,e⟩
   simp (disch:=try exact DI) only [↓PR,QR,simprocAttr]
   exact ⟨by trivial,eW.trans (eV.trans e)⟩
theorem counter_ret (w0:World) (v:Value) (r:RolD) (s:ByteArray) (hr:RolVal w0 v r):Ret Pg 38 #[v,.string s] w0 fun u w'=>u = .int .i64 (counterI r s)∧Ext w0 w':=by
 obtain ⟨sv,cv,tv,rfl,h1,h2,h3,o1,o2,o3⟩:=hr.op
 refine n26s (R:=retR _) ?_;unfold n26
 rw [op_boxA]
 have hBW:=ElemAt.new (w:=w0) (rolCells r sv cv tv) (26)
 have eW:Ext w0 (w0.alloc (Obj.cells (List.toArray (rolCells r sv cv tv)) (26))):=(Ext.refl _).alloc _
 generalize (w0.alloc (Obj.cells (List.toArray (rolCells r sv cv tv)) (26)))=W at hBW eW ⊢
 simp (disch:=try exact DI) only [↓PR,QR,simprocAttr,fun o=>hBW.c4 ((Ext.refl W).alloc o)]
 generalize hV:World.alloc W _=V
 have oV:V.heap[W.heap.size]?=some (.cells #[.string s] 9 (0,0)):=by rw [← hV];exact heap_new _ _ _
 have eV:Ext W V:=by rw [← hV];exact (Ext.refl W).alloc _
 clear hV
 refine callK_ret (index_Counter_ret V _ r.counters _ _ (fun x=>decide (x.name=s)) (h2.ext (eW.trans eV)) c78 fun w u x _ e hu=>?_) ?_
 · subst hu
   exact counterS1_ret w x _ s (e.obj oV)
 · rintro _ w' ⟨rfl,e⟩
   simp (disch:=try exact DI) only [↓PR,QR,simprocAttr]
   exact ⟨by trivial,eW.trans (eV.trans e)⟩
def n34c1 (t3 t17:Value) (K2:KV) (R:RT) (w:World):Prop :=
 callK Pg 82 #[t17] (panK R) w fun t20 w =>
 opV Pg (Instr.buildSlice 73 1 #[(0,t20)]) (panK R) w fun t21 w =>
 opV Pg (Builtin.append_ #[73,73] 73 #[t3,t21]) (panK R) w fun t22 w =>
 K2 t22 w
def n34c2 (t3 t13:Value) (K2:KV) (R:RT) (w:World):Prop :=
 opV Pg (Instr.typeAssert t13 20 9 true) (panK R) w fun t23 w =>
 opV Pg (Instr.extract t23 1) (panK R) w fun t24 w =>
 opV Pg (Instr.extract t23 0) (panK R) w fun t25 w =>
 condP t24 (
 opV Pg (Instr.buildSlice 73 1 #[(0,t25)]) (panK R) w fun t28 w =>
 opV Pg (Builtin.append_ #[73,73] 73 #[t3,t28]) (panK R) w fun t29 w =>
 K2 t29 w) (
 K2 t3 w)
def n34c3 (t0 t3 t10:Value) (next1:KW) (R:RT) (w:World):Prop :=
 opV Pg (Instr.indexAt 86 t0 t10) (panK R) w fun t12 w =>
 opV Pg (Instr.loadAt 20 t12) (panK R) w fun t13 w =>
 opV Pg (Instr.typeAssert t13 20 3 true) (panK R) w fun t15 w =>
 opV Pg (Instr.extract t15 1) (panK R) w fun t16 w =>
 opV Pg (Instr.extract t15 0) (panK R) w fun t17 w =>
 joinK (fun (t3:Value) (w:World) =>
 opV Pg (binS .add 3 true t10 (.int .i64 1)) (panK R) w fun t30 w =>
 next1 t3 t30 w) fun K2 =>
 condP t16 (
 n34c1 t3 t17 K2 R w) (
 n34c2 t3 t13 K2 R w)
def n34c4 (t0 t3 t9 t10:Value) (next1:KW) (R:RT) (w:World):Prop :=
 opV Pg (binS .lss 3 false t10 t9) (panK R) w fun t11 w =>
 condP t11 (
 n34c3 t0 t3 t10 next1 R w) (
 callK Pg 48 #[t3,(.string { data := #[32] })] (panK R) w fun t32 w =>
 R (.returned t32) w)
def n34 (t0:Value) (R:RT) (w:World):Prop :=
 opV Pg (Builtin.len_ #[86] 3 #[t0]) (panK R) w fun t9 w =>
 loop2 (fun t3 t10 w next1 =>
 n34c4 t0 t3 t9 t10 next1 R w) (Value.slice none 0 0) (.int .i64 0) w
theorem n34s {t0:Value} {R:RT} {w:World} (h:n34 t0 R w):Calls Pg 46 #[t0] w R:=by
 refine yD Tryz.func46 ?_
 refine zs<|zr<|zm<|zn<|zk<|zs<|zr<|zm<|zn<|zk<|zs<|zs<|zr<|zm<|yx h fun _ w h=>?_
 refine zm<|zn<|zk<|sim_block<|yl2 [3,5,6,7,10,11,12,13,14,15,16,17,18,19,20,21,22,23,24,25,26,27,28,29,30] 3 10 h fun σ w next h=>zs<|zr<|yb h fun _ w h=>zn<|zk<|zs<|yC h (fun h=>?_) fun h=>?_
 · refine sim_skip<|zk<|zs<|sim_block<|zs<|zr<|yv h fun _ w h=>yv h fun _ w h=>zm<|zn<|zk<|zs<|zr<|zm<|zn ?_
   refine zk<|sim_block<|zs<|zr<|yv h fun _ w h=>yv h fun _ w h=>yv h fun _ w h=>zn<|zk<|yJ1 [3,6,7,18,19,20,21,22,23,24,25,26,27,28,29] 3 h (fun _ _ hkK2 h=>?_) fun σ w h=>?_
   · refine yC h (fun h=>?_) fun h=>?_
     · refine zs<|zr<|zm<|zn<|zk<|zr<|zm<|zm<|yc h c82 fun _ w h=>yS h fun _ w h=>yx h fun _ w h=>zm<|zn<|zk ?_
       exact zt hkK2 h
     refine zs<|zr<|yv h fun _ w h=>yv h fun _ w h=>yv h fun _ w h=>zn<|zk<|yC h (fun h=>?_) fun h=>?_
     · refine zs<|zr<|zm<|zn<|zk<|zr<|zm<|zm<|yS h fun _ w h=>yx h fun _ w h=>zm<|zn<|zk ?_
       exact zt hkK2 h
     refine sim_skip<|zk ?_
     exact zt hkK2 h
   exact sim_block_normal<|sim_block_normal<|zk<|zr<|yb h fun _ w h=>zm<|zn<|zk<|⟨rfl,h⟩
 exact sim_exit<|sim_then_exit<|sim_then_exit<|sim_block_hit<|zk<|zs<|zr<|zm<|yc h c48 fun _ w h=>zm<|zn<|zk<|sim_ret<|body_ret1 rfl rfl h
def n31 (R:RT) (w:World):Prop :=
 opV Pg (Instr.makeMap 90 none) (panK R) w fun t2 w =>
 opV Pg (Instr.build 89 #[(0,(.string { data := #[115,101,110,100] })),(1,(.bool true)),(2,(.func (.func 83) #[] #[]))]) (panK R) w fun t4 w =>
 opU Pg (Instr.mapUpdate 90 t2 (.int .i64 1) t4) (panK R) w fun w =>
 opV Pg (Instr.build 89 #[(0,(.string { data := #[114,101,99,101,105,118,101] })),(1,(.bool true)),(2,(.func (.func 83) #[] #[]))]) (panK R) w fun t6 w =>
 opU Pg (Instr.mapUpdate 90 t2 (.int .i64 2) t6) (panK R) w fun w =>
 opV Pg (Instr.build 89 #[(0,(.string { data := #[116,105,109,101,111,117,116] })),(1,(.bool false)),(2,(.func (.func 84) #[] #[]))]) (panK R) w fun t7 w =>
 opU Pg (Instr.mapUpdate 90 t2 (.int .i64 3) t7) (panK R) w fun w =>
 opV Pg (Instr.build 89 #[(0,(.string { data := #[115,105,108,101,110,116] })),(1,(.bool false)),(2,(.func (.func 83) #[] #[]))]) (panK R) w fun t9 w =>
 opU Pg (Instr.mapUpdate 90 t2 (.int .i64 4) t9) (panK R) w fun w =>
 R (.returned t2) w
theorem n31s {R:RT} {w:World} (h:n31 R w):Calls Pg 47 #[] w R:=by
 refine yD Tryz.func47 ?_
 refine zs<|zr<|zm<|zn<|zk<|zs<|zr<|zm<|zn<|zk<|zs<|zr<|yv h fun _ w h=>zm<|yB h fun _ w h=>?_
 exact yu h fun w h=>zm<|yB h fun _ w h=>yu h fun w h=>yB h fun _ w h=>yu h fun w h=>zm<|yB h fun _ w h=>yu h fun w h=>zm<|zm<|zn<|zk<|sim_ret<|body_ret1 rfl rfl h
def n35c1 (t4 t10:Value) (ds:List Deferred) (R:RT) (w:World):Prop :=
 opN Pg (nilN t10) (outQ Pg ds [(some 3,t4)] R) w fun t25 w =>
 opV Pg (Instr.fieldAt 109 t25 1) (outQ Pg ds [(some 3,t4)] R) w fun t26 w =>
 opV Pg (Instr.loadAt 3 t26) (outQ Pg ds [(some 3,t4)] R) w fun t27 w =>
 opV Pg (binS .add 3 true t27 (.int .i64 1)) (outQ Pg ds [(some 3,t4)] R) w fun t28 w =>
 opU Pg (Instr.storeAt 3 t4 t28) (outQ Pg ds [(some 3,t4)] R) w fun w =>
 outX Pg ds [(some 3,t4)] R w
def n35c2 (t4 t10:Value) (C1:World→Prop) (ds:List Deferred) (R:RT) (w:World):Prop :=
 qN Pg C1 (nilN t10) fun t15 =>
 qV Pg C1 (Instr.fieldAt 109 t15 1) fun t16 =>
 qV Pg C1 (Instr.loadAt 3 t16) fun t17 =>
 qN Pg C1 (nilN t10) fun t19 =>
 qV Pg C1 (Instr.fieldAt 109 t19 0) fun t20 =>
 qV Pg C1 (Instr.loadAt 73 t20) fun t21 =>
 qV Pg C1 (Builtin.len_ #[73] 3 #[t21]) fun t22 =>
 qV Pg C1 (binS .lss 3 false t17 t22) fun t23 =>
 condP t23 (
 n35c1 t4 t10 ds R w) (
 opU Pg (Instr.storeAt 3 t4 (.int .i64 0)) (outQ Pg ds [(some 3,t4)] R) w fun w =>
 outX Pg ds [(some 3,t4)] R w)
def n35c3 (t1 t4 t8:Value) (ds:List Deferred) (R:RT) (w:World):Prop :=
 opV Pg (Instr.build 109 #[(0,t8)]) (outQ Pg ds [(some 3,t4)] R) w fun t9 w =>
 opV Pg (Instr.box 109 t9) (outQ Pg ds [(some 3,t4)] R) w fun t10 w =>
 callV Pg t1 #[t10] (outQ Pg ds [(some 3,t4)] R) w fun t13 w =>
 drawK w fun C1 w =>
 n35c2 t4 t10 C1 ds R w
def n35 (t0 t1:Value) (R:RT) (w:World):Prop :=
 (fun (ds:List Deferred) =>
 opV Pg (Instr.alloc 3 true (.tuple #[])) (outQ Pg ds [(some 3,undef)] R) w fun t4 w =>
 opV Pg (Instr.makeFunc (.func 88) #[] #[t4]) (outQ Pg ds [(some 3,t4)] R) w fun t6 w =>
 defK Pg t6 #[] ds w fun ds w =>
 callK Pg 89 #[t0,(.string { data := #[10] })] (outQ Pg ds [(some 3,t4)] R) w fun t8 w =>
 n35c3 t1 t4 t8 ds R w) []
theorem n35s {t0 t1:Value} {R:RT} {w:World} (h:n35 t0 t1 R w):Calls Pg 50 #[t0,t1] w R:=by
 refine yE Tryz.func50 ?_
 unfold n35 at h
 dsimp only at h
 refine zs<|zr<|yv h fun _ w h=>zn<|zk<|zs<|zr<|yF h fun _ w h=>?_
 refine sim_defer h rfl rfl ?_;intro ds w h
 refine zn<|zk<|zs<|zr<|zm<|yc h c89 fun _ w h=>yB h fun _ w h=>yv h fun _ w h=>zm<|zn<|zk<|zs<|zr<|zm<|zm ?_
 refine yV h fun _ w h=>zn<|zk<|zs<|zs<|yh [14,15,16,17,18,19,20,21,22,23] h fun C hC h=>yw 0 hC ?_
 refine yn 1 hC h fun _ h=>?_
 refine ye 2 hC h fun _ h=>?_
 refine ye 3 hC h fun _ h=>?_
 refine yw 4 hC ?_
 refine yn 5 hC h fun _ h=>?_
 refine ye 6 hC h fun _ h=>?_
 refine ye 7 hC h fun _ h=>?_
 refine ye 8 hC h fun _ h=>?_
 refine ye 9 hC h fun _ h=>?_
 exact yz<|zk<|yC h (fun h=>zs<|zr<|zm<|yN h fun _ w h=>yv h fun _ w h=>yv h fun _ w h=>yb h fun _ w h=>yu h fun w h=>zn<|zk<|sim_ret<|sim_then_ret<|bodyM_ret rfl h) fun h=>sim_skip<|zk<|zs<|zr<|yu h fun w h=>zn<|zk<|sim_ret<|bodyM_ret rfl h
def n22 (t0 t1:Value) (R:RT) (w:World):Prop :=
 callK Pg 52 #[t0] (panK R) w fun t4 w =>
 opU Pg (Instr.storeAt 26 t1 t4) (panK R) w fun w =>
 R (.returned (.tuple #[])) w
theorem n22s {t0 t1:Value} {R:RT} {w:World} (h:n22 t0 t1 R w):Calls Pg 51 #[t0,t1] w R:=by
 refine yD Tryz.func51 ?_
 exact zr<|zm<|yc h c52 fun _ w h=>yu h fun w h=>zn<|body_normal<|body_ret0 rfl h
def n32 (t0:Value) (R:RT) (w:World):Prop :=
 opV Pg (Instr.box 50 t0) (panK R) w fun t1 w =>
 R (.returned (.bool true)) w
theorem n32s {t0:Value} {R:RT} {w:World} (h:n32 t0 R w):Calls Pg 83 #[t0] w R:=by
 refine yD Tryz.func83 ?_
 exact zs<|zr<|yv h fun _ w h=>zm<|zn<|zk<|zs<|zr<|zm<|zn<|zk<|sim_ret<|body_ret1 rfl rfl h
def n33 (t0:Value) (R:RT) (w:World):Prop :=
 opV Pg (Instr.box 50 t0) (panK R) w fun t1 w =>
 opV Pg (Instr.fieldAt 50 t1 2) (panK R) w fun t3 w =>
 opV Pg (Instr.loadAt 3 t3) (panK R) w fun t4 w =>
 opV Pg (binS .gtr 3 true t4 (.int .i64 0)) (panK R) w fun t5 w =>
 R (.returned t5) w
theorem n33s {t0:Value} {R:RT} {w:World} (h:n33 t0 R w):Calls Pg 84 #[t0] w R:=by
 refine yD Tryz.func84 ?_
 refine zs<|zr<|yv h fun _ w h=>zm<|zn<|zk<|zs<|zr<|yv h fun _ w h=>yv h fun _ w h=>yb h fun _ w h=>zm<|zn<|zk<|sim_ret ?_
 exact body_ret1 rfl rfl h
def n36c1 (t0 t4:Value) (K1:World→Prop) (R:RT) (w:World):Prop :=
 opV Pg (Instr.typeAssert t4 20 133 true) (panK R) w fun t9 w =>
 opV Pg (Instr.extract t9 0) (panK R) w fun t10 w =>
 opV Pg (Instr.extract t9 1) (panK R) w fun t11 w =>
 opV Pg (Op.unary .not t11) (panK R) w fun t13 w =>
 condP t13 (
 opV Pg (Instr.panic t4) (panK R) w fun _ w =>
 False) (
 opU Pg (Instr.storeAt 3 t0 t10) (panK R) w fun w =>
 K1 w)
def n36 (t0 t4:Value) (R:RT) (w:World):Prop :=
 opV Pg (binS .neq 20 true t4 .nilIface) (panK R) w fun t6 w =>
 joinK (fun (w:World) =>
 R (.returned (.tuple #[])) w) fun K1 =>
 condP t6 (
 n36c1 t0 t4 K1 R w) (
 K1 w)
theorem n36s {t0:Value} {u:FrameMode} {R:Ending→FrameMode→World→Prop} {w:World} (h:n36 t0 (Sw.recM u).1 (fun e w=>R e (Sw.recM u).2 w) w):CallsDIn Fence.wide 0 Pg 88 #[t0] u w R:=by
 refine calls_of_denR (args:=[t0]) (d:=4) Tryz.func88 rfl (Nat.le_of_ble_eq_true rfl) rfl rfl rfl rfl ?_
 generalize (recM u).1=t4 at h ⊢
 generalize hR:(fun e w=>R e (recM u).2 w)=R' at h ⊢
 clear hR
 revert h
 generalize R'=R
 intro h
 unfold n36 at h
 refine zm<|zn<|zs<|zr<|zm<|yb h fun _ w h=>zn<|zk<|yJ0 [2,3,7,8,9,10,11,12,13,14,15] h (fun _ _ hkK1 h=>?_) fun σ w h=>?_
 · refine yC h (fun h=>?_) fun h=>?_
   · refine zs<|zr<|zm<|yv h fun _ w h=>zm<|yv h fun _ w h=>yv h fun _ w h=>zm<|zm<|zn<|zk<|zs<|zs<|zr<|zm ?_
     refine yv h fun _ w h=>zn<|zk<|yC h (fun h=>zr<|zm<|yv h fun _ w h=>zn<|h.elim) fun h=>sim_skip<|zk<|zr<|zm<|yu h fun w h=>zn<|zk ?_
     exact zt hkK1 h
   refine sim_skip<|zk ?_
   exact zt hkK1 h
 exact body_normal<|body_ret0 rfl h
def n44c1 (t0 t2 t17:Value) (R:RT) (w:World):Prop :=
 opV Pg (Instr.fieldAt 50 t2 1) (panK R) w fun t18 w =>
 opU Pg (Instr.storeAt 4 t18 t17) (panK R) w fun w =>
 callK Pg 71 #[t0] (panK R) w fun t20 w =>
 opV Pg (Instr.loadAt 50 t2) (panK R) w fun t21 w =>
 opU Pg (Instr.storeAt 50 t2 t21) (panK R) w fun w =>
 qW Pg 50 t2 w fun r0 =>
 R (.returned r0) w
def n44c2 (t0 t2 t9:Value) (K1:World→Prop) (R:RT) (w:World):Prop :=
 opV Pg (Instr.fieldAt 50 t2 2) (panK R) w fun t10 w =>
 opU Pg (Instr.storeAt 3 t10 t9) (panK R) w fun w =>
 opV Pg (Instr.fieldAt 50 t2 2) (panK R) w fun t12 w =>
 opV Pg (Instr.loadAt 3 t12) (panK R) w fun t13 w =>
 opV Pg (binS .neq 3 true t13 (.int .i64 0)) (panK R) w fun t14 w =>
 callK Pg 66 #[t0,t14] (panK R) w fun t15 w =>
 K1 w
def n44c3 (t0 t2 t7:Value) (R:RT) (w:World):Prop :=
 joinK (fun (w:World) =>
 callK Pg 107 #[t0,(.string { data := #[102,105,110,97,108] })] (panK R) w fun t17 w =>
 n44c1 t0 t2 t17 R w) fun K1 =>
 condP t7 (
 callK Pg 70 #[t0] (panK R) w fun t9 w =>
 n44c2 t0 t2 t9 K1 R w) (
 K1 w)
def n44c4 (t0 t2 t4:Value) (R:RT) (w:World):Prop :=
 opV Pg (Instr.fieldAt 50 t2 0) (panK R) w fun t5 w =>
 opU Pg (Instr.storeAt 9 t5 t4) (panK R) w fun w =>
 callK Pg 107 #[t0,(.string { data := #[119,97,105,116] })] (panK R) w fun t7 w =>
 n44c3 t0 t2 t7 R w
def n44 (t0:Value) (R:RT) (w:World):Prop :=
 opV Pg (Instr.alloc 50 true (.tuple #[])) (panK R) w fun t2 w =>
 callK Pg 67 #[t0] (panK R) w fun t4 w =>
 n44c4 t0 t2 t4 R w
theorem n44s {t0:Value} {R:RT} {w:World} (h:n44 t0 R w):Calls Pg 90 #[t0] w R:=by
 refine yD Tryz.func90 ?_
 refine zs<|zr<|yv h fun _ w h=>zn<|zk<|zs<|zr<|zm<|yc h c67 fun _ w h=>yv h fun _ w h=>yu h fun w h=>zn<|zk<|zs<|zs ?_
 refine zr<|zm<|yc h c107 fun _ w h=>zn<|zk<|yJ0 [8,9,10,11,12,13,14,15] h (fun _ _ hkK1 h=>?_) fun σ w h=>?_
 · refine yC h (fun h=>?_) fun h=>?_
   · refine zs<|zr<|zm<|yc h c70 fun _ w h=>yv h fun _ w h=>yu h fun w h=>zn<|zk<|zr<|zm<|yv h fun _ w h=>yv h fun _ w h=>yb h fun _ w h=>yc h c66 fun _ w h=>zn ?_
     refine zk ?_
     exact zt hkK1 h
   refine sim_skip<|zk ?_
   exact zt hkK1 h
 refine zk<|zs<|zr<|zm<|yc h c107 fun _ w h=>yv h fun _ w h=>yu h fun w h=>zn<|zk<|zs<|zr<|zm<|yc h c71 fun _ w h=>zn<|zk ?_
 exact zs<|zr<|yv h fun _ w h=>yu h fun w h=>zn<|zk<|sim_ret<|body_retC rfl rfl h
def n45c1 (t0 t2:Value) (R:RT) (w:World):Prop :=
 callK Pg 71 #[t0] (panK R) w fun t58 w =>
 opV Pg (Instr.loadAt 71 t2) (panK R) w fun t59 w =>
 opU Pg (Instr.storeAt 71 t2 t59) (panK R) w fun w =>
 qW Pg 71 t2 w fun r0 =>
 R (.returned r0) w
def n45c2 (t2 t49 t51 t53:Value) (K6:World→Prop) (R:RT) (w:World):Prop :=
 opV Pg (Instr.fieldAt 71 t2 6) (panK R) w fun t54 w =>
 opU Pg (Instr.storeAt 3 t54 t49) (panK R) w fun w =>
 opV Pg (Instr.fieldAt 71 t2 7) (panK R) w fun t55 w =>
 opU Pg (Instr.storeAt 3 t55 t51) (panK R) w fun w =>
 opV Pg (Instr.fieldAt 71 t2 8) (panK R) w fun t56 w =>
 opU Pg (Instr.storeAt 3 t56 t53) (panK R) w fun w =>
 K6 w
def n45c3 (t0 t2 t46:Value) (K6:World→Prop) (R:RT) (w:World):Prop :=
 opV Pg (Instr.fieldAt 71 t2 5) (panK R) w fun t47 w =>
 opU Pg (Instr.storeAt 9 t47 t46) (panK R) w fun w =>
 callK Pg 70 #[t0] (panK R) w fun t49 w =>
 callK Pg 70 #[t0] (panK R) w fun t51 w =>
 callK Pg 70 #[t0] (panK R) w fun t53 w =>
 n45c2 t2 t49 t51 t53 K6 R w
def n45c4 (t0 t2:Value) (R:RT) (w:World):Prop :=
 callK Pg 107 #[t0,(.string { data := #[119,104,101,110] })] (panK R) w fun t44 w =>
 joinK (fun (w:World) =>
 n45c1 t0 t2 R w) fun K6 =>
 condP t44 (
 callK Pg 67 #[t0] (panK R) w fun t46 w =>
 n45c3 t0 t2 t46 K6 R w) (
 K6 w)
def n45c5 (t2 t38 t40:Value) (K5:World→Prop) (R:RT) (w:World):Prop :=
 opV Pg (Instr.fieldAt 71 t2 3) (panK R) w fun t41 w =>
 opU Pg (Instr.storeAt 9 t41 t38) (panK R) w fun w =>
 opV Pg (Instr.fieldAt 71 t2 4) (panK R) w fun t42 w =>
 opU Pg (Instr.storeAt 9 t42 t40) (panK R) w fun w =>
 K5 w
def n45c6 (t0 t2 t32 t34:Value) (C4:World→Prop) (R:RT) (w:World):Prop :=
 qV Pg C4 (Instr.lookup 90 t32 t34 false) fun t35 =>
 qV Pg C4 (Instr.field 89 t35 1) fun t36 =>
 joinK (fun (w:World) =>
 n45c4 t0 t2 R w) fun K5 =>
 condP t36 (
 callK Pg 67 #[t0] (panK R) w fun t38 w =>
 callK Pg 67 #[t0] (panK R) w fun t40 w =>
 n45c5 t2 t38 t40 K5 R w) (
 K5 w)
def n45c7 (t0 t2:Value) (C3:World→Prop) (R:RT) (w:World):Prop :=
 qV Pg C3 (Instr.fieldAt 71 t2 2) fun t33 =>
 qV Pg C3 (Instr.loadAt 69 t33) fun t34 =>
 callK Pg 47 #[] (panK R) w fun t32 w =>
 narrowK C3 w fun C4 w =>
 n45c6 t0 t2 t32 t34 C4 R w
def n45c8 (t0 t2:Value) (R:RT) (w:World):Prop :=
 opV Pg (Instr.fieldAt 71 t2 2) (panK R) w fun t28 w =>
 opV Pg (Instr.loadAt 69 t28) (panK R) w fun t29 w =>
 opV Pg (binS .neq 69 true t29 (.int .i64 0)) (panK R) w fun t30 w =>
 callK Pg 66 #[t0,t30] (panK R) w fun t31 w =>
 drawK w fun C3 w =>
 n45c7 t0 t2 C3 R w
def n45c9 (t2 t13 t15:Value) (next1:World→Prop) (R:RT) (w:World):Prop :=
 opV Pg (Instr.entry t15) (panK R) w fun t18 w =>
 opV Pg (Instr.extract t18 0) (panK R) w fun t19 w =>
 opV Pg (Instr.extract t18 1) (panK R) w fun t20 w =>
 opV Pg (Instr.alloc 89 true (.tuple #[])) (panK R) w fun t5 w =>
 opU Pg (Instr.storeAt 89 t5 t20) (panK R) w fun w =>
 opV Pg (Instr.fieldAt 89 t5 0) (panK R) w fun t21 w =>
 opV Pg (Instr.loadAt 9 t21) (panK R) w fun t22 w =>
 opV Pg (binS .eql 9 false t22 t13) (panK R) w fun t24 w =>
 joinK (fun (w:World) =>
 next1 w) fun K2 =>
 condP t24 (
 opV Pg (Instr.fieldAt 71 t2 2) (panK R) w fun t26 w =>
 opU Pg (Instr.storeAt 69 t26 t19) (panK R) w fun w =>
 K2 w) (
 K2 w)
def n45c10 (t0 t2 t13 t15:Value) (next1:World→Prop) (R:RT) (w:World):Prop :=
 opV Pg (Instr.next t15 false 0) (panK R) w fun t16 w =>
 opV Pg (Instr.extract t16 0) (panK R) w fun t17 w =>
 condP t17 (
 n45c9 t2 t13 t15 next1 R w) (
 n45c8 t0 t2 R w)
def n45c11 (t0 t2 t7 t9:Value) (R:RT) (w:World):Prop :=
 opV Pg (Instr.fieldAt 71 t2 0) (panK R) w fun t10 w =>
 opU Pg (Instr.storeAt 9 t10 t7) (panK R) w fun w =>
 opV Pg (Instr.fieldAt 71 t2 1) (panK R) w fun t11 w =>
 opU Pg (Instr.storeAt 9 t11 t9) (panK R) w fun w =>
 callK Pg 69 #[t0] (panK R) w fun t13 w =>
 callK Pg 47 #[] (panK R) w fun t14 w =>
 opV Pg (Instr.range 90 t14) (panK R) w fun t15 w =>
 loop0 (fun w next1 =>
 n45c10 t0 t2 t13 t15 next1 R w) w
def n45 (t0:Value) (R:RT) (w:World):Prop :=
 opV Pg (Instr.alloc 71 true (.tuple #[])) (panK R) w fun t2 w =>
 callK Pg 67 #[t0] (panK R) w fun t7 w =>
 callK Pg 67 #[t0] (panK R) w fun t9 w =>
 n45c11 t0 t2 t7 t9 R w
theorem n45s {t0:Value} {R:RT} {w:World} (h:n45 t0 R w):Calls Pg 91 #[t0] w R:=by
 refine yD Tryz.func91 ?_
 refine zs<|zr<|yv h fun _ w h=>zn<|zk<|zs<|zr<|zm<|yc h c67 fun _ w h=>zm<|yc h c67 fun _ w h=>yv h fun _ w h=>yu h fun w h=>yv h fun _ w h=>yu h fun w h=>?_
 refine zn<|zk<|zs<|zr<|zm<|yc h c69 fun _ w h=>zm<|zn<|zk<|zs<|zs<|zr<|yc h c47 fun _ w h=>yv h fun _ w h=>zn ?_
 refine zk<|sim_block<|yl0 [4,5,16,17,18,19,20,21,22,23,24,25,26] h fun σ w next h=>zs<|zr<|yv h fun _ w h=>yv h fun _ w h=>zn<|zk<|zs<|yC h (fun h=>?_) fun h=>?_
 · refine sim_skip<|zk<|sim_block<|zs<|zr<|yv h fun _ w h=>yv h fun _ w h=>yv h fun _ w h=>yv h fun _ w h=>zm<|yu h fun w h=>zn<|zk<|zs<|zr ?_
   refine yv h fun _ w h=>yv h fun _ w h=>zm<|yb h fun _ w h=>zn<|zk<|yJ0 [25,26] h (fun _ _ hkK2 h=>?_) fun σ w h=>?_
   · refine yC h (fun h=>?_) fun h=>?_
     · refine zr<|zm<|yv h fun _ w h=>yu h fun w h=>zn<|zk ?_
       exact zt hkK2 h
     refine sim_skip<|zk ?_
     exact zt hkK2 h
   exact sim_block_normal<|zk<|⟨rfl,h⟩
 refine sim_exit<|sim_then_exit<|sim_then_exit<|sim_block_hit<|zk<|zs<|zr<|zm<|yv h fun _ w h=>yv h fun _ w h=>yb h fun _ w h=>yc h c66 fun _ w h=>zn<|zk<|zs ?_
 refine zs<|yh [32,33,34,35,36] h fun C hC h=>ye 1 hC h fun _ h=>?_
 refine ye 2 hC h fun _ h=>?_
 refine yr 0 ?_
 refine yc h c47 fun _ w h=>zn ?_
 obtain ⟨C4,hs,hC,h⟩:=h
 refine ⟨C4,hs,hC,?_⟩
 refine ye 3 hC h fun _ h=>?_
 refine ye 4 hC h fun _ h=>?_
 refine yz<|zk<|yJ0 [37,38,39,40,41,42] h (fun _ _ hkK5 h=>?_) fun σ w h=>?_
 · refine yC h (fun h=>?_) fun h=>?_
   · refine zr<|zm<|yc h c67 fun _ w h=>zm<|yc h c67 fun _ w h=>yv h fun _ w h=>yu h fun w h=>yv h fun _ w h=>yu h fun w h=>zn<|zk ?_
     exact zt hkK5 h
   refine sim_skip<|zk ?_
   exact zt hkK5 h
 refine zk<|zs<|zs<|zr<|zm<|yc h c107 fun _ w h=>zn<|zk<|yJ0 [45,46,47,48,49,50,51,52,53,54,55,56] h (fun _ _ hkK6 h=>?_) fun σ w h=>?_
 · refine yC h (fun h=>?_) fun h=>?_
   · refine zs<|zr<|zm<|yc h c67 fun _ w h=>yv h fun _ w h=>yu h fun w h=>zn<|zk<|zr<|zm<|yc h c70 fun _ w h=>zm<|yc h c70 fun _ w h=>zm<|yc h c70 fun _ w h=>?_
     refine yv h fun _ w h=>yu h fun w h=>yv h fun _ w h=>yu h fun w h=>yv h fun _ w h=>yu h fun w h=>zn<|zk ?_
     exact zt hkK6 h
   refine sim_skip<|zk ?_
   exact zt hkK6 h
 exact zk<|zs<|zr<|zm<|yc h c71 fun _ w h=>zn<|zk<|zs<|zr<|yv h fun _ w h=>yu h fun w h=>zn<|zk<|sim_ret<|body_retC rfl rfl h
def kwB (k:Int):ByteArray:=if k=1 then ⟨#[115,101,110,100]⟩ else if k=2 then ⟨#[114,101,99,101,105,118,101]⟩ else if k=3 then ⟨#[116,105,109,101,111,117,116]⟩ else ⟨#[115,105,108,101,110,116]⟩
def kfV (k:Int):Value:=if k=3 then .func (.func 84) #[] #[] else .func (.func 83) #[] #[]
abbrev kindCells (k:Int):List Value:=[.string (kwB k),.bool (speaksB k),kfV k]
def KindsR (L:List (Int×Value×Nat)):Prop:=∀ k,Sw.look L k=if 1≤k∧k≤4 then some (.agg (kindCells k).toArray) else none
abbrev kEnc:Int→Value:=fun s=>Value.int .i64 s
theorem kind_step {w0 w:World} {m c:Nat} {L:List (Int×Value×Nat)} {QP:List PanicEntry→World→Prop} {ku:World→Prop} (hM:MapB w m kEnc L c) (e:Ext w0 w) (hm:w0.heap.size≤m) (k:Int) (v:Value)
 (h:∀ w' L' c',MapB w' m kEnc L' c'→(∀ k',Sw.look L' k'=if k'=k then some v else Sw.look L k')→Ext w0 w'→ku w'):opU Pg (Instr.mapUpdate 90 (.map (some m)) (.int .i64 k) v) QP w ku:=by
 rw [op_mapUpdate Tryz.underlying90 (KeyOK.int Tryz.underlying69) hM k v]
 exact h _ _ _ (hM.put k v) (fun k'=>look_put _ _ _ _ _) (e.putObj hm _)
theorem kinds_ret (w0:World):Ret Pg 47 #[] w0 fun r w'=>∃ m L c,r = .map (some m)∧w0.heap.size≤m∧MapB w' m kEnc L c∧KindsR L∧Ext w0 w':=by
 refine n31s (R:=retR _) ?_;unfold n31
 simp (disch:=try exact DI) only [↓PR,QR,simprocAttr]
 have hM0:MapB (w0.alloc (.map #[] 0)) w0.heap.size kEnc [] 0:=MapB.new w0 _
 have e0:Ext w0 (w0.alloc (.map #[] 0)):=ee
 refine kind_step hM0 e0 (Nat.le_refl _) 1 _ (fun w1 L1 c1 hM1 hl1 e1=>?_)
 simp (disch:=try exact DI) only [↓PR,QR,simprocAttr]
 refine kind_step hM1 e1 (Nat.le_refl _) 2 _ (fun w2 L2 c2 hM2 hl2 e2=>?_)
 simp (disch:=try exact DI) only [↓PR,QR,simprocAttr]
 refine kind_step hM2 e2 (Nat.le_refl _) 3 _ (fun w3 L3 c3 hM3 hl3 e3=>?_)
 simp (disch:=try exact DI) only [↓PR,QR,simprocAttr]
 refine kind_step hM3 e3 (Nat.le_refl _) 4 _ (fun w4 L4 c4 hM4 hl4 e4=>?_)
 simp (disch:=try exact DI) only [↓PR,QR,simprocAttr]
 have hn:∀ k,Sw.look ([]:List (Int×Value×Nat)) k=none:=fun _=>rfl
 refine ⟨_,_,_,rfl,Nat.le_refl _,hM4,fun k=>?_,e4⟩
 rw [hl4,hl3,hl2,hl1,hn]
 by_cases h4:k=4
 · subst h4;rfl
 rw [if_neg h4]
 by_cases h3:k=3
 · subst h3;rfl
 rw [if_neg h3]
 by_cases h2:k=2
 · subst h2;rfl
 rw [if_neg h2]
 by_cases h1:k=1
 · subst h1;rfl
 rw [if_neg h1,if_neg (by omega)]
theorem kindsS1_ret (w:World) (x:StaD):Ret Pg 83 #[staVal x] w fun r w'=>r = .bool true∧Ext w w':=by
 refine n32s (R:=retR _) ?_;unfold n32
 unfold staVal
 rw [op_boxA]
 have hBW:=ElemAt.new (w:=w) (staCells x) (50)
 have eW:Ext w (w.alloc (Obj.cells (List.toArray (staCells x)) (50))):=(Ext.refl _).alloc _
 generalize (w.alloc (Obj.cells (List.toArray (staCells x)) (50)))=W at hBW eW ⊢
 exact ⟨_,rfl,rfl,eW⟩
theorem kindsS2_ret (w:World) (x:StaD):Ret Pg 84 #[staVal x] w fun r w'=>r = .bool (decide (0 < x.wait))∧Ext w w':=by
 refine n33s (R:=retR _) ?_;unfold n33
 unfold staVal
 rw [op_boxA]
 have hBW:=ElemAt.new (w:=w) (staCells x) (50)
 have eW:Ext w (w.alloc (Obj.cells (List.toArray (staCells x)) (50))):=(Ext.refl _).alloc _
 generalize (w.alloc (Obj.cells (List.toArray (staCells x)) (50)))=W at hBW eW ⊢
 simp (disch:=try exact DI) only [↓PR,QR,simprocAttr,hBW.c3 (Ext.refl W)]
 exact ⟨by trivial,eW⟩
theorem range_at {n k:Nat} (h:k < n):(List.range n)[k]?=some k:=by simp [h]
theorem few_ret (w0:World) (n least most:Nat) (g:FuncId) (caps:Array Value) (ok:Nat→Bool) (hg:Callable Pg g) (hn:n≤1000000000)
 (hc:∀ i w,i < n→least≤n→n≤most→Ext w0 w→Ret Pg g (#[.int .i64 (i:Int)]++caps) w fun r w'=>r = .bool (!ok i)∧Ext w w') :
 Ret Pg 36 #[.int .i64 (n:Int),.int .i64 (least:Int),.int .i64 (most:Int),.func (.func g) #[] caps] w0 fun r w'=>r = .int .i64 (fewP n least most ok)∧Ext w0 w':=by
 refine n28s (R:=retR _) ?_;unfold n28
 unfold fewP
 by_cases h1:n < least
 · have d1:decide ((n:Int) < (least:Int))=true:=decide_eq_true (by omega)
   simp (disch:=try exact DI) only [↓PR,QR,simprocAttr,d1,if_pos h1]
   exact ⟨by trivial,Ext.refl _⟩
 have d1:decide ((n:Int) < (least:Int))=false:=decide_eq_false (by omega)
 rw [if_neg h1]
 by_cases h2:most < n
 · have d2:decide ((n:Int) > (most:Int))=true:=decide_eq_true (by omega)
   simp (disch:=try exact DI) only [↓PR,QR,simprocAttr,d1,d2,if_pos h2]
   exact ⟨by trivial,Ext.refl _⟩
 have d2:decide ((n:Int) > (most:Int))=false:=decide_eq_false (by omega)
 rw [if_neg h2]
 simp (disch:=try exact DI) only [↓PR,QR,simprocAttr,d1,d2]
 refine loop1_intro (fun i w=>∃ k:Nat,i = .int .i64 k∧k≤n∧Ext w0 w∧∀ (j:Nat) y,j < k→(List.range n)[j]?=some y→(!ok y)=false) (fun i _=>n - (intOf i).toNat) ⟨0,rfl,by omega,Ext.refl _,fun j y h=>by omega⟩ ?_
 rintro i w ⟨k,rfl,hk,e,hb⟩
 by_cases hlt:k < n
 · have hd:decide ((k:Int) < (n:Int))=true:=by simp;omega
   simp (disch:=try exact DI) only [↓PR,QR,simprocAttr,hd,↓n28c1]
   rw [callV_func hg]
   simp only [Array.empty_append]
   refine callK_ret (hc k w hlt (by omega) (by omega) e) ?_
   rintro r w' ⟨rfl,e'⟩
   cases hp:ok k with
   | false =>
    simp (disch:=try exact DI) only [↓PR,QR,simprocAttr]
    exact ⟨by rw [idx_here (range_at hlt) (by rw [hp];rfl) hb],e.trans e'⟩
   | true =>
    have hw:IntKind.i64.wrap ((k:Int)+1)=((k+1:Nat):Int):=by rw [wrap_ok (by omega) (by omega)];omega
    simp (disch:=try exact DI) only [↓PR,QR,simprocAttr,hw]
    exact ⟨⟨k+1,rfl,by omega,e.trans e',before_succ hb (range_at hlt) (by rw [hp];rfl)⟩,meas_lt (kd := .i64) hlt⟩
 · have hd:decide ((k:Int) < (n:Int))=false:=by simp;omega
   simp (disch:=try exact DI) only [↓PR,QR,simprocAttr,hd,↓n28c1]
   exact ⟨by rw [idx_none fun j y hy=>hb j y (by have:=(List.getElem?_eq_some_iff.1 hy).1;rw [List.length_range] at this;omega) hy],e⟩
theorem stp_eq (a b:StpD):(decide (a.fr=b.fr)&&(decide (a.to=b.to)&&(decide (a.kind=b.kind)&&(decide (a.message=b.message)&&(decide (a.peer=b.peer)&&(decide (a.counter=b.counter)&&(decide (a.low=b.low)&&(decide (a.high=b.high)&&decide (a.add=b.add)))))))))=decide (a=b):=by
 rw [Bool.eq_iff_iff]
 simp only [Bool.and_eq_true,decide_eq_true_eq]
 constructor
 · rintro ⟨h1,h2,h3,h4,h5,h6,h7,h8,h9⟩
   cases a;cases b;simp_all
 · rintro rfl;simp
theorem Index_Step_ret (w0:World) (v:Value) (l:List StpD) (x:StpD) (hs:StpsOf w0 v l) :
 Ret Pg 94 #[v,stpVal x] w0 fun r w'=>r = .int .i64 (idx (fun y=>decide (x=y)) l)∧Ext w0 w':=by
 obtain ⟨A,c,rfl,hlc,hcm,hlm,hel⟩:=SliceOf.open hs
 refine n56s (R:=retR _) ?_;unfold n56
 unfold stpVal
 rw [op_boxA]
 have hBW:=ElemAt.new (w:=w0) (stpCells x) (71)
 have eW:Ext w0 (w0.alloc (Obj.cells (List.toArray (stpCells x)) (71))):=(Ext.refl _).alloc _
 generalize (w0.alloc (Obj.cells (List.toArray (stpCells x)) (71)))=W at hBW eW ⊢
 simp (disch:=try exact DI) only [↓PR,QR,simprocAttr]
 refine loop1_intro (fun i w=>∃ k:Nat,i = .int .i64 k∧k≤l.length∧Ext W w∧∀ (j:Nat) y,j < k→l[j]?=some y→decide (x=y)=false) (fun i _=>l.length - (intOf i).toNat) ⟨0,rfl,by omega,Ext.refl _,fun j y h=>by omega⟩ ?_
 rintro i w ⟨k,rfl,hk,e,hb⟩
 by_cases hlt:k < l.length
 · obtain ⟨y,hy⟩:=getElem?_lt hlt
   obtain ⟨b,o,cs,rfl,hl,hA,rfl⟩:=hel k y hy
   have hd:decide ((k:Int) < (l.length:Int))=true:=by simp;omega
   simp (disch:=try exact DI) only [↓PR,QR,simprocAttr,hd]
   refine drawK_intro ?_
   have eD:Ext w (Sw.drew w):=(Ext.refl w).drew
   have e2:=e.trans eD
   generalize (Sw.drew w)=w2 at e2 ⊢
   clear eD e
   have hw:IntKind.i64.wrap ((k:Int)+1)=((k+1:Nat):Int):=by rw [wrap_ok (by omega) (by omega)];omega
   simp (disch:=try exact DI) only [↓PR,QR,simprocAttr,↓n56c1,hBW.c9 e2,hA.c9 (eW.trans e2),stp_eq]
   cases hp:decide (x=y) with
   | true =>
    simp (disch:=try exact DI) only [↓PR,QR,simprocAttr]
    exact ⟨by rw [idx_here hy hp hb],eW.trans e2⟩
   | false =>
    simp (disch:=try exact DI) only [↓PR,QR,simprocAttr,hw]
    exact ⟨⟨k+1,rfl,by omega,e2,before_succ hb hy hp⟩,meas_lt (kd := .i64) hlt⟩
 · have hd:decide ((k:Int) < (l.length:Int))=false:=by simp;omega
   simp (disch:=try exact DI) only [↓PR,QR,simprocAttr,hd]
   exact ⟨by rw [idx_none fun j y hy=>hb j y (by have:=(List.getElem?_eq_some_iff.1 hy).1;omega) hy],eW.trans e⟩
theorem Contains_Step_ret (w0:World) (v:Value) (l:List StpD) (x:StpD) (hs:StpsOf w0 v l) :
 Ret Pg 57 #[v,stpVal x] w0 fun r w'=>r = .bool (l.any fun y=>decide (x=y))∧Ext w0 w':=by
 refine n52s (R:=retR _) ?_;unfold n52
 unfold stpVal
 rw [op_boxA]
 have hBW:=ElemAt.new (w:=w0) (stpCells x) (71)
 have eW:Ext w0 (w0.alloc (Obj.cells (List.toArray (stpCells x)) (71))):=(Ext.refl _).alloc _
 generalize (w0.alloc (Obj.cells (List.toArray (stpCells x)) (71)))=W at hBW eW ⊢
 simp (disch:=try exact DI) only [↓PR,QR,simprocAttr,hBW.c9 (Ext.refl W)]
 refine zcr (Index_Step_ret W v l x (hs.ext eW)) fun w1 e1=>?_
 simp (disch:=try exact DI) only [↓PR,QR,simprocAttr]
 refine ⟨?_,eW.trans e1⟩
 rw [← idx_neg]
theorem idx_le {α:Type} {p:α→Bool} {l:List α} {i:Nat} {x:α} (hx:l[i]?=some x) (hp:p x=true):0≤idx p l∧idx p l≤i:=by
 unfold idx
 cases hf:l.findIdx? p with
 | none =>
  rw [List.findIdx?_eq_none_iff] at hf
  have:=hf x (List.mem_of_getElem? hx)
  rw [hp] at this;cases this
 | some j =>
  obtain ⟨h1,h2,h3⟩:=List.findIdx?_eq_some_iff_getElem.1 hf
  simp only
  refine ⟨by omega,?_⟩
  by_cases hj:j≤i
  · exact_mod_cast hj
  · have:=h3 i (by omega)
    obtain ⟨h4,h5⟩:=List.getElem?_eq_some_iff.1 hx
    rw [h5,hp] at this
    simp at this
theorem lt_not_eq {a i:Int} (h:a≤i):decide (a < i)=!decide (a=i):=by
 by_cases e:a=i
 · simp [e]
 · rw [decide_eq_true (show a < i by omega),decide_eq_false e];rfl
section
variable {w:World} {r:RolD} {p:Nat} {sv cv tv:Value}
theorem CheckS1_ret (hp:w.heap[p]?=some (.cells (rolCells r sv cv tv).toArray 26 (0,0))) (h1:StasOf w sv r.states) (h2:CntsOf w cv r.counters) (h3:StpsOf w tv r.steps) {i:Nat} (hi:i < r.counters.length) :
 Ret Pg 37 #[.int .i64 (i:Int),.pointer (some ⟨p,0,none⟩)] w fun u w'=>u = .bool (!cntB r i)∧Ext w w':=by
 obtain ⟨x,hx⟩:=getElem?_lt hi
 have o1:=SliceOf.oneCell h1
 have o3:=SliceOf.oneCell h3
 have h2':=h2
 obtain ⟨A,c,rfl,hlc,hcm,hlm,hel⟩:=SliceOf.open h2
 obtain ⟨b,o,cs,rfl,hl,hA,rfl⟩:=hel i x hx
 have dk:(i:Int) < (r.counters.length:Int):=by omega
 obtain ⟨hle0,hle⟩:=idx_le (p:=fun y:CntD=>decide (y.name=x.name)) hx (by simp)
 have hcb:(!cntB r i)=(!nameB x.name||(decide (counterI r x.name < (i:Int))||(decide (x.limit < 1)||decide (x.limit > 1000)))):=by
  unfold cntB
  rw [hx]
  simp only [lt_not_eq (show counterI r x.name≤(i:Int) from hle),Bool.not_and]
  congr 2
  rw [show decide (1≤x.limit)=!decide (x.limit < 1) by rw [← decide_not];congr 1;rw [Int.not_lt],show decide (x.limit≤1000)=!decide (x.limit > 1000) by rw [← decide_not];congr 1;rw [gt_iff_lt,Int.not_lt]]
  simp
 rw [hcb]
 refine n14s (R:=retR _) ?_;unfold n14
 simp (disch:=try exact DI) only [↓PR,QR,simprocAttr,(cells_of_heap hp).1,hA.c2 (Ext.refl w)]
 have o4:=heap_new w (cntCells x).toArray 52
 have eV:Ext w (w.alloc (.cells (cntCells x).toArray 52)):=(Ext.refl w).alloc _
 generalize (w.alloc (.cells (cntCells x).toArray 52))=V at o4 eV ⊢
 refine zcr (Name_ret V x.name) fun w1 e1=>?_
 have q4:=cells_of_heap (e1.obj o4)
 have e2:=eV.trans e1
 cases nameB x.name with
 | false=>simp (disch:=try exact DI) only [↓PR,QR,simprocAttr,↓n14c3,↓n14c2,↓n14c1];exact ⟨by trivial,e2⟩
 | true =>
 simp (disch:=try exact DI) only [↓PR,QR,simprocAttr,↓n14c3,(cells_of_heap (e2.obj hp)).1,q4.1]
 refine zcr (counter_ret w1 _ r x.name ⟨sv,_,tv,rfl,h1.ext e2,h2'.ext e2,h3.ext e2⟩) fun w2 e3=>?_
 have q5:=cells_of_heap (e3.obj (e1.obj o4))
 have e4:=e2.trans e3
 cases d1:decide (counterI r x.name < (i:Int)) with
 | true=>simp (disch:=try exact DI) only [↓PR,QR,simprocAttr,d1,↓n14c2,↓n14c1];exact ⟨by trivial,e4⟩
 | false =>
 cases d2:decide (x.limit < 1) with
 | true=>simp (disch:=try exact DI) only [↓PR,QR,simprocAttr,d1,↓n14c2,q5.1,d2,↓n14c1];exact ⟨by trivial,e4⟩
 | false =>
  simp (disch:=try exact DI) only [↓PR,QR,simprocAttr,d1,↓n14c2,q5.1,d2,↓n14c1]
  exact ⟨by trivial,e4⟩
theorem CheckS2_ret (hp:w.heap[p]?=some (.cells (rolCells r sv cv tv).toArray 26 (0,0))) (h1:StasOf w sv r.states) (h2:CntsOf w cv r.counters) (h3:StpsOf w tv r.steps) {i:Nat} (hi:i < r.states.length) :
 Ret Pg 39 #[.int .i64 (i:Int),.pointer (some ⟨p,0,none⟩)] w fun u w'=>u = .bool (!staB r i)∧Ext w w':=by
 obtain ⟨x,hx⟩:=getElem?_lt hi
 have o2:=SliceOf.oneCell h2
 have o3:=SliceOf.oneCell h3
 have h1':=h1
 obtain ⟨A,c,rfl,hlc,hcm,hlm,hel⟩:=SliceOf.open h1
 obtain ⟨b,o,cs,rfl,hl,hA,rfl⟩:=hel i x hx
 have dk:(i:Int) < (r.states.length:Int):=by omega
 obtain ⟨hle0,hle⟩:=idx_le (p:=fun y:StaD=>decide (y.name=x.name)) hx (by simp)
 have hcb:(!staB r i)=(!nameB x.name||(decide (stateI r x.name < (i:Int))||(decide (x.wait < 0)||decide (x.wait > 1048576)))):=by
  unfold staB
  rw [hx]
  simp only [lt_not_eq (show stateI r x.name≤(i:Int) from hle),Bool.not_and]
  congr 2
  rw [show decide (0≤x.wait)=!decide (x.wait < 0) by rw [← decide_not];congr 1;rw [Int.not_lt],show decide (x.wait≤1048576)=!decide (x.wait > 1048576) by rw [← decide_not];congr 1;rw [gt_iff_lt,Int.not_lt]]
  simp
 rw [hcb]
 refine n15s (R:=retR _) ?_;unfold n15
 simp (disch:=try exact DI) only [↓PR,QR,simprocAttr,(cells_of_heap hp).1,hA.c3 (Ext.refl w)]
 have o4:=heap_new w (staCells x).toArray 50
 have eV:Ext w (w.alloc (.cells (staCells x).toArray 50)):=(Ext.refl w).alloc _
 generalize (w.alloc (.cells (staCells x).toArray 50))=V at o4 eV ⊢
 refine zcr (Name_ret V x.name) fun w1 e1=>?_
 have q4:=cells_of_heap (e1.obj o4)
 have e2:=eV.trans e1
 cases nameB x.name with
 | false=>simp (disch:=try exact DI) only [↓PR,QR,simprocAttr,↓n15c3,↓n15c2,↓n15c1];exact ⟨by trivial,e2⟩
 | true =>
 simp (disch:=try exact DI) only [↓PR,QR,simprocAttr,↓n15c3,(cells_of_heap (e2.obj hp)).1,q4.1]
 refine zcr (state_ret w1 _ r x.name ⟨_,cv,tv,rfl,h1'.ext e2,h2.ext e2,h3.ext e2⟩) fun w2 e3=>?_
 have q5:=cells_of_heap (e3.obj (e1.obj o4))
 have e4:=e2.trans e3
 cases d1:decide (stateI r x.name < (i:Int)) with
 | true=>simp (disch:=try exact DI) only [↓PR,QR,simprocAttr,d1,↓n15c2,↓n15c1];exact ⟨by trivial,e4⟩
 | false =>
 cases d2:decide (x.wait < 0) with
 | true=>simp (disch:=try exact DI) only [↓PR,QR,simprocAttr,d1,↓n15c2,q5.1,d2,↓n15c1];exact ⟨by trivial,e4⟩
 | false =>
  simp (disch:=try exact DI) only [↓PR,QR,simprocAttr,d1,↓n15c2,q5.1,d2,↓n15c1]
  exact ⟨by trivial,e4⟩
end
def n25c1 (t5 t102 t106:Value) (R:RT) (w:World):Prop :=
 pickK t102 t106 (.bool false) fun t107 =>
 joinK (fun (t111:Value) (w:World) =>
 pickK t107 t111 (.bool false) fun t112 =>
 R (.returned t112) w) fun K18 =>
 guardP t107 true (
 opV Pg (Instr.fieldAt 71 t5 8) (panK R) w fun t109 w =>
 opV Pg (Instr.loadAt 3 t109) (panK R) w fun t110 w =>
 opV Pg (binS .eql 3 true t110 (.int .i64 0)) (panK R) w fun t111 w =>
 K18 t111 w) (
 K18 undef w)
def n25c2 (t5 t142 t146 t153:Value) (R:RT) (w:World):Prop :=
 pickK t146 t153 (.bool false) fun t154 =>
 joinK (fun (t162:Value) (w:World) =>
 pickK t154 t162 (.bool false) fun t163 =>
 R (.returned t163) w) fun K24 =>
 guardP t154 true (
 opV Pg (Instr.fieldAt 71 t5 7) (panK R) w fun t156 w =>
 opV Pg (Instr.loadAt 3 t156) (panK R) w fun t157 w =>
 opV Pg (Instr.fieldAt 71 t5 8) (panK R) w fun t158 w =>
 opV Pg (Instr.loadAt 3 t158) (panK R) w fun t159 w =>
 opV Pg (binS .add 3 false t157 t159) (panK R) w fun t160 w =>
 opV Pg (binS .leq 3 false t160 t142) (panK R) w fun t162 w =>
 K24 t162 w) (
 K24 undef w)
def n25c3 (t2 t5 t30:Value) (R:RT) (w:World):Prop :=
 opV Pg (Instr.fieldAt 26 t2 2) (panK R) w fun t137 w =>
 opV Pg (Instr.loadAt 23 t137) (panK R) w fun t138 w =>
 opV Pg (Instr.indexAt 23 t138 t30) (panK R) w fun t140 w =>
 opV Pg (Instr.fieldAt 52 t140 1) (panK R) w fun t141 w =>
 opV Pg (Instr.loadAt 3 t141) (panK R) w fun t142 w =>
 opV Pg (Instr.fieldAt 71 t5 7) (panK R) w fun t143 w =>
 opV Pg (Instr.loadAt 3 t143) (panK R) w fun t144 w =>
 opV Pg (binS .leq 3 false t144 t142) (panK R) w fun t146 w =>
 joinK (fun (t153:Value) (w:World) =>
 n25c2 t5 t142 t146 t153 R w) fun K23 =>
 guardP t146 true (
 opV Pg (Instr.fieldAt 71 t5 6) (panK R) w fun t148 w =>
 opV Pg (Instr.loadAt 3 t148) (panK R) w fun t149 w =>
 opV Pg (Instr.fieldAt 71 t5 8) (panK R) w fun t150 w =>
 opV Pg (Instr.loadAt 3 t150) (panK R) w fun t151 w =>
 opV Pg (binS .add 3 false t149 t151) (panK R) w fun t152 w =>
 opV Pg (binS .geq 3 true t152 (.int .i64 0)) (panK R) w fun t153 w =>
 K23 t153 w) (
 K23 undef w)
def n25c4 (t2 t5 t30 t126 t130:Value) (R:RT) (w:World):Prop :=
 pickK t126 (.bool true) t130 fun t131 =>
 joinK (fun (t135:Value) (w:World) =>
 pickK t131 (.bool true) t135 fun t136 =>
 condP t136 (
 R (.returned (.bool false)) w) (
 n25c3 t2 t5 t30 R w)) fun K22 =>
 guardP t131 false (
 opV Pg (Instr.fieldAt 71 t5 8) (panK R) w fun t133 w =>
 opV Pg (Instr.loadAt 3 t133) (panK R) w fun t134 w =>
 opV Pg (binS .gtr 3 true t134 (.int .i64 1000)) (panK R) w fun t135 w =>
 K22 t135 w) (
 K22 undef w)
def n25c5 (t2 t5 t30 t119 t125:Value) (R:RT) (w:World):Prop :=
 pickK t119 (.bool true) t125 fun t126 =>
 joinK (fun (t130:Value) (w:World) =>
 n25c4 t2 t5 t30 t126 t130 R w) fun K21 =>
 guardP t126 false (
 opV Pg (Instr.fieldAt 71 t5 8) (panK R) w fun t128 w =>
 opV Pg (Instr.loadAt 3 t128) (panK R) w fun t129 w =>
 opV Pg (binS .lss 3 true t129 (.int .i64 (-1000))) (panK R) w fun t130 w =>
 K21 t130 w) (
 K21 undef w)
def n25c6 (t2 t5 t30 t114 t118:Value) (R:RT) (w:World):Prop :=
 pickK t114 (.bool true) t118 fun t119 =>
 joinK (fun (t125:Value) (w:World) =>
 n25c5 t2 t5 t30 t119 t125 R w) fun K20 =>
 guardP t119 false (
 opV Pg (Instr.fieldAt 71 t5 6) (panK R) w fun t121 w =>
 opV Pg (Instr.loadAt 3 t121) (panK R) w fun t122 w =>
 opV Pg (Instr.fieldAt 71 t5 7) (panK R) w fun t123 w =>
 opV Pg (Instr.loadAt 3 t123) (panK R) w fun t124 w =>
 opV Pg (binS .gtr 3 false t122 t124) (panK R) w fun t125 w =>
 K20 t125 w) (
 K20 undef w)
def n25c7 (t5:Value) (R:RT) (w:World):Prop :=
 opV Pg (Instr.fieldAt 71 t5 6) (panK R) w fun t100 w =>
 opV Pg (Instr.loadAt 3 t100) (panK R) w fun t101 w =>
 opV Pg (binS .eql 3 true t101 (.int .i64 0)) (panK R) w fun t102 w =>
 joinK (fun (t106:Value) (w:World) =>
 n25c1 t5 t102 t106 R w) fun K17 =>
 guardP t102 true (
 opV Pg (Instr.fieldAt 71 t5 7) (panK R) w fun t104 w =>
 opV Pg (Instr.loadAt 3 t104) (panK R) w fun t105 w =>
 opV Pg (binS .eql 3 true t105 (.int .i64 0)) (panK R) w fun t106 w =>
 K17 t106 w) (
 K17 undef w)
def n25c8 (t2 t5 t30:Value) (R:RT) (w:World):Prop :=
 opV Pg (binS .lss 3 true t30 (.int .i64 0)) (panK R) w fun t114 w =>
 joinK (fun (t118:Value) (w:World) =>
 n25c6 t2 t5 t30 t114 t118 R w) fun K19 =>
 guardP t114 false (
 opV Pg (Instr.fieldAt 71 t5 6) (panK R) w fun t116 w =>
 opV Pg (Instr.loadAt 3 t116) (panK R) w fun t117 w =>
 opV Pg (binS .lss 3 true t117 (.int .i64 0)) (panK R) w fun t118 w =>
 K19 t118 w) (
 K19 undef w)
def n25c9 (t2 t5 t30:Value) (R:RT) (w:World):Prop :=
 opV Pg (Instr.fieldAt 71 t5 5) (panK R) w fun t97 w =>
 opV Pg (Instr.loadAt 9 t97) (panK R) w fun t98 w =>
 opV Pg (binS .eql 9 true t98 (.string { data := #[] })) (panK R) w fun t99 w =>
 condP t99 (
 n25c7 t5 R w) (
 n25c8 t2 t5 t30 R w)
def n25c10 (t2 t5 t30 t83 t88 t94:Value) (R:RT) (w:World):Prop :=
 joinK (fun (t95:Value) (w:World) =>
 pickK t83 (.bool true) t95 fun t96 =>
 condP t96 (
 R (.returned (.bool false)) w) (
 n25c9 t2 t5 t30 R w)) fun K16 =>
 guardP t83 false (
 pickK t88 t94 (.bool false) fun t95 =>
 K16 t95 w) (
 K16 undef w)
def n25c11 (t2 t5 t30 t83 t88:Value) (R:RT) (w:World):Prop :=
 joinK (fun (t94:Value) (w:World) =>
 n25c10 t2 t5 t30 t83 t88 t94 R w) fun K15 =>
 guardP t88 true (
 opV Pg (Instr.fieldAt 71 t5 3) (panK R) w fun t89 w =>
 opV Pg (Instr.loadAt 9 t89) (panK R) w fun t90 w =>
 opV Pg (Instr.fieldAt 71 t5 4) (panK R) w fun t91 w =>
 opV Pg (Instr.loadAt 9 t91) (panK R) w fun t92 w =>
 opV Pg (binS .add 9 false t90 t92) (panK R) w fun t93 w =>
 opV Pg (binS .neq 9 true t93 (.string { data := #[] })) (panK R) w fun t94 w =>
 K15 t94 w) (
 K15 undef w)
def n25c12 (t2 t5 t6 t30 t64 t82:Value) (R:RT) (w:World):Prop :=
 pickK t64 t82 (.bool false) fun t83 =>
 joinK (fun (t88:Value) (w:World) =>
 n25c11 t2 t5 t30 t83 t88 R w) fun K14 =>
 guardP t83 false (
 opV Pg (Instr.fieldAt 89 t6 1) (panK R) w fun t85 w =>
 opV Pg (Instr.loadAt 4 t85) (panK R) w fun t86 w =>
 opV Pg (Op.unary .not t86) (panK R) w fun t87 w =>
 K14 t87 w) (
 K14 undef w)
def n25c13 (t2 t5 t6 t30 t64 t76:Value) (R:RT) (w:World):Prop :=
 joinK (fun (t81:Value) (w:World) =>
 joinK (fun (t82:Value) (w:World) =>
 n25c12 t2 t5 t6 t30 t64 t82 R w) fun K13 =>
 guardP t64 true (
 pickK t76 (.bool true) t81 fun t82 =>
 K13 t82 w) (
 K13 undef w)) fun K12 =>
 guardP t76 false (
 opV Pg (Instr.fieldAt 71 t5 4) (panK R) w fun t77 w =>
 opV Pg (Instr.loadAt 9 t77) (panK R) w fun t78 w =>
 opV Pg (Instr.fieldAt 26 t2 0) (panK R) w fun t79 w =>
 opV Pg (Instr.loadAt 9 t79) (panK R) w fun t80 w =>
 opV Pg (binS .eql 9 false t78 t80) (panK R) w fun t81 w =>
 K12 t81 w) (
 K12 undef w)
def n25c14 (t2 t5 t6 t30 t64 t70:Value) (R:RT) (w:World):Prop :=
 joinK (fun (t74:Value) (w:World) =>
 joinK (fun (t76:Value) (w:World) =>
 n25c13 t2 t5 t6 t30 t64 t76 R w) fun K11 =>
 guardP t64 true (
 pickK t70 (.bool true) t74 fun t75 =>
 K11 t75 w) (
 K11 undef w)) fun K10 =>
 guardP t70 false (
 opV Pg (Instr.fieldAt 71 t5 4) (panK R) w fun t71 w =>
 opV Pg (Instr.loadAt 9 t71) (panK R) w fun t72 w =>
 callK Pg 17 #[t72] (panK R) w fun t73 w =>
 opV Pg (Op.unary .not t73) (panK R) w fun t74 w =>
 K10 t74 w) (
 K10 undef w)
def n25c15 (t2 t5 t6 t30:Value) (R:RT) (w:World):Prop :=
 opV Pg (Instr.fieldAt 89 t6 1) (panK R) w fun t63 w =>
 opV Pg (Instr.loadAt 4 t63) (panK R) w fun t64 w =>
 joinK (fun (t70:Value) (w:World) =>
 n25c14 t2 t5 t6 t30 t64 t70 R w) fun K9 =>
 guardP t64 true (
 opV Pg (Instr.fieldAt 71 t5 3) (panK R) w fun t66 w =>
 opV Pg (Instr.loadAt 9 t66) (panK R) w fun t67 w =>
 callK Pg 17 #[t67] (panK R) w fun t68 w =>
 opV Pg (Op.unary .not t68) (panK R) w fun t69 w =>
 K9 t69 w) (
 K9 undef w)
def n25c16 (t2 t5 t6 t26 t30 t43 t50:Value) (C4:World→Prop) (R:RT) (w:World):Prop :=
 pickK t43 (.bool true) t50 fun t51 =>
 joinK (fun (t61:Value) (w:World) =>
 pickK t51 (.bool true) t61 fun t62 =>
 condP t62 (
 R (.returned (.bool false)) w) (
 n25c15 t2 t5 t6 t30 R w)) fun K8 =>
 guardP t51 false (
 qV Pg C4 (Instr.fieldAt 89 t6 2) fun t53 =>
 qV Pg C4 (Instr.loadAt 87 t53) fun t54 =>
 qV Pg C4 (Instr.fieldAt 26 t2 1) fun t55 =>
 qV Pg C4 (Instr.loadAt 22 t55) fun t56 =>
 qV Pg C4 (Instr.indexAt 22 t56 t26) fun t58 =>
 qV Pg C4 (Instr.loadAt 50 t58) fun t59 =>
 callV Pg t54 #[t59] (panK R) w fun t60 w =>
 C4 w∧(
 qV Pg C4 (Op.unary .not t60) fun t61 =>
 K8 t61 w)) (
 K8 undef w)
def n25c17 (t1 t2 t5 t6 t26 t30 t36 t42:Value) (C4:World→Prop) (R:RT) (w:World):Prop :=
 pickK t36 (.bool true) t42 fun t43 =>
 joinK (fun (t50:Value) (w:World) =>
 n25c16 t2 t5 t6 t26 t30 t43 t50 C4 R w) fun K7 =>
 guardP t43 false (
 qV Pg C4 (Instr.fieldAt 26 t2 3) fun t45 =>
 qV Pg C4 (Instr.loadAt 24 t45) fun t46 =>
 qV Pg C4 (Instr.sliceAt 24 t46 none (some t1) none) fun t48 =>
 qV Pg C4 (Instr.loadAt 71 t5) fun t49 =>
 callK Pg 57 #[t48,t49] (panK R) w fun t50 w =>
 C4 w∧(
 K7 t50 w)) (
 K7 undef w)
def n25c18 (t1 t2 t5 t6 t26 t30 t32 t35:Value) (C4:World→Prop) (R:RT) (w:World):Prop :=
 pickK t32 (.bool true) t35 fun t36 =>
 joinK (fun (t42:Value) (w:World) =>
 n25c17 t1 t2 t5 t6 t26 t30 t36 t42 C4 R w) fun K6 =>
 guardP t36 false (
 qV Pg C4 (Instr.loadAt 26 t2) fun t38 =>
 qV Pg C4 (Instr.fieldAt 71 t5 1) fun t39 =>
 qV Pg C4 (Instr.loadAt 9 t39) fun t40 =>
 callK Pg 40 #[t38,t40] (panK R) w fun t41 w =>
 C4 w∧(
 qV Pg C4 (binS .lss 3 true t41 (.int .i64 0)) fun t42 =>
 K6 t42 w)) (
 K6 undef w)
def n25c19 (t1 t2 t5 t6 t7 t26 t30:Value) (C4:World→Prop) (R:RT) (w:World):Prop :=
 qV Pg C4 (Op.unary .not t7) fun t32 =>
 joinK (fun (t35:Value) (w:World) =>
 n25c18 t1 t2 t5 t6 t26 t30 t32 t35 C4 R w) fun K5 =>
 guardP t32 false (
 qV Pg C4 (binS .lss 3 true t26 (.int .i64 0)) fun t35 =>
 K5 t35 w) (
 K5 undef w)
def n25c20 (t1 t2 t5 t6 t7:Value) (C3:World→Prop) (R:RT) (w:World):Prop :=
 qV Pg C3 (Instr.loadAt 26 t2) fun t23 =>
 qV Pg C3 (Instr.fieldAt 71 t5 0) fun t24 =>
 qV Pg C3 (Instr.loadAt 9 t24) fun t25 =>
 qV Pg C3 (Instr.loadAt 26 t2) fun t27 =>
 qV Pg C3 (Instr.fieldAt 71 t5 5) fun t28 =>
 qV Pg C3 (Instr.loadAt 9 t28) fun t29 =>
 callK Pg 40 #[t23,t25] (panK R) w fun t26 w =>
 C3 w∧(
 callK Pg 38 #[t27,t29] (panK R) w fun t30 w =>
 C3 w∧(
 drawK w fun C4 w =>
 n25c19 t1 t2 t5 t6 t7 t26 t30 C4 R w))
def n25c21 (t17 t19:Value) (C25:World→Prop) (K2:KW) (R:RT) (w:World):Prop :=
 qV Pg C25 (Instr.lookup 90 t17 t19 true) fun t20 =>
 qV Pg C25 (Instr.extract t20 0) fun t21 =>
 qV Pg C25 (Instr.extract t20 1) fun t22 =>
 opV Pg (Instr.alloc 89 true (.tuple #[])) (panK R) w fun t6 w =>
 C25 w∧(
 opU Pg (Instr.storeAt 89 t6 t21) (panK R) w fun w =>
 C25 w∧(
 K2 t6 t22 w))
def n25c22 (t6 t17 t19:Value) (C26:World→Prop) (K2:KW) (R:RT) (w:World):Prop :=
 qV Pg C26 (Instr.lookup 90 t17 t19 true) fun t20 =>
 qV Pg C26 (Instr.extract t20 0) fun t21 =>
 qV Pg C26 (Instr.extract t20 1) fun t22 =>
 opU Pg (Instr.storeAt 89 t6 t21) (panK R) w fun w =>
 C26 w∧(
 K2 t6 t22 w)
def n25c23 (t1 t2 t5:Value) (C1:World→Prop) (R:RT) (w:World):Prop :=
 qV Pg C1 (Instr.fieldAt 71 t5 2) fun t18 =>
 qV Pg C1 (Instr.loadAt 69 t18) fun t19 =>
 joinK (fun (t6:Value) (t7:Value) (w:World) =>
 drawK w fun C3 w =>
 n25c20 t1 t2 t5 t6 t7 C3 R w) fun K2 =>
 (
 callK Pg 47 #[] (panK R) w fun t17 w =>
 narrowK C1 w fun C25 w =>
 n25c21 t17 t19 C25 K2 R w)∧(
 opV Pg (Instr.alloc 89 true (.tuple #[])) (panK R) w fun t6 w =>
 C1 w∧(
 callK Pg 47 #[] (panK R) w fun t17 w =>
 narrowK C1 w fun C26 w =>
 n25c22 t6 t17 t19 C26 K2 R w))
def n25 (t0 t1:Value) (R:RT) (w:World):Prop :=
 opV Pg (Instr.box 26 t0) (panK R) w fun t2 w =>
 opV Pg (Instr.fieldAt 26 t2 3) (panK R) w fun t11 w =>
 opV Pg (Instr.loadAt 24 t11) (panK R) w fun t12 w =>
 opV Pg (Instr.indexAt 24 t12 t1) (panK R) w fun t14 w =>
 opV Pg (Instr.loadAt 71 t14) (panK R) w fun t15 w =>
 opV Pg (Instr.alloc 71 true (.tuple #[])) (panK R) w fun t5 w =>
 opU Pg (Instr.storeAt 71 t5 t15) (panK R) w fun w =>
 drawK w fun C1 w =>
 n25c23 t1 t2 t5 C1 R w
set_option maxHeartbeats 40000000 in
theorem n25s {t0 t1:Value} {R:RT} {w:World} (h:n25 t0 t1 R w):Calls Pg 42 #[t0,t1] w R:=by
 refine yD Tryz.func42 ?_
 refine zs<|zr<|yv h fun _ w h=>zm<|zn<|zk<|zs<|zr<|yv h fun _ w h=>yv h fun _ w h=>zm<|yv h fun _ w h=>yv h fun _ w h=>yv h fun _ w h=>yu h fun w h=>?_
 refine zn<|zk<|zs<|yh [6,7,16,17,18,19,20,21,22] h fun C hC h=>ye 1 hC h fun _ h=>?_
 refine ye 2 hC h fun _ h=>?_
 refine joinK_elim h (fun K2 hK h=>?_)
 refine sim_dmeet [6,7,16,17,20,21,22] (fun ρ w=>K2 (ρ 6) (ρ 7) w) (fun T hT=>?_) (fun σ w h=>?_)
 · obtain ⟨h0,h1⟩:=h
   refine sim_dloud2 0 7 rfl rfl (by kernel_rfl) (fun _ _=>rfl) (fun _ _=>rfl) ?_ ?_
   · have h:=h0
     refine yc h c47 fun _ w h=>zn ?_
     obtain ⟨C25,hs,hC,h⟩:=h
     refine ⟨C25,hs,hC,?_⟩
     refine ye 3 hC h fun _ h=>?_
     refine yw 4 hC ?_
     refine ye 5 hC h fun _ h=>?_
     refine ye 6 hC h fun _ h=>?_
     refine yo 7 ?_
     refine yv h fun _ w h=>zn ?_
     obtain ⟨hC,h⟩:=h
     refine ⟨hC,?_⟩
     refine yo 8 ?_
     refine yu h fun w h=>zn ?_
     obtain ⟨hC,h⟩:=h
     refine ⟨hC,?_⟩
     refine yw 9 hC ?_
     refine yz ?_
     exact zt hT h
   have h:=h1
   refine yv h fun _ w h=>zn ?_
   obtain ⟨hC,h⟩:=h
   refine ⟨_,fun _ h=>h,hC,?_⟩
   refine yr 0 ?_
   refine yc h c47 fun _ w h=>zn ?_
   obtain ⟨C26,hs,hC,h⟩:=h
   refine ⟨C26,hs,hC,?_⟩
   refine ye 3 hC h fun _ h=>?_
   refine yw 4 hC ?_
   refine ye 5 hC h fun _ h=>?_
   refine ye 6 hC h fun _ h=>?_
   refine yo 8 ?_
   refine yu h fun w h=>zn ?_
   obtain ⟨hC,h⟩:=h
   refine ⟨hC,?_⟩
   refine yw 9 hC ?_
   refine yz ?_
   exact zt hT h
 subst hK
 refine zk<|zs<|yh [8,9,23,24,25,26,27,28,29,30] h fun C hC h=>ye 0 hC h fun _ h=>?_
 refine ye 1 hC h fun _ h=>?_
 refine ye 2 hC h fun _ h=>?_
 refine ye 4 hC h fun _ h=>?_
 refine ye 5 hC h fun _ h=>?_
 refine ye 6 hC h fun _ h=>?_
 refine yo 3 ?_
 refine yc h c40 fun _ w h=>zn ?_
 obtain ⟨hC,h⟩:=h
 refine ⟨hC,?_⟩
 refine yo 7 ?_
 refine yc h c38 fun _ w h=>zn ?_
 obtain ⟨hC,h⟩:=h
 refine ⟨hC,?_⟩
 refine yw 8 hC ?_
 refine yw 9 hC ?_
 refine yz<|zk<|zs<|zs<|yh [31,32,33,34,35,36,37,38,39,40,41,42,43,44,45,46,47,48,49,50,51,52,53,54,55,56,57,58,59,60,61,62] h fun C hC h=>yw 0 hC ?_
 refine ye 1 hC h fun _ h=>?_
 refine yw 2 hC ?_
 refine yj1 27 [4,3,2,1,0] [34,35] 35 h (fun _ hT hb h=>?_) (fun _ hT hb h=>?_) fun σ w hC h=>?_
 · refine yw 3 hC ?_
   refine ye 4 hC h fun _ h=>?_
   exact yt hT hC h
 · refine yi 3 hC ?_
   refine yi 4 hC ?_
   exact yt hT hC h
 refine yP 5 hC h fun _ h=>?_
 refine yw 6 hC ?_
 refine yj1 20 [11,10,9,8,7,6,5,4,3,2,1,0] [38,39,40,41,42] 42 h (fun _ hT hb h=>?_) (fun _ hT hb h=>?_) fun σ w hC h=>?_
 · refine ye 7 hC h fun _ h=>?_
   refine ye 8 hC h fun _ h=>?_
   refine ye 9 hC h fun _ h=>?_
   refine yo 10 ?_
   refine yc h c40 fun _ w h=>zn ?_
   obtain ⟨hC,h⟩:=h
   refine ⟨hC,?_⟩
   refine ye 11 hC h fun _ h=>?_
   exact yt hT hC h
 · refine yi 7 hC ?_
   refine yi 8 hC ?_
   refine yi 9 hC ?_
   refine yi 10 hC ?_
   refine yi 11 hC ?_
   exact yt hT hC h
 refine yP 12 hC h fun _ h=>?_
 refine yw 13 hC ?_
 refine yj1 12 [19,18,17,16,15,14,13,12,11,10,9,8,7,6,5,4,3,2,1,0] [45,46,47,48,49,50] 50 h (fun _ hT hb h=>?_) (fun _ hT hb h=>?_) fun σ w hC h=>?_
 · refine ye 14 hC h fun _ h=>?_
   refine ye 15 hC h fun _ h=>?_
   refine yw 16 hC ?_
   refine ye 17 hC h fun _ h=>?_
   refine ye 18 hC h fun _ h=>?_
   refine yo 19 ?_
   refine yc h c57 fun _ w h=>zn ?_
   obtain ⟨hC,h⟩:=h
   refine ⟨hC,?_⟩
   exact yt hT hC h
 · refine yi 14 hC ?_
   refine yi 15 hC ?_
   refine yi 16 hC ?_
   refine yi 17 hC ?_
   refine yi 18 hC ?_
   refine yi 19 hC ?_
   exact yt hT hC h
 refine yP 20 hC h fun _ h=>?_
 refine yw 21 hC ?_
 refine yj1 1 [30,29,28,27,26,25,24,23,22,21,20,19,18,17,16,15,14,13,12,11,10,9,8,7,6,5,4,3,2,1,0] [53,54,55,56,57,58,59,60,61] 61 h (fun _ hT hb h=>?_) (fun _ hT hb h=>?_) fun σ w hC h=>?_
 · refine ye 22 hC h fun _ h=>?_
   refine ye 23 hC h fun _ h=>?_
   refine ye 24 hC h fun _ h=>?_
   refine ye 25 hC h fun _ h=>?_
   refine yw 26 hC ?_
   refine ye 27 hC h fun _ h=>?_
   refine ye 28 hC h fun _ h=>?_
   refine yo 29 ?_
   refine yV h fun _ w h=>zn ?_
   obtain ⟨hC,h⟩:=h
   refine ⟨hC,?_⟩
   refine ye 30 hC h fun _ h=>?_
   exact yt hT hC h
 · refine yi 22 hC ?_
   refine yi 23 hC ?_
   refine yi 24 hC ?_
   refine yi 25 hC ?_
   refine yi 26 hC ?_
   refine yi 27 hC ?_
   refine yi 28 hC ?_
   refine yi 29 hC ?_
   refine yi 30 hC ?_
   exact yt hT hC h
 refine yP 31 hC h fun _ h=>?_
 refine yz<|zk<|yC h (fun h=>zs<|zr<|zm<|zn<|zk<|sim_ret<|sim_then_ret<|body_ret1 rfl rfl h) fun h=>sim_skip<|zk<|zs<|zs<|sim_regionG<|yG 3<|yv h fun _ w h=>yv h fun _ w h=>zm<|zn<|yg1 5 2 true [66,67,68,69,70] 70 h (fun _ T hT h=>?_) fun σ w h=>?_
 · refine yv h fun _ w h=>yv h fun _ w h=>yc h c17 fun _ w h=>yv h fun _ w h=>zm<|zn ?_
   exact zt hT h
 refine yg1 4 7 false [71,72,73,74] 74 h (fun _ T hT h=>?_) fun σ w h=>?_
 · refine yv h fun _ w h=>yv h fun _ w h=>yc h c17 fun _ w h=>yv h fun _ w h=>zn ?_
   exact zt hT h
 refine yg1 2 2 true [75,76] 76 h (fun _ T hT h=>?_) fun σ w h=>?_
 · refine yp h fun _ h=>zm<|zn ?_
   exact zt hT h
 refine yg1 5 13 false [77,78,79,80,81] 81 h (fun _ T hT h=>?_) fun σ w h=>?_
 · refine yv h fun _ w h=>yv h fun _ w h=>yv h fun _ w h=>yv h fun _ w h=>yb h fun _ w h=>zn ?_
   exact zt hT h
 refine yg1 1 2 true [82] 82 h (fun _ T hT h=>?_) fun σ w h=>?_
 · refine yp h fun _ h=>zn ?_
   exact zt hT h
 refine yG 2<|yp h fun _ h=>zm<|zn<|yg1 4 21 false [85,86,87,88] 88 h (fun _ T hT h=>?_) fun σ w h=>?_
 · refine yv h fun _ w h=>yv h fun _ w h=>yv h fun _ w h=>zm<|zn ?_
   exact zt hT h
 refine yg1 6 25 true [89,90,91,92,93,94] 94 h (fun _ T hT h=>?_) fun σ w h=>?_
 · refine yv h fun _ w h=>yv h fun _ w h=>yv h fun _ w h=>yv h fun _ w h=>yb h fun _ w h=>yb h fun _ w h=>zn ?_
   exact zt hT h
 refine yg1 1 21 false [95] 95 h (fun _ T hT h=>?_) fun σ w h=>?_
 · refine yp h fun _ h=>zn ?_
   exact zt hT h
 refine yG 1<|yp h fun _ h=>zn<|sim_end<|zk<|yC h (fun h=>zs<|zr<|zm<|zn<|zk<|sim_ret<|sim_then_ret<|body_ret1 rfl rfl h) fun h=>sim_skip<|zk<|zs<|zs<|zr<|yv h fun _ w h=>yv h fun _ w h=>yb h fun _ w h=>?_
 refine zn<|zk<|yC h (fun h=>?_) fun h=>?_
 · refine zs<|sim_regionG<|yG 4<|yv h fun _ w h=>yv h fun _ w h=>yb h fun _ w h=>zm<|zn<|yg1 3 3 true [104,105,106] 106 h (fun _ T hT h=>?_) fun σ w h=>?_
   · refine yv h fun _ w h=>yv h fun _ w h=>yb h fun _ w h=>zn ?_
     exact zt hT h
   refine yG 2<|yp h fun _ h=>zm<|zn<|yg1 3 8 true [109,110,111] 111 h (fun _ T hT h=>?_) fun σ w h=>?_
   · refine yv h fun _ w h=>yv h fun _ w h=>yb h fun _ w h=>zn ?_
     exact zt hT h
   exact yG 2<|yp h fun _ h=>zm<|zn<|sim_end<|zk<|sim_ret<|sim_then_ret<|body_ret1 rfl rfl h
 refine sim_skip<|zk<|zs<|zs<|sim_regionG<|yG 3<|zm<|yb h fun _ w h=>zm<|zn<|yg1 3 2 false [116,117,118] 118 h (fun _ T hT h=>?_) fun σ w h=>?_
 · refine yv h fun _ w h=>yv h fun _ w h=>yb h fun _ w h=>zn ?_
   exact zt hT h
 refine yG 2<|yp h fun _ h=>zm<|zn<|yg1 5 7 false [121,122,123,124,125] 125 h (fun _ T hT h=>?_) fun σ w h=>?_
 · refine yv h fun _ w h=>yv h fun _ w h=>yv h fun _ w h=>yv h fun _ w h=>yb h fun _ w h=>zn ?_
   exact zt hT h
 refine yG 2<|yp h fun _ h=>zm<|zn<|yg1 3 14 false [128,129,130] 130 h (fun _ T hT h=>?_) fun σ w h=>?_
 · refine yv h fun _ w h=>yv h fun _ w h=>yb h fun _ w h=>zn ?_
   exact zt hT h
 refine yG 2<|yp h fun _ h=>zm<|zn<|yg1 3 19 false [133,134,135] 135 h (fun _ T hT h=>?_) fun σ w h=>?_
 · refine yv h fun _ w h=>yv h fun _ w h=>yb h fun _ w h=>zn ?_
   exact zt hT h
 refine yG 1<|yp h fun _ h=>zn<|sim_end<|zk<|yC h (fun h=>zs<|zr<|zm<|zn<|zk<|sim_ret<|sim_then_ret<|body_ret1 rfl rfl h) fun h=>sim_skip<|zk<|zs<|zr<|yv h fun _ w h=>yv h fun _ w h=>zm<|yv h fun _ w h=>?_
 refine yv h fun _ w h=>yv h fun _ w h=>zm<|zn<|zk<|zs<|sim_regionG<|yG 5<|yv h fun _ w h=>yv h fun _ w h=>zm<|yb h fun _ w h=>zm<|zn<|yg1 6 4 true [148,149,150,151,152,153] 153 h (fun _ T hT h=>?_) fun σ w h=>?_
 · refine yv h fun _ w h=>yv h fun _ w h=>yv h fun _ w h=>yv h fun _ w h=>yb h fun _ w h=>yb h fun _ w h=>zn ?_
   exact zt hT h
 refine yG 2<|yp h fun _ h=>zm<|zn<|yg1 7 12 true [156,157,158,159,160,161,162] 162 h (fun _ T hT h=>?_) fun σ w h=>?_
 · refine yv h fun _ w h=>yv h fun _ w h=>yv h fun _ w h=>yv h fun _ w h=>yb h fun _ w h=>zm<|yb h fun _ w h=>zn ?_
   exact zt hT h
 exact yG 2<|yp h fun _ h=>zm<|zn<|sim_end<|zk<|sim_ret<|body_ret1 rfl rfl h
theorem idx_get {α:Type} {p:α→Bool} {l:List α} {n:Nat} (h:idx p l=(n:Int)):∃ x,l[n]?=some x∧p x=true:=by
 unfold idx at h
 cases hf:l.findIdx? p with
 | none=>rw [hf] at h;simp at h
 | some i =>
  rw [hf] at h
  have h:i=n:=by simp at h;omega
  subst h
  obtain ⟨h1,h2,_⟩:=List.findIdx?_eq_some_iff_getElem.1 hf
  exact ⟨_,List.getElem?_eq_getElem h1,h2⟩
theorem op_saddR {P:Program} {QP:List PanicEntry→World→Prop} {w:World} {k:Value→World→Prop} (t:TypeId) (c:Bool) (a b:ByteArray) (h:a.size+b.size≤9223372036854775807):opV P (binS .add t c (.string a) (.string b)) QP w k=k (.string (a++b)) w:=opV_ok (by
 have h1:¬ (((a.size+b.size:Nat):Int) > IntKind.i64.max):=by
  have:IntKind.i64.max=9223372036854775807:=rfl
  omega
 simp [binS,binOp,Op.stringOp,h1]
 omega)
theorem empty_append (a b:ByteArray):decide (a++b=⟨#[]⟩)=(decide (a=ByteArray.empty)&&decide (b=ByteArray.empty)):=by
 rw [Bool.eq_iff_iff]
 simp only [Bool.and_eq_true,decide_eq_true_eq]
 constructor
 · intro h
   have hs:(a++b).size=0:=by rw [h];rfl
   have h2:a.size+b.size=0:=by rw [← ByteArray.size_append];exact hs
   have z:∀ c:ByteArray,c.size=0→c=ByteArray.empty:=fun c hc=>by
    cases c with
    | mk d =>
     have:d = #[]:=Array.eq_empty_of_size_eq_zero hc
     rw [this];rfl
   exact ⟨z a (by omega),z b (by omega)⟩
 · rintro ⟨rfl,rfl⟩
   rfl
section
variable {w0 w:World} {r:RolD} {x:StpD} {p2 p5:Nat} {sv cv tv:Value}
theorem allow_guard (e:Ext w0 w) (h2:w.heap[p2]?=some (.cells (rolCells r sv cv tv).toArray 26 (0,0))) (h5:w.heap[p5]?=some (.cells (stpCells x).toArray 71 (0,0))) (hC:CntsOf w cv r.counters) (hlim:∀ c∈r.counters,c.limit≤1000) :
 n25c9 (.pointer (some ⟨p2,0,none⟩)) (.pointer (some ⟨p5,0,none⟩)) (.int .i64 (counterI r x.counter)) (retR fun u w'=>u = .bool (guardB r x)∧Ext w0 w') w:=by
 have c5:=cells_of_heap h5
 have c2:=cells_of_heap h2
 unfold n25c9
 by_cases hc:x.counter=ByteArray.empty
 · have d0:decide (x.counter=⟨#[]⟩)=true:=decide_eq_true hc
   have hg:guardB r x=(decide (x.low=0)&&(decide (x.high=0)&&decide (x.add=0))):=by unfold guardB;rw [if_pos hc]
   rw [hg]
   have b1:∀ a:Int,(a == 0)=decide (a=0):=fun a=>by rw [Bool.eq_iff_iff];simp
   simp (disch:=try exact DI) only [↓PR,QR,simprocAttr,c5.1,d0,↓n25c7,b1]
   cases decide (x.low=0) with
   | false=>simp (disch:=try exact DI) only [↓PR,QR,simprocAttr,↓n25c1];exact ⟨by trivial,e⟩
   | true =>
   cases decide (x.high=0) with
   | false=>simp (disch:=try exact DI) only [↓PR,QR,simprocAttr,c5.1,b1,↓n25c1];exact ⟨by trivial,e⟩
   | true =>
    simp (disch:=try exact DI) only [↓PR,QR,simprocAttr,c5.1,b1,↓n25c1]
    exact ⟨by trivial,e⟩
 have d0:decide (x.counter=⟨#[]⟩)=false:=decide_eq_false hc
 by_cases hneg:counterI r x.counter < 0
 · have d1:decide (counterI r x.counter < 0)=true:=decide_eq_true hneg
   have hg:guardB r x=false:=by
    unfold guardB
    rw [if_neg hc]
    cases r.counters[(counterI r x.counter).toNat]? with
    | none=>rfl
    | some c=>simp only [decide_eq_false (show ¬ 0≤counterI r x.counter by omega),Bool.false_and]
   rw [hg]
   simp (disch:=try exact DI) only [↓PR,QR,simprocAttr,c5.1,d0,↓n25c8,d1,↓n25c6,↓n25c5,↓n25c4]
   exact ⟨by trivial,e⟩
 have d1:decide (counterI r x.counter < 0)=false:=decide_eq_false hneg
 obtain ⟨j,hj⟩:∃ j:Nat,counterI r x.counter=j:=⟨(counterI r x.counter).toNat,by omega⟩
 obtain ⟨c,hcj,_⟩:=idx_get hj
 obtain ⟨A,cc,rfl,_,_,_,hel⟩:=SliceOf.open hC
 obtain ⟨b,o,cs,rfl,_,hA,rfl⟩:=hel j c hcj
 have hjl:=(List.getElem?_eq_some_iff.1 hcj).1
 have dk:(j:Int) < (r.counters.length:Int):=by omega
 have hlc:=hlim c (List.mem_of_getElem? hcj)
 have hg:guardB r x=decide (0≤x.low∧x.low≤x.high ∧ -1000≤x.add∧x.add≤1000∧x.high≤c.limit∧0≤x.low+x.add∧x.high+x.add≤c.limit):=by
  unfold guardB
  rw [if_neg hc,hj,Int.toNat_natCast,hcj]
  simp only [Bool.decide_and,decide_eq_true (show (0:Int)≤(j:Int) by omega),Bool.true_and]
 rw [hg]
 rw [hj] at d1 ⊢
 have hx:=hA.c2 (Ext.refl w)
 by_cases g1:x.low < 0
 · rw [decide_eq_false (show ¬ (0≤x.low∧x.low≤x.high ∧ -1000≤x.add∧x.add≤1000∧x.high≤c.limit∧0≤x.low+x.add∧x.high+x.add≤c.limit) by omega)]
   simp (disch:=try exact DI) only [↓PR,QR,simprocAttr,c5.1,d0,↓n25c8,d1,decide_eq_true g1,↓n25c6,↓n25c5,↓n25c4]
   exact ⟨by trivial,e⟩
 by_cases g2:x.low > x.high
 · rw [decide_eq_false (show ¬ (0≤x.low∧x.low≤x.high ∧ -1000≤x.add∧x.add≤1000∧x.high≤c.limit∧0≤x.low+x.add∧x.high+x.add≤c.limit) by omega)]
   simp (disch:=try exact DI) only [↓PR,QR,simprocAttr,c5.1,d0,↓n25c8,d1,decide_eq_false g1,↓n25c6,decide_eq_true g2,↓n25c5,↓n25c4]
   exact ⟨by trivial,e⟩
 by_cases g3:x.add < -1000
 · rw [decide_eq_false (show ¬ (0≤x.low∧x.low≤x.high ∧ -1000≤x.add∧x.add≤1000∧x.high≤c.limit∧0≤x.low+x.add∧x.high+x.add≤c.limit) by omega)]
   simp (disch:=try exact DI) only [↓PR,QR,simprocAttr,c5.1,d0,↓n25c8,d1,decide_eq_false g1,↓n25c6,decide_eq_false g2,↓n25c5,decide_eq_true g3,↓n25c4]
   exact ⟨by trivial,e⟩
 by_cases g4:x.add > 1000
 · rw [decide_eq_false (show ¬ (0≤x.low∧x.low≤x.high ∧ -1000≤x.add∧x.add≤1000∧x.high≤c.limit∧0≤x.low+x.add∧x.high+x.add≤c.limit) by omega)]
   simp (disch:=try exact DI) only [↓PR,QR,simprocAttr,c5.1,d0,↓n25c8,d1,decide_eq_false g1,↓n25c6,decide_eq_false g2,↓n25c5,decide_eq_false g3,↓n25c4,decide_eq_true g4]
   exact ⟨by trivial,e⟩
 have w1:x.high≤c.limit→IntKind.i64.wrap (x.low+x.add)=x.low+x.add:=fun h=>wrap_ok (by omega) (by omega)
 have w2:x.high≤c.limit→IntKind.i64.wrap (x.high+x.add)=x.high+x.add:=fun h=>wrap_ok (by omega) (by omega)
 by_cases g5:x.high≤c.limit
 · by_cases g6:x.low+x.add≥0
   · simp (disch:=try exact DI) only [↓PR,QR,simprocAttr,c5.1,d0,↓n25c8,d1,decide_eq_false g1,↓n25c6,decide_eq_false g2,↓n25c5,decide_eq_false g3,↓n25c4,decide_eq_false g4,↓n25c3,c2.1,hx,decide_eq_true g5,w1 g5,decide_eq_true g6,↓n25c2,w2 g5]
     refine ⟨?_,e⟩
     congr 1
     rw [Bool.eq_iff_iff,decide_eq_true_iff,decide_eq_true_iff]
     omega
   · rw [decide_eq_false (show ¬ (0≤x.low∧x.low≤x.high ∧ -1000≤x.add∧x.add≤1000∧x.high≤c.limit∧0≤x.low+x.add∧x.high+x.add≤c.limit) by omega)]
     simp (disch:=try exact DI) only [↓PR,QR,simprocAttr,c5.1,d0,↓n25c8,d1,decide_eq_false g1,↓n25c6,decide_eq_false g2,↓n25c5,decide_eq_false g3,↓n25c4,decide_eq_false g4,↓n25c3,c2.1,hx,decide_eq_true g5,w1 g5,decide_eq_false g6,↓n25c2]
     exact ⟨by trivial,e⟩
 · rw [decide_eq_false (show ¬ (0≤x.low∧x.low≤x.high ∧ -1000≤x.add∧x.add≤1000∧x.high≤c.limit∧0≤x.low+x.add∧x.high+x.add≤c.limit) by omega)]
   simp (disch:=try exact DI) only [↓PR,QR,simprocAttr,c5.1,d0,↓n25c8,d1,decide_eq_false g1,↓n25c6,decide_eq_false g2,↓n25c5,decide_eq_false g3,↓n25c4,decide_eq_false g4,↓n25c3,c2.1,hx,decide_eq_false g5,↓n25c2]
   exact ⟨by trivial,e⟩
end
def StpSm (x:StpD):Prop:=x.fr.size≤100000∧x.to.size≤100000∧x.message.size≤100000∧x.peer.size≤100000∧x.counter.size≤100000
theorem kfV_one (k:Int):(kfV k).oneCell'=true:=by unfold kfV;split<;>rfl
section
variable {w0 w:World} {r:RolD} {x:StpD} {p2 p5 p6:Nat} {sv cv tv:Value}
theorem allow_parts (e:Ext w0 w) (h2:w.heap[p2]?=some (.cells (rolCells r sv cv tv).toArray 26 (0,0))) (h5:w.heap[p5]?=some (.cells (stpCells x).toArray 71 (0,0))) (h6:w.heap[p6]?=some (.cells (kindCells x.kind).toArray 89 (0,0))) (hC:CntsOf w cv r.counters) (hlim:∀ c∈r.counters,c.limit≤1000) (hx:StpSm x) :
 n25c15 (.pointer (some ⟨p2,0,none⟩)) (.pointer (some ⟨p5,0,none⟩)) (.pointer (some ⟨p6,0,none⟩)) (.int .i64 (counterI r x.counter)) (retR fun u w'=>u = .bool (partsB r x&&guardB r x)∧Ext w0 w') w:=by
 have c5:=cells_of_heap h5
 have c6:=cells_of_heap h6
 unfold n25c15 partsB
 cases hs:speaksB x.kind with
 | true =>
  rw [if_pos rfl]
  simp (disch:=try exact DI) only [↓PR,QR,simprocAttr,c6.1,hs,c5.1]
  refine zcr (Name_ret w x.message) fun w1 e1=>?_
  have E1:=e.trans e1
  cases nameB x.message with
  | false =>
   simp (disch:=try exact DI) only [↓PR,QR,simprocAttr,↓n25c14,↓n25c13,↓n25c12,↓n25c11,↓n25c10]
   exact ⟨by trivial,E1⟩
  | true =>
  have c51:=cells_of_heap (e1.obj h5)
  simp (disch:=try exact DI) only [↓PR,QR,simprocAttr,↓n25c14,c51.1]
  refine zcr (Name_ret w1 x.peer) fun w2 e2=>?_
  have E2:=E1.trans e2
  have e12:=e1.trans e2
  cases nameB x.peer with
  | false =>
   simp (disch:=try exact DI) only [↓PR,QR,simprocAttr,↓n25c13,↓n25c12,↓n25c11,↓n25c10]
   exact ⟨by trivial,E2⟩
  | true =>
  have c52:=cells_of_heap (e12.obj h5)
  have c22:=cells_of_heap (e12.obj h2)
  have c62:=cells_of_heap (e12.obj h6)
  by_cases hp:x.peer=r.name
  · have d1:decide (x.peer=r.name)=true:=decide_eq_true hp
    have d2:decide (x.peer≠r.name)=false:=decide_eq_false (by simp [hp])
    rw [d2]
    simp (disch:=try exact DI) only [↓PR,QR,simprocAttr,↓n25c13,c52.1,c22.1,d1,↓n25c12,↓n25c11,↓n25c10]
    exact ⟨by trivial,E2⟩
  · have d1:decide (x.peer=r.name)=false:=decide_eq_false hp
    have d2:decide (x.peer≠r.name)=true:=decide_eq_true hp
    rw [d2]
    simp (disch:=try exact DI) only [↓PR,QR,simprocAttr,↓n25c13,c52.1,c22.1,d1,↓n25c12,c62.1,hs,↓n25c11,↓n25c10]
    exact allow_guard E2 (e12.obj h2) (e12.obj h5) (hC.ext e12) hlim
 | false =>
  rw [if_neg (by simp)]
  simp (disch:=try exact DI) only [↓PR,QR,simprocAttr,c6.1,hs,↓n25c14,↓n25c13,↓n25c12,↓n25c11,c5.1]
  rw [op_saddR _ _ _ _ (by have:=hx;unfold StpSm at this;omega)]
  have hne:∀ a b:ByteArray,decide (a≠b)=!decide (a=b):=fun a b=>by simp
  simp (disch:=try exact DI) only [↓PR,QR,simprocAttr,hne,empty_append]
  cases hb:(decide (x.message=ByteArray.empty)&&decide (x.peer=ByteArray.empty)) with
  | false =>
   simp (disch:=try exact DI) only [↓PR,QR,simprocAttr,↓n25c10]
   exact ⟨by trivial,e⟩
  | true =>
   simp (disch:=try exact DI) only [↓PR,QR,simprocAttr,↓n25c10]
   exact allow_guard e h2 h5 hC hlim
theorem take_slice {w:World} {b o c n:Nat} {l:List StpD} (h:StpsOf w (.slice (some ⟨b,o,none⟩) l.length c) l) (hn:n≤l.length):StpsOf w (.slice (some ⟨b,o,none⟩) n c) (l.take n):=by
 obtain ⟨A,c',hv,h1,h2,h3⟩:=h
 injection hv with hv1 _ hv2
 subst hv1 hv2
 have hl:(l.take n).length=n:=by rw [List.length_take];omega
 refine ⟨_,_,by rw [hl],by omega,h2,fun hne=>?_⟩
 obtain ⟨b',o',hA,hel⟩:=h3 (by rintro rfl;simp at hne)
 refine ⟨b',o',hA,fun k x hx=>hel k x ?_⟩
 have hk:=(List.getElem?_eq_some_iff.1 hx).1
 rw [List.getElem?_take,if_pos (by omega)] at hx
 exact hx
theorem allow_tail (e:Ext w0 w) (n:Nat) (hn:r.steps[n]?=some x) (h2:w.heap[p2]?=some (.cells (rolCells r sv cv tv).toArray 26 (0,0))) (h5:w.heap[p5]?=some (.cells (stpCells x).toArray 71 (0,0))) {is:Bool} (his:is=decide (1≤x.kind∧x.kind≤4)) (h6:is=true→w.heap[p6]?=some (.cells (kindCells x.kind).toArray 89 (0,0)))
 (hS:StasOf w sv r.states) (hC:CntsOf w cv r.counters) (hT:StpsOf w tv r.steps) (hlim:∀ c∈r.counters,c.limit≤1000) (hx:StpSm x) :
 drawK w fun C3 w=>n25c20 (.int .i64 (n:Int)) (.pointer (some ⟨p2,0,none⟩)) (.pointer (some ⟨p5,0,none⟩)) (.pointer (some ⟨p6,0,none⟩)) (.bool is) C3 (retR fun u w'=>u = .bool (allowB r n x)∧Ext w0 w') w:=by
 have o1:=SliceOf.oneCell hS
 have o2:=SliceOf.oneCell hC
 have o3:=SliceOf.oneCell hT
 refine drawK_intro ?_
 have eD:Ext w (Sw.drew w):=(Ext.refl w).drew
 generalize (Sw.drew w)=wd at eD ⊢
 have E0:=e.trans eD
 have hR:∀ w',Ext wd w'→RolVal w' (.agg (rolCells r sv cv tv).toArray) r:=fun w' f=>⟨sv,cv,tv,rfl,hS.ext (eD.trans f),hC.ext (eD.trans f),hT.ext (eD.trans f)⟩
 unfold n25c20
 simp (disch:=try exact DI) only [↓PR,QR,simprocAttr,(cells_of_heap (eD.obj h2)).1,(cells_of_heap (eD.obj h5)).1]
 refine zcr (state_ret wd _ r x.fr (hR _ (Ext.refl _))) fun w1 e1=>?_
 refine ⟨e1,?_⟩
 refine zcr (counter_ret w1 _ r x.counter (hR _ e1)) fun w2 e2=>?_
 have e12:=e1.trans e2
 refine ⟨e12,?_⟩
 refine drawK_intro ?_
 have eD2:Ext w2 (Sw.drew w2):=(Ext.refl w2).drew
 have f3:=e12.trans eD2
 generalize (Sw.drew w2)=w3 at f3 ⊢
 clear eD2
 have g3:=eD.trans f3
 have E3:=E0.trans f3
 have c2:=cells_of_heap (g3.obj h2)
 have c5:=cells_of_heap (g3.obj h5)
 unfold allowB
 rw [← his]
 unfold n25c19
 cases is with
 | false =>
  simp (disch:=try exact DI) only [↓PR,QR,simprocAttr,↓n25c18,↓n25c17,↓n25c16]
  exact ⟨by trivial,E3⟩
 | true =>
 have h6:=h6 rfl
 have hkk:1≤x.kind∧x.kind≤4:=of_decide_eq_true his.symm
 by_cases ha:stateI r x.fr < 0
 · have d1:decide (stateI r x.fr < 0)=true:=decide_eq_true ha
   have d2:decide (0≤stateI r x.fr)=false:=decide_eq_false (by omega)
   rw [d2]
   simp (disch:=try exact DI) only [↓PR,QR,simprocAttr,d1,↓n25c18,↓n25c17,↓n25c16]
   exact ⟨by trivial,E3⟩
 have d1:decide (stateI r x.fr < 0)=false:=decide_eq_false ha
 have d2:decide (0≤stateI r x.fr)=true:=decide_eq_true (by omega)
 rw [d2]
 simp (disch:=try exact DI) only [↓PR,QR,simprocAttr,d1,↓n25c18,c2.1,c5.1]
 refine zcr (state_ret w3 _ r x.to (hR _ f3)) fun w4 e4=>?_
 have E4:=E3.trans e4
 have g4:=g3.trans e4
 refine ⟨e4,?_⟩
 by_cases hb:stateI r x.to < 0
 · have d3:decide (stateI r x.to < 0)=true:=decide_eq_true hb
   have d4:decide (0≤stateI r x.to)=false:=decide_eq_false (by omega)
   rw [d4]
   simp (disch:=try exact DI) only [↓PR,QR,simprocAttr,d3,↓n25c17,↓n25c16]
   exact ⟨by trivial,E4⟩
 have d3:decide (stateI r x.to < 0)=false:=decide_eq_false hb
 have d4:decide (0≤stateI r x.to)=true:=decide_eq_true (by omega)
 rw [d4]
 have hnl:=(List.getElem?_eq_some_iff.1 hn).1
 obtain ⟨A,c,rfl,hlc,hcm,_,hel⟩:=SliceOf.open hT
 obtain ⟨b,o,cs,rfl,_,hA,rfl⟩:=hel n x hn
 have hsl:∀ K:Value→Prop,qV Pg (EC w3) (Instr.sliceAt 24 (.slice (some ⟨b,o,none⟩) r.steps.length c) none (some (.int .i64 (n:Int))) none) K=K (.slice (some ⟨b,o,none⟩) n c):=fun K=>qV_of fun QP w k=>op_sliceTo Tryz.underlying24 ty71 b o r.steps.length c .i64 n (by omega)
 simp (disch:=try exact DI) only [↓PR,QR,simprocAttr,d3,↓n25c17,c2.1,hsl,c5.1]
 have hT4:StpsOf w4 (.slice (some ⟨b,o,none⟩) n c) (r.steps.take n):=take_slice (hT.ext g4) (by omega)
 refine zcr (Contains_Step_ret w4 _ _ x hT4) fun w5 e5=>?_
 have e45:=e4.trans e5
 have E5:=E3.trans e45
 have g5:=g3.trans e45
 refine ⟨e45,?_⟩
 have hany:((r.steps.take n).any fun y=>decide (x=y))=((r.steps.take n).any fun y=>decide (y=x)):=by
  congr 1;funext y;rw [Bool.eq_iff_iff,decide_eq_true_iff,decide_eq_true_iff];exact eq_comm
 rw [hany]
 cases hc:((r.steps.take n).any fun y=>decide (y=x)) with
 | true =>
  simp (disch:=try exact DI) only [↓PR,QR,simprocAttr,d3,↓n25c16]
  exact ⟨by trivial,E5⟩
 | false =>
 obtain ⟨j,hj⟩:∃ j:Nat,stateI r x.fr=j:=⟨(stateI r x.fr).toNat,by omega⟩
 obtain ⟨s,hsj,_⟩:=idx_get hj
 have hjl:=(List.getElem?_eq_some_iff.1 hsj).1
 obtain ⟨A2,c',rfl,_,_,_,hel2⟩:=SliceOf.open hS
 obtain ⟨b2,p,cs2,rfl,_,hA2,rfl⟩:=hel2 j s hsj
 have dk:(j:Int) < (r.states.length:Int):=by omega
 have hw:waitsB r x.fr=decide (0 < s.wait):=by unfold waitsB;rw [hj,Int.toNat_natCast,hsj]
 have c6:=cells_of_heap (g3.obj h6)
 have hk1:=kfV_one x.kind
 have hs3:=hA2.c3 g3
 rw [hj]
 simp (disch:=try exact DI) only [↓PR,QR,simprocAttr,d3,↓n25c16,c6.1,c2.1,hs3]
 have fin:∀ w6,Ext w3 w6→n25c15 (.pointer (some ⟨p2,0,none⟩)) (.pointer (some ⟨p5,0,none⟩)) (.pointer (some ⟨p6,0,none⟩)) (.int .i64 (counterI r x.counter)) (retR fun u w'=>u = .bool (partsB r x&&guardB r x)∧Ext w0 w') w6:=fun w6 e6=>allow_parts (E3.trans e6) ((g3.trans e6).obj h2) ((g3.trans e6).obj h5) ((g3.trans e6).obj h6) (hC.ext (g3.trans e6)) hlim hx
 unfold kfV
 by_cases h3:x.kind=3
 · rw [if_pos h3,callV_func c84]
   simp only [Array.append_empty]
   refine zcr (kindsS2_ret w5 s) fun w6 e6=>?_
   refine ⟨e45.trans e6,?_⟩
   rw [hw,show decide (x.kind≠3)=false by simp [h3]]
   cases decide (0 < s.wait) with
   | false =>
    simp (disch:=try exact DI) only [↓PR,QR,simprocAttr]
    exact ⟨by trivial,E5.trans e6⟩
   | true =>
    simp (disch:=try exact DI) only [↓PR,QR,simprocAttr]
    exact fin w6 (e45.trans e6)
 · rw [if_neg h3,callV_func c83]
   simp only [Array.append_empty]
   refine zcr (kindsS1_ret w5 s) fun w6 e6=>?_
   refine ⟨e45.trans e6,?_⟩
   rw [show decide (x.kind≠3)=true by simp [h3]]
   simp (disch:=try exact DI) only [↓PR,QR,simprocAttr]
   exact fin w6 (e45.trans e6)
end
def n13c1 (t31:Value) (R:RT) (w:World):Prop :=
 opV Pg (binS .geq 3 true t31 (.int .i64 0)) (panK R) w fun t33 w =>
 condP t33 (
 R (.returned (.tuple #[t31,(.int .i64 293)])) w) (
 R (.returned (.tuple #[(.int .i64 0),(.int .i64 0)])) w)
def n13c2 (t1:Value) (R:RT) (w:World):Prop :=
 opV Pg (Instr.fieldAt 26 t1 3) (panK R) w fun t27 w =>
 opV Pg (Instr.loadAt 24 t27) (panK R) w fun t28 w =>
 opV Pg (Builtin.len_ #[24] 3 #[t28]) (panK R) w fun t29 w =>
 opV Pg (Instr.makeFunc (.func 41) #[] #[t1]) (panK R) w fun t30 w =>
 callK Pg 36 #[t29,(.int .i64 0),(.int .i64 80),t30] (panK R) w fun t31 w =>
 n13c1 t31 R w
def n13c3 (t1:Value) (R:RT) (w:World):Prop :=
 opV Pg (Instr.fieldAt 26 t1 1) (panK R) w fun t19 w =>
 opV Pg (Instr.loadAt 22 t19) (panK R) w fun t20 w =>
 opV Pg (Builtin.len_ #[22] 3 #[t20]) (panK R) w fun t21 w =>
 opV Pg (Instr.makeFunc (.func 39) #[] #[t1]) (panK R) w fun t22 w =>
 callK Pg 36 #[t21,(.int .i64 1),(.int .i64 24),t22] (panK R) w fun t23 w =>
 opV Pg (binS .geq 3 true t23 (.int .i64 0)) (panK R) w fun t25 w =>
 condP t25 (
 R (.returned (.tuple #[t23,(.int .i64 292)])) w) (
 n13c2 t1 R w)
def n13c4 (t1:Value) (R:RT) (w:World):Prop :=
 opV Pg (Instr.fieldAt 26 t1 2) (panK R) w fun t11 w =>
 opV Pg (Instr.loadAt 23 t11) (panK R) w fun t12 w =>
 opV Pg (Builtin.len_ #[23] 3 #[t12]) (panK R) w fun t13 w =>
 opV Pg (Instr.makeFunc (.func 37) #[] #[t1]) (panK R) w fun t14 w =>
 callK Pg 36 #[t13,(.int .i64 0),(.int .i64 4),t14] (panK R) w fun t15 w =>
 opV Pg (binS .geq 3 true t15 (.int .i64 0)) (panK R) w fun t17 w =>
 condP t17 (
 R (.returned (.tuple #[t15,(.int .i64 291)])) w) (
 n13c3 t1 R w)
def n13 (t0:Value) (R:RT) (w:World):Prop :=
 opV Pg (Instr.box 26 t0) (panK R) w fun t1 w =>
 opV Pg (Instr.fieldAt 26 t1 0) (panK R) w fun t7 w =>
 opV Pg (Instr.loadAt 9 t7) (panK R) w fun t8 w =>
 callK Pg 17 #[t8] (panK R) w fun t9 w =>
 opV Pg (Op.unary .not t9) (panK R) w fun t10 w =>
 condP t10 (
 R (.returned (.tuple #[(.int .i64 0),(.int .i64 290)])) w) (
 n13c4 t1 R w)
theorem n13s {t0:Value} {R:RT} {w:World} (h:n13 t0 R w):Calls Pg 12 #[t0] w R:=by
 refine yD Tryz.func12 ?_
 refine zs<|zr<|yv h fun _ w h=>zm<|zm<|zn<|zk<|zs<|zs<|zr<|yv h fun _ w h=>yv h fun _ w h=>yc h c17 fun _ w h=>yv h fun _ w h=>zn ?_
 refine zk<|yC h (fun h=>zs<|zr<|zm<|zm<|zn<|zk<|sim_ret<|sim_then_ret<|body_ret2 rfl rfl rfl h) fun h=>sim_skip<|zk<|zs<|zs<|zr<|yv h fun _ w h=>yv h fun _ w h=>yx h fun _ w h=>yF h fun _ w h=>yc h c36 fun _ w h=>zm<|zn ?_
 refine zk<|zs<|zr<|zm<|yb h fun _ w h=>zn<|zk<|yC h (fun h=>zs<|zr<|zm<|zm<|zm<|zn<|zk<|sim_ret<|sim_then_ret<|body_ret2 rfl rfl rfl h) fun h=>sim_skip<|zk<|zs<|zs<|zr<|yv h fun _ w h=>?_
 refine yv h fun _ w h=>yx h fun _ w h=>yF h fun _ w h=>yc h c36 fun _ w h=>zm<|zn<|zk<|zs<|zr<|zm<|yb h fun _ w h=>zn<|zk<|yC h (fun h=>zs<|zr<|zm<|zm<|zm<|zn<|zk<|sim_ret<|sim_then_ret<|body_ret2 rfl rfl rfl h) fun h=>?_
 refine sim_skip<|zk<|zs<|zs<|zr<|yv h fun _ w h=>yv h fun _ w h=>yx h fun _ w h=>yF h fun _ w h=>yc h c36 fun _ w h=>zm<|zn<|zk<|zs<|zr ?_
 refine zm<|yb h fun _ w h=>zn<|zk<|yC h (fun h=>zs<|zr<|zm<|zm<|zm<|zn<|zk<|sim_ret<|sim_then_ret<|body_ret2 rfl rfl rfl h) fun h=>sim_skip<|zk<|zs<|zr<|zm<|zm<|zn<|zk<|sim_ret ?_
 exact body_ret2 rfl rfl rfl h
end Go.Proofs.YtngflmjncplkaaaGreatDoor
