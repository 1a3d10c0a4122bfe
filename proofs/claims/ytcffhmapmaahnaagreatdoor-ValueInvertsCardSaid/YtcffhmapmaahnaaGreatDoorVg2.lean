/-
  Lemmas for the claim.
-/
import Derived.Test.YtcffhmapmaahnaaGreatDoorVg1
set_option linter.all false
set_option maxHeartbeats 4000000
set_option maxRecDepth 100000
namespace Go.Proofs.YtcffhmapmaahnaaGreatDoor
open Sw
noncomputable abbrev Pg:=Tryz.prog
def isAggD (d:TypeDesc):Bool:=match d with | .struct _ | .array _ _=>true | _=>false
theorem ty_mk {P:Program} {T:TypeId} {agg:Bool} {n:Nat} {z:Value} {d:TypeDesc} (h:(P.info? T).map (fun i=>(i.size,i.zero))=some (n,some z)) (hu:P.underlying T=some d) (ha:isAggD d=agg):TyInfo P T agg n (P.bytesOf T) z:=by
 obtain ⟨i,hi,he⟩:=Option.map_eq_some_iff.1 h
 simp only [Prod.mk.injEq] at he
 exact ⟨⟨i,hi,he.1,by simp [Program.bytesOf,hi],he.2⟩,d,hu,ha⟩
theorem ty3:TyInfo Pg 3 false 1 (Pg.bytesOf 3) (.int .i64 0):=ty_mk (by kernel_rfl) Tryz.underlying3 rfl
theorem ty4:TyInfo Pg 4 false 1 (Pg.bytesOf 4) (.bool false):=ty_mk (by kernel_rfl) Tryz.underlying4 rfl
theorem ty5:TyInfo Pg 5 false 1 (Pg.bytesOf 5) (.int .u8 0):=ty_mk (by kernel_rfl) Tryz.underlying5 rfl
theorem by5:Pg.bytesOf 5≤4096:=Nat.le_of_ble_eq_true (by kernel_rfl)
theorem ty9:TyInfo Pg 9 false 1 (Pg.bytesOf 9) (.string ByteArray.empty):=ty_mk (by kernel_rfl) Tryz.underlying9 rfl
theorem ty22:TyInfo Pg 22 false 1 (Pg.bytesOf 22) (.slice none 0 0):=ty_mk (by kernel_rfl) Tryz.underlying22 rfl
theorem ty23:TyInfo Pg 23 false 1 (Pg.bytesOf 23) (.slice none 0 0):=ty_mk (by kernel_rfl) Tryz.underlying23 rfl
theorem ty24:TyInfo Pg 24 false 1 (Pg.bytesOf 24) (.slice none 0 0):=ty_mk (by kernel_rfl) Tryz.underlying24 rfl
theorem ty26:TyInfo Pg 26 true 5 (Pg.bytesOf 26) (.agg #[.string ByteArray.empty,.int .i64 0,.slice none 0 0,.slice none 0 0,.slice none 0 0]):=ty_mk (by kernel_rfl) Tryz.underlying26 rfl
theorem by26:Pg.bytesOf 26≤4096:=Nat.le_of_ble_eq_true (by kernel_rfl)
theorem ty33:TyInfo Pg 33 false 1 (Pg.bytesOf 33) (.int .i64 0):=ty_mk (by kernel_rfl) Tryz.underlying33 rfl
theorem ty45:TyInfo Pg 45 false 1 (Pg.bytesOf 45) (.slice none 0 0):=ty_mk (by kernel_rfl) Tryz.underlying45 rfl
theorem ty48:TyInfo Pg 48 true 6 (Pg.bytesOf 48) (.agg #[.string ByteArray.empty,.string ByteArray.empty,.int .i64 0,.slice none 0 0,.slice none 0 0,.slice none 0 0]):=ty_mk (by kernel_rfl) Tryz.underlying48 rfl
theorem ty52:TyInfo Pg 52 false 1 (Pg.bytesOf 52) (.map none):=ty_mk (by kernel_rfl) Tryz.underlying52 rfl
theorem ty61:TyInfo Pg 61 true 2 (Pg.bytesOf 61) (.agg #[.string ByteArray.empty,.int .i64 0]):=ty_mk (by kernel_rfl) Tryz.underlying61 rfl
theorem ty65:TyInfo Pg 65 false 1 (Pg.bytesOf 65) (.slice none 0 0):=ty_mk (by kernel_rfl) Tryz.underlying65 rfl
theorem ty74:TyInfo Pg 74 true 2 (Pg.bytesOf 74) (.agg #[.string ByteArray.empty,.string ByteArray.empty]):=ty_mk (by kernel_rfl) Tryz.underlying74 rfl
theorem by74:Pg.bytesOf 74≤4096:=Nat.le_of_ble_eq_true (by kernel_rfl)
theorem ty83:TyInfo Pg 83 true 2 (Pg.bytesOf 83) (.agg #[.string ByteArray.empty,.int .i64 0]):=ty_mk (by kernel_rfl) Tryz.underlying83 rfl
theorem ty85:TyInfo Pg 85 true 3 (Pg.bytesOf 85) (.agg #[.string ByteArray.empty,.int .i64 0,.int .i64 0]):=ty_mk (by kernel_rfl) Tryz.underlying85 rfl
theorem ty97:TyInfo Pg 97 false 1 (Pg.bytesOf 97) (.nilFunc):=ty_mk (by kernel_rfl) Tryz.underlying97 rfl
theorem ty106:TyInfo Pg 106 true 2 (Pg.bytesOf 106) (.agg #[.string ByteArray.empty,.int .i64 0]):=ty_mk (by kernel_rfl) Tryz.underlying106 rfl
theorem by106:Pg.bytesOf 106≤4096:=Nat.le_of_ble_eq_true (by kernel_rfl)
theorem ty120:TyInfo Pg 120 false 1 (Pg.bytesOf 120) (.slice none 0 0):=ty_mk (by kernel_rfl) Tryz.underlying120 rfl
theorem ty124:TyInfo Pg 124 false 1 (Pg.bytesOf 124) (.nilFunc):=ty_mk (by kernel_rfl) Tryz.underlying124 rfl
section
variable {QP:List PanicEntry→World→Prop} {w:World} {k:Value→World→Prop}
def o0:=op_loadC (QP:=QP) (w:=w) (k:=k) ty3
theorem o1:(∀ u,opV Pg (Instr.alloc 3 true u) QP w k=k (.pointer (some ⟨w.heap.size,0,none⟩)) (w.alloc (.cells ((.int .i64 0):Value).cells 3))):=(op_alloc ty3)
def o2:=op_loadC (QP:=QP) (w:=w) (k:=k) ty4
theorem o3:(∀ c a b,opV Pg (binS .eql 4 c (.bool a) (.bool b)) QP w k=k (.bool (a == b)) w):=(op_beql Tryz.underlying4)
theorem o4:(∀ c a b,opV Pg (binS .neq 4 c (.bool a) (.bool b)) QP w k=k (.bool (a != b)) w):=(op_bneq Tryz.underlying4)
theorem o5:(∀ u,opV Pg (Instr.alloc 4 true u) QP w k=k (.pointer (some ⟨w.heap.size,0,none⟩)) (w.alloc (.cells ((.bool false):Value).cells 4))):=(op_alloc ty4)
def o6:=op_loadC (QP:=QP) (w:=w) (k:=k) ty5
def o7:=op_loadC (QP:=QP) (w:=w) (k:=k) ty9
theorem o8:(∀ r s,opV Pg (Builtin.len_ #[9] r #[.string s]) QP w k=k (.int .i64 (s.size:Int)) w):=(fun r=>op_len_string (r:=r) Tryz.underlying9)
def o9:=op_loadC (QP:=QP) (w:=w) (k:=k) ty22
theorem o10:(∀ r a n c,opV Pg (Builtin.len_ #[22] r #[.slice a n c]) QP w k=k (.int .i64 (n:Int)) w):=(fun r=>op_len_slice (r:=r) Tryz.underlying22)
theorem o11:(∀ b o len cap ik (i:Nat),i < len→opV Pg (Instr.indexAt 22 (.slice (some ⟨b,o,none⟩) len cap) (.int ik (i:Int))) QP w k=k (.pointer (some ⟨b,o+i*1,none⟩)) w):=(op_indexN Tryz.underlying22 ty5)
def o12:=op_loadC (QP:=QP) (w:=w) (k:=k) ty23
theorem o13:(∀ r a n c,opV Pg (Builtin.len_ #[23] r #[.slice a n c]) QP w k=k (.int .i64 (n:Int)) w):=(fun r=>op_len_slice (r:=r) Tryz.underlying23)
theorem o14:(∀ b o len cap ik (i:Nat),i < len→opV Pg (Instr.indexAt 23 (.slice (some ⟨b,o,none⟩) len cap) (.int ik (i:Int))) QP w k=k (.pointer (some ⟨b,o+i*2,none⟩)) w):=(op_indexN Tryz.underlying23 ty74)
def o15:=op_loadC (QP:=QP) (w:=w) (k:=k) ty24
theorem o16:(∀ r a n c,opV Pg (Builtin.len_ #[24] r #[.slice a n c]) QP w k=k (.int .i64 (n:Int)) w):=(fun r=>op_len_slice (r:=r) Tryz.underlying24)
theorem o17:(∀ b o len cap ik (i:Nat),i < len→opV Pg (Instr.indexAt 24 (.slice (some ⟨b,o,none⟩) len cap) (.int ik (i:Int))) QP w k=k (.pointer (some ⟨b,o+i*5,none⟩)) w):=(op_indexN Tryz.underlying24 ty26)
def o18:=op_field0 (QP:=QP) (w:=w) (k:=k) (i:=0) (ft:=9) (n:=1) Tryz.underlying26 rfl ty9 rfl
def o19:=op_fieldO (QP:=QP) (w:=w) (k:=k) (i:=1) (ft:=3) (off:=1) (n:=1) Tryz.underlying26 rfl ty3 rfl
def o20:=op_fieldO (QP:=QP) (w:=w) (k:=k) (i:=2) (ft:=22) (off:=2) (n:=1) Tryz.underlying26 rfl ty22 rfl
def o21:=op_fieldO (QP:=QP) (w:=w) (k:=k) (i:=3) (ft:=23) (off:=3) (n:=1) Tryz.underlying26 rfl ty23 rfl
def o22:=op_fieldO (QP:=QP) (w:=w) (k:=k) (i:=4) (ft:=24) (off:=4) (n:=1) Tryz.underlying26 rfl ty24 rfl
theorem o23:(∀ b o,opV Pg (Instr.loadAt 26 (.pointer (some ⟨b,o,none⟩))) QP w k=onCells [w.cell? ⟨b,o,none⟩,w.cell? ⟨b,o+1,none⟩,w.cell? ⟨b,o+2,none⟩,w.cell? ⟨b,o+3,none⟩,w.cell? ⟨b,o+4,none⟩] (fun vs=>k (.agg vs.toArray) w) (opVx Pg (Instr.loadAt 26 (.pointer (some ⟨b,o,none⟩))) QP w k)):=(by intro b o;exact op_loadA ty26 b o _ rfl)
theorem o24:(∀ u,opV Pg (Instr.alloc 26 true u) QP w k=k (.pointer (some ⟨w.heap.size,0,none⟩)) (w.alloc (.cells ((.agg #[.string ByteArray.empty,.int .i64 0,.slice none 0 0,.slice none 0 0,.slice none 0 0]):Value).cells 26))):=(op_alloc ty26)
def o26:=op_loadC (QP:=QP) (w:=w) (k:=k) ty45
theorem o27:(∀ r a n c,opV Pg (Builtin.len_ #[45] r #[.slice a n c]) QP w k=k (.int .i64 (n:Int)) w):=(fun r=>op_len_slice (r:=r) Tryz.underlying45)
theorem o28:(∀ b o len cap ik (i:Nat),i < len→opV Pg (Instr.indexAt 45 (.slice (some ⟨b,o,none⟩) len cap) (.int ik (i:Int))) QP w k=k (.pointer (some ⟨b,o+i*6,none⟩)) w):=(op_indexN Tryz.underlying45 ty48)
theorem o29:(∀ u,opV Pg (Instr.alloc 45 true u) QP w k=k (.pointer (some ⟨w.heap.size,0,none⟩)) (w.alloc (.cells ((.slice none 0 0):Value).cells 45))):=(op_alloc ty45)
def o30:=op_field0 (QP:=QP) (w:=w) (k:=k) (i:=0) (ft:=9) (n:=1) Tryz.underlying48 rfl ty9 rfl
def o31:=op_fieldO (QP:=QP) (w:=w) (k:=k) (i:=1) (ft:=26) (off:=1) (n:=5) Tryz.underlying48 rfl ty26 rfl
def o32:=op_loadC (QP:=QP) (w:=w) (k:=k) ty52
theorem o33:(∀ u,opV Pg (Instr.alloc 52 true u) QP w k=k (.pointer (some ⟨w.heap.size,0,none⟩)) (w.alloc (.cells ((.map none):Value).cells 52))):=(op_alloc ty52)
def o34:=op_field0 (QP:=QP) (w:=w) (k:=k) (i:=0) (ft:=9) (n:=1) Tryz.underlying61 rfl ty9 rfl
def o35:=op_fieldO (QP:=QP) (w:=w) (k:=k) (i:=1) (ft:=3) (off:=1) (n:=1) Tryz.underlying61 rfl ty3 rfl
theorem o36:(∀ b o,opV Pg (Instr.loadAt 61 (.pointer (some ⟨b,o,none⟩))) QP w k=onCells [w.cell? ⟨b,o,none⟩,w.cell? ⟨b,o+1,none⟩] (fun vs=>k (.agg vs.toArray) w) (opVx Pg (Instr.loadAt 61 (.pointer (some ⟨b,o,none⟩))) QP w k)):=(by intro b o;exact op_loadA ty61 b o _ rfl)
theorem o37:(∀ u,opV Pg (Instr.alloc 61 true u) QP w k=k (.pointer (some ⟨w.heap.size,0,none⟩)) (w.alloc (.cells ((.agg #[.string ByteArray.empty,.int .i64 0]):Value).cells 61))):=(op_alloc ty61)
def o38:=op_loadC (QP:=QP) (w:=w) (k:=k) ty65
theorem o39:(∀ r a n c,opV Pg (Builtin.len_ #[65] r #[.slice a n c]) QP w k=k (.int .i64 (n:Int)) w):=(fun r=>op_len_slice (r:=r) Tryz.underlying65)
theorem o40:(∀ b o len cap ik (i:Nat),i < len→opV Pg (Instr.indexAt 65 (.slice (some ⟨b,o,none⟩) len cap) (.int ik (i:Int))) QP w k=k (.pointer (some ⟨b,o+i*1,none⟩)) w):=(op_indexN Tryz.underlying65 ty9)
theorem o41:(∀ u,opV Pg (Instr.alloc 65 true u) QP w k=k (.pointer (some ⟨w.heap.size,0,none⟩)) (w.alloc (.cells ((.slice none 0 0):Value).cells 65))):=(op_alloc ty65)
def o42:=op_field0 (QP:=QP) (w:=w) (k:=k) (i:=0) (ft:=9) (n:=1) Tryz.underlying74 rfl ty9 rfl
def o43:=op_fieldO (QP:=QP) (w:=w) (k:=k) (i:=1) (ft:=9) (off:=1) (n:=1) Tryz.underlying74 rfl ty9 rfl
theorem o44:(∀ b o,opV Pg (Instr.loadAt 74 (.pointer (some ⟨b,o,none⟩))) QP w k=onCells [w.cell? ⟨b,o,none⟩,w.cell? ⟨b,o+1,none⟩] (fun vs=>k (.agg vs.toArray) w) (opVx Pg (Instr.loadAt 74 (.pointer (some ⟨b,o,none⟩))) QP w k)):=(by intro b o;exact op_loadA ty74 b o _ rfl)
theorem o45:(∀ u,opV Pg (Instr.alloc 74 true u) QP w k=k (.pointer (some ⟨w.heap.size,0,none⟩)) (w.alloc (.cells ((.agg #[.string ByteArray.empty,.string ByteArray.empty]):Value).cells 74))):=(op_alloc ty74)
def o46:=op_field0 (QP:=QP) (w:=w) (k:=k) (i:=0) (ft:=9) (n:=1) Tryz.underlying83 rfl ty9 rfl
def o47:=op_fieldO (QP:=QP) (w:=w) (k:=k) (i:=1) (ft:=3) (off:=1) (n:=1) Tryz.underlying83 rfl ty3 rfl
def o48:=op_field0 (QP:=QP) (w:=w) (k:=k) (i:=0) (ft:=83) (n:=2) Tryz.underlying85 rfl ty83 rfl
def o49:=op_fieldO (QP:=QP) (w:=w) (k:=k) (i:=1) (ft:=3) (off:=2) (n:=1) Tryz.underlying85 rfl ty3 rfl
theorem o50:(∀ u,opV Pg (Instr.alloc 85 true u) QP w k=k (.pointer (some ⟨w.heap.size,0,none⟩)) (w.alloc (.cells ((.agg #[.string ByteArray.empty,.int .i64 0,.int .i64 0]):Value).cells 85))):=(op_alloc ty85)
theorem o51:(∀ r a n c,opV Pg (Builtin.len_ #[93] r #[.slice a n c]) QP w k=k (.int .i64 (n:Int)) w):=(fun r=>op_len_slice (r:=r) Tryz.underlying93)
theorem o52:(∀ b o len cap ik (i:Nat),i < len→opV Pg (Instr.indexAt 93 (.slice (some ⟨b,o,none⟩) len cap) (.int ik (i:Int))) QP w k=k (.pointer (some ⟨b,o+i*2,none⟩)) w):=(op_indexN Tryz.underlying93 ty61)
def o53:=op_loadC (QP:=QP) (w:=w) (k:=k) ty97
def o54:=op_field0 (QP:=QP) (w:=w) (k:=k) (i:=0) (ft:=9) (n:=1) Tryz.underlying106 rfl ty9 rfl
def o55:=op_fieldO (QP:=QP) (w:=w) (k:=k) (i:=1) (ft:=3) (off:=1) (n:=1) Tryz.underlying106 rfl ty3 rfl
theorem o56:(∀ b o,opV Pg (Instr.loadAt 106 (.pointer (some ⟨b,o,none⟩))) QP w k=onCells [w.cell? ⟨b,o,none⟩,w.cell? ⟨b,o+1,none⟩] (fun vs=>k (.agg vs.toArray) w) (opVx Pg (Instr.loadAt 106 (.pointer (some ⟨b,o,none⟩))) QP w k)):=(by intro b o;exact op_loadA ty106 b o _ rfl)
theorem o57:(∀ u,opV Pg (Instr.alloc 106 true u) QP w k=k (.pointer (some ⟨w.heap.size,0,none⟩)) (w.alloc (.cells ((.agg #[.string ByteArray.empty,.int .i64 0]):Value).cells 106))):=(op_alloc ty106)
theorem o58:(∀ r a n c,opV Pg (Builtin.len_ #[107] r #[.slice a n c]) QP w k=k (.int .i64 (n:Int)) w):=(fun r=>op_len_slice (r:=r) Tryz.underlying107)
theorem o59:(∀ b o len cap ik (i:Nat),i < len→opV Pg (Instr.indexAt 107 (.slice (some ⟨b,o,none⟩) len cap) (.int ik (i:Int))) QP w k=k (.pointer (some ⟨b,o+i*1,none⟩)) w):=(op_indexN Tryz.underlying107 ty3)
def o61:=op_loadC (QP:=QP) (w:=w) (k:=k) ty120
theorem o62:(∀ r a n c,opV Pg (Builtin.len_ #[120] r #[.slice a n c]) QP w k=k (.int .i64 (n:Int)) w):=(fun r=>op_len_slice (r:=r) Tryz.underlying120)
theorem o63:(∀ b o len cap ik (i:Nat),i < len→opV Pg (Instr.indexAt 120 (.slice (some ⟨b,o,none⟩) len cap) (.int ik (i:Int))) QP w k=k (.pointer (some ⟨b,o+i*2,none⟩)) w):=(op_indexN Tryz.underlying120 ty106)
theorem o64:(∀ u,opV Pg (Instr.alloc 120 true u) QP w k=k (.pointer (some ⟨w.heap.size,0,none⟩)) (w.alloc (.cells ((.slice none 0 0):Value).cells 120))):=(op_alloc ty120)
def o65:=op_loadC (QP:=QP) (w:=w) (k:=k) ty124
theorem o66:(∀ r a n c,opV Pg (Builtin.len_ #[145] r #[.slice a n c]) QP w k=k (.int .i64 (n:Int)) w):=(fun r=>op_len_slice (r:=r) Tryz.underlying145)
theorem o67:(∀ b o len cap ik (i:Nat),i < len→opV Pg (Instr.indexAt 145 (.slice (some ⟨b,o,none⟩) len cap) (.int ik (i:Int))) QP w k=k (.pointer (some ⟨b,o+i*1,none⟩)) w):=(op_indexN Tryz.underlying145 ty4)
theorem o74:(opV Pg (Instr.build 26 #[]) QP w k=k (.agg #[.string ByteArray.empty,.int .i64 0,.slice none 0 0,.slice none 0 0,.slice none 0 0]) w):=(by exact op_build (places := #[(0,1),(1,1),(2,1),(3,1),(4,1)]) Tryz.underlying26 ty26 (by intro w;simp [List.mapM_cons,Sem.run_bind,Sw.run_sizeOf ty22,Sw.run_sizeOf ty23,Sw.run_sizeOf ty24,Sw.run_sizeOf ty3,Sw.run_sizeOf ty9]) (by simp [Instr.fill,cells_agg]))
theorem o75:(∀ v0 v1_0 v1_1 v1_2 v1_3 v1_4:Value,v0.oneCell'=true→opV Pg (Instr.build 48 #[(0,v0),(1,(.agg #[v1_0,v1_1,v1_2,v1_3,v1_4]))]) QP w k=k (.agg #[v0,v1_0,v1_1,v1_2,v1_3,v1_4]) w):=(by intro v0 v1_0 v1_1 v1_2 v1_3 v1_4 hv0;exact op_build (places := #[(0,1),(1,5)]) Tryz.underlying48 ty48 (by intro w;simp [List.mapM_cons,Sem.run_bind,Sw.run_sizeOf ty26,Sw.run_sizeOf ty9]) (by simp [Instr.fill,cells_agg,cells_one hv0]))
theorem o76:(∀ v0:Value,v0.oneCell'=true→opV Pg (Instr.build 61 #[(0,v0)]) QP w k=k (.agg #[v0,.int .i64 0]) w):=(by intro v0 hv0;exact op_build (places := #[(0,1),(1,1)]) Tryz.underlying61 ty61 (by intro w;simp [List.mapM_cons,Sem.run_bind,Sw.run_sizeOf ty3,Sw.run_sizeOf ty9]) (by simp [Instr.fill,cells_agg,cells_one hv0]))
theorem o77:(∀ v0 v1:Value,v0.oneCell'=true→v1.oneCell'=true→opV Pg (Instr.build 74 #[(0,v0),(1,v1)]) QP w k=k (.agg #[v0,v1]) w):=(by intro v0 v1 hv0 hv1;exact op_build (places := #[(0,1),(1,1)]) Tryz.underlying74 ty74 (by intro w;simp [List.mapM_cons,Sem.run_bind,Sw.run_sizeOf ty9]) (by simp [Instr.fill,cells_agg,cells_one hv0,cells_one hv1]))
theorem o78:(∀ v0:Value,v0.oneCell'=true→opV Pg (Instr.build 83 #[(0,v0)]) QP w k=k (.agg #[v0,.int .i64 0]) w):=(by intro v0 hv0;exact op_build (places := #[(0,1),(1,1)]) Tryz.underlying83 ty83 (by intro w;simp [List.mapM_cons,Sem.run_bind,Sw.run_sizeOf ty3,Sw.run_sizeOf ty9]) (by simp [Instr.fill,cells_agg,cells_one hv0]))
theorem o79:(∀ v0_0 v0_1:Value,opV Pg (Instr.build 85 #[(0,(.agg #[v0_0,v0_1]))]) QP w k=k (.agg #[v0_0,v0_1,.int .i64 0]) w):=(by intro v0_0 v0_1;exact op_build (places := #[(0,2),(2,1)]) Tryz.underlying85 ty85 (by intro w;simp [List.mapM_cons,Sem.run_bind,Sw.run_sizeOf ty3,Sw.run_sizeOf ty83]) (by simp [Instr.fill,cells_agg]))
theorem o80:(∀ v0:Value,v0.oneCell'=true→opV Pg (Instr.build 106 #[(0,v0)]) QP w k=k (.agg #[v0,.int .i64 0]) w):=(by intro v0 hv0;exact op_build (places := #[(0,1),(1,1)]) Tryz.underlying106 ty106 (by intro w;simp [List.mapM_cons,Sem.run_bind,Sw.run_sizeOf ty3,Sw.run_sizeOf ty9]) (by simp [Instr.fill,cells_agg,cells_one hv0]))
theorem o84:(opV Pg (Instr.buildSlice 22 0 #[]) QP w k=k (.slice (some ⟨w.heap.size,0,none⟩) 0 0) (w.alloc (.cells #[] 5))):=(by exact op_buildSlice Tryz.underlying22 ty5 (by decide) (base := #[]) (by kernel_rfl) (by simp [Instr.fill,cells_agg]))
theorem o85:(∀ v0:Value,v0.oneCell'=true→opV Pg (Instr.buildSlice 22 1 #[(0,v0)]) QP w k=k (.slice (some ⟨w.heap.size,0,none⟩) 1 1) (w.alloc (.cells #[v0] 5))):=(by intro v0 hv0;exact op_buildSlice Tryz.underlying22 ty5 (by decide) (base := #[.int .u8 0]) (by kernel_rfl) (by simp [Instr.fill,cells_agg,cells_one hv0]))
theorem o86:(∀ v0 v1:Value,v0.oneCell'=true→v1.oneCell'=true→opV Pg (Instr.buildSlice 22 2 #[(0,v0),(1,v1)]) QP w k=k (.slice (some ⟨w.heap.size,0,none⟩) 2 2) (w.alloc (.cells #[v0,v1] 5))):=(by intro v0 v1 hv0 hv1;exact op_buildSlice Tryz.underlying22 ty5 (by decide) (base := #[.int .u8 0,.int .u8 0]) (by kernel_rfl) (by simp [Instr.fill,cells_agg,cells_one hv0,cells_one hv1]))
theorem o87:(opV Pg (Instr.buildSlice 23 0 #[]) QP w k=k (.slice (some ⟨w.heap.size,0,none⟩) 0 0) (w.alloc (.cells #[] 74))):=(by exact op_buildSlice Tryz.underlying23 ty74 (by decide) (base := #[]) (by kernel_rfl) (by simp [Instr.fill,cells_agg]))
theorem o88:(∀ v0_0 v0_1:Value,opV Pg (Instr.buildSlice 23 1 #[(0,(.agg #[v0_0,v0_1]))]) QP w k=k (.slice (some ⟨w.heap.size,0,none⟩) 1 1) (w.alloc (.cells #[v0_0,v0_1] 74))):=(by intro v0_0 v0_1;exact op_buildSlice Tryz.underlying23 ty74 (by decide) (base := #[.string ByteArray.empty,.string ByteArray.empty]) (by kernel_rfl) (by simp [Instr.fill,cells_agg]))
theorem o89:(opV Pg (Instr.buildSlice 24 0 #[]) QP w k=k (.slice (some ⟨w.heap.size,0,none⟩) 0 0) (w.alloc (.cells #[] 26))):=(by exact op_buildSlice Tryz.underlying24 ty26 (by decide) (base := #[]) (by kernel_rfl) (by simp [Instr.fill,cells_agg]))
theorem o90:(∀ v0_0 v0_1 v0_2 v0_3 v0_4:Value,opV Pg (Instr.buildSlice 24 1 #[(0,(.agg #[v0_0,v0_1,v0_2,v0_3,v0_4]))]) QP w k=k (.slice (some ⟨w.heap.size,0,none⟩) 1 1) (w.alloc (.cells #[v0_0,v0_1,v0_2,v0_3,v0_4] 26))):=(by intro v0_0 v0_1 v0_2 v0_3 v0_4;exact op_buildSlice Tryz.underlying24 ty26 (by decide) (base := #[.string ByteArray.empty,.int .i64 0,.slice none 0 0,.slice none 0 0,.slice none 0 0]) (by kernel_rfl) (by simp [Instr.fill,cells_agg]))
theorem o91:(∀ v0_0 v0_1 v0_2 v0_3 v0_4 v0_5:Value,opV Pg (Instr.buildSlice 45 1 #[(0,(.agg #[v0_0,v0_1,v0_2,v0_3,v0_4,v0_5]))]) QP w k=k (.slice (some ⟨w.heap.size,0,none⟩) 1 1) (w.alloc (.cells #[v0_0,v0_1,v0_2,v0_3,v0_4,v0_5] 48))):=(by intro v0_0 v0_1 v0_2 v0_3 v0_4 v0_5;exact op_buildSlice Tryz.underlying45 ty48 (by decide) (base := #[.string ByteArray.empty,.string ByteArray.empty,.int .i64 0,.slice none 0 0,.slice none 0 0,.slice none 0 0]) (by kernel_rfl) (by simp [Instr.fill,cells_agg]))
theorem o92:(∀ v0 v1 v2 v3 v4 v5:Value,v0.oneCell'=true→v1.oneCell'=true→v2.oneCell'=true→v3.oneCell'=true→v4.oneCell'=true→v5.oneCell'=true→opV Pg (Instr.buildSlice 65 6 #[(0,v0),(1,v1),(2,v2),(3,v3),(4,v4),(5,v5)]) QP w k=k (.slice (some ⟨w.heap.size,0,none⟩) 6 6) (w.alloc (.cells #[v0,v1,v2,v3,v4,v5] 9))):=(by intro v0 v1 v2 v3 v4 v5 hv0 hv1 hv2 hv3 hv4 hv5;exact op_buildSlice Tryz.underlying65 ty9 (by decide) (base := #[.string ByteArray.empty,.string ByteArray.empty,.string ByteArray.empty,.string ByteArray.empty,.string ByteArray.empty,.string ByteArray.empty]) (by kernel_rfl) (by simp [Instr.fill,cells_agg,cells_one hv0,cells_one hv1,cells_one hv2,cells_one hv3,cells_one hv4,cells_one hv5]))
theorem o93:(∀ v0_0 v0_1:Value,opV Pg (Instr.buildSlice 93 1 #[(0,(.agg #[v0_0,v0_1]))]) QP w k=k (.slice (some ⟨w.heap.size,0,none⟩) 1 1) (w.alloc (.cells #[v0_0,v0_1] 61))):=(by intro v0_0 v0_1;exact op_buildSlice Tryz.underlying93 ty61 (by decide) (base := #[.string ByteArray.empty,.int .i64 0]) (by kernel_rfl) (by simp [Instr.fill,cells_agg]))
theorem o94:(∀ v0 v1:Value,v0.oneCell'=true→v1.oneCell'=true→opV Pg (Instr.buildSlice 107 2 #[(0,v0),(1,v1)]) QP w k=k (.slice (some ⟨w.heap.size,0,none⟩) 2 2) (w.alloc (.cells #[v0,v1] 3))):=(by intro v0 v1 hv0 hv1;exact op_buildSlice Tryz.underlying107 ty3 (by decide) (base := #[.int .i64 0,.int .i64 0]) (by kernel_rfl) (by simp [Instr.fill,cells_agg,cells_one hv0,cells_one hv1]))
theorem o95:(∀ v0 v1 v2 v3:Value,v0.oneCell'=true→v1.oneCell'=true→v2.oneCell'=true→v3.oneCell'=true→opV Pg (Instr.buildSlice 107 4 #[(0,v0),(1,v1),(2,v2),(3,v3)]) QP w k=k (.slice (some ⟨w.heap.size,0,none⟩) 4 4) (w.alloc (.cells #[v0,v1,v2,v3] 3))):=(by intro v0 v1 v2 v3 hv0 hv1 hv2 hv3;exact op_buildSlice Tryz.underlying107 ty3 (by decide) (base := #[.int .i64 0,.int .i64 0,.int .i64 0,.int .i64 0]) (by kernel_rfl) (by simp [Instr.fill,cells_agg,cells_one hv0,cells_one hv1,cells_one hv2,cells_one hv3]))
theorem o96:(∀ v0_0 v0_1:Value,opV Pg (Instr.buildSlice 120 1 #[(0,(.agg #[v0_0,v0_1]))]) QP w k=k (.slice (some ⟨w.heap.size,0,none⟩) 1 1) (w.alloc (.cells #[v0_0,v0_1] 106))):=(by intro v0_0 v0_1;exact op_buildSlice Tryz.underlying120 ty106 (by decide) (base := #[.string ByteArray.empty,.int .i64 0]) (by kernel_rfl) (by simp [Instr.fill,cells_agg]))
theorem o97:(∀ v0 v1:Value,v0.oneCell'=true→v1.oneCell'=true→opV Pg (Instr.buildSlice 145 2 #[(0,v0),(1,v1)]) QP w k=k (.slice (some ⟨w.heap.size,0,none⟩) 2 2) (w.alloc (.cells #[v0,v1] 4))):=(by intro v0 v1 hv0 hv1;exact op_buildSlice Tryz.underlying145 ty4 (by decide) (base := #[.bool false,.bool false]) (by kernel_rfl) (by simp [Instr.fill,cells_agg,cells_one hv0,cells_one hv1]))
theorem o99:(∀ q n,opV Pg (Go.convert 3 5 (.int q n)) QP w k=k (.int .u8 (IntKind.u8.wrap n)) w):=(op_convInt (by rw [Tryz.underlying3];rfl) Tryz.underlying5)
theorem o102:(∀ q n,opV Pg (Go.convert 5 3 (.int q n)) QP w k=k (.int .i64 (IntKind.i64.wrap n)) w):=(op_convInt (by rw [Tryz.underlying5];rfl) Tryz.underlying3)
theorem o114:(∀ v,opV Pg (Instr.makeInterface 33 v) QP w k=k (.iface 33 v) w):=(op_iface Tryz.underlying33 rfl)
theorem o121:(∀ c A n m,opV Pg (binS .eql 22 c (.slice A n m) (.slice none 0 0)) QP w k=k (.bool A.isNone) w):=(op_eqNilS Tryz.underlying22)
theorem o122:(∀ c A n m,opV Pg (binS .eql 23 c (.slice A n m) (.slice none 0 0)) QP w k=k (.bool A.isNone) w):=(op_eqNilS Tryz.underlying23)
theorem o123:(∀ c A n m,opV Pg (binS .eql 24 c (.slice A n m) (.slice none 0 0)) QP w k=k (.bool A.isNone) w):=(op_eqNilS Tryz.underlying24)
end
theorem qV_two {P:Program} {C:World→Prop} [ClassNe C] {k:Value→Prop} {s:Nat→Nat→Sem Value} {v:Nat→Nat→Value} (h:∀ QP w k b o,opV P (s b o) QP w k=k (v b o) w) (b o:Nat):qV P C (s b o) k=k (v b o):=qV_of fun QP w k=>h QP w k b o
def OPU0 {QP:List PanicEntry→World→Prop} {w:World} {ku:World→Prop}:=And.intro (op_storeC (QP:=QP) (w:=w) (ku:=ku) ty3)<|And.intro (op_storeC (QP:=QP) (w:=w) (ku:=ku) ty4)<|And.intro (op_storeC (QP:=QP) (w:=w) (ku:=ku) ty5)<|And.intro (op_storeC (QP:=QP) (w:=w) (ku:=ku) ty9)<|And.intro (op_storeC (QP:=QP) (w:=w) (ku:=ku) ty22)<|And.intro (op_storeC (QP:=QP) (w:=w) (ku:=ku) ty23)<|And.intro (op_storeC (QP:=QP) (w:=w) (ku:=ku) ty24)<|And.intro (op_storeC (QP:=QP) (w:=w) (ku:=ku) ty33)<|And.intro (op_storeC (QP:=QP) (w:=w) (ku:=ku) ty45)<|And.intro (op_storeC (QP:=QP) (w:=w) (ku:=ku) ty52)<|And.intro (op_storeC (QP:=QP) (w:=w) (ku:=ku) ty65)<|(op_storeC (QP:=QP) (w:=w) (ku:=ku) ty120)
def OPA0 {QP:List PanicEntry→World→Prop} {w:World} {ku:World→Prop}:=And.intro ((by intro b o v0 v1 v2 v3 v4 h0 h1 h2 h3 h4;exact op_storeA ty26 b o _ rfl (by intro v hv;simp only [List.mem_cons,List.not_mem_nil,or_false] at hv;rcases hv with rfl | rfl | rfl | rfl | rfl<;>assumption) _ rfl _ rfl):(∀ b o v0 v1 v2 v3 v4,v0.oneCell'=true→v1.oneCell'=true→v2.oneCell'=true→v3.oneCell'=true→v4.oneCell'=true→opU Pg (Instr.storeAt 26 (.pointer (some ⟨b,o,none⟩)) (.agg #[v0,v1,v2,v3,v4])) QP w ku=onCells [w.cell? ⟨b,o,none⟩,w.cell? ⟨b,o+1,none⟩,w.cell? ⟨b,o+2,none⟩,w.cell? ⟨b,o+3,none⟩,w.cell? ⟨b,o+4,none⟩] (fun _=>onFree [w.frozen? ⟨b,o,none⟩,w.frozen? ⟨b,o+1,none⟩,w.frozen? ⟨b,o+2,none⟩,w.frozen? ⟨b,o+3,none⟩,w.frozen? ⟨b,o+4,none⟩] (ku (((((w.setCell ⟨b,o,none⟩ v0).setCell ⟨b,o+1,none⟩ v1).setCell ⟨b,o+2,none⟩ v2).setCell ⟨b,o+3,none⟩ v3).setCell ⟨b,o+4,none⟩ v4)) (opUx Pg (Instr.storeAt 26 (.pointer (some ⟨b,o,none⟩)) (.agg #[v0,v1,v2,v3,v4])) QP w ku)) (opUx Pg (Instr.storeAt 26 (.pointer (some ⟨b,o,none⟩)) (.agg #[v0,v1,v2,v3,v4])) QP w ku)))<|And.intro ((by intro b o v0 v1 h0 h1;exact op_storeA ty61 b o _ rfl (by intro v hv;simp only [List.mem_cons,List.not_mem_nil,or_false] at hv;rcases hv with rfl | rfl<;>assumption) _ rfl _ rfl):(∀ b o v0 v1,v0.oneCell'=true→v1.oneCell'=true→opU Pg (Instr.storeAt 61 (.pointer (some ⟨b,o,none⟩)) (.agg #[v0,v1])) QP w ku=onCells [w.cell? ⟨b,o,none⟩,w.cell? ⟨b,o+1,none⟩] (fun _=>onFree [w.frozen? ⟨b,o,none⟩,w.frozen? ⟨b,o+1,none⟩] (ku ((w.setCell ⟨b,o,none⟩ v0).setCell ⟨b,o+1,none⟩ v1)) (opUx Pg (Instr.storeAt 61 (.pointer (some ⟨b,o,none⟩)) (.agg #[v0,v1])) QP w ku)) (opUx Pg (Instr.storeAt 61 (.pointer (some ⟨b,o,none⟩)) (.agg #[v0,v1])) QP w ku)))<|And.intro ((by intro b o v0 v1 h0 h1;exact op_storeA ty74 b o _ rfl (by intro v hv;simp only [List.mem_cons,List.not_mem_nil,or_false] at hv;rcases hv with rfl | rfl<;>assumption) _ rfl _ rfl):(∀ b o v0 v1,v0.oneCell'=true→v1.oneCell'=true→opU Pg (Instr.storeAt 74 (.pointer (some ⟨b,o,none⟩)) (.agg #[v0,v1])) QP w ku=onCells [w.cell? ⟨b,o,none⟩,w.cell? ⟨b,o+1,none⟩] (fun _=>onFree [w.frozen? ⟨b,o,none⟩,w.frozen? ⟨b,o+1,none⟩] (ku ((w.setCell ⟨b,o,none⟩ v0).setCell ⟨b,o+1,none⟩ v1)) (opUx Pg (Instr.storeAt 74 (.pointer (some ⟨b,o,none⟩)) (.agg #[v0,v1])) QP w ku)) (opUx Pg (Instr.storeAt 74 (.pointer (some ⟨b,o,none⟩)) (.agg #[v0,v1])) QP w ku)))<|And.intro ((by intro b o v0 v1 v2 h0 h1 h2;exact op_storeA ty85 b o _ rfl (by intro v hv;simp only [List.mem_cons,List.not_mem_nil,or_false] at hv;rcases hv with rfl | rfl | rfl<;>assumption) _ rfl _ rfl):(∀ b o v0 v1 v2,v0.oneCell'=true→v1.oneCell'=true→v2.oneCell'=true→opU Pg (Instr.storeAt 85 (.pointer (some ⟨b,o,none⟩)) (.agg #[v0,v1,v2])) QP w ku=onCells [w.cell? ⟨b,o,none⟩,w.cell? ⟨b,o+1,none⟩,w.cell? ⟨b,o+2,none⟩] (fun _=>onFree [w.frozen? ⟨b,o,none⟩,w.frozen? ⟨b,o+1,none⟩,w.frozen? ⟨b,o+2,none⟩] (ku (((w.setCell ⟨b,o,none⟩ v0).setCell ⟨b,o+1,none⟩ v1).setCell ⟨b,o+2,none⟩ v2)) (opUx Pg (Instr.storeAt 85 (.pointer (some ⟨b,o,none⟩)) (.agg #[v0,v1,v2])) QP w ku)) (opUx Pg (Instr.storeAt 85 (.pointer (some ⟨b,o,none⟩)) (.agg #[v0,v1,v2])) QP w ku)))<|((by intro b o v0 v1 h0 h1;exact op_storeA ty106 b o _ rfl (by intro v hv;simp only [List.mem_cons,List.not_mem_nil,or_false] at hv;rcases hv with rfl | rfl<;>assumption) _ rfl _ rfl):(∀ b o v0 v1,v0.oneCell'=true→v1.oneCell'=true→opU Pg (Instr.storeAt 106 (.pointer (some ⟨b,o,none⟩)) (.agg #[v0,v1])) QP w ku=onCells [w.cell? ⟨b,o,none⟩,w.cell? ⟨b,o+1,none⟩] (fun _=>onFree [w.frozen? ⟨b,o,none⟩,w.frozen? ⟨b,o+1,none⟩] (ku ((w.setCell ⟨b,o,none⟩ v0).setCell ⟨b,o+1,none⟩ v1)) (opUx Pg (Instr.storeAt 106 (.pointer (some ⟨b,o,none⟩)) (.agg #[v0,v1])) QP w ku)) (opUx Pg (Instr.storeAt 106 (.pointer (some ⟨b,o,none⟩)) (.agg #[v0,v1])) QP w ku)))
section
def OPW0 {w:World} {k:Value→Prop}:=And.intro (qV_loadC (w:=w) (k:=k) ty3)<|And.intro (qV_loadC (w:=w) (k:=k) ty9)<|And.intro (qV_loadC (w:=w) (k:=k) ty22)<|And.intro (qV_loadC (w:=w) (k:=k) ty23)<|And.intro (qV_loadC (w:=w) (k:=k) ty24)<|And.intro ((by intro b o;exact qV_loadA ty26 b o _ rfl):(∀ b o,qV Pg (EC w) (Instr.loadAt 26 (.pointer (some ⟨b,o,none⟩))) k=onCells [w.cell? ⟨b,o,none⟩,w.cell? ⟨b,o+1,none⟩,w.cell? ⟨b,o+2,none⟩,w.cell? ⟨b,o+3,none⟩,w.cell? ⟨b,o+4,none⟩] (fun vs=>k (.agg vs.toArray)) (qVx Pg (EC w) (Instr.loadAt 26 (.pointer (some ⟨b,o,none⟩))) k)))<|And.intro (qV_loadC (w:=w) (k:=k) ty45)<|And.intro ((by intro b o;exact qV_loadA ty61 b o _ rfl):(∀ b o,qV Pg (EC w) (Instr.loadAt 61 (.pointer (some ⟨b,o,none⟩))) k=onCells [w.cell? ⟨b,o,none⟩,w.cell? ⟨b,o+1,none⟩] (fun vs=>k (.agg vs.toArray)) (qVx Pg (EC w) (Instr.loadAt 61 (.pointer (some ⟨b,o,none⟩))) k)))<|And.intro ((by intro b o;exact qV_loadA ty74 b o _ rfl):(∀ b o,qV Pg (EC w) (Instr.loadAt 74 (.pointer (some ⟨b,o,none⟩))) k=onCells [w.cell? ⟨b,o,none⟩,w.cell? ⟨b,o+1,none⟩] (fun vs=>k (.agg vs.toArray)) (qVx Pg (EC w) (Instr.loadAt 74 (.pointer (some ⟨b,o,none⟩))) k)))<|And.intro ((by intro b o;exact qV_loadA ty106 b o _ rfl):(∀ b o,qV Pg (EC w) (Instr.loadAt 106 (.pointer (some ⟨b,o,none⟩))) k=onCells [w.cell? ⟨b,o,none⟩,w.cell? ⟨b,o+1,none⟩] (fun vs=>k (.agg vs.toArray)) (qVx Pg (EC w) (Instr.loadAt 106 (.pointer (some ⟨b,o,none⟩))) k)))<|And.intro (qW_loadC (w:=w) (k:=k) ty3)<|And.intro (qW_loadC (w:=w) (k:=k) ty4)<|And.intro ((by intro b o;exact qW_loadA ty26 b o _ rfl):(∀ b o,qW Pg 26 (.pointer (some ⟨b,o,none⟩)) w k=onCells [w.cell? ⟨b,o,none⟩,w.cell? ⟨b,o+1,none⟩,w.cell? ⟨b,o+2,none⟩,w.cell? ⟨b,o+3,none⟩,w.cell? ⟨b,o+4,none⟩] (fun vs=>k (.agg vs.toArray)) (qWx Pg 26 (.pointer (some ⟨b,o,none⟩)) w k)))<|(qW_loadC (w:=w) (k:=k) ty33)
def OPW1 {w:World} {k:Value→Prop}:=(qW_loadC (w:=w) (k:=k) ty120)
def OPQ0 {C:World→Prop} [ClassNe C] {k:Value→Prop}:=And.intro ((by intros;apply qV_of;intros;apply o4<;>assumption):(∀ c a b,qV Pg C (binS .neq 4 c (.bool a) (.bool b)) k=k (.bool (a != b))))<|And.intro ((by intros;apply qV_of;intros;apply o8<;>assumption):(∀ r s,qV Pg C (Builtin.len_ #[9] r #[.string s]) k=k (.int .i64 (s.size:Int))))<|And.intro ((by intros;apply qV_of;intros;apply o11<;>assumption):(∀ b o len cap ik (i:Nat),i < len→qV Pg C (Instr.indexAt 22 (.slice (some ⟨b,o,none⟩) len cap) (.int ik (i:Int))) k=k (.pointer (some ⟨b,o+i*1,none⟩))))<|And.intro ((by intros;apply qV_of;intros;apply o14<;>assumption):(∀ b o len cap ik (i:Nat),i < len→qV Pg C (Instr.indexAt 23 (.slice (some ⟨b,o,none⟩) len cap) (.int ik (i:Int))) k=k (.pointer (some ⟨b,o+i*2,none⟩))))<|And.intro ((by intros;apply qV_of;intros;apply o17<;>assumption):(∀ b o len cap ik (i:Nat),i < len→qV Pg C (Instr.indexAt 24 (.slice (some ⟨b,o,none⟩) len cap) (.int ik (i:Int))) k=k (.pointer (some ⟨b,o+i*5,none⟩))))<|And.intro (qV_two (C:=C) (k:=k) fun QP w k => @o18 QP w k)<|And.intro (qV_two (C:=C) (k:=k) fun QP w k => @o19 QP w k)<|And.intro (qV_two (C:=C) (k:=k) fun QP w k => @o20 QP w k)<|And.intro (qV_two (C:=C) (k:=k) fun QP w k => @o21 QP w k)<|And.intro (qV_two (C:=C) (k:=k) fun QP w k => @o22 QP w k)<|And.intro ((by intros;apply qV_of;intros;apply o27<;>assumption):(∀ r a n c,qV Pg C (Builtin.len_ #[45] r #[.slice a n c]) k=k (.int .i64 (n:Int))))<|And.intro ((by intros;apply qV_of;intros;apply o28<;>assumption):(∀ b o len cap ik (i:Nat),i < len→qV Pg C (Instr.indexAt 45 (.slice (some ⟨b,o,none⟩) len cap) (.int ik (i:Int))) k=k (.pointer (some ⟨b,o+i*6,none⟩))))<|And.intro (qV_two (C:=C) (k:=k) fun QP w k => @o30 QP w k)<|And.intro (qV_two (C:=C) (k:=k) fun QP w k => @o31 QP w k)<|And.intro (qV_two (C:=C) (k:=k) fun QP w k => @o34 QP w k)<|And.intro (qV_two (C:=C) (k:=k) fun QP w k => @o35 QP w k)<|And.intro (qV_two (C:=C) (k:=k) fun QP w k => @o42 QP w k)<|And.intro (qV_two (C:=C) (k:=k) fun QP w k => @o43 QP w k)<|And.intro (qV_two (C:=C) (k:=k) fun QP w k => @o46 QP w k)<|And.intro (qV_two (C:=C) (k:=k) fun QP w k => @o47 QP w k)<|((by intros;apply qV_of;intros;apply o52<;>assumption):(∀ b o len cap ik (i:Nat),i < len→qV Pg C (Instr.indexAt 93 (.slice (some ⟨b,o,none⟩) len cap) (.int ik (i:Int))) k=k (.pointer (some ⟨b,o+i*2,none⟩))))
def OPQ1 {C:World→Prop} [ClassNe C] {k:Value→Prop}:=And.intro ((by intros;apply qV_of;intros;apply o74<;>assumption):(qV Pg C (Instr.build 26 #[]) k=k (.agg #[.string ByteArray.empty,.int .i64 0,.slice none 0 0,.slice none 0 0,.slice none 0 0])))<|And.intro ((by intros;apply qV_of;intros;apply o77<;>assumption):(∀ v0 v1:Value,v0.oneCell'=true→v1.oneCell'=true→qV Pg C (Instr.build 74 #[(0,v0),(1,v1)]) k=k (.agg #[v0,v1])))<|And.intro ((by intros;apply qV_of;intros;apply o99<;>assumption):(∀ q n,qV Pg C (Go.convert 3 5 (.int q n)) k=k (.int .u8 (IntKind.u8.wrap n))))<|((by intros;apply qV_of;intros;apply o102<;>assumption):(∀ q n,qV Pg C (Go.convert 5 3 (.int q n)) k=k (.int .i64 (IntKind.i64.wrap n))))
end
def PR:=And.intro @GEN<|And.intro @CTL<|And.intro @GENQ<|And.intro @o0<|And.intro @o1<|And.intro @o2<|And.intro @o3<|And.intro @o5<|And.intro @o6<|And.intro @o7<|And.intro @o8<|And.intro @o9<|And.intro @o10<|And.intro @o11<|And.intro @o12<|And.intro @o13<|And.intro @o14<|And.intro @o15<|And.intro @o16<|And.intro @o17<|And.intro @o18<|And.intro @o19<|And.intro @o20<|And.intro @o21<|And.intro @o22<|And.intro @o23<|And.intro @o24<|And.intro @o26<|And.intro @o27<|And.intro @o29<|And.intro @o32<|And.intro @o33<|And.intro @o34<|And.intro @o35<|And.intro @o36<|And.intro @o37<|And.intro @o38<|And.intro @o39<|And.intro @o40<|And.intro @o41<|And.intro @o42<|And.intro @o43<|And.intro @o44<|And.intro @o45<|And.intro @o47<|And.intro @o48<|And.intro @o49<|And.intro @o50<|And.intro @o51<|And.intro @o53<|And.intro @o54<|And.intro @o55<|And.intro @o56<|And.intro @o57<|And.intro @o58<|And.intro @o59<|And.intro @o61<|And.intro @o62<|And.intro @o63<|And.intro @o64<|And.intro @o65<|And.intro @o66<|And.intro @o67<|And.intro @o74<|And.intro @o75<|And.intro @o76<|And.intro @o77<|And.intro @o78<|And.intro @o79<|And.intro @o80<|And.intro @o84<|And.intro @o85<|And.intro @o86<|And.intro @o87<|And.intro @o88<|And.intro @o89<|And.intro @o90<|And.intro @o91<|And.intro @o92<|And.intro @o93<|And.intro @o94<|And.intro @o95<|And.intro @o96<|And.intro @o97<|And.intro @o99<|And.intro @o114<|And.intro @o121<|And.intro @o122<|And.intro @o123<|And.intro @OPU0<|And.intro @OPW0<|And.intro @OPW1<|And.intro @OPQ0<|And.intro @OPQ1<|And.intro @joinK_eq<|And.intro @op_rem <| @guard_undef
def QR:=And.intro @OPA0<|And.intro @dirty_eq<|And.intro @onCells_nil<|And.intro @onCells_some<|And.intro @onFree_nil<|And.intro @onFree_false<|And.intro @guard_or<|And.intro @guard_and<|And.intro @STD<|And.intro @heap_newE<|And.intro @heap_oldE<|And.intro @cell_newE<|And.intro @frozen_newE<|And.intro @set_newE<|And.intro @cell_old<|And.intro @wrap_succ<|And.intro @List.setIfInBounds_toArray.{0}<|And.intro @List.set_cons_zero.{0}<|And.intro @List.set_cons_succ.{0}<|And.intro @decide_true<|And.intro @decide_false<|And.intro @Option.isSome_some.{0}<|And.intro @Option.isSome_none.{0}<|And.intro @cell_set_map<|And.intro @cell_set_other<|And.intro @Option.map_some.{0,0}<|And.intro @List.getElem?_toArray.{0}<|And.intro @List.getElem?_cons_succ.{0}<|And.intro @List.getElem?_cons_zero.{0}<|And.intro @Nat.zero_add<|And.intro @World.size_alloc<|And.intro @World.size_setCell<|And.intro @World.size_drew<|And.intro @Bool.not_true<|And.intro @Bool.not_false<|And.intro @Bool.and_true<|And.intro @Bool.true_and<|And.intro @Bool.and_false<|And.intro @Bool.false_and<|And.intro @Bool.or_true<|And.intro @Bool.true_or<|And.intro @Bool.or_false <| @Bool.false_or
theorem SZ:type_of% (And.intro @World.size_alloc<|And.intro @World.size_setCell<|And.intro @World.size_drew<|And.intro @World.putObj_size <| @putW_size):=(And.intro @World.size_alloc<|And.intro @World.size_setCell<|And.intro @World.size_drew<|And.intro @World.putObj_size <| @putW_size)
theorem DI {p:Prop} (h:p:=by first | assumption | (simp only [ONE];done) | rfl | (simp only [SZ];done) | omega | (simp only [SZ] at *;omega)):p:=h
theorem ee {a b:World} (h:Ext a b:=by repeat' first | exact Ext.refl _ | assumption | apply Ext.alloc | apply Ext.wdrew | apply Ext.drew | (refine Ext.setCell ?_ (by first | omega | (simp only [SZ] at *;omega)) _) | (refine Ext.putObj ?_ (by first | omega | (simp only [SZ] at *;omega)) _) | (refine Ext.trans ?_ (by assumption))):Ext a b:=h
structure TermD where
 field:ByteArray
 factor:Int
 deriving DecidableEq
structure CaseD where
 low:Int
 high:Int
 of:ByteArray
 deriving DecidableEq
structure FieldD where
 name:ByteArray
 kind:Int
 bits:Int
 little:Bool
 loose:Bool
 low:Int
 high:Int
 base:Int
 terms:List TermD
 of:ByteArray
 tag:ByteArray
 fr:ByteArray
 cases:List CaseD
 check:Int
 key:Int
 deriving DecidableEq
structure MsgD where
 name:ByteArray
 fields:List FieldD
 deriving DecidableEq
structure DefD where
 name:ByteArray
 msgs:List MsgD
 start:ByteArray
 deriving DecidableEq
def EByte (_:World) (cs:List Value) (b:UInt8):Prop:=cs=[.int .u8 b.toNat]
def EBool (_:World) (cs:List Value) (b:Bool):Prop:=cs=[.bool b]
theorem keptByte:Kept EByte:=fun _ _ _ _ _ h=>h
def Tests {α:Type} (w0:World) (V:World→Value→α→Prop) (g:FuncId) (caps:Array Value) (p:α→Bool) (l:List α):Prop :=
 ∀ w v x,x∈l→Ext w0 w→V w v x→Ret Pg g (#[v]++caps) w fun r w'=>r = .bool (p x)∧Ext w w'
end Go.Proofs.YtcffhmapmaahnaaGreatDoor
namespace Go.Sw
section
variable {P:Program} {N:Nat} {ro:Option Nat} {QP:KP} {T:Env→List Deferred→World→Prop} {o:Oper} {rest:List Oper} {ρ:Env} {ds:List Deferred} {w:World}
theorem zm {v:Value} (h:denSeq P N ro QP T rest (put N ρ o.dst v) ds w) (hs:execOp (ev ρ) o=Sem.pure (.value v):=by exact rfl) (hd:isDefer o.op=false:=by exact rfl):denSeq P N ro QP T (o::rest) ρ ds w:=sim_move hd hs h
theorem zb {op:BinOp} {t ty:TypeId} {x y:Operand} {d:Nat} {t2:TypeId} {pos:String} {after:Array Edge} {g:Option (Nat×Bool)} {c:Bool} {a b:Value} {QP':List PanicEntry→World→Prop} {k:Value→World→Prop}
 (h:opV P (binS op t c a b) QP' w k) (hk:∀ v w',k v w'→denSeq P N ro QP T rest (put N ρ (some d) v) ds w') (hc:(isConst x||isConst y)=c:=by exact rfl) (h1:ev ρ x=a:=by exact rfl) (h2:ev ρ y=b:=by exact rfl) (hp:∀ ch w,QP' ch w→QP ch ρ ds w:=by exact fun _ _ h=>⟨rfl,h⟩) :
 denSeq P N ro QP T (⟨some d,.binOp op t x y t2,ty,pos,after,g⟩::rest) ρ ds w:=sim_bin h hc h1 h2 hp hk
theorem zt {S:List Nat} {J G:Env→World→Prop} (hT:∀ ρ' w,Fr S ρ ρ'→J ρ' w→G ρ' w) {ρ':Env} {w:World} (h:J ρ' w) (hf:Fr S ρ ρ':=by repeat (first | exact Fr.refl _ _ | refine Fr.put rfl ?_ | refine Fr.put_none ?_ | refine Fr.mix rfl ?_ | refine Fr.skipAll rfl ?_)):G ρ' w:=hT ρ' w hf h
end
theorem zr {P:Program} {N:Nat} {ro:Option Nat} {id:Nat} {l:List Oper} {Q:K} {QP:KP} {ρ:Env} {ds:List Deferred} {w:World} (h:denSeq P N ro QP (fun ρ ds w=>Q .normal ρ ds w) l ρ ds w) (hu:unguarded l=true:=by exact rfl):den P N ro (.region id l.toArray false) Q QP ρ ds w:=sim_region hu h
theorem zn:type_of% @sim_nil := @sim_nil
theorem zk:type_of% @sim_then := @sim_then
theorem zs:type_of% @sim_seq := @sim_seq
end Go.Sw
namespace Go.Sw
open Go.RowKit (Below)
structure LW (B:Nat) (w w':World):Prop where
 os:w'.os=w.os
 tape:w'.tape=w.tape
 output:w'.output=w.output
 size:w.heap.size≤w'.heap.size
 block:∀ b,b < w.heap.size→w'.heap[b]?=w.heap[b]?∨(B≤b∧((∃ r,w.heap[b]?=some (.loop r))∨∃ d,w.heap[b]?=some (.deferred d)))
theorem LW.mono {B B':Nat} {w w':World} (h:LW B w w') (hb:B'≤B):LW B' w w':=⟨h.os,h.tape,h.output,h.size,fun b hl=>(h.block b hl).imp_right fun h=>⟨by omega,h.2⟩⟩
theorem LW.of {B:Nat} {w w':World} (e:Ext w w'):LW B w w':=⟨e.os,e.tape,e.output,e.size,fun b hb => .inl (e.block b hb)⟩
theorem LW.loop {B l:Nat} {w:World} {r:Loop} (hb:B≤l) (hl:w.heap[l]?=some (.loop r)) (o:Obj):LW B w (w.putObj l o):=⟨rfl,rfl,rfl,by simp,fun b _=>by
 by_cases e:b=l
 · exact .inr ⟨by omega,.inl ⟨r,by rw [e];exact hl⟩⟩
 · exact .inl (World.putObj_heap_other e)⟩
theorem LW.mark {B l:Nat} {w:World} (hb:B≤l) (hl:MarkAt l w) (o:Obj):LW B w (w.putObj l o):=⟨rfl,rfl,rfl,by simp,fun b _=>by
 by_cases e:b=l
 · exact .inr ⟨by omega,.inr ⟨_,by rw [e];exact hl⟩⟩
 · exact .inl (World.putObj_heap_other e)⟩
def Lasts2 (B:Nat) (I:World→Prop):Prop:=∀ w w',LW B w w'→I w→I w'
theorem Lasts2.ext {B:Nat} {I:World→Prop} (h:Lasts2 B I) {w w':World} (hI:I w) (e:Ext w w'):I w':=h _ _ (.of e) hI
theorem Lasts2.loop {B l:Nat} {I:World→Prop} (h:Lasts2 B I) {w:World} {r:Loop} (hb:B≤l) (hI:I w) (hl:w.heap[l]?=some (.loop r)) (o:Obj):I (w.putObj l o):=h _ _ (.loop hb hl o) hI
theorem Lasts2.mark {B l:Nat} {I:World→Prop} (h:Lasts2 B I) {w:World} (hb:B≤l) (hI:I w) (hl:MarkAt l w) (o:Obj):I (w.putObj l o):=h _ _ (.mark hb hl o) hI
theorem Lasts2.busied {B l:Nat} {I:World→Prop} {w w':World} (h:Lasts2 B I) (hb:Busied l w w') (hl:B≤l) (hI:I w):I w':=by
 obtain ⟨r,hr,rfl⟩:=hb
 exact h.loop hl hI hr _
theorem Lasts2.mono {B B':Nat} {I:World→Prop} (h:Lasts2 B I) (hb:B≤B'):Lasts2 B' I:=fun _ _ hl=>h _ _ (hl.mono hb)
theorem Lasts2.and {B:Nat} {I J:World→Prop} (h:Lasts2 B I) (k:Lasts2 B J):Lasts2 B (fun w=>I w∧J w):=fun w w' hl hh=>⟨h _ _ hl hh.1,k _ _ hl hh.2⟩
theorem Lasts2.ex {B:Nat} {α:Sort _} {I:α→World→Prop} (h:∀ x,Lasts2 B (I x)):Lasts2 B (fun w=>∃ x,I x w):=fun w w' hl ⟨x,hx⟩=>⟨x,h x _ _ hl hx⟩
theorem Lasts2.const (B:Nat) (p:Prop):Lasts2 B (fun _=>p):=fun _ _ _ h=>h
theorem Lasts2.from {B:Nat} {w0:World} (hb:w0.heap.size≤B):Lasts2 B (Ext w0):=fun w w' hl e=>⟨hl.os.trans e.os,hl.tape.trans e.tape,hl.output.trans e.output,Nat.le_trans e.size hl.size,fun k hk=>by
 have:=e.size
 rcases hl.block k (by omega) with h | ⟨h,_⟩
 · rw [h];exact e.block k hk
 · omega⟩
theorem Lasts2.has (B:Nat) {b:Nat} {o:Obj} (h1:∀ r,o ≠ .loop r) (h2:∀ d,o ≠ .deferred d):Lasts2 B (fun w=>w.heap[b]?=some o):=fun w w' hl h=>by
 rcases hl.block b (Array.getElem?_eq_some_iff.1 h).1 with e | ⟨_,⟨r,e⟩ | ⟨d,e⟩⟩
 · rw [e];exact h
 · rw [h] at e;injection e with e;exact absurd e (h1 r)
 · rw [h] at e;injection e with e;exact absurd e (h2 d)
theorem Lasts2.low {B b:Nat} (hb:b < B) (o:Obj):Lasts2 B (fun w=>w.heap[b]?=some o):=fun w w' hl h=>by
 rcases hl.block b (Array.getElem?_eq_some_iff.1 h).1 with e | ⟨e,_⟩
 · rw [e];exact h
 · omega
def KR (B:Nat) (w w':World):Prop:=w.heap.size≤w'.heap.size∧(∀ (b:Nat) (r:Loop),w.heap[b]?=some (.loop r)→∃ st p,w'.heap[b]?=some (.loop { r with state:=st,pending:=p })) ∧
 (∀ (b:Nat),w.heap[b]?=some (.deferred (some []))→w'.heap[b]?=some (.deferred (some [])))∧∀ (b:Nat),B≤b→b < w.heap.size→(∀ r,w.heap[b]?≠some (.loop r))→w'.heap[b]?=w.heap[b]?
section
variable {B:Nat} {w w1 w2:World}
theorem KR.refl (B:Nat) (w:World):KR B w w:=⟨Nat.le_refl _,fun b r h=>⟨r.state,r.pending,h⟩,fun _ h=>h,fun _ _ _ _=>rfl⟩
theorem KR.of (e:Ext w w1):KR B w w1:=⟨e.size,fun b r h=>⟨r.state,r.pending,e.obj h⟩,fun _ h=>e.obj h,fun b _ hl _=>e.block b hl⟩
theorem KR.setCell (h:KR B w w1) (b o:Nat) (v:Value) (hb:b < B∨w.heap.size≤b):KR B w (w1.setCell ⟨b,o,none⟩ v):=⟨by simpa using h.1,fun b r hb=>by
 obtain ⟨st,p,h1⟩:=h.2.1 b r hb
 exact ⟨st,p,(KeepsOthers.setCell w1 _ v).same _ _ h1 rfl⟩,fun b hb=>(KeepsOthers.setCell w1 _ v).same _ _ (h.2.2.1 b hb) rfl,fun b' hb' hl hr=>by
 rw [heap_setE (by omega)];exact h.2.2.2 b' hb' hl hr⟩
theorem KR.turn {l:Nat} {r:Loop} (hl:w.heap[l]?=some (.loop r)) (st:LoopState) (p:Option Code):KR B w (w.putObj l (.loop { r with state:=st,pending:=p })):=⟨by simp,fun b r' hb=>by
 by_cases e:b=l
 · subst e
   rw [hl] at hb;injection hb with hb;injection hb with hb;subst hb
   exact ⟨st,p,World.putObj_heap_same (Array.getElem?_eq_some_iff.1 hl).1⟩
 · rw [World.putObj_heap_other e];exact ⟨r'.state,r'.pending,hb⟩,fun b hb=>by
 by_cases e:b=l
 · subst e;rw [hl] at hb;cases hb
 · rw [World.putObj_heap_other e];exact hb,fun b _ _ hr=>by
 by_cases e:b=l
 · subst e;exact absurd hl (hr _)
 · rw [World.putObj_heap_other e]⟩
theorem KR.busied {l:Nat} (h:Busied l w w1):KR B w w1:=by
 obtain ⟨r,hr,rfl⟩:=h
 exact KR.turn hr .busy r.pending
end
def Firm (B:Nat) (R:World→Prop):Prop:=∀ w w',KR B w w'→R w→R w'
theorem RecAt.firm (rec:Loop) (B b:Nat):Firm B (RecAt rec b):=fun w w' h ⟨h1,st,p,h2⟩=>by
 obtain ⟨st',p',h3⟩:=h.2.1 _ _ h2
 exact ⟨h.2.2.1 _ h1,st',p',h3⟩
theorem Firm.and {B:Nat} {R S:World→Prop} (h:Firm B R) (k:Firm B S):Firm B (fun w=>R w∧S w):=fun w w' e hh=>⟨h _ _ e hh.1,k _ _ e hh.2⟩
theorem Firm.mono {B B':Nat} {R:World→Prop} (h:Firm B R) (hb:B'≤B):Firm B' R:=fun w w' e=>h w w' ⟨e.1,e.2.1,e.2.2.1,fun b hl=>e.2.2.2 b (Nat.le_trans hb hl)⟩
theorem Firm.has {B b:Nat} {o:Obj} (hb:B≤b) (ho:∀ r,o ≠ .loop r):Firm B (fun w=>w.heap[b]?=some o):=fun w w' h k=>by
 show w'.heap[b]?=some o
 rw [h.2.2.2 b hb (Array.getElem?_eq_some_iff.1 k).1 (fun r e=>by rw [k] at e;injection e with e;exact ho r e)];exact k
def SeqIt2 (P:Program) (f:FuncId) (caps:Array Value) (n:Nat) (xs ys:Nat→Value) (FP:World→Prop):Prop :=
 ∀ (yv:Value) (J:Nat→World→Prop) (Jx:World→Prop) (Jp:List PanicEntry→World→Prop) (w:World),yv.oneCell'=true→(∀ k w,J k w→FP w)→(∀ k,Lasts2 w.heap.size (J k))→Lasts2 w.heap.size Jx→(∀ ch,Lasts2 w.heap.size (Jp ch)) →
  (∀ k,k < n→∀ Rk,Firm w.heap.size Rk→∀ w,J k w→Rk w→callV P yv #[xs k,ys k] (fun ch w'=>Rk w'∧Jp ch w') w (fun v w'=>Rk w'∧((v = .bool true∧J (k+1) w')∨(v = .bool false∧Jx w'))))→J 0 w →
  Calls P f (#[yv]++caps) w (fun e w'=>match e with
   | .returned _=>J n w'∨Jx w'
   | .panicked ch=>Jp ch w'
   | .outgrown=>False)
def rangeN2 (P:Program) (fv:Value) (ds:List Deferred) (body:Nat→Value→Value→World→(World→Prop)→(Nat→World→Prop)→(List PanicEntry→World→Prop)→Prop) (QP:List PanicEntry→List Deferred→World→Prop) (w:World)
 (k:List Deferred→World→Prop) (kx:List (List Deferred→World→Prop)):Prop :=
 ∃ (f:FuncId) (caps:Array Value) (n:Nat) (xs ys:Nat→Value) (FP:World→Prop) (I:Nat→World→Prop) (Ix:Nat→World→Prop) (Ip:List PanicEntry→World→Prop),
  fv = .func (.func f) #[] caps∧Callable P f∧SeqIt2 P f caps n xs ys FP∧I 0 w∧(∀ k w,I k w→FP w)∧(∀ k,Lasts2 w.heap.size (I k))∧(∀ c,Lasts2 w.heap.size (Ix c))∧(∀ ch,Lasts2 w.heap.size (Ip ch)) ∧
  (∀ (Rk:World→Prop),Firm (w.heap.size+1+1) Rk→∀ (j:Nat) (w':World),j < n→I j w'→Rk w'→w.heap.size+1 < w'.heap.size→ReadyAt (w.heap.size+1) w' →
   body (w.heap.size+1) (xs j) (ys j) w' (fun w''=>Rk w''∧I (j+1) w'') (fun c w''=>Rk w''∧Ix c w'') (fun ch w''=>Rk w''∧Ip ch w'')) ∧
  (∀ w',I n w'→MarkAt w.heap.size w'→k (mark w.heap.size::ds) w') ∧
  (∀ c w',Ix c w'→MarkAt w.heap.size w'→nthK kx c (mark w.heap.size::ds) w') ∧
  (∀ ch w',Ip ch w'→MarkAt w.heap.size w'→QP ch (mark w.heap.size::ds) w')
section
variable {P:Program} {N:Nat}
theorem sim_range2 {g:Operand} {p p2:Nat} {asg body:Code} {Q:K} {QP:KP} {ρ:Env} {ds:List Deferred} {w:World} {fv:Value} {nbody:Nat→Value→Value→World→(World→Prop)→(Nat→World→Prop)→(List PanicEntry→World→Prop)→Prop} {QPn:List PanicEntry→List Deferred→World→Prop}
 {k:List Deferred→World→Prop} {kx:List (List Deferred→World→Prop)} (js:List Code) (h:rangeN2 P fv ds nbody QPn w k kx) (hg:ev ρ g=fv)
 (hbody:∀ l x y w K X QPr,nbody l x y w K X QPr→den P N (some l) asg (thenK (fun ρ' ds' w'=>ds'=[]∧busyK l w' (fun w''=>den P N (some l) body (roundK js K X) (roundQP QPr) ρ' [] w'')) (fun _ _ _ _=>False)) (fun _ _ _ _=>False) (put N (put N ρ (some p) x) (some p2) y) [] w)
 (hk:∀ ds w,k ds w→Q .normal ρ ds w) (hx:∀ c ds w,nthK kx c ds w→∃ code,js[c]?=some code∧((code = .ret∧Q .ret ρ ds w)∨(∃ id,code = .exit id∧Q (.exit id) ρ ds w))) (hp:∀ ch ds w,QPn ch ds w→QP ch ρ ds w) :
 den P N none (.rangeFunc g #[p,p2] asg body) Q QP ρ ds w:=by
 intro a ha hds
 subst hds
 obtain ⟨f,caps,n,xs,ys,FP,I,Ix,Ip,hfv,hcal,hseq,h0,hFP,hL,hLx,hLp,hround,hend,hjump,hpan⟩:=h
 refine wpV_rangeFunc fun fn hfn=>?_
 obtain ⟨rec,hrec⟩:∃ rec:Loop,rec={ state := .ready,pending:=none,fn,tmps:=a.tmps,params := #[p,p2],assign:=asg,body,defers:=w.heap.size }:=⟨_,rfl⟩
 obtain ⟨W1,hW1⟩:∃ W1,(w.alloc (.deferred (some []))).alloc (.loop rec)=W1:=⟨_,rfl⟩
 have hE1:Ext w W1:=by rw [← hW1];exact ((Ext.refl w).alloc _).alloc _
 have hW1s:W1.heap.size=w.heap.size+1+1:=by rw [← hW1];simp
 have hL1:W1.heap[w.heap.size+1]?=some (.loop rec):=by
  rw [← hW1];have:=World.alloc_heap_new (w.alloc (.deferred (some []))) (.loop rec);rwa [World.size_alloc] at this
 have hK1:MarkAt w.heap.size W1:=by
  rw [← hW1];exact MarkAt.alloc (World.alloc_heap_new w _) _
 have hev:a.eval g=fv:=by rw [ha.eval];exact hg
 refine ⟨w.heap.size+1,[mark w.heap.size],W1,{ target := .fn (.func f) caps,args := #[.func (.yield (w.heap.size+1)) #[] #[]] },W1,f,#[.func (.yield (w.heap.size+1)) #[] #[]]++caps,W1,?_,?_,?_,?_⟩
 · rw [← hW1,hrec];exact run_enterLoop_outer _ _ _ _ _
 · simp only [resolve,hev,hfv]
   simp [go_sem]
 · simp only [invoke]
   exact callFunc_run hcal _ _
 · refine Calls.mono (hseq (.func (.yield (w.heap.size+1)) #[] #[]) (fun j w'=>I j w'∧MarkAt w.heap.size w'∧∃ p,w'.heap[w.heap.size+1]?=some (.loop { rec with state := .ready,pending:=p })∧p=none)
    (fun w'=>MarkAt w.heap.size w'∧∃ c code,Ix c w'∧js[c]?=some code∧w'.heap[w.heap.size+1]?=some (.loop { rec with state := .done,pending:=some code }))
    (fun ch w'=>MarkAt w.heap.size w'∧Ip ch w') W1 rfl (fun j w' hj=>hFP j w' hj.1) (fun j=>((hL j).mono (by omega)).and ((Lasts2.low (by omega) _).and (.ex fun q=>(Lasts2.low (by omega) _).and (.const _ _))))
    ((Lasts2.low (by omega) _).and (.ex fun c => .ex fun code=>((hLx c).mono (by omega)).and ((Lasts2.const _ _).and (Lasts2.low (by omega) _)))) (fun ch=>(Lasts2.low (by omega) _).and ((hLp ch).mono (by omega))) ?_ ⟨(hL 0).ext h0 hE1,hK1,none,by rw [hL1,hrec],rfl⟩) ?_
   · rintro j hj Rk hF w' ⟨hi,hm,q,hl,rfl⟩ hR
     have hlt:w.heap.size+1 < w'.heap.size:=(Array.getElem?_eq_some_iff.1 hl).1
     have hy:=run_yield (P:=P) (args := #[xs j,ys j]) hl (by rw [hrec];rfl)
     show onNext P _ _ _ _
     have hcs:callS (.func (.yield (w.heap.size+1)) #[] #[]) #[xs j,ys j]=Instr.yield (w.heap.size+1) #[xs j,ys j]:=by
      simp [callS,Deferred.ofValue,invoke,go_sem,bind,pure,Sem.bind]
     rw [hcs,hy]
     have key:∀ R,wpV (some (w.heap.size+1)) P asg (Exit.then (fun a₁ w₁=>∃ w₂,(Instr.beginRound (w.heap.size+1)).run P w₁ = .ok () w₂∧wpV (some (w.heap.size+1)) P body (endV P (w.heap.size+1) R) a₁ w₂) (fun _ _ _=>False)) { tmps:=((#[p,p2].zip #[xs j,ys j]).foldl (fun tmps (t,a)=>tmps.setIfInBounds t a) a.tmps),defers:=[] } w' →
      RoundV P (w.heap.size+1) rec.fn ((rec.params.zip #[xs j,ys j]).foldl (fun tmps (t,a)=>tmps.setIfInBounds t a) rec.tmps) rec.assign rec.body w' R:=by
      intro R h;rw [hrec];exact roundV_of_wpV hfn h
     refine key _ ?_
     have hb:=hbody _ _ _ _ _ _ _ (hround _ ((RecAt.firm rec _ w.heap.size).and (hW1s ▸ hF)) j w' hj hi ⟨⟨hm,_,_,hl⟩,hR⟩ hlt ⟨_,hl,rfl⟩)
     have hagr:Agrees N ({ tmps:=((#[p,p2].zip #[xs j,ys j]).foldl (fun tmps (t,a)=>tmps.setIfInBounds t a) a.tmps),defers:=[] }:Act) (put N (put N ρ (some p) (xs j)) (some p2) (ys j)):=by
      have:=((Agrees.defers ha []).put (some p) (xs j)).put (some p2) (ys j)
      simpa [Act.put] using this
     refine wpV_mono (den_sound asg _ _ _ _ _ hagr hb) ?_
     intro e a1 w1 hl1
     cases e with
     | panic ch=>obtain ⟨_,_,hf⟩:=hl1;exact hf.elim
     | outgrown=>exact hl1
     | exit id=>obtain ⟨_,_,_,hf⟩:=hl1;exact hf.elim
     | goto l=>obtain ⟨_,_,_,hf⟩:=hl1;exact hf.elim
     | ret=>obtain ⟨_,_,_,hf⟩:=hl1;exact hf.elim
     | normal =>
      obtain ⟨ρ1,ha1,_,hd1,hbz⟩:=hl1
      obtain ⟨⟨r,hr1,hr2⟩,hbz⟩:=hbz
      refine ⟨_,run_beginRound hr1 hr2,?_⟩
      rw [show a1={ a1 with defers:=[] } by rw [← hd1]]
      refine wpV_mono (den_sound body _ _ _ _ _ (Agrees.defers ha1 []) (hbz _ ⟨_,hr1,rfl⟩)) ?_
      have fin:∀ (jump:Option Code) (w2:World),RecAt rec w.heap.size w2→(Instr.endRound (w.heap.size+1) jump).run P w2 = .ok (.bool jump.isNone) (w2.putObj (w.heap.size+1) (.loop { rec with state:=if jump.isNone then .ready else .done,pending:=jump })) ∧
       (w2.putObj (w.heap.size+1) (.loop { rec with state:=if jump.isNone then .ready else .done,pending:=jump })).heap[w.heap.size+1]?=some (.loop { rec with state:=if jump.isNone then .ready else .done,pending:=jump }) ∧
       MarkAt w.heap.size (w2.putObj (w.heap.size+1) (.loop { rec with state:=if jump.isNone then .ready else .done,pending:=jump })):=by
       rintro jump w2 ⟨hm2,st,q,hq⟩
       refine ⟨by have:=run_endRound (P:=P) jump hq;exact this,World.putObj_heap_same (Array.getElem?_eq_some_iff.1 hq).1,?_⟩
       unfold MarkAt
       rw [World.putObj_heap_other (by omega)];exact hm2
      intro e a2 w2 hl2
      cases e with
      | normal =>
       obtain ⟨_,_,_,_,⟨hrec2,hR2⟩,hi2⟩:=hl2
       obtain ⟨f1,f2,f3⟩:=fin none w2 hrec2
       obtain ⟨_,st,q,hq⟩:=hrec2
       exact ⟨_,_,f1,hF _ _ (KR.turn hq _ _) hR2,.inl ⟨rfl,(hL _).loop (Nat.le_succ _) hi2 hq _,f3,none,f2,rfl⟩⟩
      | ret =>
       obtain ⟨_,_,_,_,c,hc,⟨hrec2,hR2⟩,hi2⟩:=hl2
       obtain ⟨f1,f2,f3⟩:=fin (some .ret) w2 hrec2
       obtain ⟨_,st,q,hq⟩:=hrec2
       exact ⟨_,_,f1,hF _ _ (KR.turn hq _ _) hR2,.inr ⟨rfl,f3,c,_,(hLx _).loop (Nat.le_succ _) hi2 hq _,hc,f2⟩⟩
      | exit id =>
       obtain ⟨_,_,_,_,c,hc,⟨hrec2,hR2⟩,hi2⟩:=hl2
       obtain ⟨f1,f2,f3⟩:=fin (some (.exit id)) w2 hrec2
       obtain ⟨_,st,q,hq⟩:=hrec2
       exact ⟨_,_,f1,hF _ _ (KR.turn hq _ _) hR2,.inr ⟨rfl,f3,c,_,(hLx _).loop (Nat.le_succ _) hi2 hq _,hc,f2⟩⟩
      | panic ch =>
       obtain ⟨_,_,hd2,⟨hrec2,hR2⟩,hi2⟩:=hl2
       exact ⟨hd2,hR2,hrec2.1,hi2⟩
      | goto l=>obtain ⟨_,_,_,hf⟩:=hl2;exact hf.elim
      | outgrown=>exact hl2
   · have hagr:Agrees N ({ a with defers:=[mark w.heap.size]++a.defers }:Act) ρ:=ha
     have exh:∀ (st:LoopState) (q:Option Code) (w':World),w'.heap[w.heap.size+1]?=some (.loop { rec with state:=st,pending:=q })→st ≠ .busy→MarkAt w.heap.size w' →
      (Instr.endLoop (w.heap.size+1)).run P w' = .ok q (w'.putObj (w.heap.size+1) (.loop { rec with state := .exhausted,pending:=q }))∧MarkAt w.heap.size (w'.putObj (w.heap.size+1) (.loop { rec with state := .exhausted,pending:=q })):=by
      intro st q w' hq hne hm
      refine ⟨by have:=run_endLoop (P:=P) hq hne;exact this,?_⟩
      unfold MarkAt
      rw [World.putObj_heap_other (by omega)];exact hm
     rintro e w' he
     cases e with
     | returned v =>
      rcases he with ⟨hi,hm,q,hl,rfl⟩ | ⟨hm,c,code,hi,hc,hl⟩
      · obtain ⟨e1,e2⟩:=exh _ _ w' hl (by simp) hm
        exact ⟨none,_,e1,hagr,hk _ _ (hend _ ((hL _).loop (Nat.le_succ _) hi hl _) e2)⟩
      · obtain ⟨e1,e2⟩:=exh _ _ w' hl (by simp) hm
        refine ⟨some code,_,e1,?_⟩
        obtain ⟨code',hc',hden⟩:=hx c _ _ (hjump c _ ((hLx _).loop (Nat.le_succ _) hi hl _) e2)
        rw [hc] at hc';cases hc'
        rcases hden with ⟨rfl,hq⟩ | ⟨id,rfl,hq⟩
        · exact wpV_ret ⟨hagr,hq⟩
        · exact wpV_exit ⟨hagr,hq⟩
     | panicked ch=>exact ⟨hagr,hp _ _ _ (hpan ch _ he.2 he.1)⟩
     | outgrown=>exact he.elim
end
section
variable {P:Program} {QP:List PanicEntry→World→Prop} {w:World} {k:Value→World→Prop}
theorem op_quo (t:TypeId) (c:Bool) (kd:IntKind) (a b:Int) (hb:b≠0):opV P (binS .quo t c (.int kd a) (.int kd b)) QP w k=k (.int kd (kd.wrap (a.tdiv b))) w:=opV_ok (by
 rw [run_bin_int _ _ _ _ _ _ rfl]
 show Sem.run P (Op.intDiv .quo kd a b) w=_
 unfold Op.intDiv
 rw [if_neg hb];rfl)
end
end Go.Sw
namespace Go.Sw
section
variable {P:Program} {N:Nat} {ro:Option Nat} {QP:KP} {T:Env→List Deferred→World→Prop} {o:Oper} {rest:List Oper} {ρ:Env} {ds:List Deferred} {w:World} {ty:TypeId} {dst:Option Nat} {d:Nat} {pos:String} {after:Array Edge} {g:Option (Nat×Bool)} {QP':List PanicEntry→World→Prop} {k:Value→World→Prop}
theorem yv {s:Sem Value} (h:opV P s QP' w k) (hk:∀ v w,k v w→denSeq P N ro QP T rest (put N ρ o.dst v) ds w) (hs:execOp (ev ρ) o=(do pure (.value (← s))):=by exact rfl) (hd:isDefer o.op=false:=by exact rfl) (hp:∀ ch w,QP' ch w→QP ch ρ ds w:=by first | exact fun _ _ h=>⟨rfl,h⟩ | exact fun _ _ h=>outQ_of rfl h | exact fun _ _ h _ _=>⟨rfl,h⟩ | exact fun _ _ h=>outQ_ofD rfl rfl h | exact fun _ _ h=>h):denSeq P N ro QP T (o::rest) ρ ds w:=sim_val h hd hs hp hk
theorem yu {s:Sem Unit} {k:World→Prop} (h:opU P s QP' w k) (hk:∀ w,k w→denSeq P N ro QP T rest (put N ρ o.dst undef) ds w) (hs:execOp (ev ρ) o=(do s;pure .skip):=by exact rfl) (hd:isDefer o.op=false:=by exact rfl) (hp:∀ ch w,QP' ch w→QP ch ρ ds w:=by first | exact fun _ _ h=>⟨rfl,h⟩ | exact fun _ _ h=>outQ_of rfl h | exact fun _ _ h _ _=>⟨rfl,h⟩ | exact fun _ _ h=>outQ_ofD rfl rfl h | exact fun _ _ h=>h):denSeq P N ro QP T (o::rest) ρ ds w:=sim_unit h hd hs hp hk
theorem yN {s:Sem Next} (h:opN P s QP' w k) (hk:∀ v w,k v w→denSeq P N ro QP T rest (put N ρ o.dst v) ds w) (hs:execOp (ev ρ) o=s:=by exact rfl) (hd:isDefer o.op=false:=by exact rfl) (hp:∀ ch w,QP' ch w→QP ch ρ ds w:=by first | exact fun _ _ h=>⟨rfl,h⟩ | exact fun _ _ h=>outQ_of rfl h | exact fun _ _ h _ _=>⟨rfl,h⟩ | exact fun _ _ h=>outQ_ofD rfl rfl h | exact fun _ _ h=>h):denSeq P N ro QP T (o::rest) ρ ds w:=sim_next h hd hs hp hk
theorem yb {op:BinOp} {t:TypeId} {x y:Operand} {t2:TypeId} {c:Bool} {a b:Value} (h:opV P (binS op t c a b) QP' w k) (hk:∀ v w',k v w'→denSeq P N ro QP T rest (put N ρ (some d) v) ds w') (hc:(isConst x||isConst y)=c:=by exact rfl) (h1:ev ρ x=a:=by exact rfl) (h2:ev ρ y=b:=by exact rfl) (hp:∀ ch w,QP' ch w→QP ch ρ ds w:=by first | exact fun _ _ h=>⟨rfl,h⟩ | exact fun _ _ h=>outQ_of rfl h | exact fun _ _ h _ _=>⟨rfl,h⟩ | exact fun _ _ h=>outQ_ofD rfl rfl h | exact fun _ _ h=>h) :
 denSeq P N ro QP T (⟨some d,.binOp op t x y t2,ty,pos,after,g⟩::rest) ρ ds w:=sim_bin h hc h1 h2 hp hk
theorem yc {f:FuncId} {l:List Operand} {ats:Array TypeId} {args:List Value} (h:callK P f args.toArray QP' w k) (hf:Callable P f) (hk:∀ v w',k v w'→denSeq P N ro QP T rest (put N ρ dst v) ds w') (h2:l.map (ev ρ)=args:=by exact rfl) (hp:∀ ch w,QP' ch w→QP ch ρ ds w:=by first | exact fun _ _ h=>⟨rfl,h⟩ | exact fun _ _ h=>outQ_of rfl h | exact fun _ _ h _ _=>⟨rfl,h⟩ | exact fun _ _ h=>outQ_ofD rfl rfl h | exact fun _ _ h=>h) :
 denSeq P N ro QP T (⟨dst,.call ⟨.value (.func f),l.toArray,ats⟩,ty,pos,after,g⟩::rest) ρ ds w:=sim_call h hf h2 hp hk
theorem yV {fo:Operand} {l:List Operand} {ats:Array TypeId} {fv:Value} {args:List Value} (h:callV P fv args.toArray QP' w k) (hk:∀ v w',k v w'→denSeq P N ro QP T rest (put N ρ dst v) ds w') (h1:ev ρ fo=fv:=by exact rfl) (h2:l.map (ev ρ)=args:=by exact rfl) (hp:∀ ch w,QP' ch w→QP ch ρ ds w:=by first | exact fun _ _ h=>⟨rfl,h⟩ | exact fun _ _ h=>outQ_of rfl h | exact fun _ _ h _ _=>⟨rfl,h⟩ | exact fun _ _ h=>outQ_ofD rfl rfl h | exact fun _ _ h=>h) :
 denSeq P N ro QP T (⟨dst,.call ⟨.value fo,l.toArray,ats⟩,ty,pos,after,g⟩::rest) ρ ds w:=sim_callV h h1 h2 hp hk
theorem yx {b:Builtin} {l:List Operand} {ats:Array TypeId} {s:Sem Value} (h:opV P s QP' w k) (hk:∀ v w',k v w'→denSeq P N ro QP T rest (put N ρ (some d) v) ds w') (hs:builtin b ats ty ((l.map fun | .const _=>true | _=>false).toArray) (l.map (ev ρ)).toArray=(do pure (.value (← s))):=by exact rfl) (hp:∀ ch w,QP' ch w→QP ch ρ ds w:=by first | exact fun _ _ h=>⟨rfl,h⟩ | exact fun _ _ h=>outQ_of rfl h | exact fun _ _ h _ _=>⟨rfl,h⟩ | exact fun _ _ h=>outQ_ofD rfl rfl h | exact fun _ _ h=>h) :
 denSeq P N ro QP T (⟨some d,.call ⟨.builtin b,l.toArray,ats⟩,ty,pos,after,g⟩::rest) ρ ds w:=sim_builtin h hs hp hk
theorem yB {t:TypeId} {ps:List (Nat×Operand)} {vs:List (Nat×Value)} (h:opV P (Instr.build t vs.toArray) QP' w k) (hk:∀ v w',k v w'→denSeq P N ro QP T rest (put N ρ (some d) v) ds w') (h2:(ps.map fun (i,x)=>(i,ev ρ x))=vs:=by exact rfl) (hp:∀ ch w,QP' ch w→QP ch ρ ds w:=by first | exact fun _ _ h=>⟨rfl,h⟩ | exact fun _ _ h=>outQ_of rfl h | exact fun _ _ h _ _=>⟨rfl,h⟩ | exact fun _ _ h=>outQ_ofD rfl rfl h | exact fun _ _ h=>h) :
 denSeq P N ro QP T (⟨some d,.build t ps.toArray,ty,pos,after,g⟩::rest) ρ ds w:=sim_build h h2 hp hk
theorem yS {t:TypeId} {n:Nat} {ps:List (Nat×Operand)} {vs:List (Nat×Value)} (h:opV P (Instr.buildSlice t n vs.toArray) QP' w k) (hk:∀ v w',k v w'→denSeq P N ro QP T rest (put N ρ (some d) v) ds w') (h2:(ps.map fun (i,x)=>(i,ev ρ x))=vs:=by exact rfl) (hp:∀ ch w,QP' ch w→QP ch ρ ds w:=by first | exact fun _ _ h=>⟨rfl,h⟩ | exact fun _ _ h=>outQ_of rfl h | exact fun _ _ h _ _=>⟨rfl,h⟩ | exact fun _ _ h=>outQ_ofD rfl rfl h | exact fun _ _ h=>h) :
 denSeq P N ro QP T (⟨some d,.buildSlice t n ps.toArray,ty,pos,after,g⟩::rest) ρ ds w:=sim_buildSlice h h2 hp hk
theorem yF {fn:Fn} {fs cs:List Operand} {vf vs:List Value} (h:opV P (Instr.makeFunc fn vf.toArray vs.toArray) QP' w k) (hk:∀ v w',k v w'→denSeq P N ro QP T rest (put N ρ (some d) v) ds w') (h1:fs.map (ev ρ)=vf:=by exact rfl) (h2:cs.map (ev ρ)=vs:=by exact rfl) (hp:∀ ch w,QP' ch w→QP ch ρ ds w:=by first | exact fun _ _ h=>⟨rfl,h⟩ | exact fun _ _ h=>outQ_of rfl h | exact fun _ _ h _ _=>⟨rfl,h⟩ | exact fun _ _ h=>outQ_ofD rfl rfl h | exact fun _ _ h=>h) :
 denSeq P N ro QP T (⟨some d,.makeFunc fn fs.toArray cs.toArray,ty,pos,after,g⟩::rest) ρ ds w:=sim_makeFunc h h1 h2 hp hk
theorem yp {c a b:Operand} {vc va vb:Value} {k:Value→Prop} (h:pickK vc va vb k) (hk:∀ v,k v→denSeq P N ro QP T rest (put N ρ (some d) v) ds w) (h1:ev ρ c=vc:=by exact rfl) (h2:ev ρ a=va:=by exact rfl) (h3:ev ρ b=vb:=by exact rfl):denSeq P N ro QP T (⟨some d,.pick c a b,ty,pos,after,g⟩::rest) ρ ds w:=sim_pick h h1 h2 h3 hk
theorem yt {S:List Nat} {J G:Env→World→Prop} {C:World→Prop} (hT:∀ ρ' w,Fr S ρ ρ'→C w→J ρ' w→G ρ' w) {ρ':Env} {w:World} (hC:C w) (h:J ρ' w) (hf:Fr S ρ ρ':=by repeat (first | exact Fr.refl _ _ | refine Fr.put rfl ?_ | refine Fr.put_none ?_ | refine Fr.mix rfl ?_ | refine Fr.skipAll rfl ?_)):G ρ' w:=hT ρ' w hf hC h
end
section
variable {P:Program} {N:Nat} {ro:Option Nat} {ops:Array Oper} {Q:Env→List Deferred→World→Prop} {QP0:List PanicEntry→List Deferred→World→Prop} {QP:KP} {C:World→Prop} {fuel:Nat} {done:List Nat} {o:Oper} {ρ:Env} {ds:List Deferred} {w:World}
theorem ye (i:Nat) {k:Value→Prop} (hC:C w) {s:Sem Value} (h:qV P C s k) (hk:∀ v,k v→denD P N ro ops Q (fun ch _ ds w=>QP0 ch ds w) C fuel (i::done) (put N ρ o.dst v) ds w) (hi:ops[i]?=some o:=by exact rfl) (hr:(readyL ops done).contains i=true:=by kernel_rfl) (hf:freeB ops done i=true:=by kernel_rfl) (hg:∀ p q,guardO ops o ρ p q=p:=by first | exact fun _ _=>rfl | exact fun _ _=>guardP_true (by assumption)) (hd:isDefer o.op=false:=by exact rfl) (hs:∀ v,(∀ w,C w→s.run P w = .ok v w)→∀ w,C w→(execOp (ev ρ) o).run P w = .ok (.value v) w:=by first | exact fun _ h=>qV_run rfl h | exact fun _ h=>qV_bin rfl rfl rfl h | exact fun _ h=>qV_builtin rfl h | exact fun _ h=>qV_build rfl h | exact fun _ h=>qV_makeFunc rfl rfl h) :
 denD P N ro ops Q (fun ch _ ds w=>QP0 ch ds w) C (fuel+1) done ρ ds w:=let ⟨v,hv,hkv⟩:=h;sim_dsilent i hC hi hr hf hg hd (hs v hv) (hk v hkv)
theorem yn (i:Nat) {k:Value→Prop} (hC:C w) {s:Sem Next} (h:qN P C s k) (hk:∀ v,k v→denD P N ro ops Q (fun ch _ ds w=>QP0 ch ds w) C fuel (i::done) (put N ρ o.dst v) ds w) (hi:ops[i]?=some o:=by exact rfl) (hr:(readyL ops done).contains i=true:=by kernel_rfl) (hf:freeB ops done i=true:=by kernel_rfl) (hg:∀ p q,guardO ops o ρ p q=p:=by first | exact fun _ _=>rfl | exact fun _ _=>guardP_true (by assumption)) (hd:isDefer o.op=false:=by exact rfl) (hs:execOp (ev ρ) o=s:=by exact rfl) :
 denD P N ro ops Q (fun ch _ ds w=>QP0 ch ds w) C (fuel+1) done ρ ds w:=let ⟨v,hv,hkv⟩:=h;sim_dsilent i hC hi hr hf hg hd (qN_run hs hv) (hk v hkv)
theorem yw (i:Nat) {v:Value} (hC:C w) (h:denD P N ro ops Q (fun ch _ ds w=>QP0 ch ds w) C fuel (i::done) (put N ρ o.dst v) ds w) (hi:ops[i]?=some o:=by exact rfl) (hr:(readyL ops done).contains i=true:=by kernel_rfl) (hf:freeB ops done i=true:=by kernel_rfl) (hg:∀ p q,guardO ops o ρ p q=p:=by first | exact fun _ _=>rfl | exact fun _ _=>guardP_true (by assumption)) (hd:isDefer o.op=false:=by exact rfl) (hs:execOp (ev ρ) o=Sem.pure (.value v):=by exact rfl) :
 denD P N ro ops Q (fun ch _ ds w=>QP0 ch ds w) C (fuel+1) done ρ ds w:=sim_dsilent i hC hi hr hf hg hd (move_run hs) h
theorem yi (i:Nat) (hC:C w) (h:denD P N ro ops Q (fun ch _ ds w=>QP0 ch ds w) C fuel (i::done) (put N ρ o.dst undef) ds w) (hi:ops[i]?=some o:=by exact rfl) (hr:(readyL ops done).contains i=true:=by kernel_rfl) (hf:freeB ops done i=true:=by kernel_rfl) (hg:∀ p q,guardO ops o ρ p q=q:=by exact fun _ _=>guardP_false (by assumption)) :
 denD P N ro ops Q (fun ch _ ds w=>QP0 ch ds w) C (fuel+1) done ρ ds w:=sim_dskip i hC hi hr hf hg h
theorem yP (i:Nat) {c a b:Operand} {d:Nat} {ty:TypeId} {pos:String} {after:Array Edge} {g:Option (Nat×Bool)} {vc va vb:Value} {k:Value→Prop} (hC:C w) (h:pickK vc va vb k) (hk:∀ v,k v→denD P N ro ops Q (fun ch _ ds w=>QP0 ch ds w) C fuel (i::done) (put N ρ (some d) v) ds w) (hi:ops[i]?=some ⟨some d,.pick c a b,ty,pos,after,g⟩:=by exact rfl) (hr:(readyL ops done).contains i=true:=by kernel_rfl) (hf:freeB ops done i=true:=by kernel_rfl) (hg:∀ p q,guardO ops ⟨some d,.pick c a b,ty,pos,after,g⟩ ρ p q=p:=by first | exact fun _ _=>rfl | exact fun _ _=>guardP_true (by assumption)) (h1:ev ρ c=vc:=by exact rfl) (h2:ev ρ a=va:=by exact rfl) (h3:ev ρ b=vb:=by exact rfl) :
 denD P N ro ops Q (fun ch _ ds w=>QP0 ch ds w) C (fuel+1) done ρ ds w:=by
 obtain ⟨t,ht,h⟩:=pickK_elim h
 exact sim_dsilent i hC hi hr hf hg rfl (pick_run (h1.trans ht) h2 h3) (hk _ h)
theorem yo (i:Nat) (h:denSeq P N ro QP (fun ρ ds w=>C w∧denD P N ro ops Q QP C fuel (i::done) ρ ds w) [o] ρ ds w) (hi:ops[i]?=some o:=by exact rfl) (hr:readyL ops done=[i]:=by kernel_rfl) (hg:∀ p q,guardO ops o ρ p q=p:=by first | exact fun _ _=>rfl | exact fun _ _=>guardP_true (by assumption)):denD P N ro ops Q QP C (fuel+1) done ρ ds w:=sim_dloud i hi hr hg h
theorem yq (i n:Nat) (h:denSeq P N ro QP (fun ρ ds w=>∃ C':World→Prop,C' w∧denD P N ro ops Q QP C' fuel (i::done) ρ ds w) [o] ρ ds w) (hi:ops[i]?=some o:=by exact rfl) (hr:readyL ops done=[i]:=by kernel_rfl) (hm:mayTurn ops n done i=true:=by kernel_rfl) (hg:∀ p q,guardO ops o ρ p q=p:=by first | exact fun _ _=>rfl | exact fun _ _=>guardP_true (by assumption)):denD P N ro ops Q QP C (fuel+1) done ρ ds w:=sim_dturn i n hi hr hm hg h
theorem yz (h:Q ρ ds w) (hr:readyL ops done=[]:=by kernel_rfl):denD P N ro ops Q QP C fuel done ρ ds w:=sim_dend hr h
theorem yh (S:List Nat) {id:Nat} {l:List Oper} {Q:K} {f:(World→Prop)→World→Prop} (h:drawK w f) (hk:∀ C:World→Prop,C (drew w)→f C (drew w)→denD P N ro l.toArray (Q .normal) (fun ch _ ds w=>∀ ρ',Fr S ρ ρ'→QP ch ρ' ds w) C l.length [] ρ ds (drew w)) (hm:P.follows .mixedOrders=true:=by kernel_rfl) (hS:l.all (fun o=>match o.dst with | some d=>S.contains d | none=>true)=true:=by kernel_rfl):den P N ro (.region id l.toArray true) Q QP ρ ds w:=let ⟨C,hC,hf⟩:=h;sim_draw S hm hS C (hk C hC hf)
theorem yj1 (fuel':Nat) (done' S:List Nat) (x0:Nat) {K0:Value→World→Prop} {A B:(Value→World→Prop)→Prop} {v:Value} {want:Bool} (h:joinK K0 fun K=>guardP v want (A K) (B K))
 (h1:∀ K:Value→World→Prop,(∀ ρ' w,Fr S ρ ρ'→C w→K (ρ' x0) w→denD P N ro ops Q QP C fuel' done' ρ' ds w)→boolOf v=some want→A K→denD P N ro ops Q QP C fuel done ρ ds w) (h2:∀ K:Value→World→Prop,(∀ ρ' w,Fr S ρ ρ'→C w→K (ρ' x0) w→denD P N ro ops Q QP C fuel' done' ρ' ds w)→boolOf v≠some want→B K→denD P N ro ops Q QP C fuel done ρ ds w)
 (hJ:∀ σ w,C w→K0 (σ x0) w→denD P N ro ops Q QP C fuel' done' (mix S ρ σ) ds w):denD P N ro ops Q QP C fuel done ρ ds w :=
 sim_djoin fuel' done' S (fun ρ w=>K0 (ρ x0) w) (fun _ hT=>(guardP_cases h).elim (fun h=>h1 K0 hT h.1 h.2) (fun h=>h2 K0 hT h.1 h.2)) hJ
end
section
variable {P:Program} {N:Nat} {ro:Option Nat} {c:Code} {Q:K} {QP:KP} {ρ:Env} {ds:List Deferred} {w:World}
theorem yl0 (W:List Nat) {body:World→(World→Prop)→Prop} (h:loop0 body w) (hr:∀ σ w (k:World→Prop),body w k→den P N ro c (thenK (fun ρ' ds' w'=>ds'=ds∧k w') Q) QP (mix W ρ σ) ds w) (hW:((writes c).all (W.contains ·)&&W.all ((writes c).contains ·))=true:=by kernel_rfl):den P N ro (.loop c) Q QP ρ ds w:=by
 obtain ⟨I,μ,hi,hb⟩:=h
 exact sim_loop W hW (fun ρ w=>I w) (fun ρ w=>μ w) hi fun σ w hI=>hr σ w _ (hb _ hI)
theorem yl1 (W:List Nat) (x0:Nat) {body:Value→World→(Value→World→Prop)→Prop} {a0:Value} (h:loop1 body a0 w) (hr:∀ σ w (k:Value→World→Prop),body (σ x0) w k→den P N ro c (thenK (fun ρ' ds' w'=>ds'=ds∧k (ρ' x0) w') Q) QP (mix W ρ σ) ds w) (hW:((writes c).all (W.contains ·)&&W.all ((writes c).contains ·))=true:=by kernel_rfl) (h0:ρ x0=a0:=by exact rfl):den P N ro (.loop c) Q QP ρ ds w:=by
 obtain ⟨I,μ,hi,hb⟩:=h
 subst h0
 exact sim_loop W hW (fun ρ w=>I (ρ x0) w) (fun ρ w=>μ (ρ x0) w) hi fun σ w hI=>hr σ w _ (hb _ _ hI)
theorem yL1 (W:List Nat) (x0:Nat) {body:List Deferred→Value→World→(List Deferred→Value→World→Prop)→Prop} {a0:Value} (h:loopM1 body ds a0 w) (hr:∀ σ ds w (k:List Deferred→Value→World→Prop),body ds (σ x0) w k→den P N ro c (thenK (fun ρ' ds' w'=>k ds' (ρ' x0) w') Q) QP (mix W ρ σ) ds w) (hW:((writes c).all (W.contains ·)&&W.all ((writes c).contains ·))=true:=by kernel_rfl) (h0:ρ x0=a0:=by exact rfl):den P N ro (.loop c) Q QP ρ ds w:=by
 obtain ⟨I,μ,hi,hb⟩:=h
 subst h0
 exact sim_loopM W hW (fun ρ ds w=>I ds (ρ x0) w) (fun ρ w=>μ (ρ x0) w) hi fun σ ds w hI=>hr σ ds w _ (hb _ _ _ hI)
theorem yl2 (W:List Nat) (x0 x1:Nat) {body:Value→Value→World→(Value→Value→World→Prop)→Prop} {a0 a1:Value} (h:loop2 body a0 a1 w) (hr:∀ σ w (k:Value→Value→World→Prop),body (σ x0) (σ x1) w k→den P N ro c (thenK (fun ρ' ds' w'=>ds'=ds∧k (ρ' x0) (ρ' x1) w') Q) QP (mix W ρ σ) ds w) (hW:((writes c).all (W.contains ·)&&W.all ((writes c).contains ·))=true:=by kernel_rfl) (h0:ρ x0=a0:=by exact rfl) (h1:ρ x1=a1:=by exact rfl):den P N ro (.loop c) Q QP ρ ds w:=by
 obtain ⟨I,μ,hi,hb⟩:=h
 subst h0 h1
 exact sim_loop W hW (fun ρ w=>I (ρ x0) (ρ x1) w) (fun ρ w=>μ (ρ x0) (ρ x1) w) hi fun σ w hI=>hr σ w _ (hb _ _ _ hI)
theorem yJ0 (S:List Nat) {K0:World→Prop} {f:(World→Prop)→Prop} (h:joinK K0 f) (hc:∀ (K:World→Prop) (k':Env→List Deferred→World→Prop),(∀ ρ' w,Fr S ρ ρ'→K w→k' ρ' ds w)→f K→den P N ro c (thenK k' Q) QP ρ ds w) (hJ:∀ σ w,K0 w→Q .normal (mix S ρ σ) ds w):den P N ro c Q QP ρ ds w :=
 sim_joinQ S (fun ρ w=>K0 w) (fun k' hk=>hc K0 k' hk h) hJ
theorem yJ1 (S:List Nat) (x0:Nat) {K0:Value→World→Prop} {f:(Value→World→Prop)→Prop} (h:joinK K0 f) (hc:∀ (K:Value→World→Prop) (k':Env→List Deferred→World→Prop),(∀ ρ' w,Fr S ρ ρ'→K (ρ' x0) w→k' ρ' ds w)→f K→den P N ro c (thenK k' Q) QP ρ ds w) (hJ:∀ σ w,K0 (σ x0) w→Q .normal (mix S ρ σ) ds w):den P N ro c Q QP ρ ds w :=
 sim_joinQ S (fun ρ w=>K0 (ρ x0) w) (fun k' hk=>hc K0 k' hk h) hJ
theorem yC {x:Operand} {A B:Code} {v:Value} {p q:Prop} (h:condP v p q) (hp:p→den P N ro A Q QP ρ ds w) (hq:q→den P N ro B Q QP ρ ds w) (hv:ev ρ x=v:=by exact rfl):den P N ro (.cond x A B) Q QP ρ ds w:=sim_cond h hv hp hq
theorem yG (n:Nat) {ops:Array Oper} {l:List Oper} (h:denSeq P N ro QP (fun ρ ds w=>denOps P N ro ops Q QP (l.drop n) none ρ ds w) (l.take n) ρ ds w) (hu:unguarded (l.take n)=true:=by exact rfl):denOps P N ro ops Q QP l none ρ ds w:=sim_seg n hu h
theorem yg1 (n j:Nat) (want:Bool) (S:List Nat) (x0:Nat) {ops:Array Oper} {l:List Oper} {K0:Value→World→Prop} {A:(Value→World→Prop)→Prop} {v:Value} {u0:Value} (h:joinK K0 fun K=>guardP v want (A K) (K u0 w))
 (hc:∀ (K:Value→World→Prop) (T:Env→List Deferred→World→Prop),(∀ ρ' w,Fr S ρ ρ'→K (ρ' x0) w→T ρ' ds w)→A K→denSeq P N ro QP T (l.take n) ρ ds w) (hJ:∀ σ w,K0 (σ x0) w→denOps P N ro ops Q QP (l.drop n) none (mix S ρ σ) ds w) (hok:grpOK ops j want (l.take n) (l.drop n)=true:=by exact rfl) (hv:gslot ops ρ j=v:=by exact rfl) (hf:Fr S ρ (skipAll N (l.take n) ρ):=by exact Fr.skipAll rfl (Fr.refl _ _)) (hu0:skipAll N (l.take n) ρ x0=u0:=by exact rfl):denOps P N ro ops Q QP l none ρ ds w:=by
 subst hu0;exact sim_groupJ n j want S (fun ρ w=>K0 (ρ x0) w) hok hv (fun T hT=>guardP_mono h (hc K0 T hT) fun h=>hT _ _ hf h) hJ
end
section
variable {P:Program} {f:FuncId} {fn:Func} {c:Code} {args:List Value} {w:World} {R:RT}
theorem yD (hf:P.funcs[f]?=some fn) (h:den P fn.ntmps none c (bodyK P fn R) (bodyQP R) (env0 args) [] w) (hb:fn.body=some c:=by exact rfl) (hn:args.length≤fn.ntmps:=by exact Nat.le_of_ble_eq_true rfl):Calls P f args.toArray w R:=calls_of_den hf hb hn h
theorem yE (hf:P.funcs[f]?=some fn) (h:den P fn.ntmps none c (bodyKM P fn R) (bodyQPM P fn R) (env0 args) [] w) (hb:fn.body=some c:=by exact rfl) (hn:args.length≤fn.ntmps:=by exact Nat.le_of_ble_eq_true rfl):Calls P f args.toArray w R:=calls_of_denM hf hb hn h
end
end Go.Sw
namespace Go.Proofs.YtcffhmapmaahnaaGreatDoor
open Sw
theorem c3:Sw.Callable Pg 3:=⟨_,Tryz.func3,by kernel_rfl,rfl⟩
theorem c4:Sw.Callable Pg 4:=⟨_,Tryz.func4,by kernel_rfl,rfl⟩
theorem c5:Sw.Callable Pg 5:=⟨_,Tryz.func5,by kernel_rfl,rfl⟩
theorem c7:Sw.Callable Pg 7:=⟨_,Tryz.func7,by kernel_rfl,rfl⟩
theorem c9:Sw.Callable Pg 9:=⟨_,Tryz.func9,by kernel_rfl,rfl⟩
theorem c10:Sw.Callable Pg 10:=⟨_,Tryz.func10,by kernel_rfl,rfl⟩
theorem c11:Sw.Callable Pg 11:=⟨_,Tryz.func11,by kernel_rfl,rfl⟩
theorem c12:Sw.Callable Pg 12:=⟨_,Tryz.func12,by kernel_rfl,rfl⟩
theorem c14:Sw.Callable Pg 14:=⟨_,Tryz.func14,by kernel_rfl,rfl⟩
theorem c16:Sw.Callable Pg 16:=⟨_,Tryz.func16,by kernel_rfl,rfl⟩
theorem c18:Sw.Callable Pg 18:=⟨_,Tryz.func18,by kernel_rfl,rfl⟩
theorem c20:Sw.Callable Pg 20:=⟨_,Tryz.func20,by kernel_rfl,rfl⟩
theorem c21:Sw.Callable Pg 21:=⟨_,Tryz.func21,by kernel_rfl,rfl⟩
theorem c22:Sw.Callable Pg 22:=⟨_,Tryz.func22,by kernel_rfl,rfl⟩
theorem c25:Sw.Callable Pg 25:=⟨_,Tryz.func25,by kernel_rfl,rfl⟩
theorem c26:Sw.Callable Pg 26:=⟨_,Tryz.func26,by kernel_rfl,rfl⟩
theorem c27:Sw.Callable Pg 27:=⟨_,Tryz.func27,by kernel_rfl,rfl⟩
theorem c28:Sw.Callable Pg 28:=⟨_,Tryz.func28,by kernel_rfl,rfl⟩
theorem c32:Sw.Callable Pg 32:=⟨_,Tryz.func32,by kernel_rfl,rfl⟩
theorem c33:Sw.Callable Pg 33:=⟨_,Tryz.func33,by kernel_rfl,rfl⟩
theorem c34:Sw.Callable Pg 34:=⟨_,Tryz.func34,by kernel_rfl,rfl⟩
theorem c35:Sw.Callable Pg 35:=⟨_,Tryz.func35,by kernel_rfl,rfl⟩
theorem c36:Sw.Callable Pg 36:=⟨_,Tryz.func36,by kernel_rfl,rfl⟩
theorem c37:Sw.Callable Pg 37:=⟨_,Tryz.func37,by kernel_rfl,rfl⟩
theorem c38:Sw.Callable Pg 38:=⟨_,Tryz.func38,by kernel_rfl,rfl⟩
theorem c39:Sw.Callable Pg 39:=⟨_,Tryz.func39,by kernel_rfl,rfl⟩
theorem c40:Sw.Callable Pg 40:=⟨_,Tryz.func40,by kernel_rfl,rfl⟩
theorem c41:Sw.Callable Pg 41:=⟨_,Tryz.func41,by kernel_rfl,rfl⟩
theorem c42:Sw.Callable Pg 42:=⟨_,Tryz.func42,by kernel_rfl,rfl⟩
theorem c43:Sw.Callable Pg 43:=⟨_,Tryz.func43,by kernel_rfl,rfl⟩
theorem c46:Sw.Callable Pg 46:=⟨_,Tryz.func46,by kernel_rfl,rfl⟩
theorem c47:Sw.Callable Pg 47:=⟨_,Tryz.func47,by kernel_rfl,rfl⟩
theorem c48:Sw.Callable Pg 48:=⟨_,Tryz.func48,by kernel_rfl,rfl⟩
theorem c49:Sw.Callable Pg 49:=⟨_,Tryz.func49,by kernel_rfl,rfl⟩
theorem c50:Sw.Callable Pg 50:=⟨_,Tryz.func50,by kernel_rfl,rfl⟩
theorem c51:Sw.Callable Pg 51:=⟨_,Tryz.func51,by kernel_rfl,rfl⟩
theorem c52:Sw.Callable Pg 52:=⟨_,Tryz.func52,by kernel_rfl,rfl⟩
theorem c53:Sw.Callable Pg 53:=⟨_,Tryz.func53,by kernel_rfl,rfl⟩
theorem c55:Sw.Callable Pg 55:=⟨_,Tryz.func55,by kernel_rfl,rfl⟩
theorem c59:Sw.Callable Pg 59:=⟨_,Tryz.func59,by kernel_rfl,rfl⟩
theorem c64:Sw.Callable Pg 64:=⟨_,Tryz.func64,by kernel_rfl,rfl⟩
theorem c65:Sw.Callable Pg 65:=⟨_,Tryz.func65,by kernel_rfl,rfl⟩
theorem c66:Sw.Callable Pg 66:=⟨_,Tryz.func66,by kernel_rfl,rfl⟩
theorem c67:Sw.Callable Pg 67:=⟨_,Tryz.func67,by kernel_rfl,rfl⟩
theorem c71:Sw.Callable Pg 71:=⟨_,Tryz.func71,by kernel_rfl,rfl⟩
theorem c72:Sw.Callable Pg 72:=⟨_,Tryz.func72,by kernel_rfl,rfl⟩
theorem c73:Sw.Callable Pg 73:=⟨_,Tryz.func73,by kernel_rfl,rfl⟩
theorem c74:Sw.Callable Pg 74:=⟨_,Tryz.func74,by kernel_rfl,rfl⟩
theorem c75:Sw.Callable Pg 75:=⟨_,Tryz.func75,by kernel_rfl,rfl⟩
theorem c76:Sw.Callable Pg 76:=⟨_,Tryz.func76,by kernel_rfl,rfl⟩
theorem c77:Sw.Callable Pg 77:=⟨_,Tryz.func77,by kernel_rfl,rfl⟩
theorem c80:Sw.Callable Pg 80:=⟨_,Tryz.func80,by kernel_rfl,rfl⟩
theorem c81:Sw.Callable Pg 81:=⟨_,Tryz.func81,by kernel_rfl,rfl⟩
theorem c82:Sw.Callable Pg 82:=⟨_,Tryz.func82,by kernel_rfl,rfl⟩
theorem c83:Sw.Callable Pg 83:=⟨_,Tryz.func83,by kernel_rfl,rfl⟩
theorem c85:Sw.Callable Pg 85:=⟨_,Tryz.func85,by kernel_rfl,rfl⟩
theorem c86:Sw.Callable Pg 86:=⟨_,Tryz.func86,by kernel_rfl,rfl⟩
theorem c87:Sw.Callable Pg 87:=⟨_,Tryz.func87,by kernel_rfl,rfl⟩
theorem c88:Sw.Callable Pg 88:=⟨_,Tryz.func88,by kernel_rfl,rfl⟩
theorem c89:Sw.Callable Pg 89:=⟨_,Tryz.func89,by kernel_rfl,rfl⟩
theorem c90:Sw.Callable Pg 90:=⟨_,Tryz.func90,by kernel_rfl,rfl⟩
theorem c91:Sw.Callable Pg 91:=⟨_,Tryz.func91,by kernel_rfl,rfl⟩
theorem c92:Sw.Callable Pg 92:=⟨_,Tryz.func92,by kernel_rfl,rfl⟩
theorem c94:Sw.Callable Pg 94:=⟨_,Tryz.func94,by kernel_rfl,rfl⟩
theorem c95:Sw.Callable Pg 95:=⟨_,Tryz.func95,by kernel_rfl,rfl⟩
theorem c96:Sw.Callable Pg 96:=⟨_,Tryz.func96,by kernel_rfl,rfl⟩
theorem c97:Sw.Callable Pg 97:=⟨_,Tryz.func97,by kernel_rfl,rfl⟩
theorem c98:Sw.Callable Pg 98:=⟨_,Tryz.func98,by kernel_rfl,rfl⟩
theorem c101:Sw.Callable Pg 101:=⟨_,Tryz.func101,by kernel_rfl,rfl⟩
theorem c102:Sw.Callable Pg 102:=⟨_,Tryz.func102,by kernel_rfl,rfl⟩
theorem c106:Sw.Callable Pg 106:=⟨_,Tryz.func106,by kernel_rfl,rfl⟩
theorem c107:Sw.Callable Pg 107:=⟨_,Tryz.func107,by kernel_rfl,rfl⟩
theorem c108:Sw.Callable Pg 108:=⟨_,Tryz.func108,by kernel_rfl,rfl⟩
theorem c110:Sw.Callable Pg 110:=⟨_,Tryz.func110,by kernel_rfl,rfl⟩
theorem c112:Sw.Callable Pg 112:=⟨_,Tryz.func112,by kernel_rfl,rfl⟩
theorem c113:Sw.Callable Pg 113:=⟨_,Tryz.func113,by kernel_rfl,rfl⟩
theorem c120:Sw.Callable Pg 120:=⟨_,Tryz.func120,by kernel_rfl,rfl⟩
theorem c122:Sw.Callable Pg 122:=⟨_,Tryz.func122,by kernel_rfl,rfl⟩
theorem c123:Sw.Callable Pg 123:=⟨_,Tryz.func123,by kernel_rfl,rfl⟩
theorem c124:Sw.Callable Pg 124:=⟨_,Tryz.func124,by kernel_rfl,rfl⟩
theorem c125:Sw.Callable Pg 125:=⟨_,Tryz.func125,by kernel_rfl,rfl⟩
theorem c126:Sw.Callable Pg 126:=⟨_,Tryz.func126,by kernel_rfl,rfl⟩
theorem c127:Sw.Callable Pg 127:=⟨_,Tryz.func127,by kernel_rfl,rfl⟩
theorem c128:Sw.Callable Pg 128:=⟨_,Tryz.func128,by kernel_rfl,rfl⟩
theorem c131:Sw.Callable Pg 131:=⟨_,Tryz.func131,by kernel_rfl,rfl⟩
theorem c136:Sw.Callable Pg 136:=⟨_,Tryz.func136,by kernel_rfl,rfl⟩
theorem c137:Sw.Callable Pg 137:=⟨_,Tryz.func137,by kernel_rfl,rfl⟩
theorem c138:Sw.Callable Pg 138:=⟨_,Tryz.func138,by kernel_rfl,rfl⟩
theorem c140:Sw.Callable Pg 140:=⟨_,Tryz.func140,by kernel_rfl,rfl⟩
theorem c143:Sw.Callable Pg 143:=⟨_,Tryz.func143,by kernel_rfl,rfl⟩
theorem c145:Sw.Callable Pg 145:=⟨_,Tryz.func145,by kernel_rfl,rfl⟩
def n60 (t0:Value) (R:RT) (w:World):Prop :=
 opV Pg (Instr.box 74 t0) (panK R) w fun t1 w =>
 opV Pg (Instr.fieldAt 74 t1 0) (panK R) w fun t3 w =>
 opV Pg (Instr.loadAt 9 t3) (panK R) w fun t4 w =>
 opV Pg (Builtin.len_ #[9] 3 #[t4]) (panK R) w fun t5 w =>
 opV Pg (Instr.fieldAt 74 t1 1) (panK R) w fun t6 w =>
 opV Pg (Instr.loadAt 9 t6) (panK R) w fun t7 w =>
 opV Pg (Builtin.len_ #[9] 3 #[t7]) (panK R) w fun t8 w =>
 opV Pg (Builtin.max_ #[3,3] 3 #[t5,t8]) (panK R) w fun t9 w =>
 opV Pg (binS .gtr 3 true t9 (.int .i64 1048576)) (panK R) w fun t10 w =>
 R (.returned t10) w
theorem n60s {t0:Value} {R:RT} {w:World} (h:n60 t0 R w):Calls Pg 86 #[t0] w R:=by
 refine yD Tryz.func86 ?_
 refine zs<|zr<|yv h fun _ w h=>zm<|zn<|zk<|zs<|zr<|yv h fun _ w h=>yv h fun _ w h=>yx h fun _ w h=>yv h fun _ w h=>yv h fun _ w h=>yx h fun _ w h=>yx h fun _ w h=>?_
 exact yb h fun _ w h=>zm<|zn<|zk<|sim_ret<|body_ret1 rfl rfl h
def n24 (t0 t1:Value) (R:RT) (w:World):Prop :=
 callK Pg 110 #[t0,t1] (panK R) w fun t7 w =>
 opV Pg (binS .geq 3 true t7 (.int .i64 0)) (panK R) w fun t8 w =>
 R (.returned t8) w
theorem n24s {t0 t1:Value} {R:RT} {w:World} (h:n24 t0 t1 R w):Calls Pg 87 #[t0,t1] w R:=by
 refine yD Tryz.func87 ?_
 refine zs<|zr<|zm<|zn<|zk<|zs<|zr<|zm<|zm<|yc h c110 fun _ w h=>yb h fun _ w h=>zm<|zn<|zk<|sim_ret ?_
 exact body_ret1 rfl rfl h
def n54c1 (t0 t1 t8:Value) (C2:World→Prop) (next1:KW) (R:RT) (w:World):Prop :=
 qV Pg C2 (Instr.indexAt 22 t1 t8) fun t14 =>
 qV Pg C2 (Instr.loadAt 5 t14) fun t15 =>
 qV Pg C2 (binS .shr 5 true t15 (.int .u64 4)) fun t16 =>
 qV Pg C2 (Instr.index 9 (.string { data := #[48,49,50,51,52,53,54,55,56,57,97,98,99,100,101,102] }) t16) fun t17 =>
 qV Pg C2 (Instr.indexAt 22 t1 t8) fun t20 =>
 qV Pg C2 (Instr.loadAt 5 t20) fun t21 =>
 qV Pg C2 (binS .and 5 true t21 (.int .u8 15)) fun t22 =>
 qV Pg C2 (Instr.index 9 (.string { data := #[48,49,50,51,52,53,54,55,56,57,97,98,99,100,101,102] }) t22) fun t23 =>
 opV Pg (Instr.buildSlice 22 2 #[(0,t17),(1,t23)]) (panK R) w fun t24 w =>
 C2 w∧(
 opV Pg (Builtin.append_ #[22,22] 22 #[t0,t24]) (panK R) w fun t25 w =>
 C2 w∧(
 opV Pg (binS .add 3 true t8 (.int .i64 1)) (panK R) w fun t26 w =>
 next1 t25 t26 w))
def n54 (t0 t1:Value) (R:RT) (w:World):Prop :=
 opV Pg (Builtin.len_ #[22] 3 #[t1]) (panK R) w fun t7 w =>
 loop2 (fun t0 t8 w next1 =>
 opV Pg (binS .lss 3 false t8 t7) (panK R) w fun t9 w =>
 condP t9 (
 drawK w fun C2 w =>
 n54c1 t0 t1 t8 C2 next1 R w) (
 R (.returned t0) w)) t0 (.int .i64 0) w
theorem n54s {t0 t1:Value} {R:RT} {w:World} (h:n54 t0 t1 R w):Calls Pg 89 #[t0,t1] w R:=by
 refine yD Tryz.func89 ?_
 refine zs<|zr<|zm<|zn<|zk<|zs<|zs<|zr<|zm<|yx h fun _ w h=>zm<|zn<|zk<|sim_block<|yl2 [0,5,8,9,10,11,12,13,14,15,16,17,18,19,20,21,22,23,24,25,26] 0 8 h fun σ w next h=>?_
 refine zs<|zr<|yb h fun _ w h=>zn<|zk<|zs<|yC h (fun h=>?_) fun h=>?_
 · refine sim_skip<|zk<|zs<|sim_block<|zs<|zr<|zm<|zm<|zn<|zk<|yh [0,11,12,13,14,15,16,17,18,19,20,21,22,23,24,25] h fun C hC h=>yw 0 hC ?_
   refine yw 1 hC ?_
   refine yw 2 hC ?_
   refine ye 3 hC h fun _ h=>?_
   refine ye 4 hC h fun _ h=>?_
   refine ye 5 hC h fun _ h=>?_
   refine ye 6 hC h fun _ h=>?_
   refine yw 7 hC ?_
   refine yw 8 hC ?_
   refine ye 9 hC h fun _ h=>?_
   refine ye 10 hC h fun _ h=>?_
   refine ye 11 hC h fun _ h=>?_
   refine ye 12 hC h fun _ h=>?_
   refine yo 13 ?_
   refine yS h fun _ w h=>zn ?_
   obtain ⟨hC,h⟩:=h
   refine ⟨hC,?_⟩
   refine yo 14 ?_
   refine yx h fun _ w h=>zn ?_
   obtain ⟨hC,h⟩:=h
   refine ⟨hC,?_⟩
   refine yw 15 hC ?_
   exact yz<|sim_block_normal<|zk<|zr<|yb h fun _ w h=>zm<|zn<|zk<|⟨rfl,h⟩
 exact sim_exit<|sim_then_exit<|sim_then_exit<|sim_block_hit<|zk<|zs<|zr<|zm<|zm<|zn<|zk<|sim_ret<|body_ret1 rfl rfl h
def n55c1 (t0 t1 t8:Value) (C2:World→Prop) (next1:KW) (R:RT) (w:World):Prop :=
 qV Pg C2 (Instr.index 9 t1 t8) fun t14 =>
 qV Pg C2 (binS .shr 5 true t14 (.int .u64 4)) fun t15 =>
 qV Pg C2 (Instr.index 9 (.string { data := #[48,49,50,51,52,53,54,55,56,57,97,98,99,100,101,102] }) t15) fun t16 =>
 qV Pg C2 (Instr.index 9 t1 t8) fun t19 =>
 qV Pg C2 (binS .and 5 true t19 (.int .u8 15)) fun t20 =>
 qV Pg C2 (Instr.index 9 (.string { data := #[48,49,50,51,52,53,54,55,56,57,97,98,99,100,101,102] }) t20) fun t21 =>
 opV Pg (Instr.buildSlice 22 2 #[(0,t16),(1,t21)]) (panK R) w fun t22 w =>
 C2 w∧(
 opV Pg (Builtin.append_ #[22,22] 22 #[t0,t22]) (panK R) w fun t23 w =>
 C2 w∧(
 opV Pg (binS .add 3 true t8 (.int .i64 1)) (panK R) w fun t24 w =>
 next1 t23 t24 w))
def n55 (t0 t1:Value) (R:RT) (w:World):Prop :=
 opV Pg (Builtin.len_ #[9] 3 #[t1]) (panK R) w fun t7 w =>
 loop2 (fun t0 t8 w next1 =>
 opV Pg (binS .lss 3 false t8 t7) (panK R) w fun t9 w =>
 condP t9 (
 drawK w fun C2 w =>
 n55c1 t0 t1 t8 C2 next1 R w) (
 R (.returned t0) w)) t0 (.int .i64 0) w
theorem n55s {t0 t1:Value} {R:RT} {w:World} (h:n55 t0 t1 R w):Calls Pg 90 #[t0,t1] w R:=by
 refine yD Tryz.func90 ?_
 refine zs<|zr<|zm<|zn<|zk<|zs<|zs<|zr<|zm<|yx h fun _ w h=>zm<|zn<|zk<|sim_block<|yl2 [0,5,8,9,10,11,12,13,14,15,16,17,18,19,20,21,22,23,24] 0 8 h fun σ w next h=>?_
 refine zs<|zr<|yb h fun _ w h=>zn<|zk<|zs<|yC h (fun h=>?_) fun h=>?_
 · refine sim_skip<|zk<|zs<|sim_block<|zs<|zr<|zm<|zm<|zn<|zk<|yh [0,11,12,13,14,15,16,17,18,19,20,21,22,23] h fun C hC h=>yw 0 hC ?_
   refine yw 1 hC ?_
   refine yw 2 hC ?_
   refine ye 3 hC h fun _ h=>?_
   refine ye 4 hC h fun _ h=>?_
   refine ye 5 hC h fun _ h=>?_
   refine yw 6 hC ?_
   refine yw 7 hC ?_
   refine ye 8 hC h fun _ h=>?_
   refine ye 9 hC h fun _ h=>?_
   refine ye 10 hC h fun _ h=>?_
   refine yo 11 ?_
   refine yS h fun _ w h=>zn ?_
   obtain ⟨hC,h⟩:=h
   refine ⟨hC,?_⟩
   refine yo 12 ?_
   refine yx h fun _ w h=>zn ?_
   obtain ⟨hC,h⟩:=h
   refine ⟨hC,?_⟩
   refine yw 13 hC ?_
   exact yz<|sim_block_normal<|zk<|zr<|yb h fun _ w h=>zm<|zn<|zk<|⟨rfl,h⟩
 exact sim_exit<|sim_then_exit<|sim_then_exit<|sim_block_hit<|zk<|zs<|zr<|zm<|zm<|zn<|zk<|sim_ret<|body_ret1 rfl rfl h
def n28c1 (t0 t1 t8:Value) (next1:KV) (R:RT) (w:World):Prop :=
 opV Pg (Instr.indexAt 24 t0 t8) (panK R) w fun t14 w =>
 opV Pg (Instr.loadAt 26 t14) (panK R) w fun t15 w =>
 callV Pg t1 #[t15] (panK R) w fun t16 w =>
 condP t16 (
 R (.returned t8) w) (
 opV Pg (binS .add 3 true t8 (.int .i64 1)) (panK R) w fun t18 w =>
 next1 t18 w)
def n28 (t0 t1:Value) (R:RT) (w:World):Prop :=
 opV Pg (Builtin.len_ #[24] 3 #[t0]) (panK R) w fun t7 w =>
 loop1 (fun t8 w next1 =>
 opV Pg (binS .lss 3 false t8 t7) (panK R) w fun t9 w =>
 condP t9 (
 n28c1 t0 t1 t8 next1 R w) (
 R (.returned (.int .i64 (-1))) w)) (.int .i64 0) w
theorem n28s {t0 t1:Value} {R:RT} {w:World} (h:n28 t0 t1 R w):Calls Pg 91 #[t0,t1] w R:=by
 refine yD Tryz.func91 ?_
 refine zs<|zr<|zm<|zn<|zk<|zs<|zs<|zr<|zm<|yx h fun _ w h=>zm<|zn<|zk<|sim_block<|yl1 [4,5,8,9,10,11,12,13,14,15,16,17,18] 8 h fun σ w next h=>?_
 refine zs<|zr<|yb h fun _ w h=>zn<|zk<|zs<|yC h (fun h=>?_) fun h=>?_
 · refine sim_skip<|zk<|zs<|sim_block<|zs<|zr<|zm<|zm<|zn<|zk<|zs<|zr<|zm<|zm<|zm ?_
   refine yv h fun _ w h=>yv h fun _ w h=>yV h fun _ w h=>zn<|zk<|yC h (fun h=>zs<|zr<|zm<|zm<|zn<|zk<|sim_ret<|sim_block_ret<|sim_then_ret<|sim_then_ret<|sim_block_ret<|sim_then_ret<|body_ret1 rfl rfl h) fun h=>sim_skip<|sim_block_normal<|zk<|zr<|yb h fun _ w h=>zm<|zn<|zk ?_
   exact ⟨rfl,h⟩
 exact sim_exit<|sim_then_exit<|sim_then_exit<|sim_block_hit<|zk<|zs<|zr<|zm<|zn<|zk<|sim_ret<|body_ret1 rfl rfl h
def n52c1 (t2:Value) (R:RT) (w:World):Prop :=
 opV Pg (Instr.loadAt 3 t2) (panK R) w fun t10 w =>
 opV Pg (binS .sub 3 true t10 (.int .i64 1)) (panK R) w fun t11 w =>
 opU Pg (Instr.storeAt 3 t2 t11) (panK R) w fun w =>
 opV Pg (Instr.loadAt 3 t2) (panK R) w fun t12 w =>
 opV Pg (binS .lss 3 true t12 (.int .i64 0)) (panK R) w fun t13 w =>
 R (.returned t13) w
def n52 (t0 t1 t2:Value) (R:RT) (w:World):Prop :=
 opV Pg (Instr.box 26 t0) (panK R) w fun t3 w =>
 opV Pg (Instr.fieldAt 26 t3 0) (panK R) w fun t5 w =>
 opV Pg (Instr.loadAt 9 t5) (panK R) w fun t6 w =>
 opV Pg (Instr.fieldAt 106 t1 0) (panK R) w fun t7 w =>
 opV Pg (Instr.loadAt 9 t7) (panK R) w fun t8 w =>
 opV Pg (binS .neq 9 false t6 t8) (panK R) w fun t9 w =>
 condP t9 (
 R (.returned (.bool false)) w) (
 n52c1 t2 R w)
theorem n52s {t0 t1 t2:Value} {R:RT} {w:World} (h:n52 t0 t1 t2 R w):Calls Pg 92 #[t0,t1,t2] w R:=by
 refine yD Tryz.func92 ?_
 refine zs<|zr<|yv h fun _ w h=>zm<|zn<|zk<|zs<|zs<|zr<|yv h fun _ w h=>yv h fun _ w h=>yv h fun _ w h=>yv h fun _ w h=>yb h fun _ w h=>zn ?_
 refine zk<|yC h (fun h=>zs<|zr<|zm<|zn<|zk<|sim_ret<|sim_then_ret<|body_ret1 rfl rfl h) fun h=>sim_skip<|zk<|zs<|zr<|yv h fun _ w h=>yb h fun _ w h=>yu h fun w h=>zn<|zk<|zs<|zr<|yv h fun _ w h=>?_
 exact yb h fun _ w h=>zm<|zn<|zk<|sim_ret<|body_ret1 rfl rfl h
def n17c1 (t0 t5 t9:Value) (R:RT) (w:World):Prop :=
 pickK t5 t9 (.bool false) fun t10 =>
 joinK (fun (t13:Value) (w:World) =>
 pickK t10 t13 (.bool false) fun t14 =>
 R (.returned t14) w) fun K2 =>
 guardP t10 true (
 opV Pg (binS .neq 5 true t0 (.int .u8 95)) (panK R) w fun t13 w =>
 K2 t13 w) (
 K2 undef w)
def n17c2 (t0 t4:Value) (R:RT) (w:World):Prop :=
 opV Pg (Op.unary .not t4) (panK R) w fun t5 w =>
 joinK (fun (t9:Value) (w:World) =>
 n17c1 t0 t5 t9 R w) fun K1 =>
 guardP t5 true (
 callK Pg 96 #[t0] (panK R) w fun t8 w =>
 opV Pg (Op.unary .not t8) (panK R) w fun t9 w =>
 K1 t9 w) (
 K1 undef w)
def n17 (t0:Value) (R:RT) (w:World):Prop :=
 callK Pg 95 #[t0] (panK R) w fun t4 w =>
 n17c2 t0 t4 R w
theorem n17s {t0:Value} {R:RT} {w:World} (h:n17 t0 R w):Calls Pg 94 #[t0] w R:=by
 refine yD Tryz.func94 ?_
 refine zs<|zr<|zm<|zn<|zk<|zs<|sim_regionG<|yG 4<|zm<|yc h c95 fun _ w h=>yv h fun _ w h=>zm<|zn<|yg1 3 3 true [7,8,9] 9 h (fun _ T hT h=>?_) fun σ w h=>?_
 · refine zm<|yc h c96 fun _ w h=>yv h fun _ w h=>zn ?_
   exact zt hT h
 refine yG 2<|yp h fun _ h=>zm<|zn<|yg1 2 8 true [12,13] 13 h (fun _ T hT h=>?_) fun σ w h=>?_
 · refine zm<|yb h fun _ w h=>zn ?_
   exact zt hT h
 exact yG 2<|yp h fun _ h=>zm<|zn<|sim_end<|zk<|sim_ret<|body_ret1 rfl rfl h
def n20c1 (t0 t8 t12:Value) (R:RT) (w:World):Prop :=
 joinK (fun (t14:Value) (w:World) =>
 joinK (fun (t15:Value) (w:World) =>
 pickK t8 (.bool true) t15 fun t16 =>
 R (.returned t16) w) fun K4 =>
 guardP t8 false (
 pickK t12 t14 (.bool false) fun t15 =>
 K4 t15 w) (
 K4 undef w)) fun K3 =>
 guardP t12 true (
 opV Pg (binS .leq 5 true t0 (.int .u8 122)) (panK R) w fun t14 w =>
 K3 t14 w) (
 K3 undef w)
def n20c2 (t0 t4 t7:Value) (R:RT) (w:World):Prop :=
 pickK t4 t7 (.bool false) fun t8 =>
 joinK (fun (t12:Value) (w:World) =>
 n20c1 t0 t8 t12 R w) fun K2 =>
 guardP t8 false (
 opV Pg (binS .geq 5 true t0 (.int .u8 97)) (panK R) w fun t11 w =>
 K2 t11 w) (
 K2 undef w)
def n20 (t0:Value) (R:RT) (w:World):Prop :=
 opV Pg (binS .geq 5 true t0 (.int .u8 65)) (panK R) w fun t4 w =>
 joinK (fun (t7:Value) (w:World) =>
 n20c2 t0 t4 t7 R w) fun K1 =>
 guardP t4 true (
 opV Pg (binS .leq 5 true t0 (.int .u8 90)) (panK R) w fun t7 w =>
 K1 t7 w) (
 K1 undef w)
theorem n20s {t0:Value} {R:RT} {w:World} (h:n20 t0 R w):Calls Pg 95 #[t0] w R:=by
 refine yD Tryz.func95 ?_
 refine zs<|zr<|zm<|zn<|zk<|zs<|sim_regionG<|yG 3<|zm<|yb h fun _ w h=>zm<|zn<|yg1 2 2 true [6,7] 7 h (fun _ T hT h=>?_) fun σ w h=>?_
 · refine zm<|yb h fun _ w h=>zn ?_
   exact zt hT h
 refine yG 2<|yp h fun _ h=>zm<|zn<|yg1 3 6 false [10,11,12] 12 h (fun _ T hT h=>?_) fun σ w h=>?_
 · refine zm<|yb h fun _ w h=>zm<|zn ?_
   exact zt hT h
 refine yg1 2 9 true [13,14] 14 h (fun _ T hT h=>?_) fun σ w h=>?_
 · refine zm<|yb h fun _ w h=>zn ?_
   exact zt hT h
 refine yg1 1 6 false [15] 15 h (fun _ T hT h=>?_) fun σ w h=>?_
 · refine yp h fun _ h=>zn ?_
   exact zt hT h
 exact yG 2<|yp h fun _ h=>zm<|zn<|sim_end<|zk<|sim_ret<|body_ret1 rfl rfl h
def n19 (t0:Value) (R:RT) (w:World):Prop :=
 opV Pg (binS .geq 5 true t0 (.int .u8 48)) (panK R) w fun t4 w =>
 joinK (fun (t7:Value) (w:World) =>
 pickK t4 t7 (.bool false) fun t8 =>
 R (.returned t8) w) fun K1 =>
 guardP t4 true (
 opV Pg (binS .leq 5 true t0 (.int .u8 57)) (panK R) w fun t7 w =>
 K1 t7 w) (
 K1 undef w)
theorem n19s {t0:Value} {R:RT} {w:World} (h:n19 t0 R w):Calls Pg 96 #[t0] w R:=by
 refine yD Tryz.func96 ?_
 refine zs<|zr<|zm<|zn<|zk<|zs<|sim_regionG<|yG 3<|zm<|yb h fun _ w h=>zm<|zn<|yg1 2 2 true [6,7] 7 h (fun _ T hT h=>?_) fun σ w h=>?_
 · refine zm<|yb h fun _ w h=>zn ?_
   exact zt hT h
 exact yG 2<|yp h fun _ h=>zm<|zn<|sim_end<|zk<|sim_ret<|body_ret1 rfl rfl h
def n18 (t0:Value) (R:RT) (w:World):Prop :=
 callK Pg 112 #[t0,(.bool false)] (panK R) w fun t4 w =>
 opV Pg (Op.unary .not t4) (panK R) w fun t5 w =>
 R (.returned t5) w
theorem n18s {t0:Value} {R:RT} {w:World} (h:n18 t0 R w):Calls Pg 97 #[t0] w R:=by
 refine yD Tryz.func97 ?_
 exact zs<|zr<|zm<|zn<|zk<|zs<|zr<|zm<|yc h c112 fun _ w h=>yv h fun _ w h=>zm<|zn<|zk<|sim_ret<|body_ret1 rfl rfl h
def n25 (t0 t1:Value) (R:RT) (w:World):Prop :=
 callK Pg 113 #[t0,t1] (panK R) w fun t7 w =>
 opV Pg (binS .geq 3 true t7 (.int .i64 0)) (panK R) w fun t8 w =>
 R (.returned t8) w
theorem n25s {t0 t1:Value} {R:RT} {w:World} (h:n25 t0 t1 R w):Calls Pg 98 #[t0,t1] w R:=by
 refine yD Tryz.func98 ?_
 refine zs<|zr<|zm<|zn<|zk<|zs<|zr<|zm<|zm<|yc h c113 fun _ w h=>yb h fun _ w h=>zm<|zn<|zk<|sim_ret ?_
 exact body_ret1 rfl rfl h
def n64 (t0:Value) (R:RT) (w:World):Prop :=
 callK Pg 102 #[(.string { data := #[48,49,50,51,52,53,54,55,56,57,97,98,99,100,101,102] }),t0] (panK R) w fun t4 w =>
 opV Pg (binS .geq 3 true t4 (.int .i64 0)) (panK R) w fun t5 w =>
 R (.returned t5) w
theorem n64s {t0:Value} {R:RT} {w:World} (h:n64 t0 R w):Calls Pg 101 #[t0] w R:=by
 refine yD Tryz.func101 ?_
 exact zs<|zr<|zm<|zn<|zk<|zs<|zr<|zm<|yc h c102 fun _ w h=>yb h fun _ w h=>zm<|zn<|zk<|sim_ret<|body_ret1 rfl rfl h
def n27c1 (t0 t1 t8:Value) (next1:KV) (R:RT) (w:World):Prop :=
 opV Pg (Instr.indexAt 23 t0 t8) (panK R) w fun t14 w =>
 opV Pg (Instr.loadAt 74 t14) (panK R) w fun t15 w =>
 callV Pg t1 #[t15] (panK R) w fun t16 w =>
 condP t16 (
 R (.returned t8) w) (
 opV Pg (binS .add 3 true t8 (.int .i64 1)) (panK R) w fun t18 w =>
 next1 t18 w)
def n27 (t0 t1:Value) (R:RT) (w:World):Prop :=
 opV Pg (Builtin.len_ #[23] 3 #[t0]) (panK R) w fun t7 w =>
 loop1 (fun t8 w next1 =>
 opV Pg (binS .lss 3 false t8 t7) (panK R) w fun t9 w =>
 condP t9 (
 n27c1 t0 t1 t8 next1 R w) (
 R (.returned (.int .i64 (-1))) w)) (.int .i64 0) w
theorem n27s {t0 t1:Value} {R:RT} {w:World} (h:n27 t0 t1 R w):Calls Pg 110 #[t0,t1] w R:=by
 refine yD Tryz.func110 ?_
 refine zs<|zr<|zm<|zn<|zk<|zs<|zs<|zr<|zm<|yx h fun _ w h=>zm<|zn<|zk<|sim_block<|yl1 [4,5,8,9,10,11,12,13,14,15,16,17,18] 8 h fun σ w next h=>?_
 refine zs<|zr<|yb h fun _ w h=>zn<|zk<|zs<|yC h (fun h=>?_) fun h=>?_
 · refine sim_skip<|zk<|zs<|sim_block<|zs<|zr<|zm<|zm<|zn<|zk<|zs<|zr<|zm<|zm<|zm ?_
   refine yv h fun _ w h=>yv h fun _ w h=>yV h fun _ w h=>zn<|zk<|yC h (fun h=>zs<|zr<|zm<|zm<|zn<|zk<|sim_ret<|sim_block_ret<|sim_then_ret<|sim_then_ret<|sim_block_ret<|sim_then_ret<|body_ret1 rfl rfl h) fun h=>sim_skip<|sim_block_normal<|zk<|zr<|yb h fun _ w h=>zm<|zn<|zk ?_
   exact ⟨rfl,h⟩
 exact sim_exit<|sim_then_exit<|sim_then_exit<|sim_block_hit<|zk<|zs<|zr<|zm<|zn<|zk<|sim_ret<|body_ret1 rfl rfl h
def n26 (t0 t1:Value) (R:RT) (w:World):Prop :=
 callK Pg 131 #[t0,t1] (panK R) w fun t7 w =>
 opV Pg (binS .geq 3 true t7 (.int .i64 0)) (panK R) w fun t8 w =>
 R (.returned t8) w
theorem n26s {t0 t1:Value} {R:RT} {w:World} (h:n26 t0 t1 R w):Calls Pg 112 #[t0,t1] w R:=by
 refine yD Tryz.func112 ?_
 refine zs<|zr<|zm<|zn<|zk<|zs<|zr<|zm<|zm<|yc h c131 fun _ w h=>yb h fun _ w h=>zm<|zn<|zk<|sim_ret ?_
 exact body_ret1 rfl rfl h
def n29c1 (t0 t1 t8:Value) (next1:KV) (R:RT) (w:World):Prop :=
 opV Pg (Instr.indexAt 22 t0 t8) (panK R) w fun t14 w =>
 opV Pg (Instr.loadAt 5 t14) (panK R) w fun t15 w =>
 callV Pg t1 #[t15] (panK R) w fun t16 w =>
 condP t16 (
 R (.returned t8) w) (
 opV Pg (binS .add 3 true t8 (.int .i64 1)) (panK R) w fun t18 w =>
 next1 t18 w)
def n29 (t0 t1:Value) (R:RT) (w:World):Prop :=
 opV Pg (Builtin.len_ #[22] 3 #[t0]) (panK R) w fun t7 w =>
 loop1 (fun t8 w next1 =>
 opV Pg (binS .lss 3 false t8 t7) (panK R) w fun t9 w =>
 condP t9 (
 n29c1 t0 t1 t8 next1 R w) (
 R (.returned (.int .i64 (-1))) w)) (.int .i64 0) w
theorem n29s {t0 t1:Value} {R:RT} {w:World} (h:n29 t0 t1 R w):Calls Pg 113 #[t0,t1] w R:=by
 refine yD Tryz.func113 ?_
 refine zs<|zr<|zm<|zn<|zk<|zs<|zs<|zr<|zm<|yx h fun _ w h=>zm<|zn<|zk<|sim_block<|yl1 [4,5,8,9,10,11,12,13,14,15,16,17,18] 8 h fun σ w next h=>?_
 refine zs<|zr<|yb h fun _ w h=>zn<|zk<|zs<|yC h (fun h=>?_) fun h=>?_
 · refine sim_skip<|zk<|zs<|sim_block<|zs<|zr<|zm<|zm<|zn<|zk<|zs<|zr<|zm<|zm<|zm ?_
   refine yv h fun _ w h=>yv h fun _ w h=>yV h fun _ w h=>zn<|zk<|yC h (fun h=>zs<|zr<|zm<|zm<|zn<|zk<|sim_ret<|sim_block_ret<|sim_then_ret<|sim_then_ret<|sim_block_ret<|sim_then_ret<|body_ret1 rfl rfl h) fun h=>sim_skip<|sim_block_normal<|zk<|zr<|yb h fun _ w h=>zm<|zn<|zk ?_
   exact ⟨rfl,h⟩
 exact sim_exit<|sim_then_exit<|sim_then_exit<|sim_block_hit<|zk<|zs<|zr<|zm<|zn<|zk<|sim_ret<|body_ret1 rfl rfl h
open Go.RowKit (intOf)
theorem IndexFunc_byte_ret (w0:World) (v:Value) (l:List UInt8) (g:FuncId) (caps:Array Value) (p:UInt8→Bool) (hs:(fun w v l=>SliceOf w 1 EByte v l) w0 v l) (hg:Callable Pg g) (hc:Tests w0 (fun _ v x=>v = .int .u8 (x.toNat:Int)) g caps p l) :
 Ret Pg 113 #[v,.func (.func g) #[] caps] w0 fun r w'=>r = .int .i64 (idx p l)∧Ext w0 w':=by
 obtain ⟨A,c,rfl,hlc,hcm,hlm,hel⟩:=SliceOf.open hs
 refine n29s (R:=retR _) ?_
 unfold n29
 simp (disch:=try exact DI) only [↓PR,QR,simprocAttr]
 refine loop1_intro (fun i w=>∃ k:Nat,i = .int .i64 k∧k≤l.length∧Ext w0 w∧∀ (j:Nat) y,j < k→l[j]?=some y→p y=false) (fun i _=>l.length - (intOf i).toNat) ⟨0,rfl,by omega,Ext.refl _,fun j y h=>by omega⟩ ?_
 rintro i w ⟨k,rfl,hk,e,hb⟩
 by_cases hlt:k < l.length
 · obtain ⟨x,hx⟩:=getElem?_lt hlt
   obtain ⟨b,o,cs,rfl,hl,hA,hE⟩:=hel k x hx
   have hd:decide ((k:Int) < (l.length:Int))=true:=by simp;omega
   simp (disch:=try exact DI) only [↓PR,QR,simprocAttr,hd]
   unfold n29c1
   simp (disch:=try exact DI) only [↓PR,QR,simprocAttr]
   obtain rfl:=hE
   have hV:(.int .u8 (x.toNat:Int):Value) = .int .u8 (x.toNat:Int):=rfl
   simp (disch:=try exact DI) only [↓PR,QR,simprocAttr,hA.c1]
   rw [callV_func hg]
   simp only [Array.empty_append]
   refine callK_ret (hc w _ x (List.mem_of_getElem? hx) e (hV)) ?_
   rintro r w' ⟨rfl,e'⟩
   cases hp:p x with
   | true => 
    simp (disch:=try exact DI) only [↓PR,QR,simprocAttr]
    exact ⟨by rw [idx_here hx hp hb],e.trans e'⟩
   | false =>
    simp (disch:=try exact DI) only [↓PR,QR,simprocAttr]
    refine ⟨⟨k+1,rfl,by omega,e.trans e',fun j y hj hy=>?_⟩,by simp [intOf];omega⟩
    by_cases hjk:j=k
    · subst hjk;rw [hx] at hy;injection hy with hy;subst hy;exact hp
    · exact hb j y (by omega) hy
 · have hd:decide ((k:Int) < (l.length:Int))=false:=by simp;omega
   simp (disch:=try exact DI) only [↓PR,QR,simprocAttr,hd]
   exact ⟨by rw [idx_none fun j y hy=>hb j y (by have:=(List.getElem?_eq_some_iff.1 hy).1;omega) hy],e⟩
def n71c1 (t36 t2000:Value) (next3:KW) (R:RT) (w:World):Prop :=
 opV Pg (Instr.buildSlice 22 1 #[(0,(.int .u8 93))]) (panK R) w fun t52 w =>
 opV Pg (Builtin.append_ #[22,22] 22 #[t2000,t52]) (panK R) w fun t53 w =>
 opV Pg (binS .add 3 true t36 (.int .i64 1)) (panK R) w fun t54 w =>
 next3 t53 t54 w
def n71c2 (t45 t49:Value) (C4:World→Prop) (K5:KV) (R:RT) (w:World):Prop :=
 opV Pg (Instr.buildSlice 22 1 #[(0,(.int .u8 58))]) (panK R) w fun t46 w =>
 C4 w∧(
 opV Pg (Builtin.append_ #[22,22] 22 #[t45,t46]) (panK R) w fun t47 w =>
 C4 w∧(
 callK Pg 90 #[t47,t49] (panK R) w fun t50 w =>
 C4 w∧(
 K5 t50 w)))
def n71c3 (t42 t44 t46 t49:Value) (C4:World→Prop) (K5:KV) (R:RT) (w:World):Prop :=
 callK Pg 90 #[t42,t44] (panK R) w fun t45 w =>
 C4 w∧(
 opV Pg (Builtin.append_ #[22,22] 22 #[t45,t46]) (panK R) w fun t47 w =>
 C4 w∧(
 callK Pg 90 #[t47,t49] (panK R) w fun t50 w =>
 C4 w∧(
 K5 t50 w)))
def n71c4 (t42 t44 t49:Value) (C4:World→Prop) (K5:KV) (R:RT) (w:World):Prop :=
 (
 callK Pg 90 #[t42,t44] (panK R) w fun t45 w =>
 C4 w∧(
 n71c2 t45 t49 C4 K5 R w))∧(
 opV Pg (Instr.buildSlice 22 1 #[(0,(.int .u8 58))]) (panK R) w fun t46 w =>
 C4 w∧(
 n71c3 t42 t44 t46 t49 C4 K5 R w))
def n71c5 (t42 t44 t46 t49:Value) (C4:World→Prop) (K5:KV) (R:RT) (w:World):Prop :=
 callK Pg 90 #[t42,t44] (panK R) w fun t45 w =>
 C4 w∧(
 opV Pg (Builtin.append_ #[22,22] 22 #[t45,t46]) (panK R) w fun t47 w =>
 C4 w∧(
 callK Pg 90 #[t47,t49] (panK R) w fun t50 w =>
 C4 w∧(
 K5 t50 w)))
def n71c6 (t41 t44 t49 t1000:Value) (C4:World→Prop) (K5:KV) (R:RT) (w:World):Prop :=
 (
 opV Pg (Builtin.append_ #[22,22] 22 #[t1000,t41]) (panK R) w fun t42 w =>
 C4 w∧(
 n71c4 t42 t44 t49 C4 K5 R w))∧(
 opV Pg (Instr.buildSlice 22 1 #[(0,(.int .u8 58))]) (panK R) w fun t46 w =>
 C4 w∧(
 opV Pg (Builtin.append_ #[22,22] 22 #[t1000,t41]) (panK R) w fun t42 w =>
 C4 w∧(
 n71c5 t42 t44 t46 t49 C4 K5 R w)))
def n71c7 (t42 t44 t46 t49:Value) (C4:World→Prop) (K5:KV) (R:RT) (w:World):Prop :=
 callK Pg 90 #[t42,t44] (panK R) w fun t45 w =>
 C4 w∧(
 opV Pg (Builtin.append_ #[22,22] 22 #[t45,t46]) (panK R) w fun t47 w =>
 C4 w∧(
 callK Pg 90 #[t47,t49] (panK R) w fun t50 w =>
 C4 w∧(
 K5 t50 w)))
def n71c8 (t44 t46 t49 t1000:Value) (C4:World→Prop) (K5:KV) (R:RT) (w:World):Prop :=
 opV Pg (Instr.buildSlice 22 1 #[(0,(.int .u8 91))]) (panK R) w fun t41 w =>
 C4 w∧(
 opV Pg (Builtin.append_ #[22,22] 22 #[t1000,t41]) (panK R) w fun t42 w =>
 C4 w∧(
 n71c7 t42 t44 t46 t49 C4 K5 R w))
def n71c9 (t6 t36 t1000:Value) (C4:World→Prop) (next3:KW) (R:RT) (w:World):Prop :=
 qV Pg C4 (Instr.fieldAt 74 t6 0) fun t43 =>
 qV Pg C4 (Instr.loadAt 9 t43) fun t44 =>
 qV Pg C4 (Instr.fieldAt 74 t6 1) fun t48 =>
 qV Pg C4 (Instr.loadAt 9 t48) fun t49 =>
 joinK (fun (t2000:Value) (w:World) =>
 n71c1 t36 t2000 next3 R w) fun K5 =>
 (
 opV Pg (Instr.buildSlice 22 1 #[(0,(.int .u8 91))]) (panK R) w fun t41 w =>
 C4 w∧(
 n71c6 t41 t44 t49 t1000 C4 K5 R w))∧(
 opV Pg (Instr.buildSlice 22 1 #[(0,(.int .u8 58))]) (panK R) w fun t46 w =>
 C4 w∧(
 n71c8 t44 t46 t49 t1000 C4 K5 R w))
def n71c10 (t58 t67 t69 t1000:Value) (C8:World→Prop) (next6:KW) (R:RT) (w:World):Prop :=
 opV Pg (Builtin.append_ #[22,22] 22 #[t1000,t67]) (panK R) w fun t68 w =>
 C8 w∧(
 callK Pg 66 #[t68,t69] (panK R) w fun t70 w =>
 C8 w∧(
 opV Pg (binS .add 3 true t58 (.int .i64 1)) (panK R) w fun t71 w =>
 next6 t70 t71 w))
def n71c11 (t8 t9 t58 t1000:Value) (next6:KW) (R:RT) (w:World):Prop :=
 drawK w fun C8 w =>
 qV Pg C8 (Instr.loadAt 26 t8) fun t69 =>
 opV Pg (Instr.buildSlice 22 1 #[(0,t9)]) (panK R) w fun t67 w =>
 C8 w∧(
 n71c10 t58 t67 t69 t1000 C8 next6 R w)
def n71c12 (t3 t1000:Value) (R:RT) (w:World):Prop :=
 opV Pg (Instr.fieldAt 26 t3 4) (panK R) w fun t72 w =>
 opV Pg (Instr.loadAt 24 t72) (panK R) w fun t73 w =>
 opV Pg (Builtin.len_ #[24] 3 #[t73]) (panK R) w fun t74 w =>
 opV Pg (binS .gtr 3 true t74 (.int .i64 0)) (panK R) w fun t75 w =>
 joinK (fun (t1000:Value) (w:World) =>
 R (.returned t1000) w) fun K9 =>
 condP t75 (
 opV Pg (Instr.buildSlice 22 1 #[(0,(.int .u8 41))]) (panK R) w fun t77 w =>
 opV Pg (Builtin.append_ #[22,22] 22 #[t1000,t77]) (panK R) w fun t78 w =>
 K9 t78 w) (
 K9 t1000 w)
def n71c13 (t56 t58 t1000:Value) (next6:KW) (R:RT) (w:World):Prop :=
 opV Pg (Instr.indexAt 24 t56 t58) (panK R) w fun t61 w =>
 opV Pg (Instr.loadAt 26 t61) (panK R) w fun t62 w =>
 opV Pg (Instr.alloc 26 true (.tuple #[])) (panK R) w fun t8 w =>
 opU Pg (Instr.storeAt 26 t8 t62) (panK R) w fun w =>
 opV Pg (binS .eql 3 true t58 (.int .i64 0)) (panK R) w fun t64 w =>
 joinK (fun (t9:Value) (w:World) =>
 n71c11 t8 t9 t58 t1000 next6 R w) fun K7 =>
 condP t64 (
 K7 (.int .u8 40) w) (
 K7 (.int .u8 32) w)
def n71c14 (t3 t1000:Value) (R:RT) (w:World):Prop :=
 opV Pg (Instr.fieldAt 26 t3 4) (panK R) w fun t55 w =>
 opV Pg (Instr.loadAt 24 t55) (panK R) w fun t56 w =>
 opV Pg (Builtin.len_ #[24] 3 #[t56]) (panK R) w fun t57 w =>
 loop2 (fun t1000 t58 w next6 =>
 opV Pg (binS .lss 3 false t58 t57) (panK R) w fun t59 w =>
 condP t59 (
 n71c13 t56 t58 t1000 next6 R w) (
 n71c12 t3 t1000 R w)) t1000 (.int .i64 0) w
def n71c15 (t34 t36 t1000:Value) (next3:KW) (R:RT) (w:World):Prop :=
 opV Pg (Instr.indexAt 23 t34 t36) (panK R) w fun t38 w =>
 opV Pg (Instr.loadAt 74 t38) (panK R) w fun t39 w =>
 opV Pg (Instr.alloc 74 true (.tuple #[])) (panK R) w fun t6 w =>
 opU Pg (Instr.storeAt 74 t6 t39) (panK R) w fun w =>
 drawK w fun C4 w =>
 n71c9 t6 t36 t1000 C4 next3 R w
def n71c16 (t3 t1000:Value) (R:RT) (w:World):Prop :=
 opV Pg (Instr.fieldAt 26 t3 3) (panK R) w fun t33 w =>
 opV Pg (Instr.loadAt 23 t33) (panK R) w fun t34 w =>
 opV Pg (Builtin.len_ #[23] 3 #[t34]) (panK R) w fun t35 w =>
 loop2 (fun t1000 t36 w next3 =>
 opV Pg (binS .lss 3 false t36 t35) (panK R) w fun t37 w =>
 condP t37 (
 n71c15 t34 t36 t1000 next3 R w) (
 n71c14 t3 t1000 R w)) t1000 (.int .i64 0) w
def n71c17 (t3 t1000:Value) (C10:World→Prop) (K2:KV) (R:RT) (w:World):Prop :=
 qV Pg C10 (Instr.fieldAt 26 t3 2) fun t30 =>
 qV Pg C10 (Instr.loadAt 22 t30) fun t31 =>
 opV Pg (Instr.buildSlice 22 1 #[(0,(.int .u8 35))]) (panK R) w fun t28 w =>
 C10 w∧(
 opV Pg (Builtin.append_ #[22,22] 22 #[t1000,t28]) (panK R) w fun t29 w =>
 C10 w∧(
 callK Pg 89 #[t29,t31] (panK R) w fun t32 w =>
 C10 w∧(
 K2 t32 w)))
def n71c18 (t3 t1000:Value) (R:RT) (w:World):Prop :=
 opV Pg (Instr.fieldAt 26 t3 2) (panK R) w fun t23 w =>
 opV Pg (Instr.loadAt 22 t23) (panK R) w fun t24 w =>
 opV Pg (Builtin.len_ #[22] 3 #[t24]) (panK R) w fun t25 w =>
 opV Pg (binS .gtr 3 true t25 (.int .i64 0)) (panK R) w fun t26 w =>
 joinK (fun (t1000:Value) (w:World) =>
 n71c16 t3 t1000 R w) fun K2 =>
 condP t26 (
 drawK w fun C10 w =>
 n71c17 t3 t1000 C10 K2 R w) (
 K2 t1000 w)
def n71c19 (t3 t13:Value) (C11:World→Prop) (K1:KV) (R:RT) (w:World):Prop :=
 qV Pg C11 (Instr.fieldAt 26 t3 1) fun t20 =>
 qV Pg C11 (Instr.loadAt 3 t20) fun t21 =>
 opV Pg (Instr.buildSlice 22 1 #[(0,(.int .u8 61))]) (panK R) w fun t18 w =>
 C11 w∧(
 opV Pg (Builtin.append_ #[22,22] 22 #[t13,t18]) (panK R) w fun t19 w =>
 C11 w∧(
 callK Pg 88 #[t19,t21,(.int .i64 10)] (panK R) w fun t22 w =>
 C11 w∧(
 K1 t22 w)))
def n71 (t0 t1:Value) (R:RT) (w:World):Prop :=
 opV Pg (Instr.box 26 t1) (panK R) w fun t3 w =>
 opV Pg (Instr.fieldAt 26 t3 0) (panK R) w fun t11 w =>
 opV Pg (Instr.loadAt 9 t11) (panK R) w fun t12 w =>
 opV Pg (Builtin.append_ #[22,9] 22 #[t0,t12]) (panK R) w fun t13 w =>
 opV Pg (Instr.fieldAt 26 t3 1) (panK R) w fun t14 w =>
 opV Pg (Instr.loadAt 3 t14) (panK R) w fun t15 w =>
 opV Pg (binS .neq 3 true t15 (.int .i64 0)) (panK R) w fun t16 w =>
 joinK (fun (t1000:Value) (w:World) =>
 n71c18 t3 t1000 R w) fun K1 =>
 condP t16 (
 drawK w fun C11 w =>
 n71c19 t3 t13 C11 K1 R w) (
 K1 t13 w)
set_option maxHeartbeats 40000000 in
theorem n71s {t0 t1:Value} {R:RT} {w:World} (h:n71 t0 t1 R w):Calls Pg 66 #[t0,t1] w R:=by
 refine yD Tryz.func66 ?_
 refine zs<|zr<|yv h fun _ w h=>zm<|zn<|zk<|zs<|zr<|zm<|yv h fun _ w h=>yv h fun _ w h=>yx h fun _ w h=>zm<|zn<|zk ?_
 refine zs<|zs<|zr<|yv h fun _ w h=>yv h fun _ w h=>yb h fun _ w h=>zn<|zk<|yJ1 [0,17,18,19,20,21,22] 0 h (fun _ _ hkK1 h=>?_) fun σ w h=>?_
 · refine yC h (fun h=>?_) fun h=>?_
   · refine yh [0,17,18,19,20,21,22] h fun C hC h=>yw 0 hC ?_
     refine ye 3 hC h fun _ h=>?_
     refine ye 4 hC h fun _ h=>?_
     refine yo 1 ?_
     refine yS h fun _ w h=>zn ?_
     obtain ⟨hC,h⟩:=h
     refine ⟨hC,?_⟩
     refine yo 2 ?_
     refine yx h fun _ w h=>zn ?_
     obtain ⟨hC,h⟩:=h
     refine ⟨hC,?_⟩
     refine yo 5 ?_
     refine yc h c88 fun _ w h=>zn ?_
     obtain ⟨hC,h⟩:=h
     refine ⟨hC,?_⟩
     refine yw 6 hC ?_
     refine yz<|zk ?_
     exact zt hkK1 h
   refine sim_skip<|zk ?_
   exact zt hkK1 h
 refine zk<|zs<|zs<|zr<|yv h fun _ w h=>yv h fun _ w h=>yx h fun _ w h=>yb h fun _ w h=>zn<|zk<|yJ1 [0,27,28,29,30,31,32] 0 h (fun _ _ hkK2 h=>?_) fun σ w h=>?_
 · refine yC h (fun h=>?_) fun h=>?_
   · refine yh [0,27,28,29,30,31,32] h fun C hC h=>yw 0 hC ?_
     refine ye 3 hC h fun _ h=>?_
     refine ye 4 hC h fun _ h=>?_
     refine yo 1 ?_
     refine yS h fun _ w h=>zn ?_
     obtain ⟨hC,h⟩:=h
     refine ⟨hC,?_⟩
     refine yo 2 ?_
     refine yx h fun _ w h=>zn ?_
     obtain ⟨hC,h⟩:=h
     refine ⟨hC,?_⟩
     refine yo 5 ?_
     refine yc h c89 fun _ w h=>zn ?_
     obtain ⟨hC,h⟩:=h
     refine ⟨hC,?_⟩
     refine yw 6 hC ?_
     refine yz<|zk ?_
     exact zt hkK2 h
   refine sim_skip<|zk ?_
   exact zt hkK2 h
 refine zk<|zs<|zs<|zr<|yv h fun _ w h=>yv h fun _ w h=>yx h fun _ w h=>zm<|zn<|zk<|sim_block<|yl2 [0,6,36,37,38,39,40,41,42,43,44,45,46,47,48,49,50,51,52,53,54] 0 36 h fun σ w next h=>zs<|zr<|yb h fun _ w h=>?_
 refine zn<|zk<|zs<|yC h (fun h=>?_) fun h=>?_
 · refine sim_skip<|zk<|zs<|sim_block<|zs<|zr<|yv h fun _ w h=>yv h fun _ w h=>yv h fun _ w h=>yu h fun w h=>zn<|zk<|zs<|yh [0,40,41,42,43,44,45,46,47,48,49,50] h fun C hC h=>yw 0 hC ?_
   refine ye 3 hC h fun _ h=>?_
   refine ye 4 hC h fun _ h=>?_
   refine ye 8 hC h fun _ h=>?_
   refine ye 9 hC h fun _ h=>?_
   refine joinK_elim h (fun K5 hK h=>?_)
   refine sim_dmeet [0,41,42,45,46,47,50] (fun ρ w=>K5 (ρ 0) w) (fun T hT=>?_) (fun σ w h=>?_)
   · obtain ⟨h0,h1⟩:=h
     refine sim_dloud2 1 6 rfl rfl (by kernel_rfl) (fun _ _=>rfl) (fun _ _=>rfl) ?_ ?_
     · have h:=h0
       refine yS h fun _ w h=>zn ?_
       obtain ⟨hC,h⟩:=h
       refine ⟨_,fun _ h=>h,hC,?_⟩
       obtain ⟨h0,h1⟩:=h
       refine sim_dloud2 2 6 rfl rfl (by kernel_rfl) (fun _ _=>rfl) (fun _ _=>rfl) ?_ ?_
       · have h:=h0
         refine yx h fun _ w h=>zn ?_
         obtain ⟨hC,h⟩:=h
         refine ⟨_,fun _ h=>h,hC,?_⟩
         obtain ⟨h0,h1⟩:=h
         refine sim_dloud2 5 6 rfl rfl (by kernel_rfl) (fun _ _=>rfl) (fun _ _=>rfl) ?_ ?_
         · have h:=h0
           refine yc h c90 fun _ w h=>zn ?_
           obtain ⟨hC,h⟩:=h
           refine ⟨_,fun _ h=>h,hC,?_⟩
           refine yo 6 ?_
           refine yS h fun _ w h=>zn ?_
           obtain ⟨hC,h⟩:=h
           refine ⟨hC,?_⟩
           refine yo 7 ?_
           refine yx h fun _ w h=>zn ?_
           obtain ⟨hC,h⟩:=h
           refine ⟨hC,?_⟩
           refine yo 10 ?_
           refine yc h c90 fun _ w h=>zn ?_
           obtain ⟨hC,h⟩:=h
           refine ⟨hC,?_⟩
           refine yw 11 hC ?_
           refine yz ?_
           exact zt hT h
         have h:=h1
         refine yS h fun _ w h=>zn ?_
         obtain ⟨hC,h⟩:=h
         refine ⟨_,fun _ h=>h,hC,?_⟩
         refine yo 5 ?_
         refine yc h c90 fun _ w h=>zn ?_
         obtain ⟨hC,h⟩:=h
         refine ⟨hC,?_⟩
         refine yo 7 ?_
         refine yx h fun _ w h=>zn ?_
         obtain ⟨hC,h⟩:=h
         refine ⟨hC,?_⟩
         refine yo 10 ?_
         refine yc h c90 fun _ w h=>zn ?_
         obtain ⟨hC,h⟩:=h
         refine ⟨hC,?_⟩
         refine yw 11 hC ?_
         refine yz ?_
         exact zt hT h
       have h:=h1
       refine yS h fun _ w h=>zn ?_
       obtain ⟨hC,h⟩:=h
       refine ⟨_,fun _ h=>h,hC,?_⟩
       refine yo 2 ?_
       refine yx h fun _ w h=>zn ?_
       obtain ⟨hC,h⟩:=h
       refine ⟨hC,?_⟩
       refine yo 5 ?_
       refine yc h c90 fun _ w h=>zn ?_
       obtain ⟨hC,h⟩:=h
       refine ⟨hC,?_⟩
       refine yo 7 ?_
       refine yx h fun _ w h=>zn ?_
       obtain ⟨hC,h⟩:=h
       refine ⟨hC,?_⟩
       refine yo 10 ?_
       refine yc h c90 fun _ w h=>zn ?_
       obtain ⟨hC,h⟩:=h
       refine ⟨hC,?_⟩
       refine yw 11 hC ?_
       refine yz ?_
       exact zt hT h
     have h:=h1
     refine yS h fun _ w h=>zn ?_
     obtain ⟨hC,h⟩:=h
     refine ⟨_,fun _ h=>h,hC,?_⟩
     refine yo 1 ?_
     refine yS h fun _ w h=>zn ?_
     obtain ⟨hC,h⟩:=h
     refine ⟨hC,?_⟩
     refine yo 2 ?_
     refine yx h fun _ w h=>zn ?_
     obtain ⟨hC,h⟩:=h
     refine ⟨hC,?_⟩
     refine yo 5 ?_
     refine yc h c90 fun _ w h=>zn ?_
     obtain ⟨hC,h⟩:=h
     refine ⟨hC,?_⟩
     refine yo 7 ?_
     refine yx h fun _ w h=>zn ?_
     obtain ⟨hC,h⟩:=h
     refine ⟨hC,?_⟩
     refine yo 10 ?_
     refine yc h c90 fun _ w h=>zn ?_
     obtain ⟨hC,h⟩:=h
     refine ⟨hC,?_⟩
     refine yw 11 hC ?_
     refine yz ?_
     exact zt hT h
   subst hK
   exact zk<|zr<|zm<|yS h fun _ w h=>yx h fun _ w h=>zm<|zn<|sim_block_normal<|zk<|zr<|yb h fun _ w h=>zm<|zn<|zk<|⟨rfl,h⟩
 refine sim_exit<|sim_then_exit<|sim_then_exit<|sim_block_hit<|zk<|zs<|zs<|zr<|yv h fun _ w h=>yv h fun _ w h=>yx h fun _ w h=>zm<|zn<|zk<|sim_block ?_
 refine yl2 [0,7,8,9,58,59,60,61,62,63,64,65,66,67,68,69,70,71] 0 58 h fun σ w next h=>zs<|zr<|yb h fun _ w h=>zn<|zk<|zs<|yC h (fun h=>?_) fun h=>?_
 · refine sim_skip<|zk<|zs<|sim_block<|zs<|zr<|zm<|yv h fun _ w h=>yv h fun _ w h=>yv h fun _ w h=>zm<|yu h fun w h=>zn<|zk<|zs ?_
   refine zr<|zm<|zn<|zk<|zs<|zs<|zr<|zm<|yb h fun _ w h=>zn<|zk<|yJ1 [9] 9 h (fun _ _ hkK7 h=>?_) fun σ w h=>?_
   · refine yC h (fun h=>?_) fun h=>?_
     · refine zr<|zm<|zn<|zk ?_
       exact zt hkK7 h
     refine sim_skip<|zk ?_
     exact zt hkK7 h
   refine zk<|yh [0,65,66,67,68,69,70] h fun C hC h=>yw 0 hC ?_
   refine yw 1 hC ?_
   refine ye 4 hC h fun _ h=>?_
   refine yo 2 ?_
   refine yS h fun _ w h=>zn ?_
   obtain ⟨hC,h⟩:=h
   refine ⟨hC,?_⟩
   refine yo 3 ?_
   refine yx h fun _ w h=>zn ?_
   obtain ⟨hC,h⟩:=h
   refine ⟨hC,?_⟩
   refine yo 5 ?_
   refine yc h c66 fun _ w h=>zn ?_
   obtain ⟨hC,h⟩:=h
   refine ⟨hC,?_⟩
   refine yw 6 hC ?_
   exact yz<|sim_block_normal<|zk<|zr<|yb h fun _ w h=>zm<|zn<|zk<|⟨rfl,h⟩
 refine sim_exit<|sim_then_exit<|sim_then_exit<|sim_block_hit<|zk<|zs<|zs<|zr<|yv h fun _ w h=>yv h fun _ w h=>yx h fun _ w h=>yb h fun _ w h=>zn<|zk<|yJ1 [0,76,77,78] 0 h (fun _ _ hkK9 h=>?_) fun σ w h=>?_
 · refine yC h (fun h=>?_) fun h=>?_
   · refine zr<|zm<|yS h fun _ w h=>yx h fun _ w h=>zm<|zn<|zk ?_
     exact zt hkK9 h
   refine sim_skip<|zk ?_
   exact zt hkK9 h
 exact zk<|zs<|zr<|zm<|zm<|zn<|zk<|sim_ret<|body_ret1 rfl rfl h
def n51 (t0 t1:Value) (R:RT) (w:World):Prop :=
 opV Pg (Instr.box 26 t0) (panK R) w fun t2 w =>
 opV Pg (Instr.box 106 t1) (panK R) w fun t3 w =>
 opV Pg (Instr.fieldAt 106 t3 1) (panK R) w fun t6 w =>
 opV Pg (Instr.loadAt 3 t6) (panK R) w fun t7 w =>
 opV Pg (Instr.alloc 3 true (.tuple #[])) (panK R) w fun t5 w =>
 opU Pg (Instr.storeAt 3 t5 t7) (panK R) w fun w =>
 opV Pg (Instr.fieldAt 26 t2 4) (panK R) w fun t8 w =>
 opV Pg (Instr.loadAt 24 t8) (panK R) w fun t9 w =>
 opV Pg (Instr.makeFunc (.func 92) #[] #[t3,t5]) (panK R) w fun t10 w =>
 callK Pg 91 #[t9,t10] (panK R) w fun t11 w =>
 R (.returned t11) w
theorem n51s {t0 t1:Value} {R:RT} {w:World} (h:n51 t0 t1 R w):Calls Pg 67 #[t0,t1] w R:=by
 refine yD Tryz.func67 ?_
 refine zs<|zr<|yv h fun _ w h=>yv h fun _ w h=>zm<|zn<|zk<|zs<|zr<|yv h fun _ w h=>yv h fun _ w h=>yv h fun _ w h=>yu h fun w h=>zn<|zk ?_
 exact zs<|zr<|yv h fun _ w h=>yv h fun _ w h=>yF h fun _ w h=>yc h c91 fun _ w h=>zm<|zn<|zk<|sim_ret<|body_ret1 rfl rfl h
def n62c1 (t0 t9:Value) (C4:World→Prop) (R:RT) (w:World):Prop :=
 qN Pg C4 (nilN t0) fun t41 =>
 qV Pg C4 (Instr.fieldAt 83 t41 0) fun t42 =>
 qV Pg C4 (Instr.loadAt 9 t42) fun t43 =>
 qN Pg C4 (nilN t0) fun t46 =>
 qV Pg C4 (Instr.fieldAt 83 t46 1) fun t47 =>
 qV Pg C4 (Instr.loadAt 3 t47) fun t48 =>
 qV Pg C4 (Instr.sliceAt 9 t43 (some t9) (some t48) none) fun t49 =>
 R (.returned t49) w
def n62c2 (t0:Value) (next1:World→Prop) (R:RT) (w:World):Prop :=
 opN Pg (nilN t0) (panK R) w fun t34 w =>
 opV Pg (Instr.fieldAt 83 t34 1) (panK R) w fun t35 w =>
 opV Pg (Instr.loadAt 3 t35) (panK R) w fun t36 w =>
 opV Pg (binS .add 3 true t36 (.int .i64 1)) (panK R) w fun t37 w =>
 opN Pg (nilN t0) (panK R) w fun t38 w =>
 opV Pg (Instr.fieldAt 83 t38 1) (panK R) w fun t39 w =>
 opU Pg (Instr.storeAt 3 t39 t37) (panK R) w fun w =>
 next1 w
def n62c3 (t0 t1 t9:Value) (C2:World→Prop) (next1:World→Prop) (R:RT) (w:World):Prop :=
 qN Pg C2 (nilN t0) fun t11 =>
 qV Pg C2 (Instr.fieldAt 83 t11 1) fun t12 =>
 qV Pg C2 (Instr.loadAt 3 t12) fun t13 =>
 qN Pg C2 (nilN t0) fun t15 =>
 qV Pg C2 (Instr.fieldAt 83 t15 0) fun t16 =>
 qV Pg C2 (Instr.loadAt 9 t16) fun t17 =>
 qV Pg C2 (Builtin.len_ #[9] 3 #[t17]) fun t18 =>
 qV Pg C2 (binS .lss 3 false t13 t18) fun t19 =>
 joinK (fun (t31:Value) (w:World) =>
 pickK t19 t31 (.bool false) fun t32 =>
 condP t32 (
 n62c2 t0 next1 R w) (
 drawK w fun C4 w =>
 n62c1 t0 t9 C4 R w)) fun K3 =>
 guardP t19 true (
 qN Pg C2 (nilN t0) fun t23 =>
 qV Pg C2 (Instr.fieldAt 83 t23 0) fun t24 =>
 qV Pg C2 (Instr.loadAt 9 t24) fun t25 =>
 qN Pg C2 (nilN t0) fun t27 =>
 qV Pg C2 (Instr.fieldAt 83 t27 1) fun t28 =>
 qV Pg C2 (Instr.loadAt 3 t28) fun t29 =>
 qV Pg C2 (Instr.index 9 t25 t29) fun t30 =>
 callV Pg t1 #[t30] (panK R) w fun t31 w =>
 C2 w∧(
 K3 t31 w)) (
 K3 undef w)
def n62 (t0 t1:Value) (R:RT) (w:World):Prop :=
 opN Pg (nilN t0) (panK R) w fun t7 w =>
 opV Pg (Instr.fieldAt 83 t7 1) (panK R) w fun t8 w =>
 opV Pg (Instr.loadAt 3 t8) (panK R) w fun t9 w =>
 loop0 (fun w next1 =>
 drawK w fun C2 w =>
 n62c3 t0 t1 t9 C2 next1 R w) w
theorem n62s {t0 t1:Value} {R:RT} {w:World} (h:n62 t0 t1 R w):Calls Pg 71 #[t0,t1] w R:=by
 refine yD Tryz.func71 ?_
 refine zs<|zr<|zm<|zn<|zk<|zs<|zr<|zm<|yN h fun _ w h=>yv h fun _ w h=>yv h fun _ w h=>zm<|zn<|zk<|zs ?_
 refine sim_block<|yl0 [10,11,12,13,14,15,16,17,18,19,20,21,22,23,24,25,26,27,28,29,30,31,32,33,34,35,36,37,38,39] h fun σ w next h=>zs<|zs<|yh [10,11,12,13,14,15,16,17,18,19,20,21,22,23,24,25,26,27,28,29,30,31,32] h fun C hC h=>yw 0 hC ?_
 refine yn 1 hC h fun _ h=>?_
 refine ye 2 hC h fun _ h=>?_
 refine ye 3 hC h fun _ h=>?_
 refine yw 4 hC ?_
 refine yn 5 hC h fun _ h=>?_
 refine ye 6 hC h fun _ h=>?_
 refine ye 7 hC h fun _ h=>?_
 refine ye 8 hC h fun _ h=>?_
 refine ye 9 hC h fun _ h=>?_
 refine yw 10 hC ?_
 refine yj1 1 [21,20,19,18,17,16,15,14,13,12,11,10,9,8,7,6,5,4,3,2,1,0] [21,22,23,24,25,26,27,28,29,30,31] 31 h (fun _ hT hb h=>?_) (fun _ hT hb h=>?_) fun σ w hC h=>?_
 · refine yw 11 hC ?_
   refine yw 12 hC ?_
   refine yn 13 hC h fun _ h=>?_
   refine ye 14 hC h fun _ h=>?_
   refine ye 15 hC h fun _ h=>?_
   refine yw 16 hC ?_
   refine yn 17 hC h fun _ h=>?_
   refine ye 18 hC h fun _ h=>?_
   refine ye 19 hC h fun _ h=>?_
   refine ye 20 hC h fun _ h=>?_
   refine yo 21 ?_
   refine yV h fun _ w h=>zn ?_
   obtain ⟨hC,h⟩:=h
   refine ⟨hC,?_⟩
   exact yt hT hC h
 · refine yi 11 hC ?_
   refine yi 12 hC ?_
   refine yi 13 hC ?_
   refine yi 14 hC ?_
   refine yi 15 hC ?_
   refine yi 16 hC ?_
   refine yi 17 hC ?_
   refine yi 18 hC ?_
   refine yi 19 hC ?_
   refine yi 20 hC ?_
   refine yi 21 hC ?_
   exact yt hT hC h
 refine yP 22 hC h fun _ h=>?_
 refine yz<|zk<|yC h (fun h=>?_) fun h=>?_
 · refine sim_skip<|zk<|sim_block<|zr<|zm<|yN h fun _ w h=>yv h fun _ w h=>yv h fun _ w h=>yb h fun _ w h=>yN h fun _ w h=>yv h fun _ w h=>yu h fun w h=>zn<|sim_block_normal<|zk ?_
   exact ⟨rfl,h⟩
 refine sim_exit<|sim_then_exit<|sim_then_exit<|sim_block_hit<|zk<|zs<|yh [4,40,41,42,43,44,45,46,47,48,49] h fun C hC h=>yw 0 hC ?_
 refine yn 1 hC h fun _ h=>?_
 refine ye 2 hC h fun _ h=>?_
 refine ye 3 hC h fun _ h=>?_
 refine yw 4 hC ?_
 refine yw 5 hC ?_
 refine yn 6 hC h fun _ h=>?_
 refine ye 7 hC h fun _ h=>?_
 refine ye 8 hC h fun _ h=>?_
 refine ye 9 hC h fun _ h=>?_
 refine yw 10 hC ?_
 exact yz<|zk<|sim_ret<|body_ret1 rfl rfl h
def n66 (t0:Value) (R:RT) (w:World):Prop :=
 opV Pg (Instr.buildSlice 22 1 #[(0,t0)]) (panK R) w fun t4 w =>
 opV Pg (Go.convert 22 9 t4) (panK R) w fun t5 w =>
 opV Pg (binS .add 9 true (.string { data := #[97] }) t5) (panK R) w fun t6 w =>
 callK Pg 73 #[t6] (panK R) w fun t7 w =>
 R (.returned t7) w
theorem n66s {t0:Value} {R:RT} {w:World} (h:n66 t0 R w):Calls Pg 72 #[t0] w R:=by
 refine yD Tryz.func72 ?_
 refine zs<|zr<|zm<|zn<|zk<|zs<|zr<|zm<|yS h fun _ w h=>yv h fun _ w h=>yb h fun _ w h=>yc h c73 fun _ w h=>zm<|zn<|zk ?_
 exact sim_ret<|body_ret1 rfl rfl h
def n16c1 (t0 t11 t15:Value) (R:RT) (w:World):Prop :=
 pickK t11 t15 (.bool false) fun t16 =>
 joinK (fun (t22:Value) (w:World) =>
 pickK t16 t22 (.bool false) fun t23 =>
 R (.returned t23) w) fun K2 =>
 guardP t16 true (
 opV Pg (Go.convert 9 22 t0) (panK R) w fun t19 w =>
 callK Pg 98 #[t19,(.func (.func 94) #[] #[])] (panK R) w fun t21 w =>
 opV Pg (Op.unary .not t21) (panK R) w fun t22 w =>
 K2 t22 w) (
 K2 undef w)
def n16c2 (t0 t11:Value) (R:RT) (w:World):Prop :=
 joinK (fun (t15:Value) (w:World) =>
 n16c1 t0 t11 t15 R w) fun K1 =>
 guardP t11 true (
 opV Pg (Instr.index 9 t0 (.int .i64 0)) (panK R) w fun t14 w =>
 callK Pg 95 #[t14] (panK R) w fun t15 w =>
 K1 t15 w) (
 K1 undef w)
def n16 (t0:Value) (R:RT) (w:World):Prop :=
 opV Pg (Builtin.len_ #[9] 3 #[t0]) (panK R) w fun t5 w =>
 opV Pg (binS .geq 3 true t5 (.int .i64 1)) (panK R) w fun t6 w =>
 opV Pg (Builtin.len_ #[9] 3 #[t0]) (panK R) w fun t8 w =>
 opV Pg (binS .leq 3 true t8 (.int .i64 32)) (panK R) w fun t9 w =>
 opV Pg (Instr.buildSlice 145 2 #[(0,t6),(1,t9)]) (panK R) w fun t10 w =>
 callK Pg 97 #[t10] (panK R) w fun t11 w =>
 n16c2 t0 t11 R w
theorem n16s {t0:Value} {R:RT} {w:World} (h:n16 t0 R w):Calls Pg 73 #[t0] w R:=by
 refine yD Tryz.func73 ?_
 refine zs<|zr<|zm<|zn<|zk<|zs<|zr<|zm<|zn<|zk<|zs<|sim_regionG<|yG 9<|zm<|yx h fun _ w h=>?_
 refine yb h fun _ w h=>zm<|yx h fun _ w h=>yb h fun _ w h=>yS h fun _ w h=>yc h c97 fun _ w h=>zm<|zn<|yg1 3 8 true [13,14,15] 15 h (fun _ T hT h=>?_) fun σ w h=>?_
 · refine zm<|yv h fun _ w h=>yc h c95 fun _ w h=>zn ?_
   exact zt hT h
 refine yG 2<|yp h fun _ h=>zm<|zn<|yg1 5 13 true [18,19,20,21,22] 22 h (fun _ T hT h=>?_) fun σ w h=>?_
 · refine zm<|yv h fun _ w h=>zm<|yc h c98 fun _ w h=>yv h fun _ w h=>zn ?_
   exact zt hT h
 exact yG 2<|yp h fun _ h=>zm<|zn<|sim_end<|zk<|sim_ret<|body_ret1 rfl rfl h
def n30c1 (t0 t1 t8:Value) (next1:KV) (R:RT) (w:World):Prop :=
 opV Pg (Instr.indexAt 145 t0 t8) (panK R) w fun t14 w =>
 opV Pg (Instr.loadAt 4 t14) (panK R) w fun t15 w =>
 opV Pg (binS .eql 4 false t1 t15) (panK R) w fun t16 w =>
 condP t16 (
 R (.returned t8) w) (
 opV Pg (binS .add 3 true t8 (.int .i64 1)) (panK R) w fun t18 w =>
 next1 t18 w)
def n30 (t0 t1:Value) (R:RT) (w:World):Prop :=
 opV Pg (Builtin.len_ #[145] 3 #[t0]) (panK R) w fun t7 w =>
 loop1 (fun t8 w next1 =>
 opV Pg (binS .lss 3 false t8 t7) (panK R) w fun t9 w =>
 condP t9 (
 n30c1 t0 t1 t8 next1 R w) (
 R (.returned (.int .i64 (-1))) w)) (.int .i64 0) w
theorem n30s {t0 t1:Value} {R:RT} {w:World} (h:n30 t0 t1 R w):Calls Pg 131 #[t0,t1] w R:=by
 refine yD Tryz.func131 ?_
 refine zs<|zr<|zm<|zn<|zk<|zs<|zs<|zr<|zm<|yx h fun _ w h=>zm<|zn<|zk<|sim_block<|yl1 [4,5,8,9,10,11,12,13,14,15,16,17,18] 8 h fun σ w next h=>?_
 refine zs<|zr<|yb h fun _ w h=>zn<|zk<|zs<|yC h (fun h=>?_) fun h=>?_
 · refine sim_skip<|zk<|zs<|sim_block<|zs<|zr<|zm<|zm<|zn<|zk<|zs<|zr<|zm<|zm<|zm ?_
   refine yv h fun _ w h=>yv h fun _ w h=>yb h fun _ w h=>zn<|zk<|yC h (fun h=>zs<|zr<|zm<|zm<|zn<|zk<|sim_ret<|sim_block_ret<|sim_then_ret<|sim_then_ret<|sim_block_ret<|sim_then_ret<|body_ret1 rfl rfl h) fun h=>sim_skip<|sim_block_normal<|zk<|zr<|yb h fun _ w h=>zm<|zn<|zk ?_
   exact ⟨rfl,h⟩
 exact sim_exit<|sim_then_exit<|sim_then_exit<|sim_block_hit<|zk<|zs<|zr<|zm<|zn<|zk<|sim_ret<|body_ret1 rfl rfl h
def letterB (c:UInt8):Bool:=(decide (65≤(c.toNat:Int))&&decide ((c.toNat:Int)≤90))||(decide (97≤(c.toNat:Int))&&decide ((c.toNat:Int)≤122))
def digitB (c:UInt8):Bool:=decide (48≤(c.toNat:Int))&&decide ((c.toNat:Int)≤57)
def wordB (c:UInt8):Bool:=letterB c||digitB c||((c.toNat:Int) == 95)
def nameB (s:ByteArray):Bool:=decide (1≤(s.size:Int))&&decide ((s.size:Int)≤32)&&(match s.data.toList with | []=>false | c::_=>letterB c)&&s.data.toList.all wordB
theorem letter_ret (w0:World) (c:UInt8):Ret Pg 95 #[.int .u8 c.toNat] w0 fun r w'=>r = .bool (letterB c)∧Ext w0 w':=by
 refine n20s (R:=retR _) ?_;unfold n20
 simp (disch:=try exact DI) only [↓PR,QR,simprocAttr,↓n20c1,↓n20c2]
 unfold letterB
 have e:=Ext.refl w0
 generalize decide (65≤(c.toNat:Int))=b1
 generalize decide ((c.toNat:Int)≤90)=b2
 generalize decide (97≤(c.toNat:Int))=b3
 generalize decide ((c.toNat:Int)≤122)=b4
 cases b1<;>cases b2<;>cases b3<;>cases b4<;>simp (disch:=try exact DI) only [↓PR,QR,simprocAttr,↓n20c1,↓n20c2]<;>exact ⟨by trivial,e⟩
theorem digit_ret (w0:World) (c:UInt8):Ret Pg 96 #[.int .u8 c.toNat] w0 fun r w'=>r = .bool (digitB c)∧Ext w0 w':=by
 refine n19s (R:=retR _) ?_;unfold n19
 simp (disch:=try exact DI) only [↓PR,QR,simprocAttr,Sw.joinK_eq]
 unfold digitB
 have e:=Ext.refl w0
 generalize decide (48≤(c.toNat:Int))=b1
 generalize decide ((c.toNat:Int)≤57)=b2
 cases b1<;>cases b2<;>simp (disch:=try exact DI) only [↓PR,QR,simprocAttr,Sw.joinK_eq]<;>exact ⟨by trivial,e⟩
def BoolsOf (w:World) (v:Value) (l:List Bool):Prop:=SliceOf w 1 EBool v l
theorem Index_bool_ret (w0:World) (v:Value) (l:List Bool) (x:Bool) (hs:BoolsOf w0 v l) :
 Ret Pg 131 #[v,.bool x] w0 fun r w'=>r = .int .i64 (idx (x == ·) l)∧Ext w0 w':=by
 obtain ⟨A,c,rfl,hlc,hcm,hlm,hel⟩:=SliceOf.open hs
 refine n30s (R:=retR _) ?_;unfold n30
 simp (disch:=try exact DI) only [↓PR,QR,simprocAttr]
 refine loop1_intro (fun i w=>∃ k:Nat,i = .int .i64 k∧k≤l.length∧Ext w0 w∧∀ (j:Nat) y,j < k→l[j]?=some y→(x == y)=false) (fun i _=>l.length - (intOf i).toNat) ⟨0,rfl,by omega,Ext.refl _,fun j y h=>by omega⟩ ?_
 rintro i w ⟨k,rfl,hk,e,hb⟩
 by_cases hlt:k < l.length
 · obtain ⟨y,hy⟩:=getElem?_lt hlt
   obtain ⟨b,o,cs,rfl,hl,hA,rfl⟩:=hel k y hy
   have hd:decide ((k:Int) < (l.length:Int))=true:=by simp;omega
   have hc:w.cell? ⟨b,o+k*1,none⟩=some (.bool y):=(hA.ext e).cell 0 rfl
   simp (disch:=try exact DI) only [↓PR,QR,simprocAttr,hd,hc,↓n30c1]
   cases hp:(x == y) with
   | true =>
    simp (disch:=try exact DI) only [↓PR,QR,simprocAttr]
    exact ⟨by rw [idx_here hy hp hb],e⟩
   | false =>
    simp (disch:=try exact DI) only [↓PR,QR,simprocAttr]
    exact ⟨⟨k+1,rfl,by omega,e,before_succ hb hy hp⟩,by simp [intOf];omega⟩
 · have hd:decide ((k:Int) < (l.length:Int))=false:=by simp;omega
   simp (disch:=try exact DI) only [↓PR,QR,simprocAttr,hd,↓n30c1]
   exact ⟨by rw [idx_none fun j y hy=>hb j y (by have:=(List.getElem?_eq_some_iff.1 hy).1;omega) hy],e⟩
theorem Contains_bool_ret (w0:World) (v:Value) (l:List Bool) (x:Bool) (hs:BoolsOf w0 v l) :
 Ret Pg 112 #[v,.bool x] w0 fun r w'=>r = .bool (l.any (x == ·))∧Ext w0 w':=by
 refine n26s (R:=retR _) ?_;unfold n26
 refine callK_ret (Index_bool_ret _ _ l x hs) ?_
 rintro r w' ⟨rfl,e⟩
 simp (disch:=try exact DI) only [↓PR,QR,simprocAttr,Sw.joinK_eq]
 exact ⟨by rw [idx_neg],e⟩
theorem all_ret (w0:World) (v:Value) (l:List Bool) (hs:BoolsOf w0 v l) :
 Ret Pg 97 #[v] w0 fun r w'=>r = .bool (l.all id)∧Ext w0 w':=by
 refine n18s (R:=retR _) ?_;unfold n18
 refine callK_ret (Contains_bool_ret _ _ l false hs) ?_
 rintro r w' ⟨rfl,e⟩
 simp (disch:=try exact DI) only [↓PR,QR,simprocAttr,Sw.joinK_eq]
 refine ⟨?_,e⟩
 congr 1
 clear hs
 induction l with
 | nil=>rfl
 | cons a l ih=>cases a<;>simp_all
theorem NameS1_ret (w0:World) (c:UInt8):Ret Pg 94 #[.int .u8 c.toNat] w0 fun r w'=>r = .bool (!wordB c)∧Ext w0 w':=by
 refine n17s (R:=retR _) ?_;unfold n17
 refine callK_ret (letter_ret _ c) ?_
 rintro r w' ⟨rfl,e⟩
 simp (disch:=try exact DI) only [↓PR,QR,simprocAttr,↓n17c1,↓n17c2]
 unfold wordB
 cases letterB c with
 | true=>simp (disch:=try exact DI) only [↓PR,QR,simprocAttr,↓n17c1,↓n17c2];exact ⟨by trivial,e⟩
 | false =>
  simp (disch:=try exact DI) only [↓PR,QR,simprocAttr,↓n17c1,↓n17c2]
  refine callK_ret (digit_ret _ c) ?_
  rintro r w2 ⟨rfl,e2⟩
  have e3:=e.trans e2
  cases digitB c with
  | true=>simp (disch:=try exact DI) only [↓PR,QR,simprocAttr,↓n17c1,↓n17c2];exact ⟨by trivial,e3⟩
  | false=>simp (disch:=try exact DI) only [↓PR,QR,simprocAttr,↓n17c1,↓n17c2];exact ⟨by trivial,e3⟩
def BytesOf (w:World) (v:Value) (l:List UInt8):Prop:=SliceOf w 1 EByte v l
theorem ContainsFunc_byte_ret (w0:World) (v:Value) (l:List UInt8) (g:FuncId) (caps:Array Value) (p:UInt8→Bool) (hs:BytesOf w0 v l) (hg:Callable Pg g) (hc:Tests w0 (fun _ v x=>v = .int .u8 (x.toNat:Int)) g caps p l) :
 Ret Pg 98 #[v,.func (.func g) #[] caps] w0 fun r w'=>r = .bool (l.any p)∧Ext w0 w':=by
 refine n25s (R:=retR _) ?_;unfold n25
 refine callK_ret (IndexFunc_byte_ret _ _ l g caps p hs hg hc) ?_
 rintro r w' ⟨rfl,e⟩
 simp (disch:=try exact DI) only [↓PR,QR,simprocAttr,Sw.joinK_eq]
 exact ⟨by rw [idx_neg],e⟩
theorem boolsNew (w:World) (l:List Bool) (T:TypeId) (hl:l.length≤9223372036854775807):BoolsOf (w.alloc (.cells (l.map Value.bool).toArray T)) (.slice (some ⟨w.heap.size,0,none⟩) l.length l.length) l:=SliceOf.new1 _ (fun _ _=>rfl) w l T hl
theorem Name_ret (w0:World) (s:ByteArray):Ret Pg 73 #[.string s] w0 fun r w'=>r = .bool (nameB s)∧Ext w0 w':=by
 refine n16s (R:=retR _) ?_;unfold n16
 simp (disch:=try exact DI) only [↓PR,QR,simprocAttr,↓n16c1,↓n16c2]
 have e1:Ext w0 (w0.alloc (.cells #[.bool (decide (1≤(s.size:Int))),.bool (decide ((s.size:Int)≤32))] 4)):=(Ext.refl w0).alloc _
 refine callK_ret (all_ret _ _ [decide (1≤(s.size:Int)),decide ((s.size:Int)≤32)] (boolsNew w0 [decide (1≤(s.size:Int)),decide ((s.size:Int)≤32)] 4 (by simp))) ?_
 rintro r w1 ⟨rfl,e2⟩
 have e:=e1.trans e2
 have hall:[decide (1≤(s.size:Int)),decide ((s.size:Int)≤32)].all id=(decide (1≤(s.size:Int))&&decide ((s.size:Int)≤32)):=by simp
 rw [hall]
 unfold nameB
 cases h1:(decide (1≤(s.size:Int))&&decide ((s.size:Int)≤32)) with
 | false=>simp (disch:=try exact DI) only [↓PR,QR,simprocAttr,↓n16c1,↓n16c2];exact ⟨by trivial,e⟩
 | true =>
  simp (disch:=try exact DI) only [↓PR,QR,simprocAttr,↓n16c1,↓n16c2]
  have hlen:s.size≤9223372036854775807:=by simp only [Bool.and_eq_true,decide_eq_true_eq] at h1;omega
  obtain ⟨c,cs,hcs⟩:∃ c cs,s.data.toList=c::cs:=by
   simp only [Bool.and_eq_true,decide_eq_true_eq] at h1
   cases hd:s.data.toList with
   | nil =>
    have:s.data.size=0:=by rw [← Array.length_toList,hd];rfl
    have h0:s.size=s.data.size:=rfl
    omega
   | cons c cs=>exact ⟨c,cs,rfl⟩
  rw [op_indexS0 Tryz.underlying9 s .i64 (b:=c) (by rw [hcs];rfl)]
  refine callK_ret (letter_ret _ c) ?_
  rintro r w2 ⟨rfl,e3⟩
  have e:=e.trans e3
  rw [hcs]
  cases hl:letterB c with
  | false=>simp (disch:=try exact DI) only [↓PR,QR,simprocAttr,↓n16c1,↓n16c2];exact ⟨by rw [hl];rfl,e⟩
  | true =>
   simp (disch:=try exact DI) only [↓PR,QR,simprocAttr,↓n16c1,↓n16c2]
   refine op_bytes Tryz.underlying9 Tryz.underlying22 Tryz.underlying5 s hlen ?_
   rintro v w3 e4 ⟨A,cp,rfl,hc1,hc2,b,rfl,hcell⟩
   have hsz:s.data.toList.length=s.size:=by rw [Array.length_toList];rfl
   have hB:BytesOf w3 (.slice (some ⟨b,0,none⟩) s.size cp) s.data.toList:=by
    rw [← hsz]
    refine ⟨_,_,rfl,by omega,hc2,fun _=>⟨_,_,rfl,fun k x hx=>⟨[.int .u8 x.toNat],rfl,fun j v hv=>?_,rfl⟩⟩⟩
    cases j with
    | zero=>injection hv with hv;subst hv;simpa using hcell k x hx
    | succ j=>cases hv
   have e:=e.trans e4
   refine callK_ret (ContainsFunc_byte_ret _ _ s.data.toList _ _ (fun x=>!wordB x) hB c94 ?_) ?_
   · rintro w v x _ _ rfl
     exact NameS1_ret w x
   · rintro r w4 ⟨rfl,e5⟩
     simp (disch:=try exact DI) only [↓PR,QR,simprocAttr,↓n16c1,↓n16c2]
     refine ⟨?_,e.trans e5⟩
     rw [hcs,hl]
     congr 1
     generalize c::cs=l
     clear hall
     induction l with
     | nil=>rfl
     | cons a l ih=>simp only [List.any_cons,List.all_cons,Bool.not_or,Bool.not_not,Bool.true_and] at *;rw [ih]
end Go.Proofs.YtcffhmapmaahnaaGreatDoor
namespace Go.Sw
open Go.RowKit (Below)
section
variable {P:Program} {QP:List PanicEntry→World→Prop} {w:World}
theorem op_appendL {α:Type} {t ty T n m:Nat} {z:Value} {agg:Bool} {enc:α→List Value} {v:Value} {l l':List α} {base:Nat} {k:Value→World→Prop}
 (ht:P.underlying t=some (.slice T)) (hT:TyInfo P T agg n m z) (hz:z.cells.size=n) (h0:0 < n) (hn:∀ x,(enc x).length=n) (h1:∀ x,x∈l'→∀ u∈enc x,u.oneCell'=true)
 (hown:OwnE w base T n enc v l) {b o c:Nat} (hc:∀ j x,l'[j]?=some x→ElemAt w b (o+j*n) (enc x)) (hbase:base≤w.heap.size) (hl':0 < l'.length) (hm:(l.length+l'.length)*m≤140737488355328) (hb:l.length+l'.length≤140737488355328)
 (hk:∀ g cap w',OwnE w' base T n enc (.slice (some ⟨g,0,none⟩) (l.length+l'.length) cap) (l++l')→w.grownBy w' v.ownBlock→(v.ownBlock=some g∨g=w.heap.size)→g < w'.heap.size→k (.slice (some ⟨g,0,none⟩) (l.length+l'.length) cap) w') :
 opV P (Builtin.append_ #[t,t] ty #[v,.slice (some ⟨b,o,none⟩) l'.length c]) QP w k:=by
 obtain ⟨⟨i,hi,hs,hby,hzz⟩,_⟩:=hT
 have hfl:(l'.flatMap enc).length=l'.length*n:=by
  clear hm hb hc h1 hk hl'
  induction l' with
  | nil=>simp
  | cons a l ih=>rw [List.flatMap_cons,List.length_append,hn,ih,List.length_cons,Nat.add_mul];omega
 have hcells:∀ j u,(l'.flatMap enc)[j]?=some u→w.cell? ((⟨b,o,none⟩:Addr).add j)=some u:=by
  intro j u hu
  have hj:j < l'.length*n:=by have:=(List.getElem?_eq_some_iff.1 hu).1;rwa [hfl] at this
  have hq:j / n < l'.length:=Nat.div_lt_of_lt_mul (by rw [Nat.mul_comm];exact hj)
  obtain ⟨x,hx⟩:=getElem?_lt hq
  have hjn:j % n < (enc x).length:=by rw [hn];exact Nat.mod_lt _ h0
  have hdm:j / n*n+j % n=j:=by rw [Nat.mul_comm];exact Nat.div_add_mod j n
  have hg:=flatMap_get hn l' (j / n) x (j % n) _ hx (List.getElem?_eq_getElem hjn)
  rw [hdm,hu] at hg
  injection hg with hg
  rw [Addr.add_lit]
  have:=hc _ _ hx (j % n) _ (List.getElem?_eq_getElem hjn)
  rw [hg,← this]
  congr 2;omega
 obtain ⟨g,cap,w',hr,ho,hg,hgl,hlt⟩:=run_append_lies (P:=P) (w:=w) t ty base T i z n m ht hi hzz hs hby hz h0 v l.length (l.flatMap enc) hown ⟨b,o,none⟩ l'.length c (l'.flatMap enc) hfl hcells
  (by intro u hu;obtain ⟨x,hx,hux⟩:=List.mem_flatMap.1 hu;exact h1 x hx u hux) hl' (by simp only [maxLen];omega) hm hbase _ rfl
 rw [opV_ok hr]
 refine hk g cap w' ?_ hg hgl hlt
 unfold OwnE
 rw [List.flatMap_append,List.length_append];exact ho
end
end Go.Sw
namespace Go.Sw
variable {α:Type}
def setA (cs:Array Value) (o:Nat):List Value→Array Value
 | []=>cs
 | v::vs=>setA (cs.setIfInBounds o v) (o+1) vs
theorem setA_get:∀ (vs:List Value) (cs:Array Value) (o j:Nat),o+vs.length≤cs.size→(setA cs o vs)[j]?=if o≤j∧j < o+vs.length then vs[j - o]? else cs[j]?
 | [],cs,o,j,_=>by rw [if_neg (by simp only [List.length_nil];omega)];rfl
 | v::vs,cs,o,j,h=>by
  rw [List.length_cons] at h
  rw [setA,setA_get vs _ (o+1) j (by rw [Array.size_setIfInBounds];omega),List.length_cons]
  by_cases h1:j=o
  · subst h1
    rw [if_neg (by omega),if_pos (by omega),Nat.sub_self,Array.getElem?_setIfInBounds_self_of_lt (by omega)]
    rfl
  · by_cases h2:o+1≤j∧j < o+1+vs.length
    · rw [if_pos h2,if_pos (by omega),show j - o=(j - (o+1))+1 by omega,List.getElem?_cons_succ]
    · rw [if_neg h2,if_neg (by omega),Array.getElem?_setIfInBounds_ne (by omega)]
theorem setA_all {vs:List Value} {cs:Array Value} (h:vs.length=cs.size):setA cs 0 vs=vs.toArray:=by
 apply Array.ext_getElem?
 intro j
 rw [setA_get vs cs 0 j (by omega)]
 by_cases hj:j < vs.length
 · rw [if_pos (by omega),Nat.sub_zero,List.getElem?_toArray]
 · have hs:vs.toArray.size=vs.length:=List.size_toArray ..
   rw [if_neg (by omega),Array.getElem?_eq_none (by omega),Array.getElem?_eq_none (by omega)]
theorem setCells_heap {T:TypeId} {b:Nat}:∀ (vs:List Value) {w:World} {cs:Array Value} (o:Nat),w.heap[b]?=some (.cells cs T (0,0))→(setCells w b o vs).heap[b]?=some (.cells (setA cs o vs) T (0,0))
 | [],_,_,_,h=>h
 | v::vs,_,_,o,h=>setCells_heap vs (o+1) (heap_set h v)
theorem setCells_only {b:Nat}:∀ (vs:List Value) (w:World) (o:Nat) (g:Nat),g≠b→(setCells w b o vs).heap[g]?=w.heap[g]?
 | [],_,_,_,_=>rfl
 | v::vs,w,o,g,h=>(setCells_only vs _ (o+1) g h).trans (Only.setCell w b o v g h)
theorem setCells_size {b:Nat}:∀ (vs:List Value) (w:World) (o:Nat),(setCells w b o vs).heap.size=w.heap.size
 | [],_,_=>rfl
 | v::vs,w,o=>by rw [setCells,setCells_size vs,World.size_setCell]
theorem setCells_ext {b:Nat}:∀ (vs:List Value) (w:World) (o:Nat) (a:World),Ext a w→a.heap.size≤b→Ext a (setCells w b o vs)
 | [],_,_,_,e,_=>e
 | v::vs,w,o,a,e,hb=>setCells_ext vs _ (o+1) a (e.setCell (p:=⟨b,o,none⟩) hb v) hb
end Go.Sw
namespace Go.Sw
open Go.RowKit (Below)
structure LW3 (B:Nat) (w w':World):Prop where
 os:w'.os=w.os
 tape:w'.tape=w.tape
 output:w'.output=w.output
 size:w.heap.size≤w'.heap.size
 block:∀ b,b < B→b < w.heap.size→w'.heap[b]?=w.heap[b]?
end Go.Sw
namespace Go.Sw
open Go.RowKit (Below)
def softO:Obj→Bool
 | .loop _=>true
 | .deferred _=>true
 | .mapIter .. => true
 | _=>false
structure LW6 (B:Nat) (w w':World):Prop where
 os:w'.os=w.os
 tape:w'.tape=w.tape
 output:w'.output=w.output
 size:w.heap.size≤w'.heap.size
 block:∀ b,b < w.heap.size→w'.heap[b]?=w.heap[b]?∨(B≤b∧∃ o,w.heap[b]?=some o∧softO o=true)
end Go.Sw
namespace Go.Proofs.YtcffhmapmaahnaaGreatDoor
open Sw
open Go.RowKit (intOf Below)
structure Nd where
 name:ByteArray
 int:Int
 bytes:List UInt8
 hdrs:List (ByteArray×ByteArray)
 deriving DecidableEq
inductive Tr where
 | mk:Nd→List Tr→Tr
def Tr.nd:Tr→Nd
 | .mk n _=>n
def Tr.ps:Tr→List Tr
 | .mk _ l=>l
theorem Tr.ind {p:Tr→Prop} (h:∀ n ps,(∀ x∈ps,p x)→p (.mk n ps)) (t:Tr):p t :=
 Tr.rec (motive_1:=p) (motive_2:=fun l=>∀ x∈l,p x) (fun n ps ih=>h n ps ih) (fun _ hx=>absurd hx List.not_mem_nil) (fun a l ha hl x hx=>by
  rcases List.mem_cons.1 hx with rfl | hx
  · exact ha
  · exact hl x hx) t
noncomputable def Tr.fold {α:Type _} (f:Nd→List Tr→List α→α) (t:Tr):α:=Tr.rec (motive_1:=fun _=>α) (motive_2:=fun _=>List α) (fun n ps r=>f n ps r) [] (fun _ _ a l=>a::l) t
theorem Tr.fold_mk {α:Type _} (f:Nd→List Tr→List α→α) (n:Nd) (ps:List Tr):(Tr.mk n ps).fold f=f n ps (ps.map (Tr.fold f)):=by
 show f n ps (Tr.rec_1 (motive_1:=fun _=>α) (motive_2:=fun _=>List α) (fun n ps r=>f n ps r) [] (fun _ _ a l=>a::l) ps)=_
 congr 1
 induction ps with
 | nil=>rfl
 | cons a l ih=>rw [List.map_cons,← ih];rfl
def EHdr (_:World) (cs:List Value) (x:ByteArray×ByteArray):Prop:=cs=[.string x.1,.string x.2]
theorem keptHdr:Kept EHdr:=fun _ _ _ _ _ h=>h
def HdrsOf (w:World) (v:Value) (l:List (ByteArray×ByteArray)):Prop:=SliceOf w 2 EHdr v l
def hdrVal (x:ByteArray×ByteArray):Value := .agg #[.string x.1,.string x.2]
abbrev trCells (n:Nd) (bv hv pv:Value):List Value:=[.string n.name,.int .i64 n.int,bv,hv,pv]
def ETr (w:World) (cs:List Value) (t:Tr):Prop :=
 t.fold (α:=List Value→Prop) (fun n _ rs cs=>∃ bv hv pv,cs=trCells n bv hv pv∧BytesOf w bv n.bytes∧HdrsOf w hv n.hdrs∧SliceOf w 5 (fun _ cs (E:List Value→Prop)=>E cs) pv rs) cs
def TrsOf (w:World) (v:Value) (l:List Tr):Prop:=SliceOf w 5 ETr v l
theorem slice_map {α β:Type} {w:World} {n:Nat} {E:World→List Value→α→Prop} {F:World→List Value→β→Prop} {g:β→α} {v:Value} {l:List β} (h:∀ cs x,E w cs (g x)↔F w cs x):SliceOf w n E v (l.map g)↔SliceOf w n F v l:=by
 unfold SliceOf
 simp only [List.length_map,ne_eq,List.map_eq_nil_iff]
 constructor
 · rintro ⟨A,c,h1,h2,h3,h4⟩
   refine ⟨A,c,h1,h2,h3,fun hne=>?_⟩
   obtain ⟨b,o,hA,h5⟩:=h4 hne
   refine ⟨b,o,hA,fun k x hx=>?_⟩
   obtain ⟨cs,h6,h7,h8⟩:=h5 k (g x) (by rw [List.getElem?_map,hx];rfl)
   exact ⟨cs,h6,h7,(h _ _).1 h8⟩
 · rintro ⟨A,c,h1,h2,h3,h4⟩
   refine ⟨A,c,h1,h2,h3,fun hne=>?_⟩
   obtain ⟨b,o,hA,h5⟩:=h4 hne
   refine ⟨b,o,hA,fun k y hy=>?_⟩
   rw [List.getElem?_map] at hy
   obtain ⟨x,hx,rfl⟩:=Option.map_eq_some_iff.1 hy
   obtain ⟨cs,h6,h7,h8⟩:=h5 k x hx
   exact ⟨cs,h6,h7,(h _ _).2 h8⟩
theorem ETr_mk {w:World} {cs:List Value} {n:Nd} {ps:List Tr}:ETr w cs (.mk n ps)↔∃ bv hv pv,cs=trCells n bv hv pv∧BytesOf w bv n.bytes∧HdrsOf w hv n.hdrs∧TrsOf w pv ps:=by
 unfold ETr
 rw [Tr.fold_mk]
 have h:∀ pv,SliceOf w 5 (fun _ cs (E:List Value→Prop)=>E cs) pv (ps.map (Tr.fold (α:=List Value→Prop) fun n _ rs cs=>∃ bv hv pv,cs=trCells n bv hv pv∧BytesOf w bv n.bytes∧HdrsOf w hv n.hdrs∧SliceOf w 5 (fun _ cs (E:List Value→Prop)=>E cs) pv rs))↔TrsOf w pv ps:=fun pv=>slice_map fun _ _=>Iff.rfl
 simp only [h]
theorem ETr_of {w:World} {cs:List Value} {t:Tr}:ETr w cs t↔∃ bv hv pv,cs=trCells t.nd bv hv pv∧BytesOf w bv t.nd.bytes∧HdrsOf w hv t.nd.hdrs∧TrsOf w pv t.ps:=by
 cases t with
 | mk n ps=>exact ETr_mk
theorem BytesOf.ext {w w':World} {v:Value} {l:List UInt8} (h:BytesOf w v l) (e:Ext w w'):BytesOf w' v l:=SliceOf.ext keptByte h e
theorem HdrsOf.ext {w w':World} {v:Value} {l:List (ByteArray×ByteArray)} (h:HdrsOf w v l) (e:Ext w w'):HdrsOf w' v l:=SliceOf.ext keptHdr h e
theorem keptTr:Kept ETr:=by
 intro w w' cs t e
 refine Tr.ind (p:=fun t=>∀ cs,ETr w cs t→ETr w' cs t) ?_ t cs
 intro n ps ih cs h
 obtain ⟨bv,hv,pv,rfl,h1,h2,h3⟩:=ETr_mk.1 h
 refine ETr_mk.2 ⟨bv,hv,pv,rfl,h1.ext e,h2.ext e,?_⟩
 obtain ⟨A,c,a1,a2,a3,a4⟩:=h3
 refine ⟨A,c,a1,a2,a3,fun hne=>?_⟩
 obtain ⟨b,o,hA,h5⟩:=a4 hne
 refine ⟨b,o,hA,fun k x hx=>?_⟩
 obtain ⟨cs,h6,h7,h8⟩:=h5 k x hx
 exact ⟨cs,h6,h7.ext e,ih x (List.mem_of_getElem? hx) _ h8⟩
theorem TrsOf.ext {w w':World} {v:Value} {l:List Tr} (h:TrsOf w v l) (e:Ext w w'):TrsOf w' v l:=SliceOf.ext keptTr h e
def ValAt (w:World) (v:Value) (t:Tr):Prop:=∃ bv hv pv,v = .agg (trCells t.nd bv hv pv).toArray∧BytesOf w bv t.nd.bytes∧HdrsOf w hv t.nd.hdrs∧TrsOf w pv t.ps
theorem ValAt.ext {w w':World} {v:Value} {t:Tr} (h:ValAt w v t) (e:Ext w w'):ValAt w' v t:=by
 obtain ⟨bv,hv,pv,h0,h1,h2,h3⟩:=h
 exact ⟨bv,hv,pv,h0,h1.ext e,h2.ext e,h3.ext e⟩
theorem ValAt.op {w:World} {v:Value} {t:Tr} (h:ValAt w v t):∃ bv hv pv,v = .agg (trCells t.nd bv hv pv).toArray∧BytesOf w bv t.nd.bytes∧HdrsOf w hv t.nd.hdrs∧TrsOf w pv t.ps∧bv.oneCell'=true∧hv.oneCell'=true∧pv.oneCell'=true:=by
 obtain ⟨bv,hv,pv,h0,h1,h2,h3⟩:=h
 exact ⟨bv,hv,pv,h0,h1,h2,h3,SliceOf.oneCell h1,SliceOf.oneCell h2,SliceOf.oneCell h3⟩
theorem ETr.op {w:World} {cs:List Value} {t:Tr} (h:ETr w cs t):∃ bv hv pv,cs=trCells t.nd bv hv pv∧BytesOf w bv t.nd.bytes∧HdrsOf w hv t.nd.hdrs∧TrsOf w pv t.ps∧bv.oneCell'=true∧hv.oneCell'=true∧pv.oneCell'=true:=by
 obtain ⟨bv,hv,pv,h0,h1,h2,h3⟩:=ETr_of.1 h
 exact ⟨bv,hv,pv,h0,h1,h2,h3,SliceOf.oneCell h1,SliceOf.oneCell h2,SliceOf.oneCell h3⟩
def nd0:Nd:=⟨ByteArray.empty,0,[],[]⟩
def tr0:Tr := .mk nd0 []
theorem ValAt.zero (w:World):ValAt w (.agg #[.string ByteArray.empty,.int .i64 0,.slice none 0 0,.slice none 0 0,.slice none 0 0]) tr0:=⟨_,_,_,rfl,SliceOf.nil ..,SliceOf.nil ..,SliceOf.nil ..⟩
noncomputable def nodesT:Tr→Nat:=Tr.fold fun _ _ rs=>1+rs.sum
theorem nodesT_mk (n:Nd) (ps:List Tr):nodesT (.mk n ps)=1+(ps.map nodesT).sum:=Tr.fold_mk ..
noncomputable def heightT:Tr→Nat:=Tr.fold fun _ _ rs=>1+rs.foldr max 0
theorem heightT_mk (n:Nd) (ps:List Tr):heightT (.mk n ps)=1+(ps.map heightT).foldr max 0:=Tr.fold_mk ..
def hdrB (h:ByteArray×ByteArray):Bool:=decide (h.1.size≤1048576)&&decide (h.2.size≤1048576)
def nodeB (n:Nd):Bool:=nameB n.name&&(decide (0≤n.int)&&(decide (n.int < 34359738368)&&(decide (n.bytes.length≤1048576)&&(decide (n.hdrs.length≤100)&&n.hdrs.all hdrB))))
noncomputable def allT (f:Nd→Bool):Tr→Bool:=Tr.fold fun n _ rs=>f n&&rs.all id
theorem allT_mk (f:Nd→Bool) (n:Nd) (ps:List Tr):allT f (.mk n ps)=(f n&&ps.all (allT f)):=by
 unfold allT
 rw [Tr.fold_mk,List.all_map]
 rfl
noncomputable def validT (t:Tr):Bool:=decide (nodesT t≤65536)&&decide (heightT t≤40)&&allT nodeB t
noncomputable def eachT:Tr→Nat→List (Nat×Tr):=Tr.fold fun n ps rs a=>(a,.mk n ps)::rs.flatMap fun r=>r (a+1)
theorem eachT_mk (n:Nd) (ps:List Tr) (a:Nat):eachT (.mk n ps) a=(a,.mk n ps)::ps.flatMap fun p=>eachT p (a+1):=by
 unfold eachT
 rw [Tr.fold_mk,List.flatMap_map]
theorem eachT_len (t:Tr):∀ a,(eachT t a).length=nodesT t:=by
 refine Tr.ind (p:=fun t=>∀ a,(eachT t a).length=nodesT t) ?_ t
 intro n ps ih a
 rw [eachT_mk,nodesT_mk,List.length_cons,List.length_flatMap]
 have:(ps.map fun p=>(eachT p (a+1)).length)=ps.map nodesT:=List.map_congr_left fun x hx=>ih x hx _
 rw [this];omega
theorem eachT_all (f:Nd→Bool) (t:Tr):∀ a,((eachT t a).all fun x=>f x.2.nd)=allT f t:=by
 refine Tr.ind (p:=fun t=>∀ a,((eachT t a).all fun x=>f x.2.nd)=allT f t) ?_ t
 intro n ps ih a
 rw [eachT_mk,allT_mk,List.all_cons,List.all_flatMap]
 show (f n&&_)=_
 congr 1
 clear n
 induction ps with
 | nil=>rfl
 | cons p ps ih2=>rw [List.all_cons,List.all_cons,ih p (List.mem_cons_self ..),ih2 fun x hx=>ih x (List.mem_cons_of_mem _ hx)]
theorem foldr_max_le {l:List Nat} {m:Nat}:l.foldr max 0≤m↔∀ x∈l,x≤m:=by
 induction l with
 | nil=>simp
 | cons a l ih=>rw [List.foldr_cons,Nat.max_le,ih,List.forall_mem_cons]
theorem eachT_high (H:Nat) (t:Tr):∀ a,((eachT t a).all fun x=>decide (x.1≤H))=decide (a+heightT t≤H+1):=by
 refine Tr.ind (p:=fun t=>∀ a,((eachT t a).all fun x=>decide (x.1≤H))=decide (a+heightT t≤H+1)) ?_ t
 intro n ps ih a
 rw [eachT_mk,heightT_mk,List.all_cons,List.all_flatMap]
 have h1:(ps.all fun p=>(eachT p (a+1)).all fun x=>decide (x.1≤H))=ps.all fun p=>decide (a+1+heightT p≤H+1):=by
  clear n
  induction ps with
  | nil=>rfl
  | cons p ps ih2=>rw [List.all_cons,List.all_cons,ih p (List.mem_cons_self ..),ih2 fun x hx=>ih x (List.mem_cons_of_mem _ hx)]
 rw [h1]
 have h2:(ps.all fun p=>decide (a+1+heightT p≤H+1))=true↔∀ p∈ps,heightT p+a≤H:=by
  rw [List.all_eq_true]
  refine forall_congr' fun p=>imp_congr_right fun _=>?_
  rw [decide_eq_true_iff];omega
 have h3:(ps.map heightT).foldr max 0+a≤H∨ps=[]↔(∀ p∈ps,heightT p+a≤H):=by
  constructor
  · rintro (h | rfl)
    · intro p hp
      have:=(foldr_max_le (l:=ps.map heightT) (m:=(ps.map heightT).foldr max 0)).1 (Nat.le_refl _) _ (List.mem_map_of_mem hp)
      omega
    · intro p hp;cases hp
  · intro h
    cases ps with
    | nil=>exact .inr rfl
    | cons p ps =>
     refine .inl ?_
     have h0:=h p (List.mem_cons_self ..)
     have:=(foldr_max_le (l:=(p::ps).map heightT) (m:=H - a)).2 (fun x hx=>by
      obtain ⟨q,hq,rfl⟩:=List.mem_map.1 hx
      have:=h q hq
      omega)
     omega
 have key:(decide (a≤H)&&ps.all fun p=>decide (a+1+heightT p≤H+1))=true↔decide (a+(1+(ps.map heightT).foldr max 0)≤H+1)=true:=by
  rw [Bool.and_eq_true,h2,← h3,decide_eq_true_iff,decide_eq_true_iff]
  constructor
  · rintro ⟨h,h' | rfl⟩
    · omega
    · simp;omega
  · intro h
    exact ⟨by omega,.inl (by omega)⟩
 exact Bool.eq_iff_iff.2 key
theorem validT_each (t:Tr):validT t=(decide ((eachT t 1).length≤65536)&&((eachT t 1).all fun x=>decide (x.1≤40)&&nodeB x.2.nd)):=by
 have h:∀ (l:List (Nat×Tr)),(l.all fun x=>decide (x.1≤40)&&nodeB x.2.nd)=((l.all fun x=>decide (x.1≤40))&&l.all fun x=>nodeB x.2.nd):=by
  intro l
  induction l with
  | nil=>rfl
  | cons x l ih=>simp only [List.all_cons,ih];cases decide (x.1≤40)<;>cases nodeB x.2.nd<;>simp
 rw [h,eachT_high,eachT_all,eachT_len]
 unfold validT
 rw [Bool.and_assoc]
 congr 2
 exact decide_eq_decide.2 (by omega)
open Go.Shelf
def sh_lays106_ren:Go.Shelf.Ren:=⟨fun | 106=>38 | 213=>68 | 265=>93 | n=>n,fun | 9=>9 | 3=>3 | n=>n,fun | n=>n⟩
theorem sh_lays106:Go.Proofs.Lays.n106 Pg sh_lays106_ren:={
 mixed:=by kernel_rfl
 f106:=Tryz.func38.trans (congrArg some (by kernel_rfl))
 f213:=Tryz.func68.trans (congrArg some (by kernel_rfl))
 f265:=Tryz.func93.trans (congrArg some (by kernel_rfl))
 t3:=Tryz.underlying3
 a3:=Tryz.isAgg3
 z3:=Tryz.sizeOf3
 v3:=Tryz.zeroValue3
 t9:=Tryz.underlying9
 a9:=Tryz.isAgg9
 z9:=Tryz.sizeOf9
 v9:=Tryz.zeroValue9 }
open Go.RowKit in
theorem sh_strings_Compare (a b:ByteArray) (w:World) :
 Calls Pg 38 #[.string a,.string b] w fun e w'=>e = .returned (.int .i64 (Lib.compareBytes a.data.toList b.data.toList))∧w'=w:=Any.strings_Compare sh_lays106 a b w
def sh_lays137_ren:Go.Shelf.Ren:=⟨fun | 137=>102 | 217=>119 | 266=>135 | n=>n,fun | 9=>9 | 5=>5 | 3=>3 | n=>n,fun | n=>n⟩
theorem sh_lays137:Go.Proofs.Lays.n137 Pg sh_lays137_ren:={
 mixed:=by kernel_rfl
 f137:=Tryz.func102.trans (congrArg some (by kernel_rfl))
 f217:=Tryz.func119.trans (congrArg some (by kernel_rfl))
 f266:=Tryz.func135.trans (congrArg some (by kernel_rfl))
 t3:=Tryz.underlying3
 a3:=Tryz.isAgg3
 z3:=Tryz.sizeOf3
 v3:=Tryz.zeroValue3
 t5:=Tryz.underlying5
 a5:=Tryz.isAgg5
 z5:=Tryz.sizeOf5
 v5:=Tryz.zeroValue5
 t9:=Tryz.underlying9
 a9:=Tryz.isAgg9
 z9:=Tryz.sizeOf9
 v9:=Tryz.zeroValue9 }
open Go.RowKit in
theorem sh_strings_IndexByte (s:ByteArray) (c:Int) (w:World) :
 Calls Pg 102 #[.string s,.int .u8 c] w fun e w'=>e = .returned (.int .i64 (Lib.indexByte s.data.toList c.toNat.toUInt8))∧w'=w:=Any.strings_IndexByte sh_lays137 s c w
def sh_lays122_ren:Go.Shelf.Ren:=⟨fun | 122=>39 | 215=>69 | n=>n,fun | 3=>3 | 4=>4 | n=>n,fun | n=>n⟩
theorem sh_lays122:Go.Proofs.Lays.n122 Pg sh_lays122_ren:={
 mixed:=by kernel_rfl
 f122:=Tryz.func39.trans (congrArg some (by kernel_rfl))
 f215:=Tryz.func69.trans (congrArg some (by kernel_rfl))
 t3:=Tryz.underlying3
 a3:=Tryz.isAgg3
 z3:=Tryz.sizeOf3
 v3:=Tryz.zeroValue3
 t4:=Tryz.underlying4
 a4:=Tryz.isAgg4
 z4:=Tryz.sizeOf4
 v4:=Tryz.zeroValue4 }
open Go.RowKit in
theorem sh_cmp_Compare_int (x y:Int) (w:World) :
 Calls Pg 39 #[.int .i64 x,.int .i64 y] w fun e w'=>e = .returned (.int .i64 (Lib.compareInt x y))∧w'=w:=Any.cmp_Compare_int sh_lays122 x y w
def sh_laysM171_ren:Go.Shelf.Ren:=⟨fun | 171=>83 | 243=>109 | 246=>129 | 283=>143 | 284=>144 | 285=>145 | 286=>146 | 129=>156 | 317=>155 | 318=>157 | 319=>158 | 320=>159 | 337=>162 | 338=>163 | n=>n,fun | 3=>3 | 9=>9 | 2=>2 | 4=>4 | 171=>174 | 0=>0 | 53=>163 | 37=>22 | 5=>5 | 173=>177 | 212=>187 | 51=>188 | 20=>20 | 213=>189 | 46=>136 | 232=>199 | 233=>200 | n=>n,fun | 17=>3 | 18=>6 | 19=>7 | n=>n⟩
theorem sh_laysM171:Go.Proofs.LaysM.n171 Pg sh_laysM171_ren:={
 mixed:=by kernel_rfl
 f129:=Tryz.func156.trans (congrArg some (by kernel_rfl))
 f171:=Tryz.func83.trans (congrArg some (by kernel_rfl))
 f243:=Tryz.func109.trans (congrArg some (by kernel_rfl))
 f246:=Tryz.func129.trans (congrArg some (by kernel_rfl))
 f283:=Tryz.func143.trans (congrArg some (by kernel_rfl))
 f284:=Tryz.func144.trans (congrArg some (by kernel_rfl))
 f285:=Tryz.func145.trans (congrArg some (by kernel_rfl))
 f286:=Tryz.func146.trans (congrArg some (by kernel_rfl))
 f317:=Tryz.func155.trans (congrArg some (by kernel_rfl))
 f318:=Tryz.func157.trans (congrArg some (by kernel_rfl))
 f319:=Tryz.func158.trans (congrArg some (by kernel_rfl))
 f320:=Tryz.func159.trans (congrArg some (by kernel_rfl))
 f337:=Tryz.func162.trans (congrArg some (by kernel_rfl))
 f338:=Tryz.func163.trans (congrArg some (by kernel_rfl))
 t0:=Tryz.underlying0
 a0:=Tryz.isAgg0
 z0:=Tryz.sizeOf0
 v0:=Tryz.zeroValue0
 t2:=Tryz.underlying2
 a2:=Tryz.isAgg2
 z2:=Tryz.sizeOf2
 v2:=Tryz.zeroValue2
 t3:=Tryz.underlying3
 a3:=Tryz.isAgg3
 z3:=Tryz.sizeOf3
 v3:=Tryz.zeroValue3
 t4:=Tryz.underlying4
 a4:=Tryz.isAgg4
 z4:=Tryz.sizeOf4
 v4:=Tryz.zeroValue4
 t5:=Tryz.underlying5
 a5:=Tryz.isAgg5
 z5:=Tryz.sizeOf5
 v5:=Tryz.zeroValue5
 t9:=Tryz.underlying9
 a9:=Tryz.isAgg9
 z9:=Tryz.sizeOf9
 v9:=Tryz.zeroValue9
 t20:=Tryz.underlying20
 a20:=Tryz.isAgg20
 z20:=Tryz.sizeOf20
 v20:=Tryz.zeroValue20
 t37:=Tryz.underlying22
 a37:=Tryz.isAgg22
 z37:=Tryz.sizeOf22
 v37:=Tryz.zeroValue22
 t46:=Tryz.underlying136
 a46:=Tryz.isAgg136
 z46:=Tryz.sizeOf136
 v46:=Tryz.zeroValue136
 t51:=Tryz.underlying188
 a51:=Tryz.isAgg188
 z51:=Tryz.sizeOf188
 v51:=Tryz.zeroValue188
 t53:=Tryz.underlying163
 a53:=Tryz.isAgg163
 z53:=Tryz.sizeOf163
 v53:=Tryz.zeroValue163
 t171:=Tryz.underlying174
 a171:=Tryz.isAgg174
 z171:=Tryz.sizeOf174
 v171:=Tryz.zeroValue174
 t173:=Tryz.underlying177
 a173:=Tryz.isAgg177
 z173:=Tryz.sizeOf177
 v173:=Tryz.zeroValue177
 t212:=Tryz.underlying187
 a212:=Tryz.isAgg187
 z212:=Tryz.sizeOf187
 v212:=Tryz.zeroValue187
 t213:=Tryz.underlying189
 a213:=Tryz.isAgg189
 z213:=Tryz.sizeOf189
 t232:=Tryz.underlying199
 a232:=Tryz.isAgg199
 z232:=Tryz.sizeOf199
 v232:=Tryz.zeroValue199
 t233:=Tryz.underlying200
 a233:=Tryz.isAgg200
 z233:=Tryz.sizeOf200
 v233:=Tryz.zeroValue200
 g17:=by kernel_rfl
 g18:=by kernel_rfl
 g19:=by kernel_rfl
 i0:=by kernel_rfl
 i2:=by kernel_rfl
 i3:=by kernel_rfl
 i4:=by kernel_rfl
 i5:=by kernel_rfl
 i9:=by kernel_rfl
 i20:=by kernel_rfl
 i37:=by kernel_rfl
 i46:=by kernel_rfl
 i51:=by kernel_rfl
 i53:=by kernel_rfl
 i171:=by kernel_rfl
 i173:=by kernel_rfl
 i212:=by kernel_rfl
 i232:=by kernel_rfl
 i233:=by kernel_rfl
 m17:=by kernel_rfl
 m18:=by kernel_rfl
 m19:=by kernel_rfl }
open Go.RowKit Go.Sort Go.Lib in
theorem sh_strconv_Itoa (n:Int) (h0 : -9223372036854775808≤n) (h1:n≤9223372036854775807) (w:World) (htab:Lib.TabIs Pg w "internal/strconv.uint64pow10" .u64 Lib.pow10Tab) :
 Calls Pg 83 #[.int .i64 n] w fun e w'=>e = .returned (.string ⟨(Lib.itoa n).toArray⟩)∧∃ k os,w'=grow (w.drewN k) os:=Any.strconv_Itoa sh_laysM171 n h0 h1 w htab
def sh_laysC172_ren:Go.Shelf.Ren:=⟨fun | 172=>75 | 244=>99 | 245=>100 | 247=>114 | 279=>115 | 280=>116 | 281=>117 | 282=>118 | 287=>132 | 316=>133 | 171=>83 | 205=>134 | 321=>147 | 322=>148 | 243=>109 | 246=>129 | 283=>143 | 284=>144 | 285=>145 | 286=>146 | 129=>156 | 317=>155 | 318=>157 | 319=>158 | 320=>159 | 337=>162 | 338=>163 | n=>n,fun | 9=>9 | 3=>3 | 75=>113 | 76=>114 | 4=>4 | 5=>5 | 167=>148 | 37=>22 | 0=>0 | 85=>149 | 2=>2 | 168=>151 | 53=>163 | 175=>166 | 46=>136 | 210=>169 | 127=>180 | 145=>183 | 143=>181 | 21=>21 | 171=>174 | 173=>177 | 212=>187 | 51=>188 | 20=>20 | 213=>189 | 232=>199 | 233=>200 | 80=>201 | n=>n,fun | 15=>1 | 16=>2 | 17=>3 | 18=>6 | 19=>7 | n=>n⟩
theorem sh_laysC172:Go.Proofs.LaysC.n172 Pg sh_laysC172_ren:={
 mixed:=by kernel_rfl
 f129:=Tryz.func156.trans (congrArg some (by kernel_rfl))
 f171:=Tryz.func83.trans (congrArg some (by kernel_rfl))
 f172:=Tryz.func75.trans (congrArg some (by kernel_rfl))
 f205:=Tryz.func134.trans (congrArg some (by kernel_rfl))
 f243:=Tryz.func109.trans (congrArg some (by kernel_rfl))
 f244:=Tryz.func99.trans (congrArg some (by kernel_rfl))
 f245:=Tryz.func100.trans (congrArg some (by kernel_rfl))
 f246:=Tryz.func129.trans (congrArg some (by kernel_rfl))
 f247:=Tryz.func114.trans (congrArg some (by kernel_rfl))
 f279:=Tryz.func115.trans (congrArg some (by kernel_rfl))
 f280:=Tryz.func116.trans (congrArg some (by kernel_rfl))
 f281:=Tryz.func117.trans (congrArg some (by kernel_rfl))
 f282:=Tryz.func118.trans (congrArg some (by kernel_rfl))
 f283:=Tryz.func143.trans (congrArg some (by kernel_rfl))
 f284:=Tryz.func144.trans (congrArg some (by kernel_rfl))
 f285:=Tryz.func145.trans (congrArg some (by kernel_rfl))
 f286:=Tryz.func146.trans (congrArg some (by kernel_rfl))
 f287:=Tryz.func132.trans (congrArg some (by kernel_rfl))
 f316:=Tryz.func133.trans (congrArg some (by kernel_rfl))
 f317:=Tryz.func155.trans (congrArg some (by kernel_rfl))
 f318:=Tryz.func157.trans (congrArg some (by kernel_rfl))
 f319:=Tryz.func158.trans (congrArg some (by kernel_rfl))
 f320:=Tryz.func159.trans (congrArg some (by kernel_rfl))
 f321:=Tryz.func147.trans (congrArg some (by kernel_rfl))
 f322:=Tryz.func148.trans (congrArg some (by kernel_rfl))
 f337:=Tryz.func162.trans (congrArg some (by kernel_rfl))
 f338:=Tryz.func163.trans (congrArg some (by kernel_rfl))
 t0:=Tryz.underlying0
 a0:=Tryz.isAgg0
 z0:=Tryz.sizeOf0
 v0:=Tryz.zeroValue0
 t2:=Tryz.underlying2
 a2:=Tryz.isAgg2
 z2:=Tryz.sizeOf2
 v2:=Tryz.zeroValue2
 t3:=Tryz.underlying3
 a3:=Tryz.isAgg3
 z3:=Tryz.sizeOf3
 v3:=Tryz.zeroValue3
 t4:=Tryz.underlying4
 a4:=Tryz.isAgg4
 z4:=Tryz.sizeOf4
 v4:=Tryz.zeroValue4
 t5:=Tryz.underlying5
 a5:=Tryz.isAgg5
 z5:=Tryz.sizeOf5
 v5:=Tryz.zeroValue5
 t9:=Tryz.underlying9
 a9:=Tryz.isAgg9
 z9:=Tryz.sizeOf9
 v9:=Tryz.zeroValue9
 t20:=Tryz.underlying20
 a20:=Tryz.isAgg20
 z20:=Tryz.sizeOf20
 v20:=Tryz.zeroValue20
 t21:=Tryz.underlying21
 a21:=Tryz.isAgg21
 z21:=Tryz.sizeOf21
 v21:=Tryz.zeroValue21
 t37:=Tryz.underlying22
 a37:=Tryz.isAgg22
 z37:=Tryz.sizeOf22
 v37:=Tryz.zeroValue22
 t46:=Tryz.underlying136
 a46:=Tryz.isAgg136
 z46:=Tryz.sizeOf136
 v46:=Tryz.zeroValue136
 t51:=Tryz.underlying188
 a51:=Tryz.isAgg188
 z51:=Tryz.sizeOf188
 v51:=Tryz.zeroValue188
 t53:=Tryz.underlying163
 a53:=Tryz.isAgg163
 z53:=Tryz.sizeOf163
 v53:=Tryz.zeroValue163
 t75:=Tryz.underlying113
 a75:=Tryz.isAgg113
 z75:=Tryz.sizeOf113
 v75:=Tryz.zeroValue113
 t76:=Tryz.underlying114
 a76:=Tryz.isAgg114
 z76:=Tryz.sizeOf114
 v76:=Tryz.zeroValue114
 t85:=Tryz.underlying149
 a85:=Tryz.isAgg149
 z85:=Tryz.sizeOf149
 v85:=Tryz.zeroValue149
 t127:=Tryz.underlying180
 a127:=Tryz.isAgg180
 z127:=Tryz.sizeOf180
 v127:=Tryz.zeroValue180
 t143:=Tryz.underlying181
 a143:=Tryz.isAgg181
 z143:=Tryz.sizeOf181
 v143:=Tryz.zeroValue181
 t145:=Tryz.underlying183
 a145:=Tryz.isAgg183
 z145:=Tryz.sizeOf183
 v145:=Tryz.zeroValue183
 t167:=Tryz.underlying148
 a167:=Tryz.isAgg148
 z167:=Tryz.sizeOf148
 v167:=Tryz.zeroValue148
 t168:=Tryz.underlying151
 a168:=Tryz.isAgg151
 z168:=Tryz.sizeOf151
 v168:=Tryz.zeroValue151
 t171:=Tryz.underlying174
 a171:=Tryz.isAgg174
 z171:=Tryz.sizeOf174
 v171:=Tryz.zeroValue174
 t173:=Tryz.underlying177
 a173:=Tryz.isAgg177
 z173:=Tryz.sizeOf177
 v173:=Tryz.zeroValue177
 t175:=Tryz.underlying166
 a175:=Tryz.isAgg166
 z175:=Tryz.sizeOf166
 v175:=Tryz.zeroValue166
 t210:=Tryz.underlying169
 a210:=Tryz.isAgg169
 z210:=Tryz.sizeOf169
 v210:=Tryz.zeroValue169
 t212:=Tryz.underlying187
 a212:=Tryz.isAgg187
 z212:=Tryz.sizeOf187
 v212:=Tryz.zeroValue187
 t213:=Tryz.underlying189
 a213:=Tryz.isAgg189
 z213:=Tryz.sizeOf189
 t232:=Tryz.underlying199
 a232:=Tryz.isAgg199
 z232:=Tryz.sizeOf199
 v232:=Tryz.zeroValue199
 t233:=Tryz.underlying200
 a233:=Tryz.isAgg200
 z233:=Tryz.sizeOf200
 v233:=Tryz.zeroValue200
 g15:=by kernel_rfl
 g16:=by kernel_rfl
 g17:=by kernel_rfl
 g18:=by kernel_rfl
 g19:=by kernel_rfl
 t80:=Tryz.underlying201
 a80:=Tryz.isAgg201
 z80:=Tryz.sizeOf201
 v80:=Tryz.zeroValue201
 i0:=by kernel_rfl
 i2:=by kernel_rfl
 i3:=by kernel_rfl
 i4:=by kernel_rfl
 i5:=by kernel_rfl
 i9:=by kernel_rfl
 i20:=by kernel_rfl
 i21:=by kernel_rfl
 i37:=by kernel_rfl
 i46:=by kernel_rfl
 i51:=by kernel_rfl
 i53:=by kernel_rfl
 i75:=by kernel_rfl
 i76:=by kernel_rfl
 i80:=by kernel_rfl
 i85:=by kernel_rfl
 i127:=by kernel_rfl
 i143:=by kernel_rfl
 i145:=by kernel_rfl
 i167:=by kernel_rfl
 i168:=by kernel_rfl
 i171:=by kernel_rfl
 i173:=by kernel_rfl
 i175:=by kernel_rfl
 i210:=by kernel_rfl
 i212:=by kernel_rfl
 i232:=by kernel_rfl
 i233:=by kernel_rfl
 m15:=by kernel_rfl
 m16:=by kernel_rfl
 m17:=by kernel_rfl
 m18:=by kernel_rfl
 m19:=by kernel_rfl
 c0:=by kernel_rfl
 c2:=by kernel_rfl
 c3:=by kernel_rfl
 c4:=by kernel_rfl
 c5:=by kernel_rfl
 c9:=by kernel_rfl
 c20:=by kernel_rfl
 c21:=by kernel_rfl
 c37:=by kernel_rfl
 c46:=by kernel_rfl
 c51:=by kernel_rfl
 c53:=by kernel_rfl
 c75:=by kernel_rfl
 c76:=by kernel_rfl
 c80:=by kernel_rfl
 c85:=by kernel_rfl
 c127:=by kernel_rfl
 c143:=by kernel_rfl
 c145:=by kernel_rfl
 c167:=by kernel_rfl
 c168:=by kernel_rfl
 c171:=by kernel_rfl
 c173:=by kernel_rfl
 c175:=by kernel_rfl
 c210:=by kernel_rfl
 c212:=by kernel_rfl
 c213:=by kernel_rfl
 c232:=by kernel_rfl
 c233:=by kernel_rfl }
open Go.RowKit in
theorem sh_strconv_Atoi_ok (s:ByteArray) (hmax:s.size≤9223372036854775806) (v:Int) (h:Lib.atoiAll s.data.toList = .ok v) (w:World) :
 Calls Pg 75 #[.string s] w fun e w'=>e = .returned (.tuple #[.int .i64 v,.nilIface])∧(w'=w∨∃ t,w'=Lib.bytesWorld w 5 t):=Any.strconv_Atoi_ok sh_laysC172 s hmax v h w
open Go.RowKit in
theorem sh_strconv_Atoi_syntax (s:ByteArray) (hlim:s.size≤281474976710656) (h:Lib.atoiAll s.data.toList=Go.Lib.NumEnd.syntax) (ev:Value) (w:World) (hv:w.cell? ⟨1,0,none⟩=some ev) (hev:ev = .nilIface∨∃ te pe,ev = .iface te pe) :
 Calls Pg 75 #[.string s] w fun e w'=>∃ N,e = .returned (.tuple #[.int .i64 (0),.iface 151 (.pointer (some ⟨N,0,none⟩))])∧w.heap.size≤N∧w'.heap[N]?=some (.cells #[.string ⟨#[65,116,111,105]⟩,.string s,ev] 169 (0,0))∧Below w.heap.size w w':=Any.strconv_Atoi_syntax sh_laysC172 s hlim h ev w hv hev
open Go.RowKit in
theorem sh_strconv_Atoi_range (s:ByteArray) (hlim:s.size≤281474976710656) (h:Lib.atoiAll s.data.toList = .range) (ev:Value) (w:World) (hv:w.cell? ⟨2,0,none⟩=some ev) (hev:ev = .nilIface∨∃ te pe,ev = .iface te pe) :
 Calls Pg 75 #[.string s] w fun e w'=>∃ N,e = .returned (.tuple #[.int .i64 (Lib.atoiSat s.data.toList),.iface 151 (.pointer (some ⟨N,0,none⟩))])∧w.heap.size≤N∧w'.heap[N]?=some (.cells #[.string ⟨#[65,116,111,105]⟩,.string s,ev] 169 (0,0))∧Below w.heap.size w w':=Any.strconv_Atoi_range sh_laysC172 s hlim h ev w hv hev
def sh_lays143_ren:Go.Shelf.Ren:=⟨fun | 143=>138 | 219=>139 | 217=>119 | 225=>150 | 224=>151 | 267=>152 | 266=>135 | 314=>160 | n=>n,fun | 9=>9 | 3=>3 | 4=>4 | 5=>5 | 46=>136 | 146=>195 | 51=>188 | n=>n,fun | 1=>0 | n=>n⟩
theorem sh_lays143:Go.Proofs.Lays.n143 Pg sh_lays143_ren:={
 mixed:=by kernel_rfl
 f143:=Tryz.func138.trans (congrArg some (by kernel_rfl))
 f217:=Tryz.func119.trans (congrArg some (by kernel_rfl))
 f219:=Tryz.func139.trans (congrArg some (by kernel_rfl))
 f224:=Tryz.func151.trans (congrArg some (by kernel_rfl))
 f225:=Tryz.func150.trans (congrArg some (by kernel_rfl))
 f266:=Tryz.func135.trans (congrArg some (by kernel_rfl))
 f267:=Tryz.func152.trans (congrArg some (by kernel_rfl))
 f314:=Tryz.func160.trans (congrArg some (by kernel_rfl))
 t3:=Tryz.underlying3
 a3:=Tryz.isAgg3
 z3:=Tryz.sizeOf3
 v3:=Tryz.zeroValue3
 t4:=Tryz.underlying4
 a4:=Tryz.isAgg4
 z4:=Tryz.sizeOf4
 v4:=Tryz.zeroValue4
 t5:=Tryz.underlying5
 a5:=Tryz.isAgg5
 z5:=Tryz.sizeOf5
 v5:=Tryz.zeroValue5
 t9:=Tryz.underlying9
 a9:=Tryz.isAgg9
 z9:=Tryz.sizeOf9
 v9:=Tryz.zeroValue9
 t46:=Tryz.underlying136
 a46:=Tryz.isAgg136
 z46:=Tryz.sizeOf136
 v46:=Tryz.zeroValue136
 t51:=Tryz.underlying188
 a51:=Tryz.isAgg188
 z51:=Tryz.sizeOf188
 v51:=Tryz.zeroValue188
 t146:=Tryz.underlying195
 a146:=Tryz.isAgg195
 z146:=Tryz.sizeOf195
 v146:=Tryz.zeroValue195
 g1:=by kernel_rfl }
open Go.RowKit Go.Lib in
theorem sh_strings_Index_one (s:ByteArray) (c:UInt8) (w:World) :
 Calls Pg 138 #[.string s,.string ⟨#[c]⟩] w fun e w'=>e = .returned (.int .i64 (Lib.indexByte s.data.toList c))∧w'=w:=Any.strings_Index_one sh_lays143 s c w
def sh_lays145_ren:Go.Shelf.Ren:=⟨fun | 145=>107 | 220=>121 | 219=>139 | 217=>119 | 225=>150 | 224=>151 | 267=>152 | 266=>135 | 314=>160 | n=>n,fun | 9=>9 | 4=>4 | 59=>141 | 3=>3 | 5=>5 | 46=>136 | 146=>195 | 51=>188 | n=>n,fun | 1=>0 | n=>n⟩
theorem sh_lays145:Go.Proofs.Lays.n145 Pg sh_lays145_ren:={
 mixed:=by kernel_rfl
 f145:=Tryz.func107.trans (congrArg some (by kernel_rfl))
 f217:=Tryz.func119.trans (congrArg some (by kernel_rfl))
 f219:=Tryz.func139.trans (congrArg some (by kernel_rfl))
 f220:=Tryz.func121.trans (congrArg some (by kernel_rfl))
 f224:=Tryz.func151.trans (congrArg some (by kernel_rfl))
 f225:=Tryz.func150.trans (congrArg some (by kernel_rfl))
 f266:=Tryz.func135.trans (congrArg some (by kernel_rfl))
 f267:=Tryz.func152.trans (congrArg some (by kernel_rfl))
 f314:=Tryz.func160.trans (congrArg some (by kernel_rfl))
 t3:=Tryz.underlying3
 a3:=Tryz.isAgg3
 z3:=Tryz.sizeOf3
 v3:=Tryz.zeroValue3
 t4:=Tryz.underlying4
 a4:=Tryz.isAgg4
 z4:=Tryz.sizeOf4
 v4:=Tryz.zeroValue4
 t5:=Tryz.underlying5
 a5:=Tryz.isAgg5
 z5:=Tryz.sizeOf5
 v5:=Tryz.zeroValue5
 t9:=Tryz.underlying9
 a9:=Tryz.isAgg9
 z9:=Tryz.sizeOf9
 v9:=Tryz.zeroValue9
 t46:=Tryz.underlying136
 a46:=Tryz.isAgg136
 z46:=Tryz.sizeOf136
 v46:=Tryz.zeroValue136
 t51:=Tryz.underlying188
 a51:=Tryz.isAgg188
 z51:=Tryz.sizeOf188
 v51:=Tryz.zeroValue188
 t59:=Tryz.underlying141
 a59:=Tryz.isAgg141
 z59:=Tryz.sizeOf141
 v59:=Tryz.zeroValue141
 t146:=Tryz.underlying195
 a146:=Tryz.isAgg195
 z146:=Tryz.sizeOf195
 v146:=Tryz.zeroValue195
 g1:=by kernel_rfl }
open Go.RowKit Go.Lib in
theorem sh_strings_Cut (s sep:ByteArray) (m:Int) (w:World) (hs:s.size < 4294967281) (hm:w.cell? ⟨0,0,none⟩=some (.int .i64 m)) :
 Calls Pg 107 #[.string s,.string sep] w fun e w'=>e = .returned (.tuple #[.string ⟨(Lib.cut s.data.toList sep.data.toList).1.toArray⟩,.string ⟨(Lib.cut s.data.toList sep.data.toList).2.1.toArray⟩,.bool (Lib.cut s.data.toList sep.data.toList).2.2])∧∃ n,w'=w.drewN n:=Any.strings_Cut sh_lays145 s sep m w hs hm
def sh_laysM176_ren:Go.Shelf.Ren:=⟨fun | 176=>88 | 249=>111 | 288=>130 | 283=>143 | 284=>144 | 285=>145 | 286=>146 | 129=>156 | 317=>155 | 318=>157 | 319=>158 | 320=>159 | 337=>162 | 338=>163 | n=>n,fun | 37=>22 | 2=>2 | 3=>3 | 53=>163 | 4=>4 | 9=>9 | 171=>174 | 0=>0 | 173=>177 | 212=>187 | 51=>188 | 5=>5 | 20=>20 | 213=>189 | 46=>136 | 232=>199 | 233=>200 | n=>n,fun | 17=>3 | 18=>6 | 19=>7 | n=>n⟩
theorem sh_laysM176:Go.Proofs.LaysM.n176 Pg sh_laysM176_ren:={
 mixed:=by kernel_rfl
 f129:=Tryz.func156.trans (congrArg some (by kernel_rfl))
 f176:=Tryz.func88.trans (congrArg some (by kernel_rfl))
 f249:=Tryz.func111.trans (congrArg some (by kernel_rfl))
 f283:=Tryz.func143.trans (congrArg some (by kernel_rfl))
 f284:=Tryz.func144.trans (congrArg some (by kernel_rfl))
 f285:=Tryz.func145.trans (congrArg some (by kernel_rfl))
 f286:=Tryz.func146.trans (congrArg some (by kernel_rfl))
 f288:=Tryz.func130.trans (congrArg some (by kernel_rfl))
 f317:=Tryz.func155.trans (congrArg some (by kernel_rfl))
 f318:=Tryz.func157.trans (congrArg some (by kernel_rfl))
 f319:=Tryz.func158.trans (congrArg some (by kernel_rfl))
 f320:=Tryz.func159.trans (congrArg some (by kernel_rfl))
 f337:=Tryz.func162.trans (congrArg some (by kernel_rfl))
 f338:=Tryz.func163.trans (congrArg some (by kernel_rfl))
 t0:=Tryz.underlying0
 a0:=Tryz.isAgg0
 z0:=Tryz.sizeOf0
 v0:=Tryz.zeroValue0
 t2:=Tryz.underlying2
 a2:=Tryz.isAgg2
 z2:=Tryz.sizeOf2
 v2:=Tryz.zeroValue2
 t3:=Tryz.underlying3
 a3:=Tryz.isAgg3
 z3:=Tryz.sizeOf3
 v3:=Tryz.zeroValue3
 t4:=Tryz.underlying4
 a4:=Tryz.isAgg4
 z4:=Tryz.sizeOf4
 v4:=Tryz.zeroValue4
 t5:=Tryz.underlying5
 a5:=Tryz.isAgg5
 z5:=Tryz.sizeOf5
 v5:=Tryz.zeroValue5
 t9:=Tryz.underlying9
 a9:=Tryz.isAgg9
 z9:=Tryz.sizeOf9
 v9:=Tryz.zeroValue9
 t20:=Tryz.underlying20
 a20:=Tryz.isAgg20
 z20:=Tryz.sizeOf20
 v20:=Tryz.zeroValue20
 t37:=Tryz.underlying22
 a37:=Tryz.isAgg22
 z37:=Tryz.sizeOf22
 v37:=Tryz.zeroValue22
 t46:=Tryz.underlying136
 a46:=Tryz.isAgg136
 z46:=Tryz.sizeOf136
 v46:=Tryz.zeroValue136
 t51:=Tryz.underlying188
 a51:=Tryz.isAgg188
 z51:=Tryz.sizeOf188
 v51:=Tryz.zeroValue188
 t53:=Tryz.underlying163
 a53:=Tryz.isAgg163
 z53:=Tryz.sizeOf163
 v53:=Tryz.zeroValue163
 t171:=Tryz.underlying174
 a171:=Tryz.isAgg174
 z171:=Tryz.sizeOf174
 v171:=Tryz.zeroValue174
 t173:=Tryz.underlying177
 a173:=Tryz.isAgg177
 z173:=Tryz.sizeOf177
 v173:=Tryz.zeroValue177
 t212:=Tryz.underlying187
 a212:=Tryz.isAgg187
 z212:=Tryz.sizeOf187
 v212:=Tryz.zeroValue187
 t213:=Tryz.underlying189
 a213:=Tryz.isAgg189
 z213:=Tryz.sizeOf189
 t232:=Tryz.underlying199
 a232:=Tryz.isAgg199
 z232:=Tryz.sizeOf199
 v232:=Tryz.zeroValue199
 t233:=Tryz.underlying200
 a233:=Tryz.isAgg200
 z233:=Tryz.sizeOf200
 v233:=Tryz.zeroValue200
 g17:=by kernel_rfl
 g18:=by kernel_rfl
 g19:=by kernel_rfl
 i0:=by kernel_rfl
 i2:=by kernel_rfl
 i3:=by kernel_rfl
 i4:=by kernel_rfl
 i5:=by kernel_rfl
 i9:=by kernel_rfl
 i20:=by kernel_rfl
 i37:=by kernel_rfl
 i46:=by kernel_rfl
 i51:=by kernel_rfl
 i53:=by kernel_rfl
 i171:=by kernel_rfl
 i173:=by kernel_rfl
 i212:=by kernel_rfl
 i232:=by kernel_rfl
 i233:=by kernel_rfl
 m17:=by kernel_rfl
 m18:=by kernel_rfl
 m19:=by kernel_rfl }
open Go.RowKit Go.Sort Go.Lib in
theorem sh_strconv_AppendInt_10 (B n:Nat) (i:Int) (h0 : -9223372036854775808≤i) (h1:i≤9223372036854775807) (sv:Value) (xs:List Value) (w:World) (hown:w.ownsRow B 5 1 sv n xs) (hBw:B≤w.heap.size) (hlim:n+21≤140737488355328) (htab:Lib.TabBelow Pg B w "internal/strconv.uint64pow10" .u64 Lib.pow10Tab) :
 Calls Pg 88 #[sv,.int .i64 i,.int .i64 10] w fun e w'=>∃ v',e = .returned v'∧w'.ownsRow B 5 1 v' (n+(Lib.itoa i).length) (xs++Lib.byteCells (Lib.itoa i))∧Below B w w'∧Lib.OthersKept 5 none w w':=Any.strconv_AppendInt_10 sh_laysM176 B n i h0 h1 sv xs w hown hBw hlim htab
def sh_lays227_ren:Go.Shelf.Ren:=⟨fun | 227=>124 | n=>n,fun | 9=>9 | 116=>157 | 4=>4 | 0=>0 | 3=>3 | 5=>5 | n=>n,fun | n=>n⟩
theorem sh_lays227:Go.Proofs.Lays.n227 Pg sh_lays227_ren:={
 mixed:=by kernel_rfl
 f227:=Tryz.func124.trans (congrArg some (by kernel_rfl))
 t0:=Tryz.underlying0
 a0:=Tryz.isAgg0
 z0:=Tryz.sizeOf0
 v0:=Tryz.zeroValue0
 t3:=Tryz.underlying3
 a3:=Tryz.isAgg3
 z3:=Tryz.sizeOf3
 v3:=Tryz.zeroValue3
 t4:=Tryz.underlying4
 a4:=Tryz.isAgg4
 z4:=Tryz.sizeOf4
 v4:=Tryz.zeroValue4
 t5:=Tryz.underlying5
 a5:=Tryz.isAgg5
 z5:=Tryz.sizeOf5
 v5:=Tryz.zeroValue5
 t9:=Tryz.underlying9
 a9:=Tryz.isAgg9
 z9:=Tryz.sizeOf9
 v9:=Tryz.zeroValue9
 t116:=Tryz.underlying157
 a116:=Tryz.isAgg157
 z116:=Tryz.sizeOf157 }
open Go.RowKit Go.Lib in
theorem sh_strings_makeASCIISet (hv116:∀ w,(zeroValue 157).run Pg w = .ok (.agg (Array.replicate 256 (.bool false))) w) (chars:ByteArray) (w:World) (hs:chars.size < 4294967281) (hascii:∀ (j:Nat) b,chars.data.toList[j]?=some b→b.toNat < 128) :
 Calls Pg 124 #[.string chars] w fun e w'=>e = .returned (.tuple #[.agg (Lib.setCells chars.data.toList),.bool true])∧w'=w.alloc (.cells (Lib.setCells chars.data.toList) 157):=Any.strings_makeASCIISet sh_lays227 hv116 (by kernel_rfl) chars w hs hascii
def sh_lays228_ren:Go.Shelf.Ren:=⟨fun | 228=>140 | n=>n,fun | 124=>161 | 5=>5 | 4=>4 | 0=>0 | 116=>157 | n=>n,fun | n=>n⟩
theorem sh_lays228:Go.Proofs.Lays.n228 Pg sh_lays228_ren:={
 mixed:=by kernel_rfl
 f228:=Tryz.func140.trans (congrArg some (by kernel_rfl))
 t0:=Tryz.underlying0
 a0:=Tryz.isAgg0
 z0:=Tryz.sizeOf0
 v0:=Tryz.zeroValue0
 t4:=Tryz.underlying4
 a4:=Tryz.isAgg4
 z4:=Tryz.sizeOf4
 v4:=Tryz.zeroValue4
 t5:=Tryz.underlying5
 a5:=Tryz.isAgg5
 z5:=Tryz.sizeOf5
 v5:=Tryz.zeroValue5
 t116:=Tryz.underlying157
 a116:=Tryz.isAgg157
 z116:=Tryz.sizeOf157
 t124:=Tryz.underlying161
 a124:=Tryz.isAgg161
 z124:=Tryz.sizeOf161
 v124:=Tryz.zeroValue161 }
open Go.RowKit Go.Lib in
theorem sh_asciiSet_contains (b:Nat) (x:UInt8) (v:Bool) (w:World) (hc:w.cell? ⟨b,x.toNat,none⟩=some (.bool v)) :
 Calls Pg 140 #[.pointer (some ⟨b,0,none⟩),.int .u8 x.toNat] w fun e w'=>e = .returned (.bool v)∧w'=w:=Any.asciiSet_contains sh_lays228 b x v w hc
end Go.Proofs.YtcffhmapmaahnaaGreatDoor
namespace Go.Sw
class Szb (a:ByteArray) (n:outParam Nat):Prop where
 le:a.size≤n
instance szbLit (a:Array UInt8):Szb ⟨a⟩ a.size:=⟨Nat.le_refl _⟩
instance szbApp (a b:ByteArray) (n m:Nat) [Szb a n] [Szb b m]:Szb (a++b) (n+m):=⟨by rw [ByteArray.size_append];exact Nat.add_le_add Szb.le Szb.le⟩
section
variable {P:Program} {QP:List PanicEntry→World→Prop} {w:World}
theorem op_saddB (t:TypeId) (c:Bool) (a b:ByteArray) {n m:Nat} [ha:Szb a n] [hb:Szb b m] (h:Nat.ble (n+m) 9223372036854775807=true) {k:Value→World→Prop}:opV P (binS .add t c (.string a) (.string b)) QP w k=k (.string (a++b)) w:=by
 have h:=Nat.le_of_ble_eq_true h
 have h1:=ha.le
 have h2:=hb.le
 refine opV_ok ?_
 have h1:¬ (((a.size+b.size:Nat):Int) > IntKind.i64.max):=by
  have:IntKind.i64.max=9223372036854775807:=rfl
  omega
 simp [binS,binOp,Op.stringOp,h1]
 omega
end
end Go.Sw
namespace Go.Proofs.YtcffhmapmaahnaaGreatDoor
open Sw
open Go.RowKit (intOf Below)
def decB (n:Int):ByteArray:=⟨(Go.Lib.itoa n).toArray⟩
theorem bytes_ext {a b:ByteArray} (h:a.data.toList=b.data.toList):a=b:=by
 cases a;cases b
 congr
 exact Array.toList_inj.1 h
def TabOK (w:World):Prop:=Go.Lib.TabIs Pg w "internal/strconv.uint64pow10" .u64 Go.Lib.pow10Tab
theorem gPow:(Pg.globalNamed "internal/strconv.uint64pow10").isSome=true:=by kernel_rfl
theorem TabOK.lt {w:World} (h:TabOK w) {g:Nat} (hg:Pg.globalNamed "internal/strconv.uint64pow10" = some g):g < w.heap.size:=by
 unfold TabOK Go.Lib.TabIs World.var? at h
 rw [hg] at h
 simp only [Option.bind_some] at h
 rcases Nat.lt_or_ge g w.heap.size with h' | h'
 · exact h'
 · rw [Array.getElem?_eq_none h'] at h;cases h
theorem TabOK.same {w w':World} (h:TabOK w) (hb:∀ g,Pg.globalNamed "internal/strconv.uint64pow10" = some g→w'.heap[g]?=w.heap[g]?):TabOK w':=by
 obtain ⟨g,hg⟩:=Option.isSome_iff_exists.1 gPow
 have:=hb g hg
 unfold TabOK Go.Lib.TabIs World.var? at h ⊢
 rw [hg] at h ⊢
 simp only [Option.bind_some] at h ⊢
 rw [this]
 exact h
theorem TabOK.ext {w w':World} (h:TabOK w) (e:Ext w w'):TabOK w':=h.same fun g hg=>e.block g (h.lt hg)
theorem grow_ext (w:World) (k:Nat) (os:Array Obj):Ext w (Sort.grow (w.drewN k) os):=⟨rfl,rfl,rfl,by show w.heap.size≤(w.heap++os).size;simp,fun i hi=>by show (w.heap++os)[i]?=_;rw [Array.getElem?_append_left hi]⟩
theorem Itoa_ret {w:World} (hT:TabOK w) (n:Int) (h0 : -9223372036854775808≤n) (h1:n≤9223372036854775807):Ret Pg 83 #[.int .i64 n] w fun r w'=>r = .string (decB n)∧Ext w w':=by
 refine Calls.mono (sh_strconv_Itoa n h0 h1 w hT) ?_
 rintro e w' ⟨rfl,k,os,rfl⟩
 exact ⟨_,rfl,rfl,grow_ext w k os⟩
structure EnvOK (w:World):Prop where
 tab:TabOK w
 len:∃ m,w.cell? ⟨0,0,none⟩=some (.int .i64 m)
 syn:∃ ev,w.cell? ⟨1,0,none⟩=some ev∧(ev = .nilIface∨∃ te pe,ev = .iface te pe)
 rng:∃ ev,w.cell? ⟨2,0,none⟩=some ev∧(ev = .nilIface∨∃ te pe,ev = .iface te pe)
theorem EnvOK.ext {w w':World} (h:EnvOK w) (e:Ext w w'):EnvOK w':=⟨h.tab.ext e,h.len.imp fun _ h=>e.cell h,h.syn.imp fun _ h=>⟨e.cell h.1,h.2⟩,h.rng.imp fun _ h=>⟨e.cell h.1,h.2⟩⟩
def digN (c:UInt8):Bool:=decide (48≤c.toNat)&&decide (c.toNat≤57)
def stepN (n:Nat) (c:UInt8):Nat:=n*10+(c.toNat - 48)
def valL (l:List UInt8):Nat:=l.foldl stepN 0
theorem valL_snoc (l:List UInt8) (c:UInt8):valL (l++[c])=valL l*10+(c.toNat - 48):=by simp [valL,stepN]
theorem digN_iff {c:UInt8}:digN c=true↔48≤c.toNat∧c.toNat≤57:=by simp [digN]
theorem all_snoc {l:List UInt8} {c:UInt8}:(l++[c]).all digN=true↔l.all digN=true∧digN c=true:=by simp
theorem head_snoc {l:List UInt8} (h:l≠[]) (c:UInt8):(l++[c]).head?=l.head?:=by
 cases l with
 | nil=>exact absurd rfl h
 | cons a l=>rfl
theorem dig_toNat {u:Nat} (h:u < 10):(UInt8.ofNat (48+u)).toNat=48+u:=by
 rw [UInt8.toNat_ofNat']
 exact Nat.mod_eq_of_lt (by omega)
theorem dec_ok (u:Nat):Go.Lib.decDigits u≠[]∧(Go.Lib.decDigits u).all digN=true∧valL (Go.Lib.decDigits u)=u∧((Go.Lib.decDigits u).head?=some 48→u=0):=by
 induction u using Nat.strongRecOn with
 | ind u ih =>
  by_cases h:u < 10
  · rw [Go.Lib.decDigits_one h]
    refine ⟨by simp,?_,?_,fun e=>?_⟩
    · rw [List.all_cons,List.all_nil,Bool.and_true,digN_iff,dig_toNat h];omega
    · show 0*10+((UInt8.ofNat (48+u)).toNat - 48)=u
      rw [dig_toNat h];omega
    · injection e with e
      have:=dig_toNat h
      rw [e] at this
      have h48:(48:UInt8).toNat=48:=rfl
      omega
  · obtain ⟨a1,a2,a3,a4⟩:=ih (u / 10) (by omega)
    rw [Go.Lib.decDigits,dif_neg h]
    have hm:u % 10 < 10:=Nat.mod_lt _ (by omega)
    refine ⟨by simp,all_snoc.2 ⟨a2,?_⟩,?_,fun e=>?_⟩
    · rw [digN_iff,dig_toNat hm];omega
    · rw [valL_snoc,a3,dig_toNat hm];omega
    · rw [head_snoc a1] at e
      have:=a4 e
      omega
theorem parse_val:∀ (l:List UInt8) (acc k:Nat),l.all digN=true→acc < 10 ^ k→k+l.length≤18→Go.Lib.parseUint10 acc l = .ok (l.foldl stepN acc)
 | [],acc,k,_,_,_=>rfl
 | c::r,acc,k,h,ha,hk=>by
  rw [List.all_cons,Bool.and_eq_true] at h
  have h2:=digN_iff.1 h.1
  rw [List.length_cons] at hk
  have h18:10 ^ (k+1)≤10 ^ 18:=Nat.pow_le_pow_right (by omega) (by omega)
  have h18':(10:Nat) ^ 18=1000000000000000000:=by decide
  have hs:10 ^ (k+1)=10 ^ k*10:=Nat.pow_succ ..
  simp only [Go.Lib.parseUint10]
  rw [if_pos h2,if_neg (by omega),if_neg (by omega),parse_val r (acc*10+(c.toNat - 48)) (k+1) h.2 (by omega) (by omega)]
  rfl
theorem mag_val {l:List UInt8} (h:l≠[]) (hd:l.all digN=true) (hl:l.length≤18):Go.Lib.parseMag l = .ok (valL l):=by
 unfold Go.Lib.parseMag
 rw [if_neg h,parse_val l 0 0 hd (by decide) (by omega)]
 rfl
theorem itoa_pos {n:Int} (h:¬ n < 0):Go.Lib.itoa n=Go.Lib.decDigits n.toNat:=by unfold Go.Lib.itoa;rw [if_neg h]
theorem op_oneB {w:World} {QP:List PanicEntry→World→Prop} {k:Value→World→Prop} {b:Nat} {T:TypeId} {x:Int} (h:w.heap[b]?=some (.cells #[.int .u8 x] T (0,0))):opV Pg (Go.convert 22 9 (.slice (some ⟨b,0,none⟩) 1 1)) QP w k=k (.string ⟨#[UInt8.ofNat x.toNat]⟩) w:=by
 refine opV_ok ?_
 rw [run_convert_bytes_string w _ _ 5 _ 1 1 Tryz.underlying22 Tryz.underlying5 Tryz.underlying9]
 refine run_bytesToString w ⟨b,0,none⟩ 1 1 [x] ?_
 have:=Sw.run_loadCellsFrom (P:=Pg) (w:=w) ⟨b,0,none⟩ 1 0 #[] [.int .u8 x] rfl (fun j v hv=>by
  rw [Addr.add_lit,Nat.zero_add,Nat.zero_add,(cells_of_heap h).1];simpa using hv)
 simpa [loadCells] using this
def mkB (l:List UInt8):ByteArray:=⟨l.toArray⟩
theorem mkB_to (s:ByteArray):mkB s.data.toList=s:=rfl
def hexD (n:Nat):UInt8:=UInt8.ofNat (if n < 10 then 48+n else 87+n)
def hexL (l:List UInt8):List UInt8:=l.flatMap fun c=>[hexD (c.toNat / 16),hexD (c.toNat % 16)]
def hdrL (h:ByteArray×ByteArray):List UInt8:=91::(hexL h.1.data.toList++(58::(hexL h.2.data.toList++[93])))
def intL (n:Int):List UInt8:=if n=0 then [] else 61::Go.Lib.itoa n
def bytL (l:List UInt8):List UInt8:=if l=[] then [] else 35::hexL l
def nodeL (n:Nd):List UInt8:=n.name.data.toList++(intL n.int++(bytL n.bytes++n.hdrs.flatMap hdrL))
def joinP:List (List UInt8)→List UInt8
 | []=>[]
 | a::l=>40::(a++(l.flatMap (fun x=>32::x)++[41]))
noncomputable def textT:Tr→List UInt8:=Tr.fold fun n _ rs=>nodeL n++joinP rs
theorem textT_mk (n:Nd) (ps:List Tr):textT (.mk n ps)=nodeL n++joinP (ps.map textT):=Tr.fold_mk ..
structure Rd where
 nm:List UInt8→Option (List UInt8×List UInt8)
 num:List UInt8→Option (Int×List UInt8)
 hx:List UInt8→Option (List UInt8×List UInt8)
def readH (R:Rd):Nat→List UInt8→Option (List (ByteArray×ByteArray)×List UInt8)
 | 0,l=>some ([],l)
 | k+1,l=>match l with
  | 91::l1=>match R.hx l1 with
   | some (a,58::l2)=>match R.hx l2 with
    | some (b,93::l3)=>(readH R k l3).map fun q=>((mkB a,mkB b)::q.1,q.2)
    | _=>none
   | _=>none
  | l=>some ([],l)
def readI (R:Rd) (l:List UInt8):Option (Int×List UInt8):=match l with
 | 61::l1=>R.num l1
 | l=>some (0,l)
def readB (R:Rd) (l:List UInt8):Option (List UInt8×List UInt8):=match l with
 | 35::l1=>R.hx l1
 | l=>some ([],l)
def readN (R:Rd) (l:List UInt8):Option (Nd×List UInt8):=match R.nm l with
 | none=>none
 | some (nm,l1)=>match readI R l1 with
  | none=>none
  | some (i,l2)=>match readB R l2 with
   | none=>none
   | some (bs,l3)=>match readH R (l3.length+1) l3 with
    | none=>none
    | some (hs,l4)=>some (⟨mkB nm,i,bs,hs⟩,l4)
def readP (rd:List UInt8→Option (Tr×List UInt8)):Nat→List UInt8→Option (List Tr×List UInt8)
 | 0,_=>none
 | k+1,l=>match rd l with
  | some (t,32::l2)=>(readP rd k l2).map fun q=>(t::q.1,q.2)
  | some (t,41::l2)=>some ([t],l2)
  | _=>none
def readV (R:Rd):Nat→List UInt8→Option (Tr×List UInt8)
 | 0,_=>none
 | f+1,l=>match readN R l with
  | none=>none
  | some (n,l1)=>match l1 with
   | 40::l2=>(readP (readV R f) (l2.length+1) l2).map fun q=>(.mk n q.1,q.2)
   | l1=>some (.mk n [],l1)
def hexB (c:UInt8):Bool:=(decide (48≤c.toNat)&&decide (c.toNat≤57))||(decide (97≤c.toNat)&&decide (c.toNat≤102))
def Stop (p:UInt8→Bool) (l:List UInt8):Prop:=l=[]∨∃ c r,l=c::r∧p c=false
structure RdOk (R:Rd):Prop where
 nm:∀ (s:ByteArray) (rest:List UInt8),nameB s=true→Stop wordB rest→R.nm (s.data.toList++rest)=some (s.data.toList,rest)
 num:∀ (n:Int) (rest:List UInt8),0 < n→n < 34359738368→Stop digN rest→R.num (Go.Lib.itoa n++rest)=some (n,rest)
 hx:∀ (l rest:List UInt8),Stop hexB rest→R.hx (hexL l++rest)=some (l,rest)
theorem hdrs_head {hs:List (ByteArray×ByteArray)} {rest:List UInt8} (p:UInt8→Bool) (h:p 91=false) (hr:Stop p rest):Stop p (hs.flatMap hdrL++rest):=by
 cases hs with
 | nil=>exact hr
 | cons a l=>exact .inr ⟨91,_,rfl,h⟩
theorem readH_ok {R:Rd} (hR:RdOk R):∀ (hs:List (ByteArray×ByteArray)) (k:Nat) (rest:List UInt8),hs.length < k→Stop (fun c=>decide (c=91)) rest→readH R k (hs.flatMap hdrL++rest)=some (hs,rest)
 | [],0,_,h,_=>by cases h
 | [],k+1,rest,_,hr=>by
  rw [List.flatMap_nil,List.nil_append]
  unfold readH
  split
  · rename_i l1
    rcases hr with hr | ⟨c,r,hr,hc⟩
    · cases hr
    · injection hr with hr _
      rw [← hr] at hc
      simp at hc
  · rfl
 | (a,b)::l,0,_,h,_=>by cases h
 | (a,b)::l,k+1,rest,h,hr=>by
  rw [List.flatMap_cons,List.append_assoc,show hdrL (a,b)=91::(hexL a.data.toList++(58::(hexL b.data.toList++[93]))) from rfl,List.cons_append,List.append_assoc,List.cons_append,List.append_assoc,List.singleton_append]
  unfold readH
  simp only
  rw [hR.hx _ _ (.inr ⟨58,_,rfl,rfl⟩)]
  simp only
  rw [hR.hx _ _ (.inr ⟨93,_,rfl,rfl⟩)]
  simp only
  rw [readH_ok hR l k rest (by simpa using h) hr]
  rfl
theorem nodeB_iff {n:Nd}:nodeB n=true↔nameB n.name=true∧0≤n.int∧n.int < 34359738368∧n.bytes.length≤1048576∧n.hdrs.length≤100∧n.hdrs.all hdrB=true:=by
 unfold nodeB
 simp only [Bool.and_eq_true,decide_eq_true_eq]
def EndV (l:List UInt8):Prop:=l=[]∨∃ c r,l=c::r∧(c=32∨c=41)
def EndN (l:List UInt8):Prop:=l=[]∨∃ c r,l=c::r∧(c=32∨c=41∨c=40)
theorem EndN.stop {l:List UInt8} (h:EndN l) (p:UInt8→Bool) (h1:p 32=false) (h2:p 41=false) (h3:p 40=false):Stop p l:=by
 rcases h with h | ⟨c,r,h,rfl | rfl | rfl⟩
 · exact .inl h
 · exact .inr ⟨_,_,h,h1⟩
 · exact .inr ⟨_,_,h,h2⟩
 · exact .inr ⟨_,_,h,h3⟩
theorem bytL_head {bs:List UInt8} {rest:List UInt8} (p:UInt8→Bool) (h:p 35=false) (hr:Stop p rest):Stop p (bytL bs++rest):=by
 unfold bytL
 split
 · exact hr
 · exact .inr ⟨35,_,rfl,h⟩
theorem intL_head {n:Int} {rest:List UInt8} (p:UInt8→Bool) (h:p 61=false) (hr:Stop p rest):Stop p (intL n++rest):=by
 unfold intL
 split
 · exact hr
 · exact .inr ⟨61,_,rfl,h⟩
theorem stop_cons {p:UInt8→Bool} {c:UInt8} {r:List UInt8} (h:Stop p (c::r)):p c=false:=by
 rcases h with h | ⟨c',r',h,hc⟩
 · cases h
 · injection h with h _;rw [h];exact hc
theorem readI_ok {R:Rd} (hR:RdOk R) {n:Int} (h0:0≤n) (h1:n < 34359738368) {rest:List UInt8} (h2:Stop digN rest) (h3:Stop (fun c=>decide (c=61)) rest):readI R (intL n++rest)=some (n,rest):=by
 unfold intL
 split
 · rename_i h
   subst h
   rw [List.nil_append]
   unfold readI
   split
   · exact absurd (stop_cons h3) (by decide)
   · rfl
 · show R.num (Go.Lib.itoa n++rest)=_
   exact hR.num n rest (by omega) h1 h2
theorem readB_ok {R:Rd} (hR:RdOk R) (bs:List UInt8) {rest:List UInt8} (h2:Stop hexB rest) (h3:Stop (fun c=>decide (c=35)) rest):readB R (bytL bs++rest)=some (bs,rest):=by
 unfold bytL
 split
 · rename_i h
   subst h
   rw [List.nil_append]
   unfold readB
   split
   · exact absurd (stop_cons h3) (by decide)
   · rfl
 · show R.hx (hexL bs++rest)=_
   exact hR.hx bs rest h2
theorem hdrs_long (hs:List (ByteArray×ByteArray)):hs.length≤(hs.flatMap hdrL).length:=by
 induction hs with
 | nil=>exact Nat.le_refl _
 | cons a l ih =>
  rw [List.flatMap_cons,List.length_append,List.length_cons]
  have:1≤(hdrL a).length:=by unfold hdrL;rw [List.length_cons];omega
  omega
theorem readN_ok {R:Rd} (hR:RdOk R) {n:Nd} (h:nodeB n=true) {rest:List UInt8} (hr:EndN rest):readN R (nodeL n++rest)=some (n,rest):=by
 obtain ⟨a1,a2,a3,a4,a5,a6⟩:=nodeB_iff.1 h
 unfold nodeL
 rw [List.append_assoc,List.append_assoc,List.append_assoc]
 have s0:∀ p:UInt8→Bool,p 32=false→p 41=false→p 40=false→p 91=false→Stop p (n.hdrs.flatMap hdrL++rest):=fun p q1 q2 q3 q4=>hdrs_head p q4 (hr.stop p q1 q2 q3)
 have s1:∀ p:UInt8→Bool,p 32=false→p 41=false→p 40=false→p 91=false→p 35=false→Stop p (bytL n.bytes++(n.hdrs.flatMap hdrL++rest)):=fun p q1 q2 q3 q4 q5=>bytL_head p q5 (s0 p q1 q2 q3 q4)
 have s2:∀ p:UInt8→Bool,p 32=false→p 41=false→p 40=false→p 91=false→p 35=false→p 61=false→Stop p (intL n.int++(bytL n.bytes++(n.hdrs.flatMap hdrL++rest))):=fun p q1 q2 q3 q4 q5 q6=>intL_head p q6 (s1 p q1 q2 q3 q4 q5)
 unfold readN
 rw [hR.nm n.name _ a1 (s2 wordB rfl rfl rfl rfl rfl rfl)]
 simp only
 rw [readI_ok hR a2 a3 (s1 digN rfl rfl rfl rfl rfl) (s1 _ rfl rfl rfl rfl rfl)]
 simp only
 rw [readB_ok hR n.bytes (s0 hexB rfl rfl rfl rfl) (s0 _ rfl rfl rfl rfl)]
 simp only
 rw [readH_ok hR n.hdrs _ rest (by have:=hdrs_long n.hdrs;rw [List.length_append];omega) (hr.stop _ rfl rfl rfl)]
 simp only [mkB_to]
theorem readP_ok {rd:List UInt8→Option (Tr×List UInt8)} {rest:List UInt8}:∀ (ps:List Tr) (x:Tr) (k:Nat),ps.length < k→(∀ t∈x::ps,∀ r,EndV r→rd (textT t++r)=some (t,r))→readP rd k (textT x++((ps.map textT).flatMap (fun x=>32::x)++41::rest))=some (x::ps,rest)
 | [],x,0,h,_=>by cases h
 | [],x,k+1,_,hrd=>by
  rw [List.map_nil,List.flatMap_nil,List.nil_append]
  unfold readP
  rw [hrd x (List.mem_cons_self ..) _ (.inr ⟨_,_,rfl,.inr rfl⟩)]
  rfl
 | y::l,x,0,h,_=>by cases h
 | y::l,x,k+1,h,hrd=>by
  rw [List.map_cons,List.flatMap_cons,List.append_assoc,List.cons_append]
  unfold readP
  rw [hrd x (List.mem_cons_self ..) _ (.inr ⟨_,_,rfl,.inl rfl⟩)]
  simp only
  rw [readP_ok l y k (by simpa using h) fun t ht=>hrd t (List.mem_cons_of_mem _ ht)]
  rfl
theorem flat_long {l:List (List UInt8)}:l.length≤(l.flatMap (fun x=>32::x)).length:=by
 induction l with
 | nil=>exact Nat.le_refl _
 | cons a l ih =>
  rw [List.flatMap_cons,List.length_append,List.length_cons,List.length_cons]
  omega
theorem readV_ok {R:Rd} (hR:RdOk R) (t:Tr):∀ (f:Nat) (rest:List UInt8),allT nodeB t=true→heightT t≤f→EndV rest→readV R f (textT t++rest)=some (t,rest):=by
 refine Tr.ind (p:=fun t=>∀ (f:Nat) (rest:List UInt8),allT nodeB t=true→heightT t≤f→EndV rest→readV R f (textT t++rest)=some (t,rest)) ?_ t
 intro n ps ih f rest hv hh hr
 rw [heightT_mk] at hh
 rw [allT_mk,Bool.and_eq_true,List.all_eq_true] at hv
 cases f with
 | zero=>omega
 | succ f =>
  rw [textT_mk,List.append_assoc]
  unfold readV
  cases ps with
  | nil =>
   rw [List.map_nil]
   unfold joinP
   rw [List.nil_append,readN_ok hR hv.1 (by
    rcases hr with hr | ⟨c,r,hr,hc | hc⟩
    · exact .inl hr
    · exact .inr ⟨_,_,hr,.inl hc⟩
    · exact .inr ⟨_,_,hr,.inr (.inl hc)⟩)]
   simp only
   split
   · rcases hr with hr | ⟨c,r,hr,rfl | rfl⟩<;>cases hr
   · rfl
  | cons x l =>
   rw [List.map_cons]
   unfold joinP
   rw [List.cons_append,readN_ok hR hv.1 (.inr ⟨_,_,rfl,.inr (.inr rfl)⟩)]
   simp only
   rw [List.append_assoc,List.append_assoc,List.singleton_append,readP_ok l x _ (by
    have:=flat_long (l:=l.map textT)
    rw [List.length_map] at this
    rw [List.length_append,List.length_append]
    omega) fun t ht r hr=>ih t ht f r (hv.2 t ht) (by
     have:=(foldr_max_le (l:=(x::l).map heightT) (m:=((x::l).map heightT).foldr max 0)).1 (Nat.le_refl _) _ (List.mem_map_of_mem ht)
     omega) hr]
   rfl
noncomputable def parseR (R:Rd) (s:List UInt8):Option Tr:=match readV R 40 s with
 | some (t,_)=>if validT t=true∧textT t=s then some t else none
 | none=>none
theorem parseR_iff {R:Rd} (hR:RdOk R) (s:List UInt8) (t:Tr):parseR R s=some t↔validT t=true∧textT t=s:=by
 unfold parseR
 constructor
 · intro h
   split at h
   · split at h
     · injection h with h
       subst h
       assumption
     · cases h
   · cases h
 · rintro ⟨h1,rfl⟩
   have hv:=h1
   unfold validT at hv
   simp only [Bool.and_eq_true,decide_eq_true_eq] at hv
   have:=readV_ok hR t 40 [] hv.2 hv.1.2 (.inl rfl)
   rw [List.append_nil] at this
   rw [this]
   simp only
   simp [h1]
def n69 (t0 t1:Value) (R:RT) (w:World):Prop :=
 opV Pg (Instr.box 26 t0) (panK R) w fun t2 w =>
 opV Pg (Instr.box 9 t1) (panK R) w fun t3 w =>
 opV Pg (Instr.makeFunc (.func 82) #[] #[t3,t2]) (panK R) w fun t5 w =>
 R (.returned t5) w
theorem n69s {t0 t1:Value} {R:RT} {w:World} (h:n69 t0 t1 R w):Calls Pg 59 #[t0,t1] w R:=by
 refine yD Tryz.func59 ?_
 exact zs<|zr<|yv h fun _ w h=>yv h fun _ w h=>zm<|zn<|zk<|zs<|zr<|yF h fun _ w h=>zm<|zn<|zk<|sim_ret<|body_ret1 rfl rfl h
def n49 (t0 t1:Value) (R:RT) (w:World):Prop :=
 opV Pg (Instr.box 26 t0) (panK R) w fun t2 w =>
 opV Pg (Instr.box 3 t1) (panK R) w fun t3 w =>
 opV Pg (Instr.makeFunc (.func 85) #[] #[t3,t2]) (panK R) w fun t5 w =>
 R (.returned t5) w
theorem n49s {t0 t1:Value} {R:RT} {w:World} (h:n49 t0 t1 R w):Calls Pg 64 #[t0,t1] w R:=by
 refine yD Tryz.func64 ?_
 exact zs<|zr<|yv h fun _ w h=>yv h fun _ w h=>zm<|zn<|zk<|zs<|zr<|yF h fun _ w h=>zm<|zn<|zk<|sim_ret<|body_ret1 rfl rfl h
def n59c1 (t1 t22 t27:Value) (R:RT) (w:World):Prop :=
 pickK t22 t27 (.bool false) fun t28 =>
 joinK (fun (t34:Value) (w:World) =>
 pickK t28 t34 (.bool false) fun t35 =>
 R (.returned t35) w) fun K5 =>
 guardP t28 true (
 opV Pg (Instr.fieldAt 26 t1 3) (panK R) w fun t30 w =>
 opV Pg (Instr.loadAt 23 t30) (panK R) w fun t31 w =>
 callK Pg 87 #[t31,(.func (.func 86) #[] #[])] (panK R) w fun t33 w =>
 opV Pg (Op.unary .not t33) (panK R) w fun t34 w =>
 K5 t34 w) (
 K5 undef w)
def n59c2 (t1 t16 t21:Value) (R:RT) (w:World):Prop :=
 pickK t16 t21 (.bool false) fun t22 =>
 joinK (fun (t27:Value) (w:World) =>
 n59c1 t1 t22 t27 R w) fun K4 =>
 guardP t22 true (
 opV Pg (Instr.fieldAt 26 t1 3) (panK R) w fun t24 w =>
 opV Pg (Instr.loadAt 23 t24) (panK R) w fun t25 w =>
 opV Pg (Builtin.len_ #[23] 3 #[t25]) (panK R) w fun t26 w =>
 opV Pg (binS .leq 3 true t26 (.int .i64 100)) (panK R) w fun t27 w =>
 K4 t27 w) (
 K4 undef w)
def n59c3 (t1 t11 t15:Value) (R:RT) (w:World):Prop :=
 pickK t11 t15 (.bool false) fun t16 =>
 joinK (fun (t21:Value) (w:World) =>
 n59c2 t1 t16 t21 R w) fun K3 =>
 guardP t16 true (
 opV Pg (Instr.fieldAt 26 t1 2) (panK R) w fun t18 w =>
 opV Pg (Instr.loadAt 22 t18) (panK R) w fun t19 w =>
 opV Pg (Builtin.len_ #[22] 3 #[t19]) (panK R) w fun t20 w =>
 opV Pg (binS .leq 3 true t20 (.int .i64 1048576)) (panK R) w fun t21 w =>
 K3 t21 w) (
 K3 undef w)
def n59c4 (t1 t6 t10:Value) (R:RT) (w:World):Prop :=
 pickK t6 t10 (.bool false) fun t11 =>
 joinK (fun (t15:Value) (w:World) =>
 n59c3 t1 t11 t15 R w) fun K2 =>
 guardP t11 true (
 opV Pg (Instr.fieldAt 26 t1 1) (panK R) w fun t13 w =>
 opV Pg (Instr.loadAt 3 t13) (panK R) w fun t14 w =>
 opV Pg (binS .lss 3 true t14 (.int .i64 34359738368)) (panK R) w fun t15 w =>
 K2 t15 w) (
 K2 undef w)
def n59c5 (t1 t6:Value) (R:RT) (w:World):Prop :=
 joinK (fun (t10:Value) (w:World) =>
 n59c4 t1 t6 t10 R w) fun K1 =>
 guardP t6 true (
 opV Pg (Instr.fieldAt 26 t1 1) (panK R) w fun t8 w =>
 opV Pg (Instr.loadAt 3 t8) (panK R) w fun t9 w =>
 opV Pg (binS .geq 3 true t9 (.int .i64 0)) (panK R) w fun t10 w =>
 K1 t10 w) (
 K1 undef w)
def n59 (t0:Value) (R:RT) (w:World):Prop :=
 opV Pg (Instr.box 26 t0) (panK R) w fun t1 w =>
 opV Pg (Instr.fieldAt 26 t1 0) (panK R) w fun t4 w =>
 opV Pg (Instr.loadAt 9 t4) (panK R) w fun t5 w =>
 callK Pg 73 #[t5] (panK R) w fun t6 w =>
 n59c5 t1 t6 R w
theorem n59s {t0:Value} {R:RT} {w:World} (h:n59 t0 R w):Calls Pg 65 #[t0] w R:=by
 refine yD Tryz.func65 ?_
 refine zs<|zr<|yv h fun _ w h=>zm<|zn<|zk<|zs<|zr<|zm<|zn<|zk<|zs<|sim_regionG<|yG 4<|yv h fun _ w h=>?_
 refine yv h fun _ w h=>yc h c73 fun _ w h=>zm<|zn<|yg1 3 3 true [8,9,10] 10 h (fun _ T hT h=>?_) fun σ w h=>?_
 · refine yv h fun _ w h=>yv h fun _ w h=>yb h fun _ w h=>zn ?_
   exact zt hT h
 refine yG 2<|yp h fun _ h=>zm<|zn<|yg1 3 8 true [13,14,15] 15 h (fun _ T hT h=>?_) fun σ w h=>?_
 · refine yv h fun _ w h=>yv h fun _ w h=>yb h fun _ w h=>zn ?_
   exact zt hT h
 refine yG 2<|yp h fun _ h=>zm<|zn<|yg1 4 13 true [18,19,20,21] 21 h (fun _ T hT h=>?_) fun σ w h=>?_
 · refine yv h fun _ w h=>yv h fun _ w h=>yx h fun _ w h=>yb h fun _ w h=>zn ?_
   exact zt hT h
 refine yG 2<|yp h fun _ h=>zm<|zn<|yg1 4 19 true [24,25,26,27] 27 h (fun _ T hT h=>?_) fun σ w h=>?_
 · refine yv h fun _ w h=>yv h fun _ w h=>yx h fun _ w h=>yb h fun _ w h=>zn ?_
   exact zt hT h
 refine yG 2<|yp h fun _ h=>zm<|zn<|yg1 5 25 true [30,31,32,33,34] 34 h (fun _ T hT h=>?_) fun σ w h=>?_
 · refine yv h fun _ w h=>yv h fun _ w h=>zm<|yc h c87 fun _ w h=>yv h fun _ w h=>zn ?_
   exact zt hT h
 exact yG 2<|yp h fun _ h=>zm<|zn<|sim_end<|zk<|sim_ret<|body_ret1 rfl rfl h
theorem op_boxA {P:Program} {QP:List PanicEntry→World→Prop} {w:World} {k:Value→World→Prop} (T:TypeId) (cs:Array Value):opV P (Instr.box T (.agg cs)) QP w k=k (.pointer (some ⟨w.heap.size,0,none⟩)) (w.alloc (.cells cs T)):=by
 refine opV_ok ?_
 simp [go_sem]
theorem before_succ {α:Type} {p:α→Bool} {l:List α} {k:Nat} {x:α} (h:∀ (j:Nat) y,j < k→l[j]?=some y→p y=false) (hx:l[k]?=some x) (hp:p x=false):∀ (j:Nat) y,j < k+1→l[j]?=some y→p y=false:=fun j y hj hy=>by
 by_cases hjk:j=k
 · subst hjk;rw [hx] at hy;injection hy with hy;subst hy;exact hp
 · exact h j y (by omega) hy
theorem IndexFunc_Header_ret (w0:World) (v:Value) (l:List (ByteArray×ByteArray)) (g:FuncId) (caps:Array Value) (p:ByteArray×ByteArray→Bool) (hs:HdrsOf w0 v l) (hg:Callable Pg g) (hc:Tests w0 (fun _ v x=>v=hdrVal x) g caps p l) :
 Ret Pg 110 #[v,.func (.func g) #[] caps] w0 fun r w'=>r = .int .i64 (idx p l)∧Ext w0 w':=by
 obtain ⟨A,c,rfl,hlc,hcm,hlm,hel⟩:=SliceOf.open hs
 refine n27s (R:=retR _) ?_;unfold n27
 simp (disch:=try exact DI) only [↓PR,QR,simprocAttr]
 refine loop1_intro (fun i w=>∃ k:Nat,i = .int .i64 k∧k≤l.length∧Ext w0 w∧∀ (j:Nat) y,j < k→l[j]?=some y→p y=false) (fun i _=>l.length - (intOf i).toNat) ⟨0,rfl,by omega,Ext.refl _,fun j y h=>by omega⟩ ?_
 rintro i w ⟨k,rfl,hk,e,hb⟩
 by_cases hlt:k < l.length
 · obtain ⟨x,hx⟩:=getElem?_lt hlt
   obtain ⟨b,o,cs,rfl,hl,hA,hE⟩:=hel k x hx
   have hd:decide ((k:Int) < (l.length:Int))=true:=by simp;omega
   simp (disch:=try exact DI) only [↓PR,QR,simprocAttr,hd]
   unfold n27c1
   simp (disch:=try exact DI) only [↓PR,QR,simprocAttr]
   obtain rfl:=hE
   have hV:(.agg #[.string x.1,.string x.2]:Value)=hdrVal x:=rfl
   simp (disch:=try exact DI) only [↓PR,QR,simprocAttr,hA.c2 e]
   rw [callV_func hg]
   simp only [Array.empty_append]
   refine callK_ret (hc w _ x (List.mem_of_getElem? hx) e hV) ?_
   rintro r w' ⟨rfl,e'⟩
   cases hp:p x with
   | true =>
    simp (disch:=try exact DI) only [↓PR,QR,simprocAttr]
    exact ⟨by rw [idx_here hx hp hb],e.trans e'⟩
   | false =>
    simp (disch:=try exact DI) only [↓PR,QR,simprocAttr]
    refine ⟨⟨k+1,rfl,by omega,e.trans e',before_succ hb hx hp⟩,by simp [intOf];omega⟩
 · have hd:decide ((k:Int) < (l.length:Int))=false:=by simp;omega
   simp (disch:=try exact DI) only [↓PR,QR,simprocAttr,hd]
   exact ⟨by rw [idx_none fun j y hy=>hb j y (by have:=(List.getElem?_eq_some_iff.1 hy).1;omega) hy],e⟩
theorem ContainsFunc_Header_ret (w0:World) (v:Value) (l:List (ByteArray×ByteArray)) (g:FuncId) (caps:Array Value) (p:ByteArray×ByteArray→Bool) (hs:HdrsOf w0 v l) (hg:Callable Pg g) (hc:Tests w0 (fun _ v x=>v=hdrVal x) g caps p l) :
 Ret Pg 87 #[v,.func (.func g) #[] caps] w0 fun r w'=>r = .bool (l.any p)∧Ext w0 w':=by
 refine n24s (R:=retR _) ?_;unfold n24
 refine callK_ret (IndexFunc_Header_ret _ _ l g caps p hs hg hc) ?_
 rintro r w' ⟨rfl,e⟩
 simp (disch:=try exact DI) only [↓PR,QR,simprocAttr,Sw.joinK_eq]
 exact ⟨by rw [idx_neg],e⟩
theorem nodeS1_ret (w0:World) (x:ByteArray×ByteArray):Ret Pg 86 #[hdrVal x] w0 fun r w'=>r = .bool (!hdrB x)∧Ext w0 w':=by
 unfold hdrVal
 refine n60s (R:=retR _) ?_;unfold n60
 simp (disch:=try exact DI) only [↓PR,QR,simprocAttr]
 refine ⟨?_,ee⟩
 unfold hdrB
 congr 1
 by_cases h1:x.1.size≤1048576
 · by_cases h2:x.2.size≤1048576
   · simp [h1,h2];split<;>omega
   · simp [h1,h2];split<;>omega
 · simp [h1];split<;>omega
theorem node_ret (w0:World) (v:Value) (t:Tr) (h:ValAt w0 v t):Ret Pg 65 #[v] w0 fun r w'=>r = .bool (nodeB t.nd)∧Ext w0 w':=by
 obtain ⟨bv,hv,pv,rfl,hB,hH,hT,o1,o2,o3⟩:=h.op
 obtain ⟨A1,c1,rfl,_,_,_,_⟩:=SliceOf.open hB
 obtain ⟨A2,c2,rfl,_,_,_,_⟩:=SliceOf.open hH
 refine n59s (R:=retR _) ?_;unfold n59
 rw [op_boxA]
 have h2:=heap_new w0 (trCells t.nd (.slice A1 t.nd.bytes.length c1) (.slice A2 t.nd.hdrs.length c2) pv).toArray 26
 have eW:Ext w0 (w0.alloc (.cells (trCells t.nd (.slice A1 t.nd.bytes.length c1) (.slice A2 t.nd.hdrs.length c2) pv).toArray 26)):=ee
 generalize (w0.alloc (.cells (trCells t.nd (.slice A1 t.nd.bytes.length c1) (.slice A2 t.nd.hdrs.length c2) pv).toArray 26))=W at h2 eW ⊢
 generalize w0.heap.size=p at h2 ⊢
 unfold nodeB
 simp (disch:=try exact DI) only [↓PR,QR,simprocAttr,(cells_of_heap h2).1]
 refine zcr (Name_ret _ _) fun w1 e1=>?_
 have h3:=e1.obj h2
 have E1:=eW.trans e1
 cases nameB t.nd.name with
 | false =>
  simp (disch:=try exact DI) only [↓PR,QR,simprocAttr,↓n59c1,↓n59c2,↓n59c3,↓n59c4,↓n59c5,(cells_of_heap h3).1]
  exact ⟨by first | trivial | rfl,ee⟩
 | true =>
 cases hp:decide (0≤t.nd.int) with
 | false =>
  simp (disch:=try exact DI) only [↓PR,QR,simprocAttr,↓n59c1,↓n59c2,↓n59c3,↓n59c4,↓n59c5,(cells_of_heap h3).1,hp]
  exact ⟨by first | trivial | rfl,ee⟩
 | true =>
 cases hq:decide (t.nd.int < 34359738368) with
 | false =>
  simp (disch:=try exact DI) only [↓PR,QR,simprocAttr,↓n59c1,↓n59c2,↓n59c3,↓n59c4,↓n59c5,(cells_of_heap h3).1,hp,hq]
  exact ⟨by first | trivial | rfl,ee⟩
 | true =>
 by_cases hl:t.nd.bytes.length≤1048576
 case neg =>
  have d1:decide ((t.nd.bytes.length:Int)≤1048576)=false:=decide_eq_false (by omega)
  simp (disch:=try exact DI) only [↓PR,QR,simprocAttr,↓n59c1,↓n59c2,↓n59c3,↓n59c4,↓n59c5,(cells_of_heap h3).1,hp,hq,d1]
  exact ⟨by simp [hl],ee⟩
 have d1:decide ((t.nd.bytes.length:Int)≤1048576)=true:=decide_eq_true (by omega)
 by_cases hm:t.nd.hdrs.length≤100
 case neg =>
  have d2:decide ((t.nd.hdrs.length:Int)≤100)=false:=decide_eq_false (by omega)
  simp (disch:=try exact DI) only [↓PR,QR,simprocAttr,↓n59c1,↓n59c2,↓n59c3,↓n59c4,↓n59c5,(cells_of_heap h3).1,hp,hq,d1,d2]
  exact ⟨by simp [hm],ee⟩
 have d2:decide ((t.nd.hdrs.length:Int)≤100)=true:=decide_eq_true (by omega)
 simp (disch:=try exact DI) only [↓PR,QR,simprocAttr,↓n59c1,↓n59c2,↓n59c3,↓n59c4,↓n59c5,(cells_of_heap h3).1,hp,hq,d1,d2]
 refine zcr (ContainsFunc_Header_ret _ _ t.nd.hdrs _ _ (fun x=>!hdrB x) (hH.ext E1) c86 (by rintro w v x _ _ rfl;simpa using nodeS1_ret w x)) fun w2 e2=>?_
 simp (disch:=try exact DI) only [↓PR,QR,simprocAttr,↓n59c1,↓n59c2,↓n59c3,↓n59c4,↓n59c5]
 refine ⟨?_,E1.trans e2⟩
 simp only [hl,hm,decide_true,Bool.true_and]
 congr 1
 generalize t.nd.hdrs=l
 induction l with
 | nil=>rfl
 | cons a l ih=>rw [List.any_cons,List.all_cons,← ih];cases hdrB a<;>simp
theorem each_ret (w0:World) (v:Value) (t:Tr) (a:Nat) (h:ValAt w0 v t):Ret Pg 64 #[v,.int .i64 a] w0 fun r w'=>(∃ cs,v = .agg cs∧r = .func (.func 85) #[] #[.pointer (some ⟨w0.heap.size+1,0,none⟩),.pointer (some ⟨w0.heap.size,0,none⟩)]∧w'.heap[w0.heap.size]?=some (.cells cs 26 (0,0))∧w'.heap[w0.heap.size+1]?=some (.cells #[.int .i64 a] 3 (0,0)))∧Ext w0 w'∧w'.heap.size=w0.heap.size+2:=by
 obtain ⟨bv,hv,pv,rfl,hB,hH,hT,o1,o2,o3⟩:=h.op
 refine n49s (R:=retR _) ?_;unfold n49
 rw [op_boxA]
 have h2:=heap_new w0 (trCells t.nd bv hv pv).toArray 26
 have eW:Ext w0 (w0.alloc (.cells (trCells t.nd bv hv pv).toArray 26)):=ee
 have sW:(w0.alloc (.cells (trCells t.nd bv hv pv).toArray 26)).heap.size=w0.heap.size+1:=World.size_alloc ..
 generalize (w0.alloc (.cells (trCells t.nd bv hv pv).toArray 26))=W at h2 eW sW ⊢
 simp (disch:=try exact DI) only [↓PR,QR,simprocAttr,sW]
 exact ⟨⟨_,rfl,by trivial,h2,by trivial⟩,eW.trans ((Ext.refl W).alloc _),by trivial⟩
def n15c1 (t35 t36 t42 t45:Value) (R:RT) (w:World):Prop :=
 pickK t42 (.bool true) t45 fun t46 =>
 joinK (fun (t49:Value) (w:World) =>
 pickK t46 (.bool true) t49 fun t50 =>
 condP t50 (
 R (.returned (.string { data := #[63] })) w) (
 R (.returned t35) w)) fun K3 =>
 guardP t46 false (
 opV Pg (binS .neq 33 true t36 (.int .i64 0)) (panK R) w fun t49 w =>
 K3 t49 w) (
 K3 undef w)
def n15c2 (t31 t35 t36 t38 t41:Value) (R:RT) (w:World):Prop :=
 pickK t38 (.bool true) t41 fun t42 =>
 joinK (fun (t45:Value) (w:World) =>
 n15c1 t35 t36 t42 t45 R w) fun K2 =>
 guardP t42 false (
 opV Pg (binS .neq 33 true t31 (.int .i64 0)) (panK R) w fun t45 w =>
 K2 t45 w) (
 K2 undef w)
def n15c3 (t19 t24 t31 t34:Value) (R:RT) (w:World):Prop :=
 opV Pg (Instr.extract t34 0) (panK R) w fun t35 w =>
 opV Pg (Instr.extract t34 1) (panK R) w fun t36 w =>
 opV Pg (binS .neq 33 true t19 (.int .i64 0)) (panK R) w fun t38 w =>
 joinK (fun (t41:Value) (w:World) =>
 n15c2 t31 t35 t36 t38 t41 R w) fun K1 =>
 guardP t38 false (
 opV Pg (binS .neq 33 true t24 (.int .i64 0)) (panK R) w fun t41 w =>
 K1 t41 w) (
 K1 undef w)
def n15c4 (t19 t24 t29:Value) (R:RT) (w:World):Prop :=
 opV Pg (Instr.extract t29 0) (panK R) w fun t30 w =>
 opV Pg (Instr.extract t29 1) (panK R) w fun t31 w =>
 opV Pg (Instr.alloc 26 true (.tuple #[])) (panK R) w fun t11 w =>
 opU Pg (Instr.storeAt 26 t11 t30) (panK R) w fun w =>
 opV Pg (Instr.loadAt 26 t11) (panK R) w fun t33 w =>
 callK Pg 26 #[t33] (panK R) w fun t34 w =>
 n15c3 t19 t24 t31 t34 R w
def n15c5 (t1 t7 t19 t22:Value) (R:RT) (w:World):Prop :=
 opV Pg (Instr.extract t22 0) (panK R) w fun t23 w =>
 opV Pg (Instr.extract t22 1) (panK R) w fun t24 w =>
 opV Pg (Instr.alloc 26 true (.tuple #[])) (panK R) w fun t9 w =>
 opU Pg (Instr.storeAt 26 t9 t23) (panK R) w fun w =>
 opV Pg (Instr.loadAt 26 t7) (panK R) w fun t26 w =>
 opV Pg (Instr.loadAt 26 t9) (panK R) w fun t28 w =>
 callK Pg 20 #[t26,t1,t28] (panK R) w fun t29 w =>
 n15c4 t19 t24 t29 R w
def n15c6 (t1 t2 t17:Value) (R:RT) (w:World):Prop :=
 opV Pg (Instr.extract t17 0) (panK R) w fun t18 w =>
 opV Pg (Instr.extract t17 1) (panK R) w fun t19 w =>
 opV Pg (Instr.alloc 26 true (.tuple #[])) (panK R) w fun t7 w =>
 opU Pg (Instr.storeAt 26 t7 t18) (panK R) w fun w =>
 callK Pg 18 #[t2] (panK R) w fun t22 w =>
 n15c5 t1 t7 t19 t22 R w
def n15 (t0 t1 t2:Value) (R:RT) (w:World):Prop :=
 callK Pg 18 #[t0] (panK R) w fun t17 w =>
 n15c6 t1 t2 t17 R w
theorem n15s {t0 t1 t2:Value} {R:RT} {w:World} (h:n15 t0 t1 t2 R w):Calls Pg 34 #[t0,t1,t2] w R:=by
 refine yD Tryz.func34 ?_
 refine zs<|zr<|zm<|zn<|zk<|zs<|zr<|zm<|yc h c18 fun _ w h=>zm<|yv h fun _ w h=>yv h fun _ w h=>yv h fun _ w h=>yu h fun w h=>zm ?_
 refine zn<|zk<|zs<|zr<|zm<|yc h c18 fun _ w h=>zm<|yv h fun _ w h=>yv h fun _ w h=>yv h fun _ w h=>yu h fun w h=>zm<|zn<|zk<|zs ?_
 refine zr<|yv h fun _ w h=>zm<|yv h fun _ w h=>yc h c20 fun _ w h=>zm<|yv h fun _ w h=>yv h fun _ w h=>yv h fun _ w h=>yu h fun w h=>zm<|zn<|zk<|zs<|zr ?_
 refine yv h fun _ w h=>yc h c26 fun _ w h=>zm<|yv h fun _ w h=>yv h fun _ w h=>zm<|zm<|zn<|zk<|zs<|zs<|sim_regionG<|yG 3<|zm<|yb h fun _ w h=>?_
 refine zm<|zn<|yg1 2 2 false [40,41] 41 h (fun _ T hT h=>?_) fun σ w h=>?_
 · refine zm<|yb h fun _ w h=>zn ?_
   exact zt hT h
 refine yG 2<|yp h fun _ h=>zm<|zn<|yg1 2 6 false [44,45] 45 h (fun _ T hT h=>?_) fun σ w h=>?_
 · refine zm<|yb h fun _ w h=>zn ?_
   exact zt hT h
 refine yG 2<|yp h fun _ h=>zm<|zn<|yg1 2 10 false [48,49] 49 h (fun _ T hT h=>?_) fun σ w h=>?_
 · refine zm<|yb h fun _ w h=>zn ?_
   exact zt hT h
 refine yG 1<|yp h fun _ h=>zn<|sim_end<|zk<|yC h (fun h=>zs<|zr<|zm<|zn<|zk<|sim_ret<|sim_then_ret<|body_ret1 rfl rfl h) fun h=>sim_skip<|zk<|zs<|zr<|zm<|zm<|zn<|zk ?_
 exact sim_ret<|body_ret1 rfl rfl h
def n9c1 (t5 t7 t24 t29:Value) (R:RT) (w:World):Prop :=
 pickK t24 t29 (.bool false) fun t30 =>
 joinK (fun (t35:Value) (w:World) =>
 pickK t30 t35 (.bool false) fun t36 =>
 R (.returned t36) w) fun K3 =>
 guardP t30 true (
 opV Pg (Instr.loadAt 26 t7) (panK R) w fun t32 w =>
 opV Pg (Instr.loadAt 26 t5) (panK R) w fun t33 w =>
 callK Pg 14 #[t32,t33] (panK R) w fun t34 w =>
 opV Pg (binS .eql 3 true t34 (.int .i64 1)) (panK R) w fun t35 w =>
 K3 t35 w) (
 K3 undef w)
def n9c2 (t5 t7 t20 t23:Value) (R:RT) (w:World):Prop :=
 pickK t20 t23 (.bool false) fun t24 =>
 joinK (fun (t29:Value) (w:World) =>
 n9c1 t5 t7 t24 t29 R w) fun K2 =>
 guardP t24 true (
 opV Pg (Instr.loadAt 26 t5) (panK R) w fun t26 w =>
 opV Pg (Instr.loadAt 26 t7) (panK R) w fun t27 w =>
 callK Pg 14 #[t26,t27] (panK R) w fun t28 w =>
 opV Pg (binS .eql 3 true t28 (.int .i64 (-1))) (panK R) w fun t29 w =>
 K2 t29 w) (
 K2 undef w)
def n9c3 (t5 t13 t16:Value) (R:RT) (w:World):Prop :=
 opV Pg (Instr.extract t16 0) (panK R) w fun t17 w =>
 opV Pg (Instr.extract t16 1) (panK R) w fun t18 w =>
 opV Pg (Instr.alloc 26 true (.tuple #[])) (panK R) w fun t7 w =>
 opU Pg (Instr.storeAt 26 t7 t17) (panK R) w fun w =>
 opV Pg (binS .eql 33 true t13 (.int .i64 0)) (panK R) w fun t20 w =>
 joinK (fun (t23:Value) (w:World) =>
 n9c2 t5 t7 t20 t23 R w) fun K1 =>
 guardP t20 true (
 opV Pg (binS .eql 33 true t18 (.int .i64 0)) (panK R) w fun t23 w =>
 K1 t23 w) (
 K1 undef w)
def n9c4 (t1 t11:Value) (R:RT) (w:World):Prop :=
 opV Pg (Instr.extract t11 0) (panK R) w fun t12 w =>
 opV Pg (Instr.extract t11 1) (panK R) w fun t13 w =>
 opV Pg (Instr.alloc 26 true (.tuple #[])) (panK R) w fun t5 w =>
 opU Pg (Instr.storeAt 26 t5 t12) (panK R) w fun w =>
 callK Pg 18 #[t1] (panK R) w fun t16 w =>
 n9c3 t5 t13 t16 R w
def n9 (t0 t1:Value) (R:RT) (w:World):Prop :=
 callK Pg 18 #[t0] (panK R) w fun t11 w =>
 n9c4 t1 t11 R w
theorem n9s {t0 t1:Value} {R:RT} {w:World} (h:n9 t0 t1 R w):Calls Pg 35 #[t0,t1] w R:=by
 refine yD Tryz.func35 ?_
 refine zs<|zr<|zm<|zn<|zk<|zs<|zr<|zm<|yc h c18 fun _ w h=>zm<|yv h fun _ w h=>yv h fun _ w h=>yv h fun _ w h=>yu h fun w h=>zm ?_
 refine zn<|zk<|zs<|zr<|zm<|yc h c18 fun _ w h=>zm<|yv h fun _ w h=>yv h fun _ w h=>yv h fun _ w h=>yu h fun w h=>zm<|zn<|zk<|zs ?_
 refine sim_regionG<|yG 3<|zm<|yb h fun _ w h=>zm<|zn<|yg1 2 2 true [22,23] 23 h (fun _ T hT h=>?_) fun σ w h=>?_
 · refine zm<|yb h fun _ w h=>zn ?_
   exact zt hT h
 refine yG 2<|yp h fun _ h=>zm<|zn<|yg1 4 6 true [26,27,28,29] 29 h (fun _ T hT h=>?_) fun σ w h=>?_
 · refine yv h fun _ w h=>yv h fun _ w h=>yc h c14 fun _ w h=>yb h fun _ w h=>zn ?_
   exact zt hT h
 refine yG 2<|yp h fun _ h=>zm<|zn<|yg1 4 12 true [32,33,34,35] 35 h (fun _ T hT h=>?_) fun σ w h=>?_
 · refine yv h fun _ w h=>yv h fun _ w h=>yc h c14 fun _ w h=>yb h fun _ w h=>zn ?_
   exact zt hT h
 exact yG 2<|yp h fun _ h=>zm<|zn<|sim_end<|zk<|sim_ret<|body_ret1 rfl rfl h
def n13c1 (t7:Value) (R:RT) (w:World):Prop :=
 opV Pg (Instr.extract t7 0) (panK R) w fun t8 w =>
 opV Pg (Instr.extract t7 1) (panK R) w fun t9 w =>
 opV Pg (Instr.alloc 26 true (.tuple #[])) (panK R) w fun t3 w =>
 opU Pg (Instr.storeAt 26 t3 t8) (panK R) w fun w =>
 opV Pg (binS .eql 33 true t9 (.int .i64 6)) (panK R) w fun t11 w =>
 R (.returned t11) w
def n13 (t0:Value) (R:RT) (w:World):Prop :=
 callK Pg 18 #[t0] (panK R) w fun t7 w =>
 n13c1 t7 R w
theorem n13s {t0:Value} {R:RT} {w:World} (h:n13 t0 R w):Calls Pg 36 #[t0] w R:=by
 refine yD Tryz.func36 ?_
 refine zs<|zr<|zm<|zn<|zk<|zs<|zr<|zm<|yc h c18 fun _ w h=>zm<|yv h fun _ w h=>yv h fun _ w h=>yv h fun _ w h=>yu h fun w h=>zm ?_
 exact zn<|zk<|zs<|zr<|zm<|yb h fun _ w h=>zm<|zn<|zk<|sim_ret<|body_ret1 rfl rfl h
def n7c1 (t0 t8:Value) (next1:KV) (R:RT) (w:World):Prop :=
 opV Pg (Instr.indexAt 107 t0 t8) (panK R) w fun t10 w =>
 opV Pg (Instr.loadAt 3 t10) (panK R) w fun t11 w =>
 opV Pg (binS .neq 3 false t11 (.int .i64 0)) (panK R) w fun t14 w =>
 condP t14 (
 R (.returned t11) w) (
 opV Pg (binS .add 3 true t8 (.int .i64 1)) (panK R) w fun t16 w =>
 next1 t16 w)
def n7 (t0:Value) (R:RT) (w:World):Prop :=
 opV Pg (Builtin.len_ #[107] 3 #[t0]) (panK R) w fun t7 w =>
 loop1 (fun t8 w next1 =>
 opV Pg (binS .lss 3 false t8 t7) (panK R) w fun t9 w =>
 condP t9 (
 n7c1 t0 t8 next1 R w) (
 R (.returned (.int .i64 0)) w)) (.int .i64 0) w
theorem n7s {t0:Value} {R:RT} {w:World} (h:n7 t0 R w):Calls Pg 37 #[t0] w R:=by
 refine yD Tryz.func37 ?_
 refine zs<|zr<|zm<|zn<|zk<|zs<|zr<|zm<|zn<|zk<|zs<|zs<|zr<|zm<|yx h fun _ w h=>?_
 refine zm<|zn<|zk<|sim_block<|yl1 [2,5,8,9,10,11,12,13,14,15,16] 8 h fun σ w next h=>zs<|zr<|yb h fun _ w h=>zn<|zk<|zs<|yC h (fun h=>?_) fun h=>?_
 · refine sim_skip<|zk<|zs<|sim_block<|zs<|zr<|yv h fun _ w h=>yv h fun _ w h=>zm<|zn<|zk<|zs<|zr<|zm<|zm ?_
   exact yb h fun _ w h=>zn<|zk<|yC h (fun h=>zs<|zr<|zm<|zm<|zn<|zk<|sim_ret<|sim_block_ret<|sim_then_ret<|sim_then_ret<|sim_block_ret<|sim_then_ret<|body_ret1 rfl rfl h) fun h=>sim_skip<|sim_block_normal<|zk<|zr<|yb h fun _ w h=>zm<|zn<|zk<|⟨rfl,h⟩
 exact sim_exit<|sim_then_exit<|sim_then_exit<|sim_block_hit<|zk<|zs<|zr<|zm<|zm<|zn<|zk<|sim_ret<|body_ret1 rfl rfl h
def n56c1 (t14 t26:Value) (next1:KV) (R:RT) (w:World):Prop :=
 opV Pg (binS .neq 3 true t26 (.int .i64 0)) (panK R) w fun t28 w =>
 condP t28 (
 R (.returned t26) w) (
 opV Pg (binS .add 3 true t14 (.int .i64 1)) (panK R) w fun t30 w =>
 next1 t30 w)
def n56c2 (t0 t1 t2 t14:Value) (C2:World→Prop) (next1:KV) (R:RT) (w:World):Prop :=
 qV Pg C2 (Instr.indexAt 23 t0 t14) fun t20 =>
 qV Pg C2 (Instr.loadAt 74 t20) fun t21 =>
 qV Pg C2 (Instr.indexAt 23 t1 t14) fun t24 =>
 qV Pg C2 (Instr.loadAt 74 t24) fun t25 =>
 callV Pg t2 #[t21,t25] (panK R) w fun t26 w =>
 C2 w∧(
 n56c1 t14 t26 next1 R w)
def n56c3 (t0 t1:Value) (R:RT) (w:World):Prop :=
 opV Pg (Builtin.len_ #[23] 3 #[t0]) (panK R) w fun t32 w =>
 opV Pg (Builtin.len_ #[23] 3 #[t1]) (panK R) w fun t34 w =>
 callK Pg 39 #[t32,t34] (panK R) w fun t35 w =>
 R (.returned t35) w
def n56c4 (t0 t1 t2 t13 t14:Value) (next1:KV) (R:RT) (w:World):Prop :=
 opV Pg (binS .lss 3 false t14 t13) (panK R) w fun t15 w =>
 condP t15 (
 drawK w fun C2 w =>
 n56c2 t0 t1 t2 t14 C2 next1 R w) (
 n56c3 t0 t1 R w)
def n56 (t0 t1 t2:Value) (R:RT) (w:World):Prop :=
 opV Pg (Builtin.len_ #[23] 3 #[t0]) (panK R) w fun t10 w =>
 opV Pg (Builtin.len_ #[23] 3 #[t1]) (panK R) w fun t12 w =>
 opV Pg (Builtin.min_ #[3,3] 3 #[t10,t12]) (panK R) w fun t13 w =>
 loop1 (fun t14 w next1 =>
 n56c4 t0 t1 t2 t13 t14 next1 R w) (.int .i64 0) w
theorem n56s {t0 t1 t2:Value} {R:RT} {w:World} (h:n56 t0 t1 t2 R w):Calls Pg 41 #[t0,t1,t2] w R:=by
 refine yD Tryz.func41 ?_
 refine zs<|zr<|zm<|zn<|zk<|zs<|zs<|zr<|zm<|yx h fun _ w h=>zm<|yx h fun _ w h=>yx h fun _ w h=>zm<|zn ?_
 refine zk<|sim_block<|yl1 [6,7,8,14,15,16,17,18,19,20,21,22,23,24,25,26,27,28,29,30] 14 h fun σ w next h=>zs<|zr<|yb h fun _ w h=>zn<|zk<|zs<|yC h (fun h=>?_) fun h=>?_
 · refine sim_skip<|zk<|zs<|sim_block<|zs<|zr<|zm<|zm<|zn<|zk<|zs<|yh [8,17,18,19,20,21,22,23,24,25,26] h fun C hC h=>yw 0 hC ?_
   refine yw 1 hC ?_
   refine yw 2 hC ?_
   refine ye 3 hC h fun _ h=>?_
   refine ye 4 hC h fun _ h=>?_
   refine yw 5 hC ?_
   refine yw 6 hC ?_
   refine ye 7 hC h fun _ h=>?_
   refine ye 8 hC h fun _ h=>?_
   refine yo 9 ?_
   refine yV h fun _ w h=>zn ?_
   obtain ⟨hC,h⟩:=h
   refine ⟨hC,?_⟩
   refine yw 10 hC ?_
   refine yz<|zk<|zs<|zr<|zm<|yb h fun _ w h=>zn<|zk<|yC h (fun h=>zs<|zr<|zm<|zm<|zn<|zk<|sim_ret<|sim_block_ret<|sim_then_ret<|sim_then_ret<|sim_block_ret<|sim_then_ret<|body_ret1 rfl rfl h) fun h=>sim_skip<|sim_block_normal<|zk<|zr<|yb h fun _ w h=>?_
   exact zm<|zn<|zk<|⟨rfl,h⟩
 refine sim_exit<|sim_then_exit<|sim_then_exit<|sim_block_hit<|zk<|zs<|zr<|zm<|yx h fun _ w h=>zm<|yx h fun _ w h=>yc h c39 fun _ w h=>zm<|zn<|zk ?_
 exact sim_ret<|body_ret1 rfl rfl h
def n53c1 (t9 t11 t13:Value) (C1:World→Prop) (R:RT) (w:World):Prop :=
 callK Pg 38 #[t11,t13] (panK R) w fun t14 w =>
 C1 w∧(
 opV Pg (Instr.buildSlice 107 2 #[(0,t9),(1,t14)]) (panK R) w fun t15 w =>
 C1 w∧(
 callK Pg 37 #[t15] (panK R) w fun t16 w =>
 C1 w∧(
 R (.returned t16) w)))
def n53c2 (t2 t3:Value) (C1:World→Prop) (R:RT) (w:World):Prop :=
 qV Pg C1 (Instr.fieldAt 74 t2 0) fun t5 =>
 qV Pg C1 (Instr.loadAt 9 t5) fun t6 =>
 qV Pg C1 (Instr.fieldAt 74 t3 0) fun t7 =>
 qV Pg C1 (Instr.loadAt 9 t7) fun t8 =>
 qV Pg C1 (Instr.fieldAt 74 t2 1) fun t10 =>
 qV Pg C1 (Instr.loadAt 9 t10) fun t11 =>
 qV Pg C1 (Instr.fieldAt 74 t3 1) fun t12 =>
 qV Pg C1 (Instr.loadAt 9 t12) fun t13 =>
 callK Pg 38 #[t6,t8] (panK R) w fun t9 w =>
 C1 w∧(
 n53c1 t9 t11 t13 C1 R w)
def n53 (t0 t1:Value) (R:RT) (w:World):Prop :=
 opV Pg (Instr.box 74 t0) (panK R) w fun t2 w =>
 opV Pg (Instr.box 74 t1) (panK R) w fun t3 w =>
 drawK w fun C1 w =>
 n53c2 t2 t3 C1 R w
theorem n53s {t0 t1:Value} {R:RT} {w:World} (h:n53 t0 t1 R w):Calls Pg 42 #[t0,t1] w R:=by
 refine yD Tryz.func42 ?_
 refine zs<|zr<|yv h fun _ w h=>yv h fun _ w h=>zm<|zn<|zk<|zs<|yh [4,5,6,7,8,9,10,11,12,13,14,15,16] h fun C hC h=>ye 0 hC h fun _ h=>?_
 refine ye 1 hC h fun _ h=>?_
 refine ye 2 hC h fun _ h=>?_
 refine ye 3 hC h fun _ h=>?_
 refine ye 5 hC h fun _ h=>?_
 refine ye 6 hC h fun _ h=>?_
 refine ye 7 hC h fun _ h=>?_
 refine ye 8 hC h fun _ h=>?_
 refine yo 4 ?_
 refine yc h c38 fun _ w h=>zn ?_
 obtain ⟨hC,h⟩:=h
 refine ⟨hC,?_⟩
 refine yo 9 ?_
 refine yc h c38 fun _ w h=>zn ?_
 obtain ⟨hC,h⟩:=h
 refine ⟨hC,?_⟩
 refine yo 10 ?_
 refine yS h fun _ w h=>zn ?_
 obtain ⟨hC,h⟩:=h
 refine ⟨hC,?_⟩
 refine yo 11 ?_
 refine yc h c37 fun _ w h=>zn ?_
 obtain ⟨hC,h⟩:=h
 refine ⟨hC,?_⟩
 refine yw 12 hC ?_
 exact yz<|zk<|sim_ret<|body_ret1 rfl rfl h
def n57c1 (t14 t26:Value) (next1:KV) (R:RT) (w:World):Prop :=
 opV Pg (binS .neq 3 true t26 (.int .i64 0)) (panK R) w fun t28 w =>
 condP t28 (
 R (.returned t26) w) (
 opV Pg (binS .add 3 true t14 (.int .i64 1)) (panK R) w fun t30 w =>
 next1 t30 w)
def n57c2 (t0 t1 t2 t14:Value) (C2:World→Prop) (next1:KV) (R:RT) (w:World):Prop :=
 qV Pg C2 (Instr.indexAt 24 t0 t14) fun t20 =>
 qV Pg C2 (Instr.loadAt 26 t20) fun t21 =>
 qV Pg C2 (Instr.indexAt 24 t1 t14) fun t24 =>
 qV Pg C2 (Instr.loadAt 26 t24) fun t25 =>
 callV Pg t2 #[t21,t25] (panK R) w fun t26 w =>
 C2 w∧(
 n57c1 t14 t26 next1 R w)
def n57c3 (t0 t1:Value) (R:RT) (w:World):Prop :=
 opV Pg (Builtin.len_ #[24] 3 #[t0]) (panK R) w fun t32 w =>
 opV Pg (Builtin.len_ #[24] 3 #[t1]) (panK R) w fun t34 w =>
 callK Pg 39 #[t32,t34] (panK R) w fun t35 w =>
 R (.returned t35) w
def n57c4 (t0 t1 t2 t13 t14:Value) (next1:KV) (R:RT) (w:World):Prop :=
 opV Pg (binS .lss 3 false t14 t13) (panK R) w fun t15 w =>
 condP t15 (
 drawK w fun C2 w =>
 n57c2 t0 t1 t2 t14 C2 next1 R w) (
 n57c3 t0 t1 R w)
def n57 (t0 t1 t2:Value) (R:RT) (w:World):Prop :=
 opV Pg (Builtin.len_ #[24] 3 #[t0]) (panK R) w fun t10 w =>
 opV Pg (Builtin.len_ #[24] 3 #[t1]) (panK R) w fun t12 w =>
 opV Pg (Builtin.min_ #[3,3] 3 #[t10,t12]) (panK R) w fun t13 w =>
 loop1 (fun t14 w next1 =>
 n57c4 t0 t1 t2 t13 t14 next1 R w) (.int .i64 0) w
theorem n57s {t0 t1 t2:Value} {R:RT} {w:World} (h:n57 t0 t1 t2 R w):Calls Pg 43 #[t0,t1,t2] w R:=by
 refine yD Tryz.func43 ?_
 refine zs<|zr<|zm<|zn<|zk<|zs<|zs<|zr<|zm<|yx h fun _ w h=>zm<|yx h fun _ w h=>yx h fun _ w h=>zm<|zn ?_
 refine zk<|sim_block<|yl1 [6,7,8,14,15,16,17,18,19,20,21,22,23,24,25,26,27,28,29,30] 14 h fun σ w next h=>zs<|zr<|yb h fun _ w h=>zn<|zk<|zs<|yC h (fun h=>?_) fun h=>?_
 · refine sim_skip<|zk<|zs<|sim_block<|zs<|zr<|zm<|zm<|zn<|zk<|zs<|yh [8,17,18,19,20,21,22,23,24,25,26] h fun C hC h=>yw 0 hC ?_
   refine yw 1 hC ?_
   refine yw 2 hC ?_
   refine ye 3 hC h fun _ h=>?_
   refine ye 4 hC h fun _ h=>?_
   refine yw 5 hC ?_
   refine yw 6 hC ?_
   refine ye 7 hC h fun _ h=>?_
   refine ye 8 hC h fun _ h=>?_
   refine yo 9 ?_
   refine yV h fun _ w h=>zn ?_
   obtain ⟨hC,h⟩:=h
   refine ⟨hC,?_⟩
   refine yw 10 hC ?_
   refine yz<|zk<|zs<|zr<|zm<|yb h fun _ w h=>zn<|zk<|yC h (fun h=>zs<|zr<|zm<|zm<|zn<|zk<|sim_ret<|sim_block_ret<|sim_then_ret<|sim_then_ret<|sim_block_ret<|sim_then_ret<|body_ret1 rfl rfl h) fun h=>sim_skip<|sim_block_normal<|zk<|zr<|yb h fun _ w h=>?_
   exact zm<|zn<|zk<|⟨rfl,h⟩
 refine sim_exit<|sim_then_exit<|sim_then_exit<|sim_block_hit<|zk<|zs<|zr<|zm<|yx h fun _ w h=>zm<|yx h fun _ w h=>yc h c39 fun _ w h=>zm<|zn<|zk ?_
 exact sim_ret<|body_ret1 rfl rfl h
theorem bytes_run {w:World} {v:Value} {l:List UInt8} (h:BytesOf w v l):(Extern.Bytes.bytesOf v).run Pg w = .ok ⟨l.toArray⟩ w:=by
 obtain ⟨A,c,rfl,_,_,_,hel⟩:=SliceOf.open h
 cases l with
 | nil =>
  cases A with
  | none=>rfl
  | some a=>rfl
 | cons x l =>
  obtain ⟨b,o,cs,rfl,_,_,_⟩:=hel 0 x rfl
  have hb:=Go.Lib.run_loadBytesX (P:=Pg) (w:=w) ((x::l).map fun c=>(c.toNat:Int)) ⟨b,o,none⟩ .empty fun j y hy=>by
   rw [List.getElem?_map] at hy
   obtain ⟨z,hz,rfl⟩:=Option.map_eq_some_iff.1 hy
   obtain ⟨b',o',cs',hA,_,hE,rfl⟩:=hel j z hz
   injection hA with hA
   injection hA with h1 h2
   subst h1 h2
   have:=hE 0 (.int .u8 z.toNat) rfl
   rw [Addr.add_lit]
   simpa using this
  show (Extern.Bytes.loadBytes ⟨b,o,none⟩ (x::l).length .empty).run Pg w=_
  rw [List.length_map] at hb
  rw [hb]
  congr 1
  apply ByteArray.ext
  show (#[]:Array UInt8)++(Go.Lib.bytesOf ((x::l).map fun c=>(c.toNat:Int))).toArray=(x::l).toArray
  have hbo:Go.Lib.bytesOf ((x::l).map fun c=>(c.toNat:Int))=x::l:=by
   unfold Go.Lib.bytesOf
   rw [List.map_map]
   conv=>rhs;rw [← List.map_id (x::l)]
   refine List.map_congr_left fun c _=>?_
   show ((c.toNat:Int)).toNat.toUInt8=c
   rw [Int.toNat_natCast]
   exact UInt8.ofNat_toNat
  rw [hbo]
  simp
theorem bytesCompare_ret (w0:World) (u v:Value) (a b:List UInt8) (ha:BytesOf w0 u a) (hb:BytesOf w0 v b):Ret Pg 40 #[u,v] w0 fun r w'=>r = .int .i64 (Go.Lib.compareBytes a b)∧Ext w0 w':=by
 have key:∀ {t0 t1:Value} {R:RT} {w:World},callV Pg (.func (.func 70) #[] #[]) #[t0,t1] (panK R) w (fun t7 w=>R (.returned t7) w)→Calls Pg 40 #[t0,t1] w R:=by
  intro t0 t1 R w h
  refine yD Tryz.func40 ?_
  exact zs<|zr<|zm<|zn<|zk<|zs<|zr<|zm<|zm<|sim_callV h rfl rfl (fun _ _ h=>⟨rfl,h⟩) fun _ w h=>zm<|zn<|zk<|sim_ret<|body_ret1 rfl rfl h
 refine key ?_
 unfold callV
 have hcs:callS (.func (.func 70) #[] #[]) #[u,v]=callFunc 70 #[u,v]:=by
  simp [callS,Deferred.ofValue,invoke,go_sem,bind,pure,Sem.bind]
 rw [hcs]
 unfold opD
 rw [run_callFunc_extern Tryz.func70 (by kernel_rfl) (by kernel_rfl) (by kernel_rfl) (e:=Extern.BytealgCompare.compare) (by kernel_rfl)]
 have hrun:(Extern.BytealgCompare.compare #[u,v]).run Pg w0 = .ok (.int .i64 (Go.Lib.compareBytes a b)) w0:=by
  change Sem.run Pg (do pure (goInt (Extern.BytealgCompare.cmp (← Extern.Bytes.bytesOf u) (← Extern.Bytes.bytesOf v)))) w0=_
  simp only [Sem.run_bind,bytes_run ha,bytes_run hb,Sem.run_pure,Result.andThen]
  rw [Go.Lib.cmp_eq]
  rfl
 rw [hrun]
 exact ⟨_,rfl,rfl,Ext.refl _⟩
theorem strCompare_ret (w0:World) (a b:ByteArray):Ret Pg 38 #[.string a,.string b] w0 fun r w'=>r = .int .i64 (Go.Lib.compareBytes a.data.toList b.data.toList)∧Ext w0 w':=by
 refine Calls.mono (sh_strings_Compare a b w0) ?_
 rintro e w' ⟨rfl,rfl⟩
 exact ⟨_,rfl,rfl,Ext.refl _⟩
theorem intCompare_ret (w0:World) (x y:Int):Ret Pg 39 #[.int .i64 x,.int .i64 y] w0 fun r w'=>r = .int .i64 (Go.Lib.compareInt x y)∧Ext w0 w':=by
 refine Calls.mono (sh_cmp_Compare_int x y w0) ?_
 rintro e w' ⟨rfl,rfl⟩
 exact ⟨_,rfl,rfl,Ext.refl _⟩
def orI:List Int→Int
 | []=>0
 | a::l=>if a=0 then orI l else a
def IntsOf (w:World) (v:Value) (l:List Int):Prop:=SliceOf w 1 (fun _ cs (n:Int)=>cs=[.int .i64 n]) v l
theorem Or_ret (w0:World) (v:Value) (l:List Int) (h:IntsOf w0 v l):Ret Pg 37 #[v] w0 fun r w'=>r = .int .i64 (orI l)∧Ext w0 w':=by
 obtain ⟨A,c,rfl,hlc,hcm,hlm,hel⟩:=SliceOf.open h
 refine n7s (R:=retR _) ?_;unfold n7
 simp (disch:=try exact DI) only [↓PR,QR,simprocAttr]
 refine loop1_intro (fun i w=>∃ k:Nat,i = .int .i64 k∧k≤l.length∧Ext w0 w∧orI (l.drop k)=orI l) (fun i _=>l.length - (intOf i).toNat) ⟨0,rfl,by omega,Ext.refl _,rfl⟩ ?_
 rintro _ w ⟨k,rfl,hk,e,hI⟩
 by_cases hlt:k < l.length
 · obtain ⟨x,hx⟩:=getElem?_lt hlt
   obtain ⟨b,o,cs,rfl,hl,hA,rfl⟩:=hel k x hx
   have dk:(k:Int) < (l.length:Int):=by omega
   have d:decide ((k:Int) < (l.length:Int))=true:=decide_eq_true dk
   have hc:w.cell? ⟨b,o+k,none⟩=some (.int .i64 x):=by have:=hA.c1 e;simpa using this
   have hdr:l.drop k=x::l.drop (k+1):=by
    obtain ⟨hk,rfl⟩:=List.getElem?_eq_some_iff.1 hx
    exact List.drop_eq_getElem_cons hk
   rw [hdr] at hI
   have hw:IntKind.i64.wrap ((k:Int)+1)=((k+1:Nat):Int):=by rw [wrap_ok (by omega) (by omega)];omega
   by_cases h0:x=0
   · have d0:(x != 0)=false:=by simp [h0]
     simp (disch:=try exact DI) only [↓PR,QR,simprocAttr,d,dk,hc,Nat.mul_one,↓n7c1,d0,hw]
     refine ⟨⟨k+1,rfl,by omega,e,?_⟩,meas_lt (kd := .i64) hlt⟩
     rw [← hI,orI,if_pos h0]
   · have d0:(x != 0)=true:=by simp [h0]
     simp (disch:=try exact DI) only [↓PR,QR,simprocAttr,d,dk,hc,Nat.mul_one,↓n7c1,d0]
     exact ⟨by rw [← hI,orI,if_neg h0],e⟩
 · have d:decide ((k:Int) < (l.length:Int))=false:=decide_eq_false (by omega)
   simp (disch:=try exact DI) only [↓PR,QR,simprocAttr,d,↓n7c1]
   refine ⟨?_,e⟩
   rw [← hI,List.drop_of_length_le (by omega)]
   rfl
end Go.Proofs.YtcffhmapmaahnaaGreatDoor
