/-
  Lemmas for the claim.
-/
import Derived.Test.YtiajhbbmgglmlaaFc2
set_option linter.all false
namespace Go.Proofs.Ytiajhbbmgglmlaa
def isAggD (d : TypeDesc) : Bool := match d with | .struct _ | .array _ _ => true | _ => false
theorem ty_mk {P : Program} {T : TypeId} {agg : Bool} {n : Nat} {z : Value} {d : TypeDesc} (h : (P.info? T).map (fun i => (i.size, i.zero)) = some (n, some z)) (hu : P.underlying T = some d) (ha : isAggD d = agg) : Sw.TyInfo P T agg n (P.bytesOf T) z := by
  obtain ⟨i, hi, he⟩ := Option.map_eq_some_iff.1 h
  simp only [Prod.mk.injEq] at he
  exact ⟨⟨i, hi, he.1, by simp [Program.bytesOf, hi], he.2⟩, d, hu, ha⟩
theorem ty3 : Sw.TyInfo Try.prog 3 false 1 (Try.prog.bytesOf 3) (.int .i64 0) := ty_mk (by kernel_rfl) Try.underlying3 rfl
theorem ty4 : Sw.TyInfo Try.prog 4 false 1 (Try.prog.bytesOf 4) (.bool false) := ty_mk (by kernel_rfl) Try.underlying4 rfl
theorem ty5 : Sw.TyInfo Try.prog 5 false 1 (Try.prog.bytesOf 5) (.int .u8 0) := ty_mk (by kernel_rfl) Try.underlying5 rfl
theorem ty9 : Sw.TyInfo Try.prog 9 false 1 (Try.prog.bytesOf 9) (.string ByteArray.empty) := ty_mk (by kernel_rfl) Try.underlying9 rfl
theorem by9 : Try.prog.bytesOf 9 ≤ 4096 := Nat.le_of_ble_eq_true (by kernel_rfl)
theorem ty22 : Sw.TyInfo Try.prog 22 false 1 (Try.prog.bytesOf 22) (.int .i64 0) := ty_mk (by kernel_rfl) Try.underlying22 rfl
theorem ty23 : Sw.TyInfo Try.prog 23 false 1 (Try.prog.bytesOf 23) (.slice none 0 0) := ty_mk (by kernel_rfl) Try.underlying23 rfl
theorem ty25 : Sw.TyInfo Try.prog 25 true 2 (Try.prog.bytesOf 25) (.agg #[.int .i64 0, .slice none 0 0]) := ty_mk (by kernel_rfl) Try.underlying25 rfl
theorem ty26 : Sw.TyInfo Try.prog 26 false 1 (Try.prog.bytesOf 26) (.slice none 0 0) := ty_mk (by kernel_rfl) Try.underlying26 rfl
theorem ty28 : Sw.TyInfo Try.prog 28 true 15 (Try.prog.bytesOf 28) (.agg #[.string ByteArray.empty, .int .i64 0, .int .i64 0, .bool false, .bool false, .int .i64 0, .int .i64 0, .int .i64 0, .slice none 0 0, .string ByteArray.empty, .string ByteArray.empty, .string ByteArray.empty, .slice none 0 0, .int .i64 0, .int .i64 0]) := ty_mk (by kernel_rfl) Try.underlying28 rfl
theorem by28 : Try.prog.bytesOf 28 ≤ 4096 := Nat.le_of_ble_eq_true (by kernel_rfl)
theorem ty31 : Sw.TyInfo Try.prog 31 true 2 (Try.prog.bytesOf 31) (.agg #[.int .i64 0, .int .i64 0]) := ty_mk (by kernel_rfl) Try.underlying31 rfl
theorem ty32 : Sw.TyInfo Try.prog 32 false 1 (Try.prog.bytesOf 32) (.int .i64 0) := ty_mk (by kernel_rfl) Try.underlying32 rfl
theorem ty42 : Sw.TyInfo Try.prog 42 false 1 (Try.prog.bytesOf 42) (.slice none 0 0) := ty_mk (by kernel_rfl) Try.underlying42 rfl
theorem ty44 : Sw.TyInfo Try.prog 44 true 3 (Try.prog.bytesOf 44) (.agg #[.string ByteArray.empty, .slice none 0 0, .string ByteArray.empty]) := ty_mk (by kernel_rfl) Try.underlying44 rfl
theorem ty48 : Sw.TyInfo Try.prog 48 false 1 (Try.prog.bytesOf 48) (.slice none 0 0) := ty_mk (by kernel_rfl) Try.underlying48 rfl
theorem ty50 : Sw.TyInfo Try.prog 50 true 2 (Try.prog.bytesOf 50) (.agg #[.string ByteArray.empty, .slice none 0 0]) := ty_mk (by kernel_rfl) Try.underlying50 rfl
theorem by50 : Try.prog.bytesOf 50 ≤ 4096 := Nat.le_of_ble_eq_true (by kernel_rfl)
theorem ty53 : Sw.TyInfo Try.prog 53 false 1 (Try.prog.bytesOf 53) (.map none) := ty_mk (by kernel_rfl) Try.underlying53 rfl
theorem ty62 : Sw.TyInfo Try.prog 62 true 3 (Try.prog.bytesOf 62) (.agg #[.int .i64 0, .int .i64 0, .string ByteArray.empty]) := ty_mk (by kernel_rfl) Try.underlying62 rfl
theorem by62 : Try.prog.bytesOf 62 ≤ 4096 := Nat.le_of_ble_eq_true (by kernel_rfl)
theorem ty63 : Sw.TyInfo Try.prog 63 false 1 (Try.prog.bytesOf 63) (.slice none 0 0) := ty_mk (by kernel_rfl) Try.underlying63 rfl
theorem ty66 : Sw.TyInfo Try.prog 66 false 1 (Try.prog.bytesOf 66) (.int .i64 0) := ty_mk (by kernel_rfl) Try.underlying66 rfl
theorem ty68 : Sw.TyInfo Try.prog 68 true 3 (Try.prog.bytesOf 68) (.agg #[.int .i64 0, .int .i64 0, .int .i64 0]) := ty_mk (by kernel_rfl) Try.underlying68 rfl
theorem ty77 : Sw.TyInfo Try.prog 77 true 2 (Try.prog.bytesOf 77) (.agg #[.string ByteArray.empty, .int .i64 0]) := ty_mk (by kernel_rfl) Try.underlying77 rfl
theorem by77 : Try.prog.bytesOf 77 ≤ 4096 := Nat.le_of_ble_eq_true (by kernel_rfl)
theorem ty93 : Sw.TyInfo Try.prog 93 false 1 (Try.prog.bytesOf 93) (.pointer none) := ty_mk (by kernel_rfl) Try.underlying93 rfl
theorem ty98 : Sw.TyInfo Try.prog 98 false 1 (Try.prog.bytesOf 98) (.map none) := ty_mk (by kernel_rfl) Try.underlying98 rfl
theorem ty99 : Sw.TyInfo Try.prog 99 false 1 (Try.prog.bytesOf 99) (.map none) := ty_mk (by kernel_rfl) Try.underlying99 rfl
theorem ty101 : Sw.TyInfo Try.prog 101 true 9 (Try.prog.bytesOf 101) (.agg #[.string ByteArray.empty, .slice none 0 0, .string ByteArray.empty, .map none, .map none, .int .i64 0, .int .i64 0, .string ByteArray.empty, .slice none 0 0]) := ty_mk (by kernel_rfl) Try.underlying101 rfl
theorem ty116 : Sw.TyInfo Try.prog 116 true 13 (Try.prog.bytesOf 116) (.agg #[.string ByteArray.empty, .string ByteArray.empty, .string ByteArray.empty, .string ByteArray.empty, .int .i64 0, .int .i64 0, .int .i64 0, .int .i64 0, .int .i64 0, .int .i64 0, .int .i64 0, .bool false, .bool false]) := ty_mk (by kernel_rfl) Try.underlying116 rfl
theorem ty127 : Sw.TyInfo Try.prog 127 false 1 (Try.prog.bytesOf 127) (.nilFunc) := ty_mk (by kernel_rfl) Try.underlying127 rfl
theorem ty128 : Sw.TyInfo Try.prog 128 false 1 (Try.prog.bytesOf 128) (.nilFunc) := ty_mk (by kernel_rfl) Try.underlying128 rfl
theorem ty130 : Sw.TyInfo Try.prog 130 true 2 (Try.prog.bytesOf 130) (.agg #[.nilFunc, .nilFunc]) := ty_mk (by kernel_rfl) Try.underlying130 rfl
theorem ty145 : Sw.TyInfo Try.prog 145 false 1 (Try.prog.bytesOf 145) (.nilFunc) := ty_mk (by kernel_rfl) Try.underlying145 rfl
theorem eq31 {w : World} (a0 b0 : Int) (a1 b1 : Int) : (Op.equalIn (9999 + 1) 31 (.agg #[.int .i64 a0, .int .i64 a1]) (.agg #[.int .i64 b0, .int .i64 b1])).run Try.prog w = .ok (decide (a0 = b0) && (decide (a1 = b1) && true)) w :=
  Sw.equalIn_struct Try.underlying31 (by kernel_rfl) (Sw.eqFields_step rfl (Sw.part1 ty3 rfl) (Sw.part1 ty3 rfl) (Sw.eqInt Try.underlying3) (Sw.eqFields_step rfl (Sw.part1 ty3 rfl) (Sw.part1 ty3 rfl) (Sw.eqInt Try.underlying3) Sw.eqFields_nil))
theorem eq62 {w : World} (a0 b0 : Int) (a1 b1 : Int) (a2 b2 : ByteArray) : (Op.equalIn (9999 + 1) 62 (.agg #[.int .i64 a0, .int .i64 a1, .string a2]) (.agg #[.int .i64 b0, .int .i64 b1, .string b2])).run Try.prog w = .ok (decide (a0 = b0) && (decide (a1 = b1) && (decide (a2 = b2) && true))) w :=
  Sw.equalIn_struct Try.underlying62 (by kernel_rfl) (Sw.eqFields_step rfl (Sw.part1 ty3 rfl) (Sw.part1 ty3 rfl) (Sw.eqInt Try.underlying3) (Sw.eqFields_step rfl (Sw.part1 ty3 rfl) (Sw.part1 ty3 rfl) (Sw.eqInt Try.underlying3) (Sw.eqFields_step rfl (Sw.part1 ty9 rfl) (Sw.part1 ty9 rfl) (Sw.eqString Try.underlying9) Sw.eqFields_nil)))
theorem eq68 {w : World} (a0 b0 : Int) (a1 b1 : Int) (a2 b2 : Int) : (Op.equalIn (9999 + 1) 68 (.agg #[.int .i64 a0, .int .i64 a1, .int .i64 a2]) (.agg #[.int .i64 b0, .int .i64 b1, .int .i64 b2])).run Try.prog w = .ok (decide (a0 = b0) && (decide (a1 = b1) && (decide (a2 = b2) && true))) w :=
  Sw.equalIn_struct Try.underlying68 (by kernel_rfl) (Sw.eqFields_step rfl (Sw.part1 ty3 rfl) (Sw.part1 ty3 rfl) (Sw.eqInt Try.underlying3) (Sw.eqFields_step rfl (Sw.part1 ty3 rfl) (Sw.part1 ty3 rfl) (Sw.eqInt Try.underlying3) (Sw.eqFields_step rfl (Sw.part1 ty66 rfl) (Sw.part1 ty66 rfl) (Sw.eqInt Try.underlying66) Sw.eqFields_nil)))
theorem eq77 {w : World} (a0 b0 : ByteArray) (a1 b1 : Int) : (Op.equalIn (9999 + 1) 77 (.agg #[.string a0, .int .i64 a1]) (.agg #[.string b0, .int .i64 b1])).run Try.prog w = .ok (decide (a0 = b0) && (decide (a1 = b1) && true)) w :=
  Sw.equalIn_struct Try.underlying77 (by kernel_rfl) (Sw.eqFields_step rfl (Sw.part1 ty9 rfl) (Sw.part1 ty9 rfl) (Sw.eqString Try.underlying9) (Sw.eqFields_step rfl (Sw.part1 ty3 rfl) (Sw.part1 ty3 rfl) (Sw.eqInt Try.underlying3) Sw.eqFields_nil))
theorem eq116 {w : World} (a0 b0 : ByteArray) (a1 b1 : ByteArray) (a2 b2 : ByteArray) (a3 b3 : ByteArray) (a4 b4 : Int) (a5 b5 : Int) (a6 b6 : Int) (a7 b7 : Int) (a8 b8 : Int) (a9 b9 : Int) (a10 b10 : Int) (a11 b11 : Bool) (a12 b12 : Bool) : (Op.equalIn (9999 + 1) 116 (.agg #[.string a0, .string a1, .string a2, .string a3, .int .i64 a4, .int .i64 a5, .int .i64 a6, .int .i64 a7, .int .i64 a8, .int .i64 a9, .int .i64 a10, .bool a11, .bool a12]) (.agg #[.string b0, .string b1, .string b2, .string b3, .int .i64 b4, .int .i64 b5, .int .i64 b6, .int .i64 b7, .int .i64 b8, .int .i64 b9, .int .i64 b10, .bool b11, .bool b12])).run Try.prog w = .ok (decide (a0 = b0) && (decide (a1 = b1) && (decide (a2 = b2) && (decide (a3 = b3) && (decide (a4 = b4) && (decide (a5 = b5) && (decide (a6 = b6) && (decide (a7 = b7) && (decide (a8 = b8) && (decide (a9 = b9) && (decide (a10 = b10) && (decide (a11 = b11) && (decide (a12 = b12) && true))))))))))))) w :=
  Sw.equalIn_struct Try.underlying116 (by kernel_rfl) (Sw.eqFields_step rfl (Sw.part1 ty9 rfl) (Sw.part1 ty9 rfl) (Sw.eqString Try.underlying9) (Sw.eqFields_step rfl (Sw.part1 ty9 rfl) (Sw.part1 ty9 rfl) (Sw.eqString Try.underlying9) (Sw.eqFields_step rfl (Sw.part1 ty9 rfl) (Sw.part1 ty9 rfl) (Sw.eqString Try.underlying9) (Sw.eqFields_step rfl (Sw.part1 ty9 rfl) (Sw.part1 ty9 rfl) (Sw.eqString Try.underlying9) (Sw.eqFields_step rfl (Sw.part1 ty22 rfl) (Sw.part1 ty22 rfl) (Sw.eqInt Try.underlying22) (Sw.eqFields_step rfl (Sw.part1 ty3 rfl) (Sw.part1 ty3 rfl) (Sw.eqInt Try.underlying3) (Sw.eqFields_step rfl (Sw.part1 ty3 rfl) (Sw.part1 ty3 rfl) (Sw.eqInt Try.underlying3) (Sw.eqFields_step rfl (Sw.part1 ty3 rfl) (Sw.part1 ty3 rfl) (Sw.eqInt Try.underlying3) (Sw.eqFields_step rfl (Sw.part1 ty3 rfl) (Sw.part1 ty3 rfl) (Sw.eqInt Try.underlying3) (Sw.eqFields_step rfl (Sw.part1 ty3 rfl) (Sw.part1 ty3 rfl) (Sw.eqInt Try.underlying3) (Sw.eqFields_step rfl (Sw.part1 ty3 rfl) (Sw.part1 ty3 rfl) (Sw.eqInt Try.underlying3) (Sw.eqFields_step rfl (Sw.part1 ty4 rfl) (Sw.part1 ty4 rfl) (Sw.eqBool Try.underlying4) (Sw.eqFields_step rfl (Sw.part1 ty4 rfl) (Sw.part1 ty4 rfl) (Sw.eqBool Try.underlying4) Sw.eqFields_nil)))))))))))))
theorem o0 {QP : List PanicEntry → World → Prop} {w : World} {k : Value → World → Prop} : (∀ b o, Sw.opV Try.prog (Instr.loadAt 3 (.pointer (some ⟨b, o, none⟩))) QP w k = Sw.onCell (w.cell? ⟨b, o, none⟩) (fun v => k v w) (Sw.opVx Try.prog (Instr.loadAt 3 (.pointer (some ⟨b, o, none⟩))) QP w k)) := (Sw.op_loadC ty3)
theorem o1 {QP : List PanicEntry → World → Prop} {w : World} {k : Value → World → Prop} : (∀ u, Sw.opV Try.prog (Instr.alloc 3 true u) QP w k = k (.pointer (some ⟨w.heap.size, 0, none⟩)) (w.alloc (.cells ((.int .i64 0) : Value).cells 3))) := (Sw.op_alloc ty3)
theorem o2 {QP : List PanicEntry → World → Prop} {w : World} {k : Value → World → Prop} : (∀ b o, Sw.opV Try.prog (Instr.loadAt 4 (.pointer (some ⟨b, o, none⟩))) QP w k = Sw.onCell (w.cell? ⟨b, o, none⟩) (fun v => k v w) (Sw.opVx Try.prog (Instr.loadAt 4 (.pointer (some ⟨b, o, none⟩))) QP w k)) := (Sw.op_loadC ty4)
theorem o3 {QP : List PanicEntry → World → Prop} {w : World} {k : Value → World → Prop} : (∀ c a b, Sw.opV Try.prog (Sw.binS .eql 4 c (.bool a) (.bool b)) QP w k = k (.bool (a == b)) w) := (Sw.op_beql Try.underlying4)
theorem o4 {QP : List PanicEntry → World → Prop} {w : World} {k : Value → World → Prop} : (∀ c a b, Sw.opV Try.prog (Sw.binS .neq 4 c (.bool a) (.bool b)) QP w k = k (.bool (a != b)) w) := (Sw.op_bneq Try.underlying4)
theorem o5 {QP : List PanicEntry → World → Prop} {w : World} {k : Value → World → Prop} : (∀ u, Sw.opV Try.prog (Instr.alloc 4 true u) QP w k = k (.pointer (some ⟨w.heap.size, 0, none⟩)) (w.alloc (.cells ((.bool false) : Value).cells 4))) := (Sw.op_alloc ty4)
theorem o6 {QP : List PanicEntry → World → Prop} {w : World} {k : Value → World → Prop} : (∀ b o, Sw.opV Try.prog (Instr.loadAt 5 (.pointer (some ⟨b, o, none⟩))) QP w k = Sw.onCell (w.cell? ⟨b, o, none⟩) (fun v => k v w) (Sw.opVx Try.prog (Instr.loadAt 5 (.pointer (some ⟨b, o, none⟩))) QP w k)) := (Sw.op_loadC ty5)
theorem o7 {QP : List PanicEntry → World → Prop} {w : World} {k : Value → World → Prop} : (∀ b o, Sw.opV Try.prog (Instr.loadAt 9 (.pointer (some ⟨b, o, none⟩))) QP w k = Sw.onCell (w.cell? ⟨b, o, none⟩) (fun v => k v w) (Sw.opVx Try.prog (Instr.loadAt 9 (.pointer (some ⟨b, o, none⟩))) QP w k)) := (Sw.op_loadC ty9)
theorem o8 {QP : List PanicEntry → World → Prop} {w : World} {k : Value → World → Prop} : (∀ r s, Sw.opV Try.prog (Builtin.len_ #[9] r #[.string s]) QP w k = k (.int .i64 (s.size : Int)) w) := (fun r => Sw.op_len_string (r := r) Try.underlying9)
theorem o9 {QP : List PanicEntry → World → Prop} {w : World} {k : Value → World → Prop} : (∀ b o, Sw.opV Try.prog (Instr.loadAt 22 (.pointer (some ⟨b, o, none⟩))) QP w k = Sw.onCell (w.cell? ⟨b, o, none⟩) (fun v => k v w) (Sw.opVx Try.prog (Instr.loadAt 22 (.pointer (some ⟨b, o, none⟩))) QP w k)) := (Sw.op_loadC ty22)
theorem o10 {QP : List PanicEntry → World → Prop} {w : World} {k : Value → World → Prop} : (∀ b o, Sw.opV Try.prog (Instr.loadAt 23 (.pointer (some ⟨b, o, none⟩))) QP w k = Sw.onCell (w.cell? ⟨b, o, none⟩) (fun v => k v w) (Sw.opVx Try.prog (Instr.loadAt 23 (.pointer (some ⟨b, o, none⟩))) QP w k)) := (Sw.op_loadC ty23)
theorem o11 {QP : List PanicEntry → World → Prop} {w : World} {k : Value → World → Prop} : (∀ r a n c, Sw.opV Try.prog (Builtin.len_ #[23] r #[.slice a n c]) QP w k = k (.int .i64 (n : Int)) w) := (fun r => Sw.op_len_slice (r := r) Try.underlying23)
theorem o12 {QP : List PanicEntry → World → Prop} {w : World} {k : Value → World → Prop} : (∀ b o len cap ik (i : Nat), i < len → Sw.opV Try.prog (Instr.indexAt 23 (.slice (some ⟨b, o, none⟩) len cap) (.int ik (i : Int))) QP w k = k (.pointer (some ⟨b, o + i * 2, none⟩)) w) := (Sw.op_indexN Try.underlying23 ty77)
theorem o13 {QP : List PanicEntry → World → Prop} {w : World} {k : Value → World → Prop} : (∀ u, Sw.opV Try.prog (Instr.alloc 23 true u) QP w k = k (.pointer (some ⟨w.heap.size, 0, none⟩)) (w.alloc (.cells ((.slice none 0 0) : Value).cells 23))) := (Sw.op_alloc ty23)
theorem o14 {QP : List PanicEntry → World → Prop} {w : World} {k : Value → World → Prop} : (∀ b o, Sw.opV Try.prog (Instr.fieldAt 25 (.pointer (some ⟨b, o, none⟩)) 0) QP w k = k (.pointer (some ⟨b, o, none⟩)) w) := (by intro b o; exact Sw.op_field0 (ft := 3) (n := 1) Try.underlying25 rfl ty3 rfl b o)
theorem o15 {QP : List PanicEntry → World → Prop} {w : World} {k : Value → World → Prop} : (∀ b o, Sw.opV Try.prog (Instr.fieldAt 25 (.pointer (some ⟨b, o, none⟩)) 1) QP w k = k (.pointer (some ⟨b, o + 1, none⟩)) w) := (by intro b o; exact Sw.op_fieldO (ft := 23) (n := 1) Try.underlying25 rfl ty23 rfl b o)
theorem o16 {QP : List PanicEntry → World → Prop} {w : World} {k : Value → World → Prop} : (∀ b o, Sw.opV Try.prog (Instr.loadAt 25 (.pointer (some ⟨b, o, none⟩))) QP w k = Sw.onCells [w.cell? ⟨b, o, none⟩, w.cell? ⟨b, o + 1, none⟩] (fun vs => k (.agg vs.toArray) w) (Sw.opVx Try.prog (Instr.loadAt 25 (.pointer (some ⟨b, o, none⟩))) QP w k)) := (by intro b o; exact Sw.op_loadA ty25 b o _ rfl)
theorem o17 {QP : List PanicEntry → World → Prop} {w : World} {k : Value → World → Prop} : (∀ b o, Sw.opV Try.prog (Instr.loadAt 26 (.pointer (some ⟨b, o, none⟩))) QP w k = Sw.onCell (w.cell? ⟨b, o, none⟩) (fun v => k v w) (Sw.opVx Try.prog (Instr.loadAt 26 (.pointer (some ⟨b, o, none⟩))) QP w k)) := (Sw.op_loadC ty26)
theorem o18 {QP : List PanicEntry → World → Prop} {w : World} {k : Value → World → Prop} : (∀ r a n c, Sw.opV Try.prog (Builtin.len_ #[26] r #[.slice a n c]) QP w k = k (.int .i64 (n : Int)) w) := (fun r => Sw.op_len_slice (r := r) Try.underlying26)
theorem o19 {QP : List PanicEntry → World → Prop} {w : World} {k : Value → World → Prop} : (∀ b o len cap ik (i : Nat), i < len → Sw.opV Try.prog (Instr.indexAt 26 (.slice (some ⟨b, o, none⟩) len cap) (.int ik (i : Int))) QP w k = k (.pointer (some ⟨b, o + i * 3, none⟩)) w) := (Sw.op_indexN Try.underlying26 ty62)
theorem o20 {QP : List PanicEntry → World → Prop} {w : World} {k : Value → World → Prop} : (∀ b o, Sw.opV Try.prog (Instr.fieldAt 28 (.pointer (some ⟨b, o, none⟩)) 0) QP w k = k (.pointer (some ⟨b, o, none⟩)) w) := (by intro b o; exact Sw.op_field0 (ft := 9) (n := 1) Try.underlying28 rfl ty9 rfl b o)
theorem o21 {QP : List PanicEntry → World → Prop} {w : World} {k : Value → World → Prop} : (∀ b o, Sw.opV Try.prog (Instr.fieldAt 28 (.pointer (some ⟨b, o, none⟩)) 1) QP w k = k (.pointer (some ⟨b, o + 1, none⟩)) w) := (by intro b o; exact Sw.op_fieldO (ft := 22) (n := 1) Try.underlying28 rfl ty22 rfl b o)
theorem o22 {QP : List PanicEntry → World → Prop} {w : World} {k : Value → World → Prop} : (∀ b o, Sw.opV Try.prog (Instr.fieldAt 28 (.pointer (some ⟨b, o, none⟩)) 2) QP w k = k (.pointer (some ⟨b, o + 2, none⟩)) w) := (by intro b o; exact Sw.op_fieldO (ft := 3) (n := 1) Try.underlying28 rfl ty3 rfl b o)
theorem o23 {QP : List PanicEntry → World → Prop} {w : World} {k : Value → World → Prop} : (∀ b o, Sw.opV Try.prog (Instr.fieldAt 28 (.pointer (some ⟨b, o, none⟩)) 3) QP w k = k (.pointer (some ⟨b, o + 3, none⟩)) w) := (by intro b o; exact Sw.op_fieldO (ft := 4) (n := 1) Try.underlying28 rfl ty4 rfl b o)
theorem o24 {QP : List PanicEntry → World → Prop} {w : World} {k : Value → World → Prop} : (∀ b o, Sw.opV Try.prog (Instr.fieldAt 28 (.pointer (some ⟨b, o, none⟩)) 4) QP w k = k (.pointer (some ⟨b, o + 4, none⟩)) w) := (by intro b o; exact Sw.op_fieldO (ft := 4) (n := 1) Try.underlying28 rfl ty4 rfl b o)
theorem o25 {QP : List PanicEntry → World → Prop} {w : World} {k : Value → World → Prop} : (∀ b o, Sw.opV Try.prog (Instr.fieldAt 28 (.pointer (some ⟨b, o, none⟩)) 5) QP w k = k (.pointer (some ⟨b, o + 5, none⟩)) w) := (by intro b o; exact Sw.op_fieldO (ft := 3) (n := 1) Try.underlying28 rfl ty3 rfl b o)
theorem o26 {QP : List PanicEntry → World → Prop} {w : World} {k : Value → World → Prop} : (∀ b o, Sw.opV Try.prog (Instr.fieldAt 28 (.pointer (some ⟨b, o, none⟩)) 6) QP w k = k (.pointer (some ⟨b, o + 6, none⟩)) w) := (by intro b o; exact Sw.op_fieldO (ft := 3) (n := 1) Try.underlying28 rfl ty3 rfl b o)
theorem o27 {QP : List PanicEntry → World → Prop} {w : World} {k : Value → World → Prop} : (∀ b o, Sw.opV Try.prog (Instr.fieldAt 28 (.pointer (some ⟨b, o, none⟩)) 7) QP w k = k (.pointer (some ⟨b, o + 7, none⟩)) w) := (by intro b o; exact Sw.op_fieldO (ft := 25) (n := 2) Try.underlying28 rfl ty25 rfl b o)
theorem o28 {QP : List PanicEntry → World → Prop} {w : World} {k : Value → World → Prop} : (∀ b o, Sw.opV Try.prog (Instr.fieldAt 28 (.pointer (some ⟨b, o, none⟩)) 8) QP w k = k (.pointer (some ⟨b, o + 9, none⟩)) w) := (by intro b o; exact Sw.op_fieldO (ft := 9) (n := 1) Try.underlying28 rfl ty9 rfl b o)
theorem o29 {QP : List PanicEntry → World → Prop} {w : World} {k : Value → World → Prop} : (∀ b o, Sw.opV Try.prog (Instr.fieldAt 28 (.pointer (some ⟨b, o, none⟩)) 9) QP w k = k (.pointer (some ⟨b, o + 10, none⟩)) w) := (by intro b o; exact Sw.op_fieldO (ft := 9) (n := 1) Try.underlying28 rfl ty9 rfl b o)
theorem o30 {QP : List PanicEntry → World → Prop} {w : World} {k : Value → World → Prop} : (∀ b o, Sw.opV Try.prog (Instr.fieldAt 28 (.pointer (some ⟨b, o, none⟩)) 10) QP w k = k (.pointer (some ⟨b, o + 11, none⟩)) w) := (by intro b o; exact Sw.op_fieldO (ft := 9) (n := 1) Try.underlying28 rfl ty9 rfl b o)
theorem o31 {QP : List PanicEntry → World → Prop} {w : World} {k : Value → World → Prop} : (∀ b o, Sw.opV Try.prog (Instr.fieldAt 28 (.pointer (some ⟨b, o, none⟩)) 11) QP w k = k (.pointer (some ⟨b, o + 12, none⟩)) w) := (by intro b o; exact Sw.op_fieldO (ft := 26) (n := 1) Try.underlying28 rfl ty26 rfl b o)
theorem o32 {QP : List PanicEntry → World → Prop} {w : World} {k : Value → World → Prop} : (∀ b o, Sw.opV Try.prog (Instr.fieldAt 28 (.pointer (some ⟨b, o, none⟩)) 12) QP w k = k (.pointer (some ⟨b, o + 13, none⟩)) w) := (by intro b o; exact Sw.op_fieldO (ft := 3) (n := 1) Try.underlying28 rfl ty3 rfl b o)
theorem o33 {QP : List PanicEntry → World → Prop} {w : World} {k : Value → World → Prop} : (∀ b o, Sw.opV Try.prog (Instr.fieldAt 28 (.pointer (some ⟨b, o, none⟩)) 13) QP w k = k (.pointer (some ⟨b, o + 14, none⟩)) w) := (by intro b o; exact Sw.op_fieldO (ft := 3) (n := 1) Try.underlying28 rfl ty3 rfl b o)
theorem o34 {QP : List PanicEntry → World → Prop} {w : World} {k : Value → World → Prop} : (∀ b o, Sw.opV Try.prog (Instr.loadAt 28 (.pointer (some ⟨b, o, none⟩))) QP w k = Sw.onCells [w.cell? ⟨b, o, none⟩, w.cell? ⟨b, o + 1, none⟩, w.cell? ⟨b, o + 2, none⟩, w.cell? ⟨b, o + 3, none⟩, w.cell? ⟨b, o + 4, none⟩, w.cell? ⟨b, o + 5, none⟩, w.cell? ⟨b, o + 6, none⟩, w.cell? ⟨b, o + 7, none⟩, w.cell? ⟨b, o + 8, none⟩, w.cell? ⟨b, o + 9, none⟩, w.cell? ⟨b, o + 10, none⟩, w.cell? ⟨b, o + 11, none⟩, w.cell? ⟨b, o + 12, none⟩, w.cell? ⟨b, o + 13, none⟩, w.cell? ⟨b, o + 14, none⟩] (fun vs => k (.agg vs.toArray) w) (Sw.opVx Try.prog (Instr.loadAt 28 (.pointer (some ⟨b, o, none⟩))) QP w k)) := (by intro b o; exact Sw.op_loadA ty28 b o _ rfl)
theorem o35 {QP : List PanicEntry → World → Prop} {w : World} {k : Value → World → Prop} : (∀ u, Sw.opV Try.prog (Instr.alloc 28 true u) QP w k = k (.pointer (some ⟨w.heap.size, 0, none⟩)) (w.alloc (.cells ((.agg #[.string ByteArray.empty, .int .i64 0, .int .i64 0, .bool false, .bool false, .int .i64 0, .int .i64 0, .int .i64 0, .slice none 0 0, .string ByteArray.empty, .string ByteArray.empty, .string ByteArray.empty, .slice none 0 0, .int .i64 0, .int .i64 0]) : Value).cells 28))) := (Sw.op_alloc ty28)
theorem o36 {QP : List PanicEntry → World → Prop} {w : World} {k : Value → World → Prop} : (∀ b o, Sw.opV Try.prog (Instr.fieldAt 31 (.pointer (some ⟨b, o, none⟩)) 0) QP w k = k (.pointer (some ⟨b, o, none⟩)) w) := (by intro b o; exact Sw.op_field0 (ft := 3) (n := 1) Try.underlying31 rfl ty3 rfl b o)
theorem o37 {QP : List PanicEntry → World → Prop} {w : World} {k : Value → World → Prop} : (∀ b o, Sw.opV Try.prog (Instr.fieldAt 31 (.pointer (some ⟨b, o, none⟩)) 1) QP w k = k (.pointer (some ⟨b, o + 1, none⟩)) w) := (by intro b o; exact Sw.op_fieldO (ft := 3) (n := 1) Try.underlying31 rfl ty3 rfl b o)
theorem o38 {QP : List PanicEntry → World → Prop} {w : World} {k : Value → World → Prop} : (∀ v0 v1, Sw.opV Try.prog (Instr.field 31 (.agg #[v0, v1]) 1) QP w k = k v1 w) := (by intro v0 v1; exact Sw.op_fieldV1 Try.underlying31 rfl ty3 rfl)
theorem o39 {QP : List PanicEntry → World → Prop} {w : World} {k : Value → World → Prop} : (∀ b o, Sw.opV Try.prog (Instr.loadAt 31 (.pointer (some ⟨b, o, none⟩))) QP w k = Sw.onCells [w.cell? ⟨b, o, none⟩, w.cell? ⟨b, o + 1, none⟩] (fun vs => k (.agg vs.toArray) w) (Sw.opVx Try.prog (Instr.loadAt 31 (.pointer (some ⟨b, o, none⟩))) QP w k)) := (by intro b o; exact Sw.op_loadA ty31 b o _ rfl)
theorem o40 {QP : List PanicEntry → World → Prop} {w : World} {k : Value → World → Prop} : (∀ u, Sw.opV Try.prog (Instr.alloc 31 true u) QP w k = k (.pointer (some ⟨w.heap.size, 0, none⟩)) (w.alloc (.cells ((.agg #[.int .i64 0, .int .i64 0]) : Value).cells 31))) := (Sw.op_alloc ty31)
theorem o41 {QP : List PanicEntry → World → Prop} {w : World} {k : Value → World → Prop} : (∀ u, Sw.opV Try.prog (Instr.alloc 32 true u) QP w k = k (.pointer (some ⟨w.heap.size, 0, none⟩)) (w.alloc (.cells ((.int .i64 0) : Value).cells 32))) := (Sw.op_alloc ty32)
theorem o42 {QP : List PanicEntry → World → Prop} {w : World} {k : Value → World → Prop} : (∀ b o, Sw.opV Try.prog (Instr.loadAt 42 (.pointer (some ⟨b, o, none⟩))) QP w k = Sw.onCell (w.cell? ⟨b, o, none⟩) (fun v => k v w) (Sw.opVx Try.prog (Instr.loadAt 42 (.pointer (some ⟨b, o, none⟩))) QP w k)) := (Sw.op_loadC ty42)
theorem o43 {QP : List PanicEntry → World → Prop} {w : World} {k : Value → World → Prop} : (∀ r a n c, Sw.opV Try.prog (Builtin.len_ #[42] r #[.slice a n c]) QP w k = k (.int .i64 (n : Int)) w) := (fun r => Sw.op_len_slice (r := r) Try.underlying42)
theorem o44 {QP : List PanicEntry → World → Prop} {w : World} {k : Value → World → Prop} : (∀ b o len cap ik (i : Nat), i < len → Sw.opV Try.prog (Instr.indexAt 42 (.slice (some ⟨b, o, none⟩) len cap) (.int ik (i : Int))) QP w k = k (.pointer (some ⟨b, o + i * 2, none⟩)) w) := (Sw.op_indexN Try.underlying42 ty50)
theorem o45 {QP : List PanicEntry → World → Prop} {w : World} {k : Value → World → Prop} : (∀ b o, Sw.opV Try.prog (Instr.fieldAt 44 (.pointer (some ⟨b, o, none⟩)) 0) QP w k = k (.pointer (some ⟨b, o, none⟩)) w) := (by intro b o; exact Sw.op_field0 (ft := 9) (n := 1) Try.underlying44 rfl ty9 rfl b o)
theorem o46 {QP : List PanicEntry → World → Prop} {w : World} {k : Value → World → Prop} : (∀ b o, Sw.opV Try.prog (Instr.fieldAt 44 (.pointer (some ⟨b, o, none⟩)) 1) QP w k = k (.pointer (some ⟨b, o + 1, none⟩)) w) := (by intro b o; exact Sw.op_fieldO (ft := 42) (n := 1) Try.underlying44 rfl ty42 rfl b o)
theorem o47 {QP : List PanicEntry → World → Prop} {w : World} {k : Value → World → Prop} : (∀ b o, Sw.opV Try.prog (Instr.fieldAt 44 (.pointer (some ⟨b, o, none⟩)) 2) QP w k = k (.pointer (some ⟨b, o + 2, none⟩)) w) := (by intro b o; exact Sw.op_fieldO (ft := 9) (n := 1) Try.underlying44 rfl ty9 rfl b o)
theorem o48 {QP : List PanicEntry → World → Prop} {w : World} {k : Value → World → Prop} : (∀ v0 v1 v2, Sw.opV Try.prog (Instr.field 44 (.agg #[v0, v1, v2]) 1) QP w k = k v1 w) := (by intro v0 v1 v2; exact Sw.op_fieldV1 Try.underlying44 rfl ty42 rfl)
theorem o49 {QP : List PanicEntry → World → Prop} {w : World} {k : Value → World → Prop} : (∀ b o, Sw.opV Try.prog (Instr.loadAt 44 (.pointer (some ⟨b, o, none⟩))) QP w k = Sw.onCells [w.cell? ⟨b, o, none⟩, w.cell? ⟨b, o + 1, none⟩, w.cell? ⟨b, o + 2, none⟩] (fun vs => k (.agg vs.toArray) w) (Sw.opVx Try.prog (Instr.loadAt 44 (.pointer (some ⟨b, o, none⟩))) QP w k)) := (by intro b o; exact Sw.op_loadA ty44 b o _ rfl)
theorem o50 {QP : List PanicEntry → World → Prop} {w : World} {k : Value → World → Prop} : (∀ u, Sw.opV Try.prog (Instr.alloc 44 true u) QP w k = k (.pointer (some ⟨w.heap.size, 0, none⟩)) (w.alloc (.cells ((.agg #[.string ByteArray.empty, .slice none 0 0, .string ByteArray.empty]) : Value).cells 44))) := (Sw.op_alloc ty44)
theorem o51 {QP : List PanicEntry → World → Prop} {w : World} {k : Value → World → Prop} : (∀ b o, Sw.opV Try.prog (Instr.loadAt 48 (.pointer (some ⟨b, o, none⟩))) QP w k = Sw.onCell (w.cell? ⟨b, o, none⟩) (fun v => k v w) (Sw.opVx Try.prog (Instr.loadAt 48 (.pointer (some ⟨b, o, none⟩))) QP w k)) := (Sw.op_loadC ty48)
theorem o52 {QP : List PanicEntry → World → Prop} {w : World} {k : Value → World → Prop} : (∀ r a n c, Sw.opV Try.prog (Builtin.len_ #[48] r #[.slice a n c]) QP w k = k (.int .i64 (n : Int)) w) := (fun r => Sw.op_len_slice (r := r) Try.underlying48)
theorem o53 {QP : List PanicEntry → World → Prop} {w : World} {k : Value → World → Prop} : (∀ b o len cap ik (i : Nat), i < len → Sw.opV Try.prog (Instr.indexAt 48 (.slice (some ⟨b, o, none⟩) len cap) (.int ik (i : Int))) QP w k = k (.pointer (some ⟨b, o + i * 15, none⟩)) w) := (Sw.op_indexN Try.underlying48 ty28)
theorem o54 {QP : List PanicEntry → World → Prop} {w : World} {k : Value → World → Prop} : (∀ b o, Sw.opV Try.prog (Instr.fieldAt 50 (.pointer (some ⟨b, o, none⟩)) 0) QP w k = k (.pointer (some ⟨b, o, none⟩)) w) := (by intro b o; exact Sw.op_field0 (ft := 9) (n := 1) Try.underlying50 rfl ty9 rfl b o)
theorem o55 {QP : List PanicEntry → World → Prop} {w : World} {k : Value → World → Prop} : (∀ b o, Sw.opV Try.prog (Instr.fieldAt 50 (.pointer (some ⟨b, o, none⟩)) 1) QP w k = k (.pointer (some ⟨b, o + 1, none⟩)) w) := (by intro b o; exact Sw.op_fieldO (ft := 48) (n := 1) Try.underlying50 rfl ty48 rfl b o)
theorem o56 {QP : List PanicEntry → World → Prop} {w : World} {k : Value → World → Prop} : (∀ b o, Sw.opV Try.prog (Instr.loadAt 50 (.pointer (some ⟨b, o, none⟩))) QP w k = Sw.onCells [w.cell? ⟨b, o, none⟩, w.cell? ⟨b, o + 1, none⟩] (fun vs => k (.agg vs.toArray) w) (Sw.opVx Try.prog (Instr.loadAt 50 (.pointer (some ⟨b, o, none⟩))) QP w k)) := (by intro b o; exact Sw.op_loadA ty50 b o _ rfl)
theorem o57 {QP : List PanicEntry → World → Prop} {w : World} {k : Value → World → Prop} : (∀ u, Sw.opV Try.prog (Instr.alloc 50 true u) QP w k = k (.pointer (some ⟨w.heap.size, 0, none⟩)) (w.alloc (.cells ((.agg #[.string ByteArray.empty, .slice none 0 0]) : Value).cells 50))) := (Sw.op_alloc ty50)
theorem o58 {QP : List PanicEntry → World → Prop} {w : World} {k : Value → World → Prop} : (∀ b o, Sw.opV Try.prog (Instr.loadAt 53 (.pointer (some ⟨b, o, none⟩))) QP w k = Sw.onCell (w.cell? ⟨b, o, none⟩) (fun v => k v w) (Sw.opVx Try.prog (Instr.loadAt 53 (.pointer (some ⟨b, o, none⟩))) QP w k)) := (Sw.op_loadC ty53)
theorem o59 {QP : List PanicEntry → World → Prop} {w : World} {k : Value → World → Prop} : (∀ u, Sw.opV Try.prog (Instr.alloc 53 true u) QP w k = k (.pointer (some ⟨w.heap.size, 0, none⟩)) (w.alloc (.cells ((.map none) : Value).cells 53))) := (Sw.op_alloc ty53)
theorem o60 {QP : List PanicEntry → World → Prop} {w : World} {k : Value → World → Prop} : (∀ b o, Sw.opV Try.prog (Instr.fieldAt 62 (.pointer (some ⟨b, o, none⟩)) 0) QP w k = k (.pointer (some ⟨b, o, none⟩)) w) := (by intro b o; exact Sw.op_field0 (ft := 3) (n := 1) Try.underlying62 rfl ty3 rfl b o)
theorem o61 {QP : List PanicEntry → World → Prop} {w : World} {k : Value → World → Prop} : (∀ b o, Sw.opV Try.prog (Instr.fieldAt 62 (.pointer (some ⟨b, o, none⟩)) 1) QP w k = k (.pointer (some ⟨b, o + 1, none⟩)) w) := (by intro b o; exact Sw.op_fieldO (ft := 3) (n := 1) Try.underlying62 rfl ty3 rfl b o)
theorem o62 {QP : List PanicEntry → World → Prop} {w : World} {k : Value → World → Prop} : (∀ b o, Sw.opV Try.prog (Instr.fieldAt 62 (.pointer (some ⟨b, o, none⟩)) 2) QP w k = k (.pointer (some ⟨b, o + 2, none⟩)) w) := (by intro b o; exact Sw.op_fieldO (ft := 9) (n := 1) Try.underlying62 rfl ty9 rfl b o)
theorem o63 {QP : List PanicEntry → World → Prop} {w : World} {k : Value → World → Prop} : (∀ b o, Sw.opV Try.prog (Instr.loadAt 62 (.pointer (some ⟨b, o, none⟩))) QP w k = Sw.onCells [w.cell? ⟨b, o, none⟩, w.cell? ⟨b, o + 1, none⟩, w.cell? ⟨b, o + 2, none⟩] (fun vs => k (.agg vs.toArray) w) (Sw.opVx Try.prog (Instr.loadAt 62 (.pointer (some ⟨b, o, none⟩))) QP w k)) := (by intro b o; exact Sw.op_loadA ty62 b o _ rfl)
theorem o64 {QP : List PanicEntry → World → Prop} {w : World} {k : Value → World → Prop} : (∀ u, Sw.opV Try.prog (Instr.alloc 62 true u) QP w k = k (.pointer (some ⟨w.heap.size, 0, none⟩)) (w.alloc (.cells ((.agg #[.int .i64 0, .int .i64 0, .string ByteArray.empty]) : Value).cells 62))) := (Sw.op_alloc ty62)
theorem o65 {QP : List PanicEntry → World → Prop} {w : World} {k : Value → World → Prop} : (∀ b o, Sw.opV Try.prog (Instr.loadAt 63 (.pointer (some ⟨b, o, none⟩))) QP w k = Sw.onCell (w.cell? ⟨b, o, none⟩) (fun v => k v w) (Sw.opVx Try.prog (Instr.loadAt 63 (.pointer (some ⟨b, o, none⟩))) QP w k)) := (Sw.op_loadC ty63)
theorem o66 {QP : List PanicEntry → World → Prop} {w : World} {k : Value → World → Prop} : (∀ r a n c, Sw.opV Try.prog (Builtin.len_ #[63] r #[.slice a n c]) QP w k = k (.int .i64 (n : Int)) w) := (fun r => Sw.op_len_slice (r := r) Try.underlying63)
theorem o67 {QP : List PanicEntry → World → Prop} {w : World} {k : Value → World → Prop} : (∀ b o len cap ik (i : Nat), i < len → Sw.opV Try.prog (Instr.indexAt 63 (.slice (some ⟨b, o, none⟩) len cap) (.int ik (i : Int))) QP w k = k (.pointer (some ⟨b, o + i * 1, none⟩)) w) := (Sw.op_indexN Try.underlying63 ty9)
theorem o68 {QP : List PanicEntry → World → Prop} {w : World} {k : Value → World → Prop} : (∀ u, Sw.opV Try.prog (Instr.alloc 63 true u) QP w k = k (.pointer (some ⟨w.heap.size, 0, none⟩)) (w.alloc (.cells ((.slice none 0 0) : Value).cells 63))) := (Sw.op_alloc ty63)
theorem o69 {QP : List PanicEntry → World → Prop} {w : World} {k : Value → World → Prop} : (∀ b o, Sw.opV Try.prog (Instr.fieldAt 68 (.pointer (some ⟨b, o, none⟩)) 0) QP w k = k (.pointer (some ⟨b, o, none⟩)) w) := (by intro b o; exact Sw.op_field0 (ft := 3) (n := 1) Try.underlying68 rfl ty3 rfl b o)
theorem o70 {QP : List PanicEntry → World → Prop} {w : World} {k : Value → World → Prop} : (∀ b o, Sw.opV Try.prog (Instr.loadAt 68 (.pointer (some ⟨b, o, none⟩))) QP w k = Sw.onCells [w.cell? ⟨b, o, none⟩, w.cell? ⟨b, o + 1, none⟩, w.cell? ⟨b, o + 2, none⟩] (fun vs => k (.agg vs.toArray) w) (Sw.opVx Try.prog (Instr.loadAt 68 (.pointer (some ⟨b, o, none⟩))) QP w k)) := (by intro b o; exact Sw.op_loadA ty68 b o _ rfl)
theorem o71 {QP : List PanicEntry → World → Prop} {w : World} {k : Value → World → Prop} : (∀ u, Sw.opV Try.prog (Instr.alloc 68 true u) QP w k = k (.pointer (some ⟨w.heap.size, 0, none⟩)) (w.alloc (.cells ((.agg #[.int .i64 0, .int .i64 0, .int .i64 0]) : Value).cells 68))) := (Sw.op_alloc ty68)
theorem o72 {QP : List PanicEntry → World → Prop} {w : World} {k : Value → World → Prop} : (∀ b o, Sw.opV Try.prog (Instr.fieldAt 77 (.pointer (some ⟨b, o, none⟩)) 0) QP w k = k (.pointer (some ⟨b, o, none⟩)) w) := (by intro b o; exact Sw.op_field0 (ft := 9) (n := 1) Try.underlying77 rfl ty9 rfl b o)
theorem o73 {QP : List PanicEntry → World → Prop} {w : World} {k : Value → World → Prop} : (∀ b o, Sw.opV Try.prog (Instr.fieldAt 77 (.pointer (some ⟨b, o, none⟩)) 1) QP w k = k (.pointer (some ⟨b, o + 1, none⟩)) w) := (by intro b o; exact Sw.op_fieldO (ft := 3) (n := 1) Try.underlying77 rfl ty3 rfl b o)
theorem o74 {QP : List PanicEntry → World → Prop} {w : World} {k : Value → World → Prop} : (∀ b o, Sw.opV Try.prog (Instr.loadAt 77 (.pointer (some ⟨b, o, none⟩))) QP w k = Sw.onCells [w.cell? ⟨b, o, none⟩, w.cell? ⟨b, o + 1, none⟩] (fun vs => k (.agg vs.toArray) w) (Sw.opVx Try.prog (Instr.loadAt 77 (.pointer (some ⟨b, o, none⟩))) QP w k)) := (by intro b o; exact Sw.op_loadA ty77 b o _ rfl)
theorem o75 {QP : List PanicEntry → World → Prop} {w : World} {k : Value → World → Prop} : (∀ u, Sw.opV Try.prog (Instr.alloc 77 true u) QP w k = k (.pointer (some ⟨w.heap.size, 0, none⟩)) (w.alloc (.cells ((.agg #[.string ByteArray.empty, .int .i64 0]) : Value).cells 77))) := (Sw.op_alloc ty77)
theorem o76 {QP : List PanicEntry → World → Prop} {w : World} {k : Value → World → Prop} : (∀ b o, Sw.opV Try.prog (Instr.loadAt 93 (.pointer (some ⟨b, o, none⟩))) QP w k = Sw.onCell (w.cell? ⟨b, o, none⟩) (fun v => k v w) (Sw.opVx Try.prog (Instr.loadAt 93 (.pointer (some ⟨b, o, none⟩))) QP w k)) := (Sw.op_loadC ty93)
theorem o77 {QP : List PanicEntry → World → Prop} {w : World} {k : Value → World → Prop} : (∀ b o, Sw.opV Try.prog (Instr.loadAt 98 (.pointer (some ⟨b, o, none⟩))) QP w k = Sw.onCell (w.cell? ⟨b, o, none⟩) (fun v => k v w) (Sw.opVx Try.prog (Instr.loadAt 98 (.pointer (some ⟨b, o, none⟩))) QP w k)) := (Sw.op_loadC ty98)
theorem o78 {QP : List PanicEntry → World → Prop} {w : World} {k : Value → World → Prop} : (∀ b o, Sw.opV Try.prog (Instr.loadAt 99 (.pointer (some ⟨b, o, none⟩))) QP w k = Sw.onCell (w.cell? ⟨b, o, none⟩) (fun v => k v w) (Sw.opVx Try.prog (Instr.loadAt 99 (.pointer (some ⟨b, o, none⟩))) QP w k)) := (Sw.op_loadC ty99)
theorem o79 {QP : List PanicEntry → World → Prop} {w : World} {k : Value → World → Prop} : (∀ u, Sw.opV Try.prog (Instr.alloc 99 true u) QP w k = k (.pointer (some ⟨w.heap.size, 0, none⟩)) (w.alloc (.cells ((.map none) : Value).cells 99))) := (Sw.op_alloc ty99)
theorem o80 {QP : List PanicEntry → World → Prop} {w : World} {k : Value → World → Prop} : (∀ b o, Sw.opV Try.prog (Instr.fieldAt 101 (.pointer (some ⟨b, o, none⟩)) 1) QP w k = k (.pointer (some ⟨b, o + 3, none⟩)) w) := (by intro b o; exact Sw.op_fieldO (ft := 98) (n := 1) Try.underlying101 rfl ty98 rfl b o)
theorem o81 {QP : List PanicEntry → World → Prop} {w : World} {k : Value → World → Prop} : (∀ b o, Sw.opV Try.prog (Instr.fieldAt 101 (.pointer (some ⟨b, o, none⟩)) 2) QP w k = k (.pointer (some ⟨b, o + 4, none⟩)) w) := (by intro b o; exact Sw.op_fieldO (ft := 99) (n := 1) Try.underlying101 rfl ty99 rfl b o)
theorem o82 {QP : List PanicEntry → World → Prop} {w : World} {k : Value → World → Prop} : (∀ b o, Sw.opV Try.prog (Instr.fieldAt 101 (.pointer (some ⟨b, o, none⟩)) 3) QP w k = k (.pointer (some ⟨b, o + 5, none⟩)) w) := (by intro b o; exact Sw.op_fieldO (ft := 3) (n := 1) Try.underlying101 rfl ty3 rfl b o)
theorem o83 {QP : List PanicEntry → World → Prop} {w : World} {k : Value → World → Prop} : (∀ b o, Sw.opV Try.prog (Instr.fieldAt 101 (.pointer (some ⟨b, o, none⟩)) 4) QP w k = k (.pointer (some ⟨b, o + 6, none⟩)) w) := (by intro b o; exact Sw.op_fieldO (ft := 3) (n := 1) Try.underlying101 rfl ty3 rfl b o)
theorem o84 {QP : List PanicEntry → World → Prop} {w : World} {k : Value → World → Prop} : (∀ b o, Sw.opV Try.prog (Instr.fieldAt 101 (.pointer (some ⟨b, o, none⟩)) 5) QP w k = k (.pointer (some ⟨b, o + 7, none⟩)) w) := (by intro b o; exact Sw.op_fieldO (ft := 50) (n := 2) Try.underlying101 rfl ty50 rfl b o)
theorem o85 {QP : List PanicEntry → World → Prop} {w : World} {k : Value → World → Prop} : (∀ u, Sw.opV Try.prog (Instr.alloc 116 true u) QP w k = k (.pointer (some ⟨w.heap.size, 0, none⟩)) (w.alloc (.cells ((.agg #[.string ByteArray.empty, .string ByteArray.empty, .string ByteArray.empty, .string ByteArray.empty, .int .i64 0, .int .i64 0, .int .i64 0, .int .i64 0, .int .i64 0, .int .i64 0, .int .i64 0, .bool false, .bool false]) : Value).cells 116))) := (Sw.op_alloc ty116)
theorem o86 {QP : List PanicEntry → World → Prop} {w : World} {k : Value → World → Prop} : (∀ r a n c, Sw.opV Try.prog (Builtin.len_ #[121] r #[.slice a n c]) QP w k = k (.int .i64 (n : Int)) w) := (fun r => Sw.op_len_slice (r := r) Try.underlying121)
theorem o87 {QP : List PanicEntry → World → Prop} {w : World} {k : Value → World → Prop} : (∀ b o len cap ik (i : Nat), i < len → Sw.opV Try.prog (Instr.indexAt 121 (.slice (some ⟨b, o, none⟩) len cap) (.int ik (i : Int))) QP w k = k (.pointer (some ⟨b, o + i * 1, none⟩)) w) := (Sw.op_indexN Try.underlying121 ty5)
theorem o88 {QP : List PanicEntry → World → Prop} {w : World} {k : Value → World → Prop} : (∀ r a n c, Sw.opV Try.prog (Builtin.len_ #[123] r #[.slice a n c]) QP w k = k (.int .i64 (n : Int)) w) := (fun r => Sw.op_len_slice (r := r) Try.underlying123)
theorem o89 {QP : List PanicEntry → World → Prop} {w : World} {k : Value → World → Prop} : (∀ b o len cap ik (i : Nat), i < len → Sw.opV Try.prog (Instr.indexAt 123 (.slice (some ⟨b, o, none⟩) len cap) (.int ik (i : Int))) QP w k = k (.pointer (some ⟨b, o + i * 1, none⟩)) w) := (Sw.op_indexN Try.underlying123 ty4)
theorem o90 {QP : List PanicEntry → World → Prop} {w : World} {k : Value → World → Prop} : (∀ b o, Sw.opV Try.prog (Instr.loadAt 127 (.pointer (some ⟨b, o, none⟩))) QP w k = Sw.onCell (w.cell? ⟨b, o, none⟩) (fun v => k v w) (Sw.opVx Try.prog (Instr.loadAt 127 (.pointer (some ⟨b, o, none⟩))) QP w k)) := (Sw.op_loadC ty127)
theorem o91 {QP : List PanicEntry → World → Prop} {w : World} {k : Value → World → Prop} : (∀ b o, Sw.opV Try.prog (Instr.loadAt 128 (.pointer (some ⟨b, o, none⟩))) QP w k = Sw.onCell (w.cell? ⟨b, o, none⟩) (fun v => k v w) (Sw.opVx Try.prog (Instr.loadAt 128 (.pointer (some ⟨b, o, none⟩))) QP w k)) := (Sw.op_loadC ty128)
theorem o92 {QP : List PanicEntry → World → Prop} {w : World} {k : Value → World → Prop} : (∀ b o, Sw.opV Try.prog (Instr.fieldAt 130 (.pointer (some ⟨b, o, none⟩)) 0) QP w k = k (.pointer (some ⟨b, o, none⟩)) w) := (by intro b o; exact Sw.op_field0 (ft := 127) (n := 1) Try.underlying130 rfl ty127 rfl b o)
theorem o93 {QP : List PanicEntry → World → Prop} {w : World} {k : Value → World → Prop} : (∀ b o, Sw.opV Try.prog (Instr.fieldAt 130 (.pointer (some ⟨b, o, none⟩)) 1) QP w k = k (.pointer (some ⟨b, o + 1, none⟩)) w) := (by intro b o; exact Sw.op_fieldO (ft := 128) (n := 1) Try.underlying130 rfl ty128 rfl b o)
theorem o94 {QP : List PanicEntry → World → Prop} {w : World} {k : Value → World → Prop} : (∀ u, Sw.opV Try.prog (Instr.alloc 130 true u) QP w k = k (.pointer (some ⟨w.heap.size, 0, none⟩)) (w.alloc (.cells ((.agg #[.nilFunc, .nilFunc]) : Value).cells 130))) := (Sw.op_alloc ty130)
theorem o95 {QP : List PanicEntry → World → Prop} {w : World} {k : Value → World → Prop} : (∀ r a n c, Sw.opV Try.prog (Builtin.len_ #[137] r #[.slice a n c]) QP w k = k (.int .i64 (n : Int)) w) := (fun r => Sw.op_len_slice (r := r) Try.underlying137)
theorem o96 {QP : List PanicEntry → World → Prop} {w : World} {k : Value → World → Prop} : (∀ b o len cap ik (i : Nat), i < len → Sw.opV Try.prog (Instr.indexAt 137 (.slice (some ⟨b, o, none⟩) len cap) (.int ik (i : Int))) QP w k = k (.pointer (some ⟨b, o + i * 1, none⟩)) w) := (Sw.op_indexN Try.underlying137 ty3)
theorem o97 {QP : List PanicEntry → World → Prop} {w : World} {k : Value → World → Prop} : (∀ b o, Sw.opV Try.prog (Instr.loadAt 145 (.pointer (some ⟨b, o, none⟩))) QP w k = Sw.onCell (w.cell? ⟨b, o, none⟩) (fun v => k v w) (Sw.opVx Try.prog (Instr.loadAt 145 (.pointer (some ⟨b, o, none⟩))) QP w k)) := (Sw.op_loadC ty145)
theorem o98 {QP : List PanicEntry → World → Prop} {w : World} {k : Value → World → Prop} : (Sw.opV Try.prog (Instr.build 25 #[]) QP w k = k (.agg #[.int .i64 0, .slice none 0 0]) w) := (by exact Sw.op_build (places := #[(0, 1), (1, 1)]) Try.underlying25 ty25 (by intro w; simp [List.mapM_cons, Sem.run_bind, Sw.run_sizeOf ty23, Sw.run_sizeOf ty3]) (by simp [Instr.fill, Sw.cells_agg]))
theorem o99 {QP : List PanicEntry → World → Prop} {w : World} {k : Value → World → Prop} : (∀ v1 : Value, v1.oneCell' = true → Sw.opV Try.prog (Instr.build 25 #[(1, v1)]) QP w k = k (.agg #[.int .i64 0, v1]) w) := (by intro v1 hv1; exact Sw.op_build (places := #[(0, 1), (1, 1)]) Try.underlying25 ty25 (by intro w; simp [List.mapM_cons, Sem.run_bind, Sw.run_sizeOf ty23, Sw.run_sizeOf ty3]) (by simp [Instr.fill, Sw.cells_agg, Sw.cells_one hv1]))
theorem o100 {QP : List PanicEntry → World → Prop} {w : World} {k : Value → World → Prop} : (∀ v0 v1 : Value, v0.oneCell' = true → v1.oneCell' = true → Sw.opV Try.prog (Instr.build 28 #[(0, v0), (1, v1)]) QP w k = k (.agg #[v0, v1, .int .i64 0, .bool false, .bool false, .int .i64 0, .int .i64 0, .int .i64 0, .slice none 0 0, .string ByteArray.empty, .string ByteArray.empty, .string ByteArray.empty, .slice none 0 0, .int .i64 0, .int .i64 0]) w) := (by intro v0 v1 hv0 hv1; exact Sw.op_build (places := #[(0, 1), (1, 1), (2, 1), (3, 1), (4, 1), (5, 1), (6, 1), (7, 2), (9, 1), (10, 1), (11, 1), (12, 1), (13, 1), (14, 1)]) Try.underlying28 ty28 (by intro w; simp [List.mapM_cons, Sem.run_bind, Sw.run_sizeOf ty22, Sw.run_sizeOf ty25, Sw.run_sizeOf ty26, Sw.run_sizeOf ty3, Sw.run_sizeOf ty4, Sw.run_sizeOf ty9]) (by simp [Instr.fill, Sw.cells_agg, Sw.cells_one hv0, Sw.cells_one hv1]))
theorem o101 {QP : List PanicEntry → World → Prop} {w : World} {k : Value → World → Prop} : (∀ v0 v1 v2 v6 : Value, v0.oneCell' = true → v1.oneCell' = true → v2.oneCell' = true → v6.oneCell' = true → Sw.opV Try.prog (Instr.build 28 #[(0, v0), (1, v1), (2, v2), (6, v6)]) QP w k = k (.agg #[v0, v1, v2, .bool false, .bool false, .int .i64 0, v6, .int .i64 0, .slice none 0 0, .string ByteArray.empty, .string ByteArray.empty, .string ByteArray.empty, .slice none 0 0, .int .i64 0, .int .i64 0]) w) := (by intro v0 v1 v2 v6 hv0 hv1 hv2 hv6; exact Sw.op_build (places := #[(0, 1), (1, 1), (2, 1), (3, 1), (4, 1), (5, 1), (6, 1), (7, 2), (9, 1), (10, 1), (11, 1), (12, 1), (13, 1), (14, 1)]) Try.underlying28 ty28 (by intro w; simp [List.mapM_cons, Sem.run_bind, Sw.run_sizeOf ty22, Sw.run_sizeOf ty25, Sw.run_sizeOf ty26, Sw.run_sizeOf ty3, Sw.run_sizeOf ty4, Sw.run_sizeOf ty9]) (by simp [Instr.fill, Sw.cells_agg, Sw.cells_one hv0, Sw.cells_one hv1, Sw.cells_one hv2, Sw.cells_one hv6]))
theorem o102 {QP : List PanicEntry → World → Prop} {w : World} {k : Value → World → Prop} : (∀ v0 v1 v7_0 v7_1 : Value, v0.oneCell' = true → v1.oneCell' = true → Sw.opV Try.prog (Instr.build 28 #[(0, v0), (1, v1), (7, (.agg #[v7_0, v7_1]))]) QP w k = k (.agg #[v0, v1, .int .i64 0, .bool false, .bool false, .int .i64 0, .int .i64 0, v7_0, v7_1, .string ByteArray.empty, .string ByteArray.empty, .string ByteArray.empty, .slice none 0 0, .int .i64 0, .int .i64 0]) w) := (by intro v0 v1 v7_0 v7_1 hv0 hv1; exact Sw.op_build (places := #[(0, 1), (1, 1), (2, 1), (3, 1), (4, 1), (5, 1), (6, 1), (7, 2), (9, 1), (10, 1), (11, 1), (12, 1), (13, 1), (14, 1)]) Try.underlying28 ty28 (by intro w; simp [List.mapM_cons, Sem.run_bind, Sw.run_sizeOf ty22, Sw.run_sizeOf ty25, Sw.run_sizeOf ty26, Sw.run_sizeOf ty3, Sw.run_sizeOf ty4, Sw.run_sizeOf ty9]) (by simp [Instr.fill, Sw.cells_agg, Sw.cells_one hv0, Sw.cells_one hv1]))
theorem o103 {QP : List PanicEntry → World → Prop} {w : World} {k : Value → World → Prop} : (∀ v0 v1 v8 : Value, v0.oneCell' = true → v1.oneCell' = true → v8.oneCell' = true → Sw.opV Try.prog (Instr.build 28 #[(0, v0), (1, v1), (8, v8)]) QP w k = k (.agg #[v0, v1, .int .i64 0, .bool false, .bool false, .int .i64 0, .int .i64 0, .int .i64 0, .slice none 0 0, v8, .string ByteArray.empty, .string ByteArray.empty, .slice none 0 0, .int .i64 0, .int .i64 0]) w) := (by intro v0 v1 v8 hv0 hv1 hv8; exact Sw.op_build (places := #[(0, 1), (1, 1), (2, 1), (3, 1), (4, 1), (5, 1), (6, 1), (7, 2), (9, 1), (10, 1), (11, 1), (12, 1), (13, 1), (14, 1)]) Try.underlying28 ty28 (by intro w; simp [List.mapM_cons, Sem.run_bind, Sw.run_sizeOf ty22, Sw.run_sizeOf ty25, Sw.run_sizeOf ty26, Sw.run_sizeOf ty3, Sw.run_sizeOf ty4, Sw.run_sizeOf ty9]) (by simp [Instr.fill, Sw.cells_agg, Sw.cells_one hv0, Sw.cells_one hv1, Sw.cells_one hv8]))
theorem o104 {QP : List PanicEntry → World → Prop} {w : World} {k : Value → World → Prop} : (∀ v1 : Value, v1.oneCell' = true → Sw.opV Try.prog (Instr.build 28 #[(1, v1)]) QP w k = k (.agg #[.string ByteArray.empty, v1, .int .i64 0, .bool false, .bool false, .int .i64 0, .int .i64 0, .int .i64 0, .slice none 0 0, .string ByteArray.empty, .string ByteArray.empty, .string ByteArray.empty, .slice none 0 0, .int .i64 0, .int .i64 0]) w) := (by intro v1 hv1; exact Sw.op_build (places := #[(0, 1), (1, 1), (2, 1), (3, 1), (4, 1), (5, 1), (6, 1), (7, 2), (9, 1), (10, 1), (11, 1), (12, 1), (13, 1), (14, 1)]) Try.underlying28 ty28 (by intro w; simp [List.mapM_cons, Sem.run_bind, Sw.run_sizeOf ty22, Sw.run_sizeOf ty25, Sw.run_sizeOf ty26, Sw.run_sizeOf ty3, Sw.run_sizeOf ty4, Sw.run_sizeOf ty9]) (by simp [Instr.fill, Sw.cells_agg, Sw.cells_one hv1]))
theorem o105 {QP : List PanicEntry → World → Prop} {w : World} {k : Value → World → Prop} : (Sw.opV Try.prog (Instr.build 31 #[]) QP w k = k (.agg #[.int .i64 0, .int .i64 0]) w) := (by exact Sw.op_build (places := #[(0, 1), (1, 1)]) Try.underlying31 ty31 (by intro w; simp [List.mapM_cons, Sem.run_bind, Sw.run_sizeOf ty3]) (by simp [Instr.fill, Sw.cells_agg]))
theorem o106 {QP : List PanicEntry → World → Prop} {w : World} {k : Value → World → Prop} : (∀ v0 v1 : Value, v0.oneCell' = true → v1.oneCell' = true → Sw.opV Try.prog (Instr.build 31 #[(0, v0), (1, v1)]) QP w k = k (.agg #[v0, v1]) w) := (by intro v0 v1 hv0 hv1; exact Sw.op_build (places := #[(0, 1), (1, 1)]) Try.underlying31 ty31 (by intro w; simp [List.mapM_cons, Sem.run_bind, Sw.run_sizeOf ty3]) (by simp [Instr.fill, Sw.cells_agg, Sw.cells_one hv0, Sw.cells_one hv1]))
theorem o107 {QP : List PanicEntry → World → Prop} {w : World} {k : Value → World → Prop} : (∀ v1 : Value, v1.oneCell' = true → Sw.opV Try.prog (Instr.build 31 #[(1, v1)]) QP w k = k (.agg #[.int .i64 0, v1]) w) := (by intro v1 hv1; exact Sw.op_build (places := #[(0, 1), (1, 1)]) Try.underlying31 ty31 (by intro w; simp [List.mapM_cons, Sem.run_bind, Sw.run_sizeOf ty3]) (by simp [Instr.fill, Sw.cells_agg, Sw.cells_one hv1]))
theorem o108 {QP : List PanicEntry → World → Prop} {w : World} {k : Value → World → Prop} : (∀ v0 v2 v1 : Value, v0.oneCell' = true → v2.oneCell' = true → v1.oneCell' = true → Sw.opV Try.prog (Instr.build 44 #[(0, v0), (2, v2), (1, v1)]) QP w k = k (.agg #[v0, v1, v2]) w) := (by intro v0 v2 v1 hv0 hv2 hv1; exact Sw.op_build (places := #[(0, 1), (1, 1), (2, 1)]) Try.underlying44 ty44 (by intro w; simp [List.mapM_cons, Sem.run_bind, Sw.run_sizeOf ty42, Sw.run_sizeOf ty9]) (by simp [Instr.fill, Sw.cells_agg, Sw.cells_one hv0, Sw.cells_one hv2, Sw.cells_one hv1]))
theorem o109 {QP : List PanicEntry → World → Prop} {w : World} {k : Value → World → Prop} : (∀ v1 : Value, v1.oneCell' = true → Sw.opV Try.prog (Instr.build 44 #[(1, v1)]) QP w k = k (.agg #[.string ByteArray.empty, v1, .string ByteArray.empty]) w) := (by intro v1 hv1; exact Sw.op_build (places := #[(0, 1), (1, 1), (2, 1)]) Try.underlying44 ty44 (by intro w; simp [List.mapM_cons, Sem.run_bind, Sw.run_sizeOf ty42, Sw.run_sizeOf ty9]) (by simp [Instr.fill, Sw.cells_agg, Sw.cells_one hv1]))
theorem o110 {QP : List PanicEntry → World → Prop} {w : World} {k : Value → World → Prop} : (∀ v0 v1 : Value, v0.oneCell' = true → v1.oneCell' = true → Sw.opV Try.prog (Instr.build 50 #[(0, v0), (1, v1)]) QP w k = k (.agg #[v0, v1]) w) := (by intro v0 v1 hv0 hv1; exact Sw.op_build (places := #[(0, 1), (1, 1)]) Try.underlying50 ty50 (by intro w; simp [List.mapM_cons, Sem.run_bind, Sw.run_sizeOf ty48, Sw.run_sizeOf ty9]) (by simp [Instr.fill, Sw.cells_agg, Sw.cells_one hv0, Sw.cells_one hv1]))
theorem o111 {QP : List PanicEntry → World → Prop} {w : World} {k : Value → World → Prop} : (∀ v1 : Value, v1.oneCell' = true → Sw.opV Try.prog (Instr.build 50 #[(1, v1)]) QP w k = k (.agg #[.string ByteArray.empty, v1]) w) := (by intro v1 hv1; exact Sw.op_build (places := #[(0, 1), (1, 1)]) Try.underlying50 ty50 (by intro w; simp [List.mapM_cons, Sem.run_bind, Sw.run_sizeOf ty48, Sw.run_sizeOf ty9]) (by simp [Instr.fill, Sw.cells_agg, Sw.cells_one hv1]))
theorem o112 {QP : List PanicEntry → World → Prop} {w : World} {k : Value → World → Prop} : (Sw.opV Try.prog (Instr.build 68 #[]) QP w k = k (.agg #[.int .i64 0, .int .i64 0, .int .i64 0]) w) := (by exact Sw.op_build (places := #[(0, 1), (1, 1), (2, 1)]) Try.underlying68 ty68 (by intro w; simp [List.mapM_cons, Sem.run_bind, Sw.run_sizeOf ty3, Sw.run_sizeOf ty66]) (by simp [Instr.fill, Sw.cells_agg]))
theorem o113 {QP : List PanicEntry → World → Prop} {w : World} {k : Value → World → Prop} : (∀ v0 v1 v2 : Value, v0.oneCell' = true → v1.oneCell' = true → v2.oneCell' = true → Sw.opV Try.prog (Instr.build 68 #[(0, v0), (1, v1), (2, v2)]) QP w k = k (.agg #[v0, v1, v2]) w) := (by intro v0 v1 v2 hv0 hv1 hv2; exact Sw.op_build (places := #[(0, 1), (1, 1), (2, 1)]) Try.underlying68 ty68 (by intro w; simp [List.mapM_cons, Sem.run_bind, Sw.run_sizeOf ty3, Sw.run_sizeOf ty66]) (by simp [Instr.fill, Sw.cells_agg, Sw.cells_one hv0, Sw.cells_one hv1, Sw.cells_one hv2]))
theorem o114 {QP : List PanicEntry → World → Prop} {w : World} {k : Value → World → Prop} : (∀ v0 v1 : Value, v0.oneCell' = true → v1.oneCell' = true → Sw.opV Try.prog (Instr.build 77 #[(0, v0), (1, v1)]) QP w k = k (.agg #[v0, v1]) w) := (by intro v0 v1 hv0 hv1; exact Sw.op_build (places := #[(0, 1), (1, 1)]) Try.underlying77 ty77 (by intro w; simp [List.mapM_cons, Sem.run_bind, Sw.run_sizeOf ty3, Sw.run_sizeOf ty9]) (by simp [Instr.fill, Sw.cells_agg, Sw.cells_one hv0, Sw.cells_one hv1]))
theorem o115 {QP : List PanicEntry → World → Prop} {w : World} {k : Value → World → Prop} : (∀ v0_0 v0_1 v0_2 v1 v2 v3 v4 : Value, v1.oneCell' = true → v2.oneCell' = true → v3.oneCell' = true → v4.oneCell' = true → Sw.opV Try.prog (Instr.build 101 #[(0, (.agg #[v0_0, v0_1, v0_2])), (1, v1), (2, v2), (3, v3), (4, v4)]) QP w k = k (.agg #[v0_0, v0_1, v0_2, v1, v2, v3, v4, .string ByteArray.empty, .slice none 0 0]) w) := (by intro v0_0 v0_1 v0_2 v1 v2 v3 v4 hv1 hv2 hv3 hv4; exact Sw.op_build (places := #[(0, 3), (3, 1), (4, 1), (5, 1), (6, 1), (7, 2)]) Try.underlying101 ty101 (by intro w; simp [List.mapM_cons, Sem.run_bind, Sw.run_sizeOf ty3, Sw.run_sizeOf ty44, Sw.run_sizeOf ty50, Sw.run_sizeOf ty98, Sw.run_sizeOf ty99]) (by simp [Instr.fill, Sw.cells_agg, Sw.cells_one hv1, Sw.cells_one hv2, Sw.cells_one hv3, Sw.cells_one hv4]))
theorem o116 {QP : List PanicEntry → World → Prop} {w : World} {k : Value → World → Prop} : (∀ v0 v1 v2 v3 v4 v5 v6 v7 v8 v9 v10 v11 v12 : Value, v0.oneCell' = true → v1.oneCell' = true → v2.oneCell' = true → v3.oneCell' = true → v4.oneCell' = true → v5.oneCell' = true → v6.oneCell' = true → v7.oneCell' = true → v8.oneCell' = true → v9.oneCell' = true → v10.oneCell' = true → v11.oneCell' = true → v12.oneCell' = true → Sw.opV Try.prog (Instr.build 116 #[(0, v0), (1, v1), (2, v2), (3, v3), (4, v4), (5, v5), (6, v6), (7, v7), (8, v8), (9, v9), (10, v10), (11, v11), (12, v12)]) QP w k = k (.agg #[v0, v1, v2, v3, v4, v5, v6, v7, v8, v9, v10, v11, v12]) w) := (by intro v0 v1 v2 v3 v4 v5 v6 v7 v8 v9 v10 v11 v12 hv0 hv1 hv2 hv3 hv4 hv5 hv6 hv7 hv8 hv9 hv10 hv11 hv12; exact Sw.op_build (places := #[(0, 1), (1, 1), (2, 1), (3, 1), (4, 1), (5, 1), (6, 1), (7, 1), (8, 1), (9, 1), (10, 1), (11, 1), (12, 1)]) Try.underlying116 ty116 (by intro w; simp [List.mapM_cons, Sem.run_bind, Sw.run_sizeOf ty22, Sw.run_sizeOf ty3, Sw.run_sizeOf ty4, Sw.run_sizeOf ty9]) (by simp [Instr.fill, Sw.cells_agg, Sw.cells_one hv0, Sw.cells_one hv1, Sw.cells_one hv2, Sw.cells_one hv3, Sw.cells_one hv4, Sw.cells_one hv5, Sw.cells_one hv6, Sw.cells_one hv7, Sw.cells_one hv8, Sw.cells_one hv9, Sw.cells_one hv10, Sw.cells_one hv11, Sw.cells_one hv12]))
theorem o117 {QP : List PanicEntry → World → Prop} {w : World} {k : Value → World → Prop} : (∀ v0 v1 : Value, v0.oneCell' = true → v1.oneCell' = true → Sw.opV Try.prog (Instr.build 130 #[(0, v0), (1, v1)]) QP w k = k (.agg #[v0, v1]) w) := (by intro v0 v1 hv0 hv1; exact Sw.op_build (places := #[(0, 1), (1, 1)]) Try.underlying130 ty130 (by intro w; simp [List.mapM_cons, Sem.run_bind, Sw.run_sizeOf ty127, Sw.run_sizeOf ty128]) (by simp [Instr.fill, Sw.cells_agg, Sw.cells_one hv0, Sw.cells_one hv1]))
theorem o118 {QP : List PanicEntry → World → Prop} {w : World} {k : Value → World → Prop} : (Sw.opV Try.prog (Instr.buildSlice 23 0 #[]) QP w k = k (.slice (some ⟨w.heap.size, 0, none⟩) 0 0) (w.alloc (.cells #[] 77))) := (by exact Sw.op_buildSlice Try.underlying23 ty77 (by decide) (base := #[]) (by kernel_rfl) (by simp [Instr.fill, Sw.cells_agg]))
theorem o119 {QP : List PanicEntry → World → Prop} {w : World} {k : Value → World → Prop} : (∀ v0_0 v0_1 : Value, Sw.opV Try.prog (Instr.buildSlice 23 1 #[(0, (.agg #[v0_0, v0_1]))]) QP w k = k (.slice (some ⟨w.heap.size, 0, none⟩) 1 1) (w.alloc (.cells #[v0_0, v0_1] 77))) := (by intro v0_0 v0_1; exact Sw.op_buildSlice Try.underlying23 ty77 (by decide) (base := #[.string ByteArray.empty, .int .i64 0]) (by kernel_rfl) (by simp [Instr.fill, Sw.cells_agg]))
theorem o120 {QP : List PanicEntry → World → Prop} {w : World} {k : Value → World → Prop} : (Sw.opV Try.prog (Instr.buildSlice 26 0 #[]) QP w k = k (.slice (some ⟨w.heap.size, 0, none⟩) 0 0) (w.alloc (.cells #[] 62))) := (by exact Sw.op_buildSlice Try.underlying26 ty62 (by decide) (base := #[]) (by kernel_rfl) (by simp [Instr.fill, Sw.cells_agg]))
theorem o121 {QP : List PanicEntry → World → Prop} {w : World} {k : Value → World → Prop} : (Sw.opV Try.prog (Instr.buildSlice 42 0 #[]) QP w k = k (.slice (some ⟨w.heap.size, 0, none⟩) 0 0) (w.alloc (.cells #[] 50))) := (by exact Sw.op_buildSlice Try.underlying42 ty50 (by decide) (base := #[]) (by kernel_rfl) (by simp [Instr.fill, Sw.cells_agg]))
theorem o122 {QP : List PanicEntry → World → Prop} {w : World} {k : Value → World → Prop} : (∀ v0_0 v0_1 : Value, Sw.opV Try.prog (Instr.buildSlice 42 1 #[(0, (.agg #[v0_0, v0_1]))]) QP w k = k (.slice (some ⟨w.heap.size, 0, none⟩) 1 1) (w.alloc (.cells #[v0_0, v0_1] 50))) := (by intro v0_0 v0_1; exact Sw.op_buildSlice Try.underlying42 ty50 (by decide) (base := #[.string ByteArray.empty, .slice none 0 0]) (by kernel_rfl) (by simp [Instr.fill, Sw.cells_agg]))
theorem o123 {QP : List PanicEntry → World → Prop} {w : World} {k : Value → World → Prop} : (Sw.opV Try.prog (Instr.buildSlice 48 0 #[]) QP w k = k (.slice (some ⟨w.heap.size, 0, none⟩) 0 0) (w.alloc (.cells #[] 28))) := (by exact Sw.op_buildSlice Try.underlying48 ty28 (by decide) (base := #[]) (by kernel_rfl) (by simp [Instr.fill, Sw.cells_agg]))
theorem o124 {QP : List PanicEntry → World → Prop} {w : World} {k : Value → World → Prop} : (∀ v0_0 v0_1 v0_2 v0_3 v0_4 v0_5 v0_6 v0_7 v0_8 v0_9 v0_10 v0_11 v0_12 v0_13 v0_14 : Value, Sw.opV Try.prog (Instr.buildSlice 48 1 #[(0, (.agg #[v0_0, v0_1, v0_2, v0_3, v0_4, v0_5, v0_6, v0_7, v0_8, v0_9, v0_10, v0_11, v0_12, v0_13, v0_14]))]) QP w k = k (.slice (some ⟨w.heap.size, 0, none⟩) 1 1) (w.alloc (.cells #[v0_0, v0_1, v0_2, v0_3, v0_4, v0_5, v0_6, v0_7, v0_8, v0_9, v0_10, v0_11, v0_12, v0_13, v0_14] 28))) := (by intro v0_0 v0_1 v0_2 v0_3 v0_4 v0_5 v0_6 v0_7 v0_8 v0_9 v0_10 v0_11 v0_12 v0_13 v0_14; exact Sw.op_buildSlice Try.underlying48 ty28 (by decide) (base := #[.string ByteArray.empty, .int .i64 0, .int .i64 0, .bool false, .bool false, .int .i64 0, .int .i64 0, .int .i64 0, .slice none 0 0, .string ByteArray.empty, .string ByteArray.empty, .string ByteArray.empty, .slice none 0 0, .int .i64 0, .int .i64 0]) (by kernel_rfl) (by simp [Instr.fill, Sw.cells_agg]))
theorem o125 {QP : List PanicEntry → World → Prop} {w : World} {k : Value → World → Prop} : (∀ v0_0 v0_1 v0_2 v0_3 v0_4 v0_5 v0_6 v0_7 v0_8 v0_9 v0_10 v0_11 v0_12 v0_13 v0_14 v1_0 v1_1 v1_2 v1_3 v1_4 v1_5 v1_6 v1_7 v1_8 v1_9 v1_10 v1_11 v1_12 v1_13 v1_14 : Value, Sw.opV Try.prog (Instr.buildSlice 48 2 #[(0, (.agg #[v0_0, v0_1, v0_2, v0_3, v0_4, v0_5, v0_6, v0_7, v0_8, v0_9, v0_10, v0_11, v0_12, v0_13, v0_14])), (1, (.agg #[v1_0, v1_1, v1_2, v1_3, v1_4, v1_5, v1_6, v1_7, v1_8, v1_9, v1_10, v1_11, v1_12, v1_13, v1_14]))]) QP w k = k (.slice (some ⟨w.heap.size, 0, none⟩) 2 2) (w.alloc (.cells #[v0_0, v0_1, v0_2, v0_3, v0_4, v0_5, v0_6, v0_7, v0_8, v0_9, v0_10, v0_11, v0_12, v0_13, v0_14, v1_0, v1_1, v1_2, v1_3, v1_4, v1_5, v1_6, v1_7, v1_8, v1_9, v1_10, v1_11, v1_12, v1_13, v1_14] 28))) := (by intro v0_0 v0_1 v0_2 v0_3 v0_4 v0_5 v0_6 v0_7 v0_8 v0_9 v0_10 v0_11 v0_12 v0_13 v0_14 v1_0 v1_1 v1_2 v1_3 v1_4 v1_5 v1_6 v1_7 v1_8 v1_9 v1_10 v1_11 v1_12 v1_13 v1_14; exact Sw.op_buildSlice Try.underlying48 ty28 (by decide) (base := #[.string ByteArray.empty, .int .i64 0, .int .i64 0, .bool false, .bool false, .int .i64 0, .int .i64 0, .int .i64 0, .slice none 0 0, .string ByteArray.empty, .string ByteArray.empty, .string ByteArray.empty, .slice none 0 0, .int .i64 0, .int .i64 0, .string ByteArray.empty, .int .i64 0, .int .i64 0, .bool false, .bool false, .int .i64 0, .int .i64 0, .int .i64 0, .slice none 0 0, .string ByteArray.empty, .string ByteArray.empty, .string ByteArray.empty, .slice none 0 0, .int .i64 0, .int .i64 0]) (by kernel_rfl) (by simp [Instr.fill, Sw.cells_agg]))
theorem o126 {QP : List PanicEntry → World → Prop} {w : World} {k : Value → World → Prop} : (∀ v0 : Value, v0.oneCell' = true → Sw.opV Try.prog (Instr.buildSlice 63 1 #[(0, v0)]) QP w k = k (.slice (some ⟨w.heap.size, 0, none⟩) 1 1) (w.alloc (.cells #[v0] 9))) := (by intro v0 hv0; exact Sw.op_buildSlice Try.underlying63 ty9 (by decide) (base := #[.string ByteArray.empty]) (by kernel_rfl) (by simp [Instr.fill, Sw.cells_agg, Sw.cells_one hv0]))
theorem o127 {QP : List PanicEntry → World → Prop} {w : World} {k : Value → World → Prop} : (∀ v0 v1 : Value, v0.oneCell' = true → v1.oneCell' = true → Sw.opV Try.prog (Instr.buildSlice 123 2 #[(0, v0), (1, v1)]) QP w k = k (.slice (some ⟨w.heap.size, 0, none⟩) 2 2) (w.alloc (.cells #[v0, v1] 4))) := (by intro v0 v1 hv0 hv1; exact Sw.op_buildSlice Try.underlying123 ty4 (by decide) (base := #[.bool false, .bool false]) (by kernel_rfl) (by simp [Instr.fill, Sw.cells_agg, Sw.cells_one hv0, Sw.cells_one hv1]))
theorem o128 {QP : List PanicEntry → World → Prop} {w : World} {k : Value → World → Prop} : (∀ v0 v1 v2 : Value, v0.oneCell' = true → v1.oneCell' = true → v2.oneCell' = true → Sw.opV Try.prog (Instr.buildSlice 123 3 #[(0, v0), (1, v1), (2, v2)]) QP w k = k (.slice (some ⟨w.heap.size, 0, none⟩) 3 3) (w.alloc (.cells #[v0, v1, v2] 4))) := (by intro v0 v1 v2 hv0 hv1 hv2; exact Sw.op_buildSlice Try.underlying123 ty4 (by decide) (base := #[.bool false, .bool false, .bool false]) (by kernel_rfl) (by simp [Instr.fill, Sw.cells_agg, Sw.cells_one hv0, Sw.cells_one hv1, Sw.cells_one hv2]))
theorem o129 {QP : List PanicEntry → World → Prop} {w : World} {k : Value → World → Prop} : (∀ v0 : Value, v0.oneCell' = true → Sw.opV Try.prog (Instr.buildSlice 137 1 #[(0, v0)]) QP w k = k (.slice (some ⟨w.heap.size, 0, none⟩) 1 1) (w.alloc (.cells #[v0] 3))) := (by intro v0 hv0; exact Sw.op_buildSlice Try.underlying137 ty3 (by decide) (base := #[.int .i64 0]) (by kernel_rfl) (by simp [Instr.fill, Sw.cells_agg, Sw.cells_one hv0]))
theorem o130 {QP : List PanicEntry → World → Prop} {w : World} {k : Value → World → Prop} : (∀ v0 v1 : Value, v0.oneCell' = true → v1.oneCell' = true → Sw.opV Try.prog (Instr.buildSlice 137 2 #[(0, v0), (1, v1)]) QP w k = k (.slice (some ⟨w.heap.size, 0, none⟩) 2 2) (w.alloc (.cells #[v0, v1] 3))) := (by intro v0 v1 hv0 hv1; exact Sw.op_buildSlice Try.underlying137 ty3 (by decide) (base := #[.int .i64 0, .int .i64 0]) (by kernel_rfl) (by simp [Instr.fill, Sw.cells_agg, Sw.cells_one hv0, Sw.cells_one hv1]))
theorem o131 {QP : List PanicEntry → World → Prop} {w : World} {k : Value → World → Prop} : (∀ q n, Sw.opV Try.prog (Go.convert 5 3 (.int q n)) QP w k = k (.int .i64 (IntKind.i64.wrap n)) w) := (Sw.op_convInt (by rw [Try.underlying5]; rfl) Try.underlying3)
theorem o132 {QP : List PanicEntry → World → Prop} {w : World} {k : Value → World → Prop} : (∀ v, Sw.opV Try.prog (Instr.makeInterface 68 v) QP w k = k (.iface 68 v) w) := (Sw.op_iface Try.underlying68 rfl)
theorem o133 {QP : List PanicEntry → World → Prop} {w : World} {k : Value → World → Prop} : (∀ v, Sw.opV Try.prog (Instr.typeAssert (.iface 68 v) 20 68 true) QP w k = k (.tuple #[v, .bool true]) w) := (Sw.op_assert_ok Try.underlying68 rfl)
theorem o134 {QP : List PanicEntry → World → Prop} {w : World} {k : Value → World → Prop} : (∀ d v, Sw.opV Try.prog (Sw.binS .neq 20 true (.iface d v) .nilIface) QP w k = k (.bool true) w) := (Sw.op_neqNil_some Try.underlying20)
theorem o135 {QP : List PanicEntry → World → Prop} {w : World} {k : Value → World → Prop} : (Sw.opV Try.prog (Sw.binS .neq 20 true .nilIface .nilIface) QP w k = k (.bool false) w) := (Sw.op_neqNil_none Try.underlying20)
theorem o136 {QP : List PanicEntry → World → Prop} {w : World} {k : Value → World → Prop} : (∀ c A n m, Sw.opV Try.prog (Sw.binS .eql 23 c (.slice A n m) (.slice none 0 0)) QP w k = k (.bool A.isNone) w) := (Sw.op_eqNilS Try.underlying23)
theorem o137 {QP : List PanicEntry → World → Prop} {w : World} {k : Value → World → Prop} : (∀ c A n m, Sw.opV Try.prog (Sw.binS .eql 26 c (.slice A n m) (.slice none 0 0)) QP w k = k (.bool A.isNone) w) := (Sw.op_eqNilS Try.underlying26)
theorem o138 {QP : List PanicEntry → World → Prop} {w : World} {k : Value → World → Prop} : (∀ c (a0 b0 : Int) (a1 b1 : Int), Sw.opV Try.prog (Sw.binS .eql 31 c (.agg #[.int .i64 a0, .int .i64 a1]) (.agg #[.int .i64 b0, .int .i64 b1])) QP w k = k (.bool (decide (a0 = b0) && (decide (a1 = b1) && true))) w) := (by intro c a0 b0 a1 b1; exact Sw.op_aggEq (by kernel_rfl) (fun w => eq31 a0 b0 a1 b1) c)
theorem o139 {QP : List PanicEntry → World → Prop} {w : World} {k : Value → World → Prop} : (∀ c (a0 b0 : Int) (a1 b1 : Int), Sw.opV Try.prog (Sw.binS .neq 31 c (.agg #[.int .i64 a0, .int .i64 a1]) (.agg #[.int .i64 b0, .int .i64 b1])) QP w k = k (.bool (!(decide (a0 = b0) && (decide (a1 = b1) && true)))) w) := (by intro c a0 b0 a1 b1; exact Sw.op_aggNe (by kernel_rfl) (fun w => eq31 a0 b0 a1 b1) c)
theorem o140 {QP : List PanicEntry → World → Prop} {w : World} {k : Value → World → Prop} : (∀ c A n m, Sw.opV Try.prog (Sw.binS .eql 42 c (.slice A n m) (.slice none 0 0)) QP w k = k (.bool A.isNone) w) := (Sw.op_eqNilS Try.underlying42)
theorem o141 {QP : List PanicEntry → World → Prop} {w : World} {k : Value → World → Prop} : (∀ c A n m, Sw.opV Try.prog (Sw.binS .eql 48 c (.slice A n m) (.slice none 0 0)) QP w k = k (.bool A.isNone) w) := (Sw.op_eqNilS Try.underlying48)
theorem o142 {QP : List PanicEntry → World → Prop} {w : World} {k : Value → World → Prop} : (∀ c f x y, Sw.opV Try.prog (Sw.binS .neq 59 c (.func f x y) .nilFunc) QP w k = k (.bool true) w) := (Sw.op_neqNilF Try.underlying59)
theorem o143 {QP : List PanicEntry → World → Prop} {w : World} {k : Value → World → Prop} : (∀ c f x y, Sw.opV Try.prog (Sw.binS .eql 59 c (.func f x y) .nilFunc) QP w k = k (.bool false) w) := (Sw.op_eqNilF Try.underlying59)
theorem o144 {QP : List PanicEntry → World → Prop} {w : World} {k : Value → World → Prop} : (∀ c (a0 b0 : Int) (a1 b1 : Int) (a2 b2 : ByteArray), Sw.opV Try.prog (Sw.binS .eql 62 c (.agg #[.int .i64 a0, .int .i64 a1, .string a2]) (.agg #[.int .i64 b0, .int .i64 b1, .string b2])) QP w k = k (.bool (decide (a0 = b0) && (decide (a1 = b1) && (decide (a2 = b2) && true)))) w) := (by intro c a0 b0 a1 b1 a2 b2; exact Sw.op_aggEq (by kernel_rfl) (fun w => eq62 a0 b0 a1 b1 a2 b2) c)
theorem o145 {QP : List PanicEntry → World → Prop} {w : World} {k : Value → World → Prop} : (∀ c (a0 b0 : Int) (a1 b1 : Int) (a2 b2 : ByteArray), Sw.opV Try.prog (Sw.binS .neq 62 c (.agg #[.int .i64 a0, .int .i64 a1, .string a2]) (.agg #[.int .i64 b0, .int .i64 b1, .string b2])) QP w k = k (.bool (!(decide (a0 = b0) && (decide (a1 = b1) && (decide (a2 = b2) && true))))) w) := (by intro c a0 b0 a1 b1 a2 b2; exact Sw.op_aggNe (by kernel_rfl) (fun w => eq62 a0 b0 a1 b1 a2 b2) c)
theorem o146 {QP : List PanicEntry → World → Prop} {w : World} {k : Value → World → Prop} : (∀ c (a0 b0 : Int) (a1 b1 : Int) (a2 b2 : Int), Sw.opV Try.prog (Sw.binS .eql 68 c (.agg #[.int .i64 a0, .int .i64 a1, .int .i64 a2]) (.agg #[.int .i64 b0, .int .i64 b1, .int .i64 b2])) QP w k = k (.bool (decide (a0 = b0) && (decide (a1 = b1) && (decide (a2 = b2) && true)))) w) := (by intro c a0 b0 a1 b1 a2 b2; exact Sw.op_aggEq (by kernel_rfl) (fun w => eq68 a0 b0 a1 b1 a2 b2) c)
theorem o147 {QP : List PanicEntry → World → Prop} {w : World} {k : Value → World → Prop} : (∀ c (a0 b0 : Int) (a1 b1 : Int) (a2 b2 : Int), Sw.opV Try.prog (Sw.binS .neq 68 c (.agg #[.int .i64 a0, .int .i64 a1, .int .i64 a2]) (.agg #[.int .i64 b0, .int .i64 b1, .int .i64 b2])) QP w k = k (.bool (!(decide (a0 = b0) && (decide (a1 = b1) && (decide (a2 = b2) && true))))) w) := (by intro c a0 b0 a1 b1 a2 b2; exact Sw.op_aggNe (by kernel_rfl) (fun w => eq68 a0 b0 a1 b1 a2 b2) c)
theorem o148 {QP : List PanicEntry → World → Prop} {w : World} {k : Value → World → Prop} : (∀ c (a0 b0 : ByteArray) (a1 b1 : Int), Sw.opV Try.prog (Sw.binS .eql 77 c (.agg #[.string a0, .int .i64 a1]) (.agg #[.string b0, .int .i64 b1])) QP w k = k (.bool (decide (a0 = b0) && (decide (a1 = b1) && true))) w) := (by intro c a0 b0 a1 b1; exact Sw.op_aggEq (by kernel_rfl) (fun w => eq77 a0 b0 a1 b1) c)
theorem o149 {QP : List PanicEntry → World → Prop} {w : World} {k : Value → World → Prop} : (∀ c (a0 b0 : ByteArray) (a1 b1 : Int), Sw.opV Try.prog (Sw.binS .neq 77 c (.agg #[.string a0, .int .i64 a1]) (.agg #[.string b0, .int .i64 b1])) QP w k = k (.bool (!(decide (a0 = b0) && (decide (a1 = b1) && true)))) w) := (by intro c a0 b0 a1 b1; exact Sw.op_aggNe (by kernel_rfl) (fun w => eq77 a0 b0 a1 b1) c)
theorem o150 {QP : List PanicEntry → World → Prop} {w : World} {k : Value → World → Prop} : (∀ c (a0 b0 : ByteArray) (a1 b1 : ByteArray) (a2 b2 : ByteArray) (a3 b3 : ByteArray) (a4 b4 : Int) (a5 b5 : Int) (a6 b6 : Int) (a7 b7 : Int) (a8 b8 : Int) (a9 b9 : Int) (a10 b10 : Int) (a11 b11 : Bool) (a12 b12 : Bool), Sw.opV Try.prog (Sw.binS .eql 116 c (.agg #[.string a0, .string a1, .string a2, .string a3, .int .i64 a4, .int .i64 a5, .int .i64 a6, .int .i64 a7, .int .i64 a8, .int .i64 a9, .int .i64 a10, .bool a11, .bool a12]) (.agg #[.string b0, .string b1, .string b2, .string b3, .int .i64 b4, .int .i64 b5, .int .i64 b6, .int .i64 b7, .int .i64 b8, .int .i64 b9, .int .i64 b10, .bool b11, .bool b12])) QP w k = k (.bool (decide (a0 = b0) && (decide (a1 = b1) && (decide (a2 = b2) && (decide (a3 = b3) && (decide (a4 = b4) && (decide (a5 = b5) && (decide (a6 = b6) && (decide (a7 = b7) && (decide (a8 = b8) && (decide (a9 = b9) && (decide (a10 = b10) && (decide (a11 = b11) && (decide (a12 = b12) && true)))))))))))))) w) := (by intro c a0 b0 a1 b1 a2 b2 a3 b3 a4 b4 a5 b5 a6 b6 a7 b7 a8 b8 a9 b9 a10 b10 a11 b11 a12 b12; exact Sw.op_aggEq (by kernel_rfl) (fun w => eq116 a0 b0 a1 b1 a2 b2 a3 b3 a4 b4 a5 b5 a6 b6 a7 b7 a8 b8 a9 b9 a10 b10 a11 b11 a12 b12) c)
theorem o151 {QP : List PanicEntry → World → Prop} {w : World} {k : Value → World → Prop} : (∀ c (a0 b0 : ByteArray) (a1 b1 : ByteArray) (a2 b2 : ByteArray) (a3 b3 : ByteArray) (a4 b4 : Int) (a5 b5 : Int) (a6 b6 : Int) (a7 b7 : Int) (a8 b8 : Int) (a9 b9 : Int) (a10 b10 : Int) (a11 b11 : Bool) (a12 b12 : Bool), Sw.opV Try.prog (Sw.binS .neq 116 c (.agg #[.string a0, .string a1, .string a2, .string a3, .int .i64 a4, .int .i64 a5, .int .i64 a6, .int .i64 a7, .int .i64 a8, .int .i64 a9, .int .i64 a10, .bool a11, .bool a12]) (.agg #[.string b0, .string b1, .string b2, .string b3, .int .i64 b4, .int .i64 b5, .int .i64 b6, .int .i64 b7, .int .i64 b8, .int .i64 b9, .int .i64 b10, .bool b11, .bool b12])) QP w k = k (.bool (!(decide (a0 = b0) && (decide (a1 = b1) && (decide (a2 = b2) && (decide (a3 = b3) && (decide (a4 = b4) && (decide (a5 = b5) && (decide (a6 = b6) && (decide (a7 = b7) && (decide (a8 = b8) && (decide (a9 = b9) && (decide (a10 = b10) && (decide (a11 = b11) && (decide (a12 = b12) && true))))))))))))))) w) := (by intro c a0 b0 a1 b1 a2 b2 a3 b3 a4 b4 a5 b5 a6 b6 a7 b7 a8 b8 a9 b9 a10 b10 a11 b11 a12 b12; exact Sw.op_aggNe (by kernel_rfl) (fun w => eq116 a0 b0 a1 b1 a2 b2 a3 b3 a4 b4 a5 b5 a6 b6 a7 b7 a8 b8 a9 b9 a10 b10 a11 b11 a12 b12) c)
theorem OPS0 {QP : List PanicEntry → World → Prop} {w : World} {k : Value → World → Prop} : (∀ b o, Sw.opV Try.prog (Instr.loadAt 3 (.pointer (some ⟨b, o, none⟩))) QP w k = Sw.onCell (w.cell? ⟨b, o, none⟩) (fun v => k v w) (Sw.opVx Try.prog (Instr.loadAt 3 (.pointer (some ⟨b, o, none⟩))) QP w k)) ∧
  (∀ u, Sw.opV Try.prog (Instr.alloc 3 true u) QP w k = k (.pointer (some ⟨w.heap.size, 0, none⟩)) (w.alloc (.cells ((.int .i64 0) : Value).cells 3))) ∧
  (∀ b o, Sw.opV Try.prog (Instr.loadAt 4 (.pointer (some ⟨b, o, none⟩))) QP w k = Sw.onCell (w.cell? ⟨b, o, none⟩) (fun v => k v w) (Sw.opVx Try.prog (Instr.loadAt 4 (.pointer (some ⟨b, o, none⟩))) QP w k)) ∧
  (∀ c a b, Sw.opV Try.prog (Sw.binS .eql 4 c (.bool a) (.bool b)) QP w k = k (.bool (a == b)) w) ∧
  (∀ c a b, Sw.opV Try.prog (Sw.binS .neq 4 c (.bool a) (.bool b)) QP w k = k (.bool (a != b)) w) ∧
  (∀ u, Sw.opV Try.prog (Instr.alloc 4 true u) QP w k = k (.pointer (some ⟨w.heap.size, 0, none⟩)) (w.alloc (.cells ((.bool false) : Value).cells 4))) ∧
  (∀ b o, Sw.opV Try.prog (Instr.loadAt 5 (.pointer (some ⟨b, o, none⟩))) QP w k = Sw.onCell (w.cell? ⟨b, o, none⟩) (fun v => k v w) (Sw.opVx Try.prog (Instr.loadAt 5 (.pointer (some ⟨b, o, none⟩))) QP w k)) ∧
  (∀ b o, Sw.opV Try.prog (Instr.loadAt 9 (.pointer (some ⟨b, o, none⟩))) QP w k = Sw.onCell (w.cell? ⟨b, o, none⟩) (fun v => k v w) (Sw.opVx Try.prog (Instr.loadAt 9 (.pointer (some ⟨b, o, none⟩))) QP w k)) ∧
  (∀ r s, Sw.opV Try.prog (Builtin.len_ #[9] r #[.string s]) QP w k = k (.int .i64 (s.size : Int)) w) ∧
  (∀ b o, Sw.opV Try.prog (Instr.loadAt 22 (.pointer (some ⟨b, o, none⟩))) QP w k = Sw.onCell (w.cell? ⟨b, o, none⟩) (fun v => k v w) (Sw.opVx Try.prog (Instr.loadAt 22 (.pointer (some ⟨b, o, none⟩))) QP w k)) ∧
  (∀ b o, Sw.opV Try.prog (Instr.loadAt 23 (.pointer (some ⟨b, o, none⟩))) QP w k = Sw.onCell (w.cell? ⟨b, o, none⟩) (fun v => k v w) (Sw.opVx Try.prog (Instr.loadAt 23 (.pointer (some ⟨b, o, none⟩))) QP w k)) ∧
  (∀ r a n c, Sw.opV Try.prog (Builtin.len_ #[23] r #[.slice a n c]) QP w k = k (.int .i64 (n : Int)) w) ∧
  (∀ b o len cap ik (i : Nat), i < len → Sw.opV Try.prog (Instr.indexAt 23 (.slice (some ⟨b, o, none⟩) len cap) (.int ik (i : Int))) QP w k = k (.pointer (some ⟨b, o + i * 2, none⟩)) w) ∧
  (∀ u, Sw.opV Try.prog (Instr.alloc 23 true u) QP w k = k (.pointer (some ⟨w.heap.size, 0, none⟩)) (w.alloc (.cells ((.slice none 0 0) : Value).cells 23))) ∧
  (∀ b o, Sw.opV Try.prog (Instr.fieldAt 25 (.pointer (some ⟨b, o, none⟩)) 0) QP w k = k (.pointer (some ⟨b, o, none⟩)) w) ∧
  (∀ b o, Sw.opV Try.prog (Instr.fieldAt 25 (.pointer (some ⟨b, o, none⟩)) 1) QP w k = k (.pointer (some ⟨b, o + 1, none⟩)) w) ∧
  (∀ b o, Sw.opV Try.prog (Instr.loadAt 25 (.pointer (some ⟨b, o, none⟩))) QP w k = Sw.onCells [w.cell? ⟨b, o, none⟩, w.cell? ⟨b, o + 1, none⟩] (fun vs => k (.agg vs.toArray) w) (Sw.opVx Try.prog (Instr.loadAt 25 (.pointer (some ⟨b, o, none⟩))) QP w k)) ∧
  (∀ b o, Sw.opV Try.prog (Instr.loadAt 26 (.pointer (some ⟨b, o, none⟩))) QP w k = Sw.onCell (w.cell? ⟨b, o, none⟩) (fun v => k v w) (Sw.opVx Try.prog (Instr.loadAt 26 (.pointer (some ⟨b, o, none⟩))) QP w k)) ∧
  (∀ r a n c, Sw.opV Try.prog (Builtin.len_ #[26] r #[.slice a n c]) QP w k = k (.int .i64 (n : Int)) w) ∧
  (∀ b o len cap ik (i : Nat), i < len → Sw.opV Try.prog (Instr.indexAt 26 (.slice (some ⟨b, o, none⟩) len cap) (.int ik (i : Int))) QP w k = k (.pointer (some ⟨b, o + i * 3, none⟩)) w) ∧
  (∀ b o, Sw.opV Try.prog (Instr.fieldAt 28 (.pointer (some ⟨b, o, none⟩)) 0) QP w k = k (.pointer (some ⟨b, o, none⟩)) w) ∧
  (∀ b o, Sw.opV Try.prog (Instr.fieldAt 28 (.pointer (some ⟨b, o, none⟩)) 1) QP w k = k (.pointer (some ⟨b, o + 1, none⟩)) w) ∧
  (∀ b o, Sw.opV Try.prog (Instr.fieldAt 28 (.pointer (some ⟨b, o, none⟩)) 2) QP w k = k (.pointer (some ⟨b, o + 2, none⟩)) w) ∧
  (∀ b o, Sw.opV Try.prog (Instr.fieldAt 28 (.pointer (some ⟨b, o, none⟩)) 3) QP w k = k (.pointer (some ⟨b, o + 3, none⟩)) w) ∧
  (∀ b o, Sw.opV Try.prog (Instr.fieldAt 28 (.pointer (some ⟨b, o, none⟩)) 4) QP w k = k (.pointer (some ⟨b, o + 4, none⟩)) w) ∧
  (∀ b o, Sw.opV Try.prog (Instr.fieldAt 28 (.pointer (some ⟨b, o, none⟩)) 5) QP w k = k (.pointer (some ⟨b, o + 5, none⟩)) w) ∧
  (∀ b o, Sw.opV Try.prog (Instr.fieldAt 28 (.pointer (some ⟨b, o, none⟩)) 6) QP w k = k (.pointer (some ⟨b, o + 6, none⟩)) w) ∧
  (∀ b o, Sw.opV Try.prog (Instr.fieldAt 28 (.pointer (some ⟨b, o, none⟩)) 7) QP w k = k (.pointer (some ⟨b, o + 7, none⟩)) w) ∧
  (∀ b o, Sw.opV Try.prog (Instr.fieldAt 28 (.pointer (some ⟨b, o, none⟩)) 8) QP w k = k (.pointer (some ⟨b, o + 9, none⟩)) w) ∧
  (∀ b o, Sw.opV Try.prog (Instr.fieldAt 28 (.pointer (some ⟨b, o, none⟩)) 9) QP w k = k (.pointer (some ⟨b, o + 10, none⟩)) w) ∧
  (∀ b o, Sw.opV Try.prog (Instr.fieldAt 28 (.pointer (some ⟨b, o, none⟩)) 10) QP w k = k (.pointer (some ⟨b, o + 11, none⟩)) w) ∧
  (∀ b o, Sw.opV Try.prog (Instr.fieldAt 28 (.pointer (some ⟨b, o, none⟩)) 11) QP w k = k (.pointer (some ⟨b, o + 12, none⟩)) w) ∧
  (∀ b o, Sw.opV Try.prog (Instr.fieldAt 28 (.pointer (some ⟨b, o, none⟩)) 12) QP w k = k (.pointer (some ⟨b, o + 13, none⟩)) w) ∧
  (∀ b o, Sw.opV Try.prog (Instr.fieldAt 28 (.pointer (some ⟨b, o, none⟩)) 13) QP w k = k (.pointer (some ⟨b, o + 14, none⟩)) w) ∧
  (∀ b o, Sw.opV Try.prog (Instr.loadAt 28 (.pointer (some ⟨b, o, none⟩))) QP w k = Sw.onCells [w.cell? ⟨b, o, none⟩, w.cell? ⟨b, o + 1, none⟩, w.cell? ⟨b, o + 2, none⟩, w.cell? ⟨b, o + 3, none⟩, w.cell? ⟨b, o + 4, none⟩, w.cell? ⟨b, o + 5, none⟩, w.cell? ⟨b, o + 6, none⟩, w.cell? ⟨b, o + 7, none⟩, w.cell? ⟨b, o + 8, none⟩, w.cell? ⟨b, o + 9, none⟩, w.cell? ⟨b, o + 10, none⟩, w.cell? ⟨b, o + 11, none⟩, w.cell? ⟨b, o + 12, none⟩, w.cell? ⟨b, o + 13, none⟩, w.cell? ⟨b, o + 14, none⟩] (fun vs => k (.agg vs.toArray) w) (Sw.opVx Try.prog (Instr.loadAt 28 (.pointer (some ⟨b, o, none⟩))) QP w k)) ∧
  (∀ u, Sw.opV Try.prog (Instr.alloc 28 true u) QP w k = k (.pointer (some ⟨w.heap.size, 0, none⟩)) (w.alloc (.cells ((.agg #[.string ByteArray.empty, .int .i64 0, .int .i64 0, .bool false, .bool false, .int .i64 0, .int .i64 0, .int .i64 0, .slice none 0 0, .string ByteArray.empty, .string ByteArray.empty, .string ByteArray.empty, .slice none 0 0, .int .i64 0, .int .i64 0]) : Value).cells 28))) ∧
  (∀ b o, Sw.opV Try.prog (Instr.fieldAt 31 (.pointer (some ⟨b, o, none⟩)) 0) QP w k = k (.pointer (some ⟨b, o, none⟩)) w) ∧
  (∀ b o, Sw.opV Try.prog (Instr.fieldAt 31 (.pointer (some ⟨b, o, none⟩)) 1) QP w k = k (.pointer (some ⟨b, o + 1, none⟩)) w) ∧
  (∀ v0 v1, Sw.opV Try.prog (Instr.field 31 (.agg #[v0, v1]) 1) QP w k = k v1 w) ∧
  (∀ b o, Sw.opV Try.prog (Instr.loadAt 31 (.pointer (some ⟨b, o, none⟩))) QP w k = Sw.onCells [w.cell? ⟨b, o, none⟩, w.cell? ⟨b, o + 1, none⟩] (fun vs => k (.agg vs.toArray) w) (Sw.opVx Try.prog (Instr.loadAt 31 (.pointer (some ⟨b, o, none⟩))) QP w k)) :=
  ⟨o0, o1, o2, o3, o4, o5, o6, o7, o8, o9, o10, o11, o12, o13, o14, o15, o16, o17, o18, o19, o20, o21, o22, o23, o24, o25, o26, o27, o28, o29, o30, o31, o32, o33, o34, o35, o36, o37, o38, o39⟩
theorem OPS1 {QP : List PanicEntry → World → Prop} {w : World} {k : Value → World → Prop} : (∀ u, Sw.opV Try.prog (Instr.alloc 31 true u) QP w k = k (.pointer (some ⟨w.heap.size, 0, none⟩)) (w.alloc (.cells ((.agg #[.int .i64 0, .int .i64 0]) : Value).cells 31))) ∧
  (∀ u, Sw.opV Try.prog (Instr.alloc 32 true u) QP w k = k (.pointer (some ⟨w.heap.size, 0, none⟩)) (w.alloc (.cells ((.int .i64 0) : Value).cells 32))) ∧
  (∀ b o, Sw.opV Try.prog (Instr.loadAt 42 (.pointer (some ⟨b, o, none⟩))) QP w k = Sw.onCell (w.cell? ⟨b, o, none⟩) (fun v => k v w) (Sw.opVx Try.prog (Instr.loadAt 42 (.pointer (some ⟨b, o, none⟩))) QP w k)) ∧
  (∀ r a n c, Sw.opV Try.prog (Builtin.len_ #[42] r #[.slice a n c]) QP w k = k (.int .i64 (n : Int)) w) ∧
  (∀ b o len cap ik (i : Nat), i < len → Sw.opV Try.prog (Instr.indexAt 42 (.slice (some ⟨b, o, none⟩) len cap) (.int ik (i : Int))) QP w k = k (.pointer (some ⟨b, o + i * 2, none⟩)) w) ∧
  (∀ b o, Sw.opV Try.prog (Instr.fieldAt 44 (.pointer (some ⟨b, o, none⟩)) 0) QP w k = k (.pointer (some ⟨b, o, none⟩)) w) ∧
  (∀ b o, Sw.opV Try.prog (Instr.fieldAt 44 (.pointer (some ⟨b, o, none⟩)) 1) QP w k = k (.pointer (some ⟨b, o + 1, none⟩)) w) ∧
  (∀ b o, Sw.opV Try.prog (Instr.fieldAt 44 (.pointer (some ⟨b, o, none⟩)) 2) QP w k = k (.pointer (some ⟨b, o + 2, none⟩)) w) ∧
  (∀ v0 v1 v2, Sw.opV Try.prog (Instr.field 44 (.agg #[v0, v1, v2]) 1) QP w k = k v1 w) ∧
  (∀ b o, Sw.opV Try.prog (Instr.loadAt 44 (.pointer (some ⟨b, o, none⟩))) QP w k = Sw.onCells [w.cell? ⟨b, o, none⟩, w.cell? ⟨b, o + 1, none⟩, w.cell? ⟨b, o + 2, none⟩] (fun vs => k (.agg vs.toArray) w) (Sw.opVx Try.prog (Instr.loadAt 44 (.pointer (some ⟨b, o, none⟩))) QP w k)) ∧
  (∀ u, Sw.opV Try.prog (Instr.alloc 44 true u) QP w k = k (.pointer (some ⟨w.heap.size, 0, none⟩)) (w.alloc (.cells ((.agg #[.string ByteArray.empty, .slice none 0 0, .string ByteArray.empty]) : Value).cells 44))) ∧
  (∀ b o, Sw.opV Try.prog (Instr.loadAt 48 (.pointer (some ⟨b, o, none⟩))) QP w k = Sw.onCell (w.cell? ⟨b, o, none⟩) (fun v => k v w) (Sw.opVx Try.prog (Instr.loadAt 48 (.pointer (some ⟨b, o, none⟩))) QP w k)) ∧
  (∀ r a n c, Sw.opV Try.prog (Builtin.len_ #[48] r #[.slice a n c]) QP w k = k (.int .i64 (n : Int)) w) ∧
  (∀ b o len cap ik (i : Nat), i < len → Sw.opV Try.prog (Instr.indexAt 48 (.slice (some ⟨b, o, none⟩) len cap) (.int ik (i : Int))) QP w k = k (.pointer (some ⟨b, o + i * 15, none⟩)) w) ∧
  (∀ b o, Sw.opV Try.prog (Instr.fieldAt 50 (.pointer (some ⟨b, o, none⟩)) 0) QP w k = k (.pointer (some ⟨b, o, none⟩)) w) ∧
  (∀ b o, Sw.opV Try.prog (Instr.fieldAt 50 (.pointer (some ⟨b, o, none⟩)) 1) QP w k = k (.pointer (some ⟨b, o + 1, none⟩)) w) ∧
  (∀ b o, Sw.opV Try.prog (Instr.loadAt 50 (.pointer (some ⟨b, o, none⟩))) QP w k = Sw.onCells [w.cell? ⟨b, o, none⟩, w.cell? ⟨b, o + 1, none⟩] (fun vs => k (.agg vs.toArray) w) (Sw.opVx Try.prog (Instr.loadAt 50 (.pointer (some ⟨b, o, none⟩))) QP w k)) ∧
  (∀ u, Sw.opV Try.prog (Instr.alloc 50 true u) QP w k = k (.pointer (some ⟨w.heap.size, 0, none⟩)) (w.alloc (.cells ((.agg #[.string ByteArray.empty, .slice none 0 0]) : Value).cells 50))) ∧
  (∀ b o, Sw.opV Try.prog (Instr.loadAt 53 (.pointer (some ⟨b, o, none⟩))) QP w k = Sw.onCell (w.cell? ⟨b, o, none⟩) (fun v => k v w) (Sw.opVx Try.prog (Instr.loadAt 53 (.pointer (some ⟨b, o, none⟩))) QP w k)) ∧
  (∀ u, Sw.opV Try.prog (Instr.alloc 53 true u) QP w k = k (.pointer (some ⟨w.heap.size, 0, none⟩)) (w.alloc (.cells ((.map none) : Value).cells 53))) ∧
  (∀ b o, Sw.opV Try.prog (Instr.fieldAt 62 (.pointer (some ⟨b, o, none⟩)) 0) QP w k = k (.pointer (some ⟨b, o, none⟩)) w) ∧
  (∀ b o, Sw.opV Try.prog (Instr.fieldAt 62 (.pointer (some ⟨b, o, none⟩)) 1) QP w k = k (.pointer (some ⟨b, o + 1, none⟩)) w) ∧
  (∀ b o, Sw.opV Try.prog (Instr.fieldAt 62 (.pointer (some ⟨b, o, none⟩)) 2) QP w k = k (.pointer (some ⟨b, o + 2, none⟩)) w) ∧
  (∀ b o, Sw.opV Try.prog (Instr.loadAt 62 (.pointer (some ⟨b, o, none⟩))) QP w k = Sw.onCells [w.cell? ⟨b, o, none⟩, w.cell? ⟨b, o + 1, none⟩, w.cell? ⟨b, o + 2, none⟩] (fun vs => k (.agg vs.toArray) w) (Sw.opVx Try.prog (Instr.loadAt 62 (.pointer (some ⟨b, o, none⟩))) QP w k)) ∧
  (∀ u, Sw.opV Try.prog (Instr.alloc 62 true u) QP w k = k (.pointer (some ⟨w.heap.size, 0, none⟩)) (w.alloc (.cells ((.agg #[.int .i64 0, .int .i64 0, .string ByteArray.empty]) : Value).cells 62))) ∧
  (∀ b o, Sw.opV Try.prog (Instr.loadAt 63 (.pointer (some ⟨b, o, none⟩))) QP w k = Sw.onCell (w.cell? ⟨b, o, none⟩) (fun v => k v w) (Sw.opVx Try.prog (Instr.loadAt 63 (.pointer (some ⟨b, o, none⟩))) QP w k)) ∧
  (∀ r a n c, Sw.opV Try.prog (Builtin.len_ #[63] r #[.slice a n c]) QP w k = k (.int .i64 (n : Int)) w) ∧
  (∀ b o len cap ik (i : Nat), i < len → Sw.opV Try.prog (Instr.indexAt 63 (.slice (some ⟨b, o, none⟩) len cap) (.int ik (i : Int))) QP w k = k (.pointer (some ⟨b, o + i * 1, none⟩)) w) ∧
  (∀ u, Sw.opV Try.prog (Instr.alloc 63 true u) QP w k = k (.pointer (some ⟨w.heap.size, 0, none⟩)) (w.alloc (.cells ((.slice none 0 0) : Value).cells 63))) ∧
  (∀ b o, Sw.opV Try.prog (Instr.fieldAt 68 (.pointer (some ⟨b, o, none⟩)) 0) QP w k = k (.pointer (some ⟨b, o, none⟩)) w) ∧
  (∀ b o, Sw.opV Try.prog (Instr.loadAt 68 (.pointer (some ⟨b, o, none⟩))) QP w k = Sw.onCells [w.cell? ⟨b, o, none⟩, w.cell? ⟨b, o + 1, none⟩, w.cell? ⟨b, o + 2, none⟩] (fun vs => k (.agg vs.toArray) w) (Sw.opVx Try.prog (Instr.loadAt 68 (.pointer (some ⟨b, o, none⟩))) QP w k)) ∧
  (∀ u, Sw.opV Try.prog (Instr.alloc 68 true u) QP w k = k (.pointer (some ⟨w.heap.size, 0, none⟩)) (w.alloc (.cells ((.agg #[.int .i64 0, .int .i64 0, .int .i64 0]) : Value).cells 68))) ∧
  (∀ b o, Sw.opV Try.prog (Instr.fieldAt 77 (.pointer (some ⟨b, o, none⟩)) 0) QP w k = k (.pointer (some ⟨b, o, none⟩)) w) ∧
  (∀ b o, Sw.opV Try.prog (Instr.fieldAt 77 (.pointer (some ⟨b, o, none⟩)) 1) QP w k = k (.pointer (some ⟨b, o + 1, none⟩)) w) ∧
  (∀ b o, Sw.opV Try.prog (Instr.loadAt 77 (.pointer (some ⟨b, o, none⟩))) QP w k = Sw.onCells [w.cell? ⟨b, o, none⟩, w.cell? ⟨b, o + 1, none⟩] (fun vs => k (.agg vs.toArray) w) (Sw.opVx Try.prog (Instr.loadAt 77 (.pointer (some ⟨b, o, none⟩))) QP w k)) ∧
  (∀ u, Sw.opV Try.prog (Instr.alloc 77 true u) QP w k = k (.pointer (some ⟨w.heap.size, 0, none⟩)) (w.alloc (.cells ((.agg #[.string ByteArray.empty, .int .i64 0]) : Value).cells 77))) ∧
  (∀ b o, Sw.opV Try.prog (Instr.loadAt 93 (.pointer (some ⟨b, o, none⟩))) QP w k = Sw.onCell (w.cell? ⟨b, o, none⟩) (fun v => k v w) (Sw.opVx Try.prog (Instr.loadAt 93 (.pointer (some ⟨b, o, none⟩))) QP w k)) ∧
  (∀ b o, Sw.opV Try.prog (Instr.loadAt 98 (.pointer (some ⟨b, o, none⟩))) QP w k = Sw.onCell (w.cell? ⟨b, o, none⟩) (fun v => k v w) (Sw.opVx Try.prog (Instr.loadAt 98 (.pointer (some ⟨b, o, none⟩))) QP w k)) ∧
  (∀ b o, Sw.opV Try.prog (Instr.loadAt 99 (.pointer (some ⟨b, o, none⟩))) QP w k = Sw.onCell (w.cell? ⟨b, o, none⟩) (fun v => k v w) (Sw.opVx Try.prog (Instr.loadAt 99 (.pointer (some ⟨b, o, none⟩))) QP w k)) ∧
  (∀ u, Sw.opV Try.prog (Instr.alloc 99 true u) QP w k = k (.pointer (some ⟨w.heap.size, 0, none⟩)) (w.alloc (.cells ((.map none) : Value).cells 99))) :=
  ⟨o40, o41, o42, o43, o44, o45, o46, o47, o48, o49, o50, o51, o52, o53, o54, o55, o56, o57, o58, o59, o60, o61, o62, o63, o64, o65, o66, o67, o68, o69, o70, o71, o72, o73, o74, o75, o76, o77, o78, o79⟩
theorem OPS2 {QP : List PanicEntry → World → Prop} {w : World} {k : Value → World → Prop} : (∀ b o, Sw.opV Try.prog (Instr.fieldAt 101 (.pointer (some ⟨b, o, none⟩)) 1) QP w k = k (.pointer (some ⟨b, o + 3, none⟩)) w) ∧
  (∀ b o, Sw.opV Try.prog (Instr.fieldAt 101 (.pointer (some ⟨b, o, none⟩)) 2) QP w k = k (.pointer (some ⟨b, o + 4, none⟩)) w) ∧
  (∀ b o, Sw.opV Try.prog (Instr.fieldAt 101 (.pointer (some ⟨b, o, none⟩)) 3) QP w k = k (.pointer (some ⟨b, o + 5, none⟩)) w) ∧
  (∀ b o, Sw.opV Try.prog (Instr.fieldAt 101 (.pointer (some ⟨b, o, none⟩)) 4) QP w k = k (.pointer (some ⟨b, o + 6, none⟩)) w) ∧
  (∀ b o, Sw.opV Try.prog (Instr.fieldAt 101 (.pointer (some ⟨b, o, none⟩)) 5) QP w k = k (.pointer (some ⟨b, o + 7, none⟩)) w) ∧
  (∀ u, Sw.opV Try.prog (Instr.alloc 116 true u) QP w k = k (.pointer (some ⟨w.heap.size, 0, none⟩)) (w.alloc (.cells ((.agg #[.string ByteArray.empty, .string ByteArray.empty, .string ByteArray.empty, .string ByteArray.empty, .int .i64 0, .int .i64 0, .int .i64 0, .int .i64 0, .int .i64 0, .int .i64 0, .int .i64 0, .bool false, .bool false]) : Value).cells 116))) ∧
  (∀ r a n c, Sw.opV Try.prog (Builtin.len_ #[121] r #[.slice a n c]) QP w k = k (.int .i64 (n : Int)) w) ∧
  (∀ b o len cap ik (i : Nat), i < len → Sw.opV Try.prog (Instr.indexAt 121 (.slice (some ⟨b, o, none⟩) len cap) (.int ik (i : Int))) QP w k = k (.pointer (some ⟨b, o + i * 1, none⟩)) w) ∧
  (∀ r a n c, Sw.opV Try.prog (Builtin.len_ #[123] r #[.slice a n c]) QP w k = k (.int .i64 (n : Int)) w) ∧
  (∀ b o len cap ik (i : Nat), i < len → Sw.opV Try.prog (Instr.indexAt 123 (.slice (some ⟨b, o, none⟩) len cap) (.int ik (i : Int))) QP w k = k (.pointer (some ⟨b, o + i * 1, none⟩)) w) ∧
  (∀ b o, Sw.opV Try.prog (Instr.loadAt 127 (.pointer (some ⟨b, o, none⟩))) QP w k = Sw.onCell (w.cell? ⟨b, o, none⟩) (fun v => k v w) (Sw.opVx Try.prog (Instr.loadAt 127 (.pointer (some ⟨b, o, none⟩))) QP w k)) ∧
  (∀ b o, Sw.opV Try.prog (Instr.loadAt 128 (.pointer (some ⟨b, o, none⟩))) QP w k = Sw.onCell (w.cell? ⟨b, o, none⟩) (fun v => k v w) (Sw.opVx Try.prog (Instr.loadAt 128 (.pointer (some ⟨b, o, none⟩))) QP w k)) ∧
  (∀ b o, Sw.opV Try.prog (Instr.fieldAt 130 (.pointer (some ⟨b, o, none⟩)) 0) QP w k = k (.pointer (some ⟨b, o, none⟩)) w) ∧
  (∀ b o, Sw.opV Try.prog (Instr.fieldAt 130 (.pointer (some ⟨b, o, none⟩)) 1) QP w k = k (.pointer (some ⟨b, o + 1, none⟩)) w) ∧
  (∀ u, Sw.opV Try.prog (Instr.alloc 130 true u) QP w k = k (.pointer (some ⟨w.heap.size, 0, none⟩)) (w.alloc (.cells ((.agg #[.nilFunc, .nilFunc]) : Value).cells 130))) ∧
  (∀ r a n c, Sw.opV Try.prog (Builtin.len_ #[137] r #[.slice a n c]) QP w k = k (.int .i64 (n : Int)) w) ∧
  (∀ b o len cap ik (i : Nat), i < len → Sw.opV Try.prog (Instr.indexAt 137 (.slice (some ⟨b, o, none⟩) len cap) (.int ik (i : Int))) QP w k = k (.pointer (some ⟨b, o + i * 1, none⟩)) w) ∧
  (∀ b o, Sw.opV Try.prog (Instr.loadAt 145 (.pointer (some ⟨b, o, none⟩))) QP w k = Sw.onCell (w.cell? ⟨b, o, none⟩) (fun v => k v w) (Sw.opVx Try.prog (Instr.loadAt 145 (.pointer (some ⟨b, o, none⟩))) QP w k)) ∧
  (Sw.opV Try.prog (Instr.build 25 #[]) QP w k = k (.agg #[.int .i64 0, .slice none 0 0]) w) ∧
  (∀ v1 : Value, v1.oneCell' = true → Sw.opV Try.prog (Instr.build 25 #[(1, v1)]) QP w k = k (.agg #[.int .i64 0, v1]) w) ∧
  (∀ v0 v1 : Value, v0.oneCell' = true → v1.oneCell' = true → Sw.opV Try.prog (Instr.build 28 #[(0, v0), (1, v1)]) QP w k = k (.agg #[v0, v1, .int .i64 0, .bool false, .bool false, .int .i64 0, .int .i64 0, .int .i64 0, .slice none 0 0, .string ByteArray.empty, .string ByteArray.empty, .string ByteArray.empty, .slice none 0 0, .int .i64 0, .int .i64 0]) w) ∧
  (∀ v0 v1 v2 v6 : Value, v0.oneCell' = true → v1.oneCell' = true → v2.oneCell' = true → v6.oneCell' = true → Sw.opV Try.prog (Instr.build 28 #[(0, v0), (1, v1), (2, v2), (6, v6)]) QP w k = k (.agg #[v0, v1, v2, .bool false, .bool false, .int .i64 0, v6, .int .i64 0, .slice none 0 0, .string ByteArray.empty, .string ByteArray.empty, .string ByteArray.empty, .slice none 0 0, .int .i64 0, .int .i64 0]) w) ∧
  (∀ v0 v1 v7_0 v7_1 : Value, v0.oneCell' = true → v1.oneCell' = true → Sw.opV Try.prog (Instr.build 28 #[(0, v0), (1, v1), (7, (.agg #[v7_0, v7_1]))]) QP w k = k (.agg #[v0, v1, .int .i64 0, .bool false, .bool false, .int .i64 0, .int .i64 0, v7_0, v7_1, .string ByteArray.empty, .string ByteArray.empty, .string ByteArray.empty, .slice none 0 0, .int .i64 0, .int .i64 0]) w) ∧
  (∀ v0 v1 v8 : Value, v0.oneCell' = true → v1.oneCell' = true → v8.oneCell' = true → Sw.opV Try.prog (Instr.build 28 #[(0, v0), (1, v1), (8, v8)]) QP w k = k (.agg #[v0, v1, .int .i64 0, .bool false, .bool false, .int .i64 0, .int .i64 0, .int .i64 0, .slice none 0 0, v8, .string ByteArray.empty, .string ByteArray.empty, .slice none 0 0, .int .i64 0, .int .i64 0]) w) ∧
  (∀ v1 : Value, v1.oneCell' = true → Sw.opV Try.prog (Instr.build 28 #[(1, v1)]) QP w k = k (.agg #[.string ByteArray.empty, v1, .int .i64 0, .bool false, .bool false, .int .i64 0, .int .i64 0, .int .i64 0, .slice none 0 0, .string ByteArray.empty, .string ByteArray.empty, .string ByteArray.empty, .slice none 0 0, .int .i64 0, .int .i64 0]) w) ∧
  (Sw.opV Try.prog (Instr.build 31 #[]) QP w k = k (.agg #[.int .i64 0, .int .i64 0]) w) ∧
  (∀ v0 v1 : Value, v0.oneCell' = true → v1.oneCell' = true → Sw.opV Try.prog (Instr.build 31 #[(0, v0), (1, v1)]) QP w k = k (.agg #[v0, v1]) w) ∧
  (∀ v1 : Value, v1.oneCell' = true → Sw.opV Try.prog (Instr.build 31 #[(1, v1)]) QP w k = k (.agg #[.int .i64 0, v1]) w) ∧
  (∀ v0 v2 v1 : Value, v0.oneCell' = true → v2.oneCell' = true → v1.oneCell' = true → Sw.opV Try.prog (Instr.build 44 #[(0, v0), (2, v2), (1, v1)]) QP w k = k (.agg #[v0, v1, v2]) w) ∧
  (∀ v1 : Value, v1.oneCell' = true → Sw.opV Try.prog (Instr.build 44 #[(1, v1)]) QP w k = k (.agg #[.string ByteArray.empty, v1, .string ByteArray.empty]) w) ∧
  (∀ v0 v1 : Value, v0.oneCell' = true → v1.oneCell' = true → Sw.opV Try.prog (Instr.build 50 #[(0, v0), (1, v1)]) QP w k = k (.agg #[v0, v1]) w) ∧
  (∀ v1 : Value, v1.oneCell' = true → Sw.opV Try.prog (Instr.build 50 #[(1, v1)]) QP w k = k (.agg #[.string ByteArray.empty, v1]) w) ∧
  (Sw.opV Try.prog (Instr.build 68 #[]) QP w k = k (.agg #[.int .i64 0, .int .i64 0, .int .i64 0]) w) ∧
  (∀ v0 v1 v2 : Value, v0.oneCell' = true → v1.oneCell' = true → v2.oneCell' = true → Sw.opV Try.prog (Instr.build 68 #[(0, v0), (1, v1), (2, v2)]) QP w k = k (.agg #[v0, v1, v2]) w) ∧
  (∀ v0 v1 : Value, v0.oneCell' = true → v1.oneCell' = true → Sw.opV Try.prog (Instr.build 77 #[(0, v0), (1, v1)]) QP w k = k (.agg #[v0, v1]) w) ∧
  (∀ v0_0 v0_1 v0_2 v1 v2 v3 v4 : Value, v1.oneCell' = true → v2.oneCell' = true → v3.oneCell' = true → v4.oneCell' = true → Sw.opV Try.prog (Instr.build 101 #[(0, (.agg #[v0_0, v0_1, v0_2])), (1, v1), (2, v2), (3, v3), (4, v4)]) QP w k = k (.agg #[v0_0, v0_1, v0_2, v1, v2, v3, v4, .string ByteArray.empty, .slice none 0 0]) w) ∧
  (∀ v0 v1 v2 v3 v4 v5 v6 v7 v8 v9 v10 v11 v12 : Value, v0.oneCell' = true → v1.oneCell' = true → v2.oneCell' = true → v3.oneCell' = true → v4.oneCell' = true → v5.oneCell' = true → v6.oneCell' = true → v7.oneCell' = true → v8.oneCell' = true → v9.oneCell' = true → v10.oneCell' = true → v11.oneCell' = true → v12.oneCell' = true → Sw.opV Try.prog (Instr.build 116 #[(0, v0), (1, v1), (2, v2), (3, v3), (4, v4), (5, v5), (6, v6), (7, v7), (8, v8), (9, v9), (10, v10), (11, v11), (12, v12)]) QP w k = k (.agg #[v0, v1, v2, v3, v4, v5, v6, v7, v8, v9, v10, v11, v12]) w) ∧
  (∀ v0 v1 : Value, v0.oneCell' = true → v1.oneCell' = true → Sw.opV Try.prog (Instr.build 130 #[(0, v0), (1, v1)]) QP w k = k (.agg #[v0, v1]) w) ∧
  (Sw.opV Try.prog (Instr.buildSlice 23 0 #[]) QP w k = k (.slice (some ⟨w.heap.size, 0, none⟩) 0 0) (w.alloc (.cells #[] 77))) ∧
  (∀ v0_0 v0_1 : Value, Sw.opV Try.prog (Instr.buildSlice 23 1 #[(0, (.agg #[v0_0, v0_1]))]) QP w k = k (.slice (some ⟨w.heap.size, 0, none⟩) 1 1) (w.alloc (.cells #[v0_0, v0_1] 77))) :=
  ⟨o80, o81, o82, o83, o84, o85, o86, o87, o88, o89, o90, o91, o92, o93, o94, o95, o96, o97, o98, o99, o100, o101, o102, o103, o104, o105, o106, o107, o108, o109, o110, o111, o112, o113, o114, o115, o116, o117, o118, o119⟩
theorem OPS3 {QP : List PanicEntry → World → Prop} {w : World} {k : Value → World → Prop} : (Sw.opV Try.prog (Instr.buildSlice 26 0 #[]) QP w k = k (.slice (some ⟨w.heap.size, 0, none⟩) 0 0) (w.alloc (.cells #[] 62))) ∧
  (Sw.opV Try.prog (Instr.buildSlice 42 0 #[]) QP w k = k (.slice (some ⟨w.heap.size, 0, none⟩) 0 0) (w.alloc (.cells #[] 50))) ∧
  (∀ v0_0 v0_1 : Value, Sw.opV Try.prog (Instr.buildSlice 42 1 #[(0, (.agg #[v0_0, v0_1]))]) QP w k = k (.slice (some ⟨w.heap.size, 0, none⟩) 1 1) (w.alloc (.cells #[v0_0, v0_1] 50))) ∧
  (Sw.opV Try.prog (Instr.buildSlice 48 0 #[]) QP w k = k (.slice (some ⟨w.heap.size, 0, none⟩) 0 0) (w.alloc (.cells #[] 28))) ∧
  (∀ v0_0 v0_1 v0_2 v0_3 v0_4 v0_5 v0_6 v0_7 v0_8 v0_9 v0_10 v0_11 v0_12 v0_13 v0_14 : Value, Sw.opV Try.prog (Instr.buildSlice 48 1 #[(0, (.agg #[v0_0, v0_1, v0_2, v0_3, v0_4, v0_5, v0_6, v0_7, v0_8, v0_9, v0_10, v0_11, v0_12, v0_13, v0_14]))]) QP w k = k (.slice (some ⟨w.heap.size, 0, none⟩) 1 1) (w.alloc (.cells #[v0_0, v0_1, v0_2, v0_3, v0_4, v0_5, v0_6, v0_7, v0_8, v0_9, v0_10, v0_11, v0_12, v0_13, v0_14] 28))) ∧
  (∀ v0_0 v0_1 v0_2 v0_3 v0_4 v0_5 v0_6 v0_7 v0_8 v0_9 v0_10 v0_11 v0_12 v0_13 v0_14 v1_0 v1_1 v1_2 v1_3 v1_4 v1_5 v1_6 v1_7 v1_8 v1_9 v1_10 v1_11 v1_12 v1_13 v1_14 : Value, Sw.opV Try.prog (Instr.buildSlice 48 2 #[(0, (.agg #[v0_0, v0_1, v0_2, v0_3, v0_4, v0_5, v0_6, v0_7, v0_8, v0_9, v0_10, v0_11, v0_12, v0_13, v0_14])), (1, (.agg #[v1_0, v1_1, v1_2, v1_3, v1_4, v1_5, v1_6, v1_7, v1_8, v1_9, v1_10, v1_11, v1_12, v1_13, v1_14]))]) QP w k = k (.slice (some ⟨w.heap.size, 0, none⟩) 2 2) (w.alloc (.cells #[v0_0, v0_1, v0_2, v0_3, v0_4, v0_5, v0_6, v0_7, v0_8, v0_9, v0_10, v0_11, v0_12, v0_13, v0_14, v1_0, v1_1, v1_2, v1_3, v1_4, v1_5, v1_6, v1_7, v1_8, v1_9, v1_10, v1_11, v1_12, v1_13, v1_14] 28))) ∧
  (∀ v0 : Value, v0.oneCell' = true → Sw.opV Try.prog (Instr.buildSlice 63 1 #[(0, v0)]) QP w k = k (.slice (some ⟨w.heap.size, 0, none⟩) 1 1) (w.alloc (.cells #[v0] 9))) ∧
  (∀ v0 v1 : Value, v0.oneCell' = true → v1.oneCell' = true → Sw.opV Try.prog (Instr.buildSlice 123 2 #[(0, v0), (1, v1)]) QP w k = k (.slice (some ⟨w.heap.size, 0, none⟩) 2 2) (w.alloc (.cells #[v0, v1] 4))) ∧
  (∀ v0 v1 v2 : Value, v0.oneCell' = true → v1.oneCell' = true → v2.oneCell' = true → Sw.opV Try.prog (Instr.buildSlice 123 3 #[(0, v0), (1, v1), (2, v2)]) QP w k = k (.slice (some ⟨w.heap.size, 0, none⟩) 3 3) (w.alloc (.cells #[v0, v1, v2] 4))) ∧
  (∀ v0 : Value, v0.oneCell' = true → Sw.opV Try.prog (Instr.buildSlice 137 1 #[(0, v0)]) QP w k = k (.slice (some ⟨w.heap.size, 0, none⟩) 1 1) (w.alloc (.cells #[v0] 3))) ∧
  (∀ v0 v1 : Value, v0.oneCell' = true → v1.oneCell' = true → Sw.opV Try.prog (Instr.buildSlice 137 2 #[(0, v0), (1, v1)]) QP w k = k (.slice (some ⟨w.heap.size, 0, none⟩) 2 2) (w.alloc (.cells #[v0, v1] 3))) ∧
  (∀ q n, Sw.opV Try.prog (Go.convert 5 3 (.int q n)) QP w k = k (.int .i64 (IntKind.i64.wrap n)) w) ∧
  (∀ v, Sw.opV Try.prog (Instr.makeInterface 68 v) QP w k = k (.iface 68 v) w) ∧
  (∀ v, Sw.opV Try.prog (Instr.typeAssert (.iface 68 v) 20 68 true) QP w k = k (.tuple #[v, .bool true]) w) ∧
  (∀ d v, Sw.opV Try.prog (Sw.binS .neq 20 true (.iface d v) .nilIface) QP w k = k (.bool true) w) ∧
  (Sw.opV Try.prog (Sw.binS .neq 20 true .nilIface .nilIface) QP w k = k (.bool false) w) ∧
  (∀ c A n m, Sw.opV Try.prog (Sw.binS .eql 23 c (.slice A n m) (.slice none 0 0)) QP w k = k (.bool A.isNone) w) ∧
  (∀ c A n m, Sw.opV Try.prog (Sw.binS .eql 26 c (.slice A n m) (.slice none 0 0)) QP w k = k (.bool A.isNone) w) ∧
  (∀ c (a0 b0 : Int) (a1 b1 : Int), Sw.opV Try.prog (Sw.binS .eql 31 c (.agg #[.int .i64 a0, .int .i64 a1]) (.agg #[.int .i64 b0, .int .i64 b1])) QP w k = k (.bool (decide (a0 = b0) && (decide (a1 = b1) && true))) w) ∧
  (∀ c (a0 b0 : Int) (a1 b1 : Int), Sw.opV Try.prog (Sw.binS .neq 31 c (.agg #[.int .i64 a0, .int .i64 a1]) (.agg #[.int .i64 b0, .int .i64 b1])) QP w k = k (.bool (!(decide (a0 = b0) && (decide (a1 = b1) && true)))) w) ∧
  (∀ c A n m, Sw.opV Try.prog (Sw.binS .eql 42 c (.slice A n m) (.slice none 0 0)) QP w k = k (.bool A.isNone) w) ∧
  (∀ c A n m, Sw.opV Try.prog (Sw.binS .eql 48 c (.slice A n m) (.slice none 0 0)) QP w k = k (.bool A.isNone) w) ∧
  (∀ c f x y, Sw.opV Try.prog (Sw.binS .neq 59 c (.func f x y) .nilFunc) QP w k = k (.bool true) w) ∧
  (∀ c f x y, Sw.opV Try.prog (Sw.binS .eql 59 c (.func f x y) .nilFunc) QP w k = k (.bool false) w) ∧
  (∀ c (a0 b0 : Int) (a1 b1 : Int) (a2 b2 : ByteArray), Sw.opV Try.prog (Sw.binS .eql 62 c (.agg #[.int .i64 a0, .int .i64 a1, .string a2]) (.agg #[.int .i64 b0, .int .i64 b1, .string b2])) QP w k = k (.bool (decide (a0 = b0) && (decide (a1 = b1) && (decide (a2 = b2) && true)))) w) ∧
  (∀ c (a0 b0 : Int) (a1 b1 : Int) (a2 b2 : ByteArray), Sw.opV Try.prog (Sw.binS .neq 62 c (.agg #[.int .i64 a0, .int .i64 a1, .string a2]) (.agg #[.int .i64 b0, .int .i64 b1, .string b2])) QP w k = k (.bool (!(decide (a0 = b0) && (decide (a1 = b1) && (decide (a2 = b2) && true))))) w) ∧
  (∀ c (a0 b0 : Int) (a1 b1 : Int) (a2 b2 : Int), Sw.opV Try.prog (Sw.binS .eql 68 c (.agg #[.int .i64 a0, .int .i64 a1, .int .i64 a2]) (.agg #[.int .i64 b0, .int .i64 b1, .int .i64 b2])) QP w k = k (.bool (decide (a0 = b0) && (decide (a1 = b1) && (decide (a2 = b2) && true)))) w) ∧
  (∀ c (a0 b0 : Int) (a1 b1 : Int) (a2 b2 : Int), Sw.opV Try.prog (Sw.binS .neq 68 c (.agg #[.int .i64 a0, .int .i64 a1, .int .i64 a2]) (.agg #[.int .i64 b0, .int .i64 b1, .int .i64 b2])) QP w k = k (.bool (!(decide (a0 = b0) && (decide (a1 = b1) && (decide (a2 = b2) && true))))) w) ∧
  (∀ c (a0 b0 : ByteArray) (a1 b1 : Int), Sw.opV Try.prog (Sw.binS .eql 77 c (.agg #[.string a0, .int .i64 a1]) (.agg #[.string b0, .int .i64 b1])) QP w k = k (.bool (decide (a0 = b0) && (decide (a1 = b1) && true))) w) ∧
  (∀ c (a0 b0 : ByteArray) (a1 b1 : Int), Sw.opV Try.prog (Sw.binS .neq 77 c (.agg #[.string a0, .int .i64 a1]) (.agg #[.string b0, .int .i64 b1])) QP w k = k (.bool (!(decide (a0 = b0) && (decide (a1 = b1) && true)))) w) ∧
  (∀ c (a0 b0 : ByteArray) (a1 b1 : ByteArray) (a2 b2 : ByteArray) (a3 b3 : ByteArray) (a4 b4 : Int) (a5 b5 : Int) (a6 b6 : Int) (a7 b7 : Int) (a8 b8 : Int) (a9 b9 : Int) (a10 b10 : Int) (a11 b11 : Bool) (a12 b12 : Bool), Sw.opV Try.prog (Sw.binS .eql 116 c (.agg #[.string a0, .string a1, .string a2, .string a3, .int .i64 a4, .int .i64 a5, .int .i64 a6, .int .i64 a7, .int .i64 a8, .int .i64 a9, .int .i64 a10, .bool a11, .bool a12]) (.agg #[.string b0, .string b1, .string b2, .string b3, .int .i64 b4, .int .i64 b5, .int .i64 b6, .int .i64 b7, .int .i64 b8, .int .i64 b9, .int .i64 b10, .bool b11, .bool b12])) QP w k = k (.bool (decide (a0 = b0) && (decide (a1 = b1) && (decide (a2 = b2) && (decide (a3 = b3) && (decide (a4 = b4) && (decide (a5 = b5) && (decide (a6 = b6) && (decide (a7 = b7) && (decide (a8 = b8) && (decide (a9 = b9) && (decide (a10 = b10) && (decide (a11 = b11) && (decide (a12 = b12) && true)))))))))))))) w) ∧
  (∀ c (a0 b0 : ByteArray) (a1 b1 : ByteArray) (a2 b2 : ByteArray) (a3 b3 : ByteArray) (a4 b4 : Int) (a5 b5 : Int) (a6 b6 : Int) (a7 b7 : Int) (a8 b8 : Int) (a9 b9 : Int) (a10 b10 : Int) (a11 b11 : Bool) (a12 b12 : Bool), Sw.opV Try.prog (Sw.binS .neq 116 c (.agg #[.string a0, .string a1, .string a2, .string a3, .int .i64 a4, .int .i64 a5, .int .i64 a6, .int .i64 a7, .int .i64 a8, .int .i64 a9, .int .i64 a10, .bool a11, .bool a12]) (.agg #[.string b0, .string b1, .string b2, .string b3, .int .i64 b4, .int .i64 b5, .int .i64 b6, .int .i64 b7, .int .i64 b8, .int .i64 b9, .int .i64 b10, .bool b11, .bool b12])) QP w k = k (.bool (!(decide (a0 = b0) && (decide (a1 = b1) && (decide (a2 = b2) && (decide (a3 = b3) && (decide (a4 = b4) && (decide (a5 = b5) && (decide (a6 = b6) && (decide (a7 = b7) && (decide (a8 = b8) && (decide (a9 = b9) && (decide (a10 = b10) && (decide (a11 = b11) && (decide (a12 = b12) && true))))))))))))))) w) :=
  ⟨o120, o121, o122, o123, o124, o125, o126, o127, o128, o129, o130, o131, o132, o133, o134, o135, o136, o137, o138, o139, o140, o141, o142, o143, o144, o145, o146, o147, o148, o149, o150, o151⟩
theorem OPU0 {QP : List PanicEntry → World → Prop} {w : World} {ku : World → Prop} : (∀ b o v, v.oneCell' = true → Sw.opU Try.prog (Instr.storeAt 3 (.pointer (some ⟨b, o, none⟩)) v) QP w ku = Sw.onCell (w.cell? ⟨b, o, none⟩) (fun _ => Sw.onBool (w.frozen? ⟨b, o, none⟩) (Sw.opUx Try.prog (Instr.storeAt 3 (.pointer (some ⟨b, o, none⟩)) v) QP w ku) (ku (w.setCell ⟨b, o, none⟩ v))) (Sw.opUx Try.prog (Instr.storeAt 3 (.pointer (some ⟨b, o, none⟩)) v) QP w ku)) ∧
  (∀ b o v, v.oneCell' = true → Sw.opU Try.prog (Instr.storeAt 4 (.pointer (some ⟨b, o, none⟩)) v) QP w ku = Sw.onCell (w.cell? ⟨b, o, none⟩) (fun _ => Sw.onBool (w.frozen? ⟨b, o, none⟩) (Sw.opUx Try.prog (Instr.storeAt 4 (.pointer (some ⟨b, o, none⟩)) v) QP w ku) (ku (w.setCell ⟨b, o, none⟩ v))) (Sw.opUx Try.prog (Instr.storeAt 4 (.pointer (some ⟨b, o, none⟩)) v) QP w ku)) ∧
  (∀ b o v, v.oneCell' = true → Sw.opU Try.prog (Instr.storeAt 9 (.pointer (some ⟨b, o, none⟩)) v) QP w ku = Sw.onCell (w.cell? ⟨b, o, none⟩) (fun _ => Sw.onBool (w.frozen? ⟨b, o, none⟩) (Sw.opUx Try.prog (Instr.storeAt 9 (.pointer (some ⟨b, o, none⟩)) v) QP w ku) (ku (w.setCell ⟨b, o, none⟩ v))) (Sw.opUx Try.prog (Instr.storeAt 9 (.pointer (some ⟨b, o, none⟩)) v) QP w ku)) ∧
  (∀ b o v, v.oneCell' = true → Sw.opU Try.prog (Instr.storeAt 23 (.pointer (some ⟨b, o, none⟩)) v) QP w ku = Sw.onCell (w.cell? ⟨b, o, none⟩) (fun _ => Sw.onBool (w.frozen? ⟨b, o, none⟩) (Sw.opUx Try.prog (Instr.storeAt 23 (.pointer (some ⟨b, o, none⟩)) v) QP w ku) (ku (w.setCell ⟨b, o, none⟩ v))) (Sw.opUx Try.prog (Instr.storeAt 23 (.pointer (some ⟨b, o, none⟩)) v) QP w ku)) ∧
  (∀ (b : Nat) (T' : TypeId) u0 u1 v0 v1, b = w.heap.size → v0.oneCell' = true → v1.oneCell' = true → Sw.opU Try.prog (Instr.storeAt 25 (.pointer (some ⟨b, 0, none⟩)) (.agg #[v0, v1])) QP (w.alloc (.cells #[u0, u1] T')) ku = ku (w.alloc (.cells #[v0, v1] T'))) ∧
  (∀ b o v, v.oneCell' = true → Sw.opU Try.prog (Instr.storeAt 26 (.pointer (some ⟨b, o, none⟩)) v) QP w ku = Sw.onCell (w.cell? ⟨b, o, none⟩) (fun _ => Sw.onBool (w.frozen? ⟨b, o, none⟩) (Sw.opUx Try.prog (Instr.storeAt 26 (.pointer (some ⟨b, o, none⟩)) v) QP w ku) (ku (w.setCell ⟨b, o, none⟩ v))) (Sw.opUx Try.prog (Instr.storeAt 26 (.pointer (some ⟨b, o, none⟩)) v) QP w ku)) ∧
  (∀ (b : Nat) (T' : TypeId) u0 u1 u2 u3 u4 u5 u6 u7 u8 u9 u10 u11 u12 u13 u14 v0 v1 v2 v3 v4 v5 v6 v7 v8 v9 v10 v11 v12 v13 v14, b = w.heap.size → v0.oneCell' = true → v1.oneCell' = true → v2.oneCell' = true → v3.oneCell' = true → v4.oneCell' = true → v5.oneCell' = true → v6.oneCell' = true → v7.oneCell' = true → v8.oneCell' = true → v9.oneCell' = true → v10.oneCell' = true → v11.oneCell' = true → v12.oneCell' = true → v13.oneCell' = true → v14.oneCell' = true → Sw.opU Try.prog (Instr.storeAt 28 (.pointer (some ⟨b, 0, none⟩)) (.agg #[v0, v1, v2, v3, v4, v5, v6, v7, v8, v9, v10, v11, v12, v13, v14])) QP (w.alloc (.cells #[u0, u1, u2, u3, u4, u5, u6, u7, u8, u9, u10, u11, u12, u13, u14] T')) ku = ku (w.alloc (.cells #[v0, v1, v2, v3, v4, v5, v6, v7, v8, v9, v10, v11, v12, v13, v14] T'))) ∧
  (∀ (b : Nat) (T' : TypeId) u0 u1 v0 v1, b = w.heap.size → v0.oneCell' = true → v1.oneCell' = true → Sw.opU Try.prog (Instr.storeAt 31 (.pointer (some ⟨b, 0, none⟩)) (.agg #[v0, v1])) QP (w.alloc (.cells #[u0, u1] T')) ku = ku (w.alloc (.cells #[v0, v1] T'))) ∧
  (∀ b o v, v.oneCell' = true → Sw.opU Try.prog (Instr.storeAt 32 (.pointer (some ⟨b, o, none⟩)) v) QP w ku = Sw.onCell (w.cell? ⟨b, o, none⟩) (fun _ => Sw.onBool (w.frozen? ⟨b, o, none⟩) (Sw.opUx Try.prog (Instr.storeAt 32 (.pointer (some ⟨b, o, none⟩)) v) QP w ku) (ku (w.setCell ⟨b, o, none⟩ v))) (Sw.opUx Try.prog (Instr.storeAt 32 (.pointer (some ⟨b, o, none⟩)) v) QP w ku)) ∧
  (∀ b o v, v.oneCell' = true → Sw.opU Try.prog (Instr.storeAt 42 (.pointer (some ⟨b, o, none⟩)) v) QP w ku = Sw.onCell (w.cell? ⟨b, o, none⟩) (fun _ => Sw.onBool (w.frozen? ⟨b, o, none⟩) (Sw.opUx Try.prog (Instr.storeAt 42 (.pointer (some ⟨b, o, none⟩)) v) QP w ku) (ku (w.setCell ⟨b, o, none⟩ v))) (Sw.opUx Try.prog (Instr.storeAt 42 (.pointer (some ⟨b, o, none⟩)) v) QP w ku)) ∧
  (∀ (b : Nat) (T' : TypeId) u0 u1 u2 v0 v1 v2, b = w.heap.size → v0.oneCell' = true → v1.oneCell' = true → v2.oneCell' = true → Sw.opU Try.prog (Instr.storeAt 44 (.pointer (some ⟨b, 0, none⟩)) (.agg #[v0, v1, v2])) QP (w.alloc (.cells #[u0, u1, u2] T')) ku = ku (w.alloc (.cells #[v0, v1, v2] T'))) ∧
  (∀ b o v, v.oneCell' = true → Sw.opU Try.prog (Instr.storeAt 48 (.pointer (some ⟨b, o, none⟩)) v) QP w ku = Sw.onCell (w.cell? ⟨b, o, none⟩) (fun _ => Sw.onBool (w.frozen? ⟨b, o, none⟩) (Sw.opUx Try.prog (Instr.storeAt 48 (.pointer (some ⟨b, o, none⟩)) v) QP w ku) (ku (w.setCell ⟨b, o, none⟩ v))) (Sw.opUx Try.prog (Instr.storeAt 48 (.pointer (some ⟨b, o, none⟩)) v) QP w ku)) ∧
  (∀ (b : Nat) (T' : TypeId) u0 u1 v0 v1, b = w.heap.size → v0.oneCell' = true → v1.oneCell' = true → Sw.opU Try.prog (Instr.storeAt 50 (.pointer (some ⟨b, 0, none⟩)) (.agg #[v0, v1])) QP (w.alloc (.cells #[u0, u1] T')) ku = ku (w.alloc (.cells #[v0, v1] T'))) ∧
  (∀ b o v, v.oneCell' = true → Sw.opU Try.prog (Instr.storeAt 53 (.pointer (some ⟨b, o, none⟩)) v) QP w ku = Sw.onCell (w.cell? ⟨b, o, none⟩) (fun _ => Sw.onBool (w.frozen? ⟨b, o, none⟩) (Sw.opUx Try.prog (Instr.storeAt 53 (.pointer (some ⟨b, o, none⟩)) v) QP w ku) (ku (w.setCell ⟨b, o, none⟩ v))) (Sw.opUx Try.prog (Instr.storeAt 53 (.pointer (some ⟨b, o, none⟩)) v) QP w ku)) ∧
  (∀ (b : Nat) (T' : TypeId) u0 u1 u2 v0 v1 v2, b = w.heap.size → v0.oneCell' = true → v1.oneCell' = true → v2.oneCell' = true → Sw.opU Try.prog (Instr.storeAt 62 (.pointer (some ⟨b, 0, none⟩)) (.agg #[v0, v1, v2])) QP (w.alloc (.cells #[u0, u1, u2] T')) ku = ku (w.alloc (.cells #[v0, v1, v2] T'))) ∧
  (∀ b o v, v.oneCell' = true → Sw.opU Try.prog (Instr.storeAt 63 (.pointer (some ⟨b, o, none⟩)) v) QP w ku = Sw.onCell (w.cell? ⟨b, o, none⟩) (fun _ => Sw.onBool (w.frozen? ⟨b, o, none⟩) (Sw.opUx Try.prog (Instr.storeAt 63 (.pointer (some ⟨b, o, none⟩)) v) QP w ku) (ku (w.setCell ⟨b, o, none⟩ v))) (Sw.opUx Try.prog (Instr.storeAt 63 (.pointer (some ⟨b, o, none⟩)) v) QP w ku)) ∧
  (∀ (b : Nat) (T' : TypeId) u0 u1 u2 v0 v1 v2, b = w.heap.size → v0.oneCell' = true → v1.oneCell' = true → v2.oneCell' = true → Sw.opU Try.prog (Instr.storeAt 68 (.pointer (some ⟨b, 0, none⟩)) (.agg #[v0, v1, v2])) QP (w.alloc (.cells #[u0, u1, u2] T')) ku = ku (w.alloc (.cells #[v0, v1, v2] T'))) ∧
  (∀ (b : Nat) (T' : TypeId) u0 u1 v0 v1, b = w.heap.size → v0.oneCell' = true → v1.oneCell' = true → Sw.opU Try.prog (Instr.storeAt 77 (.pointer (some ⟨b, 0, none⟩)) (.agg #[v0, v1])) QP (w.alloc (.cells #[u0, u1] T')) ku = ku (w.alloc (.cells #[v0, v1] T'))) ∧
  (∀ b o v, v.oneCell' = true → Sw.opU Try.prog (Instr.storeAt 99 (.pointer (some ⟨b, o, none⟩)) v) QP w ku = Sw.onCell (w.cell? ⟨b, o, none⟩) (fun _ => Sw.onBool (w.frozen? ⟨b, o, none⟩) (Sw.opUx Try.prog (Instr.storeAt 99 (.pointer (some ⟨b, o, none⟩)) v) QP w ku) (ku (w.setCell ⟨b, o, none⟩ v))) (Sw.opUx Try.prog (Instr.storeAt 99 (.pointer (some ⟨b, o, none⟩)) v) QP w ku)) ∧
  (∀ (b : Nat) (T' : TypeId) u0 u1 u2 u3 u4 u5 u6 u7 u8 u9 u10 u11 u12 v0 v1 v2 v3 v4 v5 v6 v7 v8 v9 v10 v11 v12, b = w.heap.size → v0.oneCell' = true → v1.oneCell' = true → v2.oneCell' = true → v3.oneCell' = true → v4.oneCell' = true → v5.oneCell' = true → v6.oneCell' = true → v7.oneCell' = true → v8.oneCell' = true → v9.oneCell' = true → v10.oneCell' = true → v11.oneCell' = true → v12.oneCell' = true → Sw.opU Try.prog (Instr.storeAt 116 (.pointer (some ⟨b, 0, none⟩)) (.agg #[v0, v1, v2, v3, v4, v5, v6, v7, v8, v9, v10, v11, v12])) QP (w.alloc (.cells #[u0, u1, u2, u3, u4, u5, u6, u7, u8, u9, u10, u11, u12] T')) ku = ku (w.alloc (.cells #[v0, v1, v2, v3, v4, v5, v6, v7, v8, v9, v10, v11, v12] T'))) ∧
  (∀ (b : Nat) (T' : TypeId) u0 u1 v0 v1, b = w.heap.size → v0.oneCell' = true → v1.oneCell' = true → Sw.opU Try.prog (Instr.storeAt 130 (.pointer (some ⟨b, 0, none⟩)) (.agg #[v0, v1])) QP (w.alloc (.cells #[u0, u1] T')) ku = ku (w.alloc (.cells #[v0, v1] T'))) :=
  ⟨(Sw.op_storeC ty3), (Sw.op_storeC ty4), (Sw.op_storeC ty9), (Sw.op_storeC ty23), (by intro b T' u0 u1 v0 v1 hb h0 h1; exact Sw.op_storeN ty25 b hb _ T' _ rfl rfl (by intro v hv; simp only [List.mem_cons, List.not_mem_nil, or_false] at hv; rcases hv with rfl | rfl <;> assumption)), (Sw.op_storeC ty26), (by intro b T' u0 u1 u2 u3 u4 u5 u6 u7 u8 u9 u10 u11 u12 u13 u14 v0 v1 v2 v3 v4 v5 v6 v7 v8 v9 v10 v11 v12 v13 v14 hb h0 h1 h2 h3 h4 h5 h6 h7 h8 h9 h10 h11 h12 h13 h14; exact Sw.op_storeN ty28 b hb _ T' _ rfl rfl (by intro v hv; simp only [List.mem_cons, List.not_mem_nil, or_false] at hv; rcases hv with rfl | rfl | rfl | rfl | rfl | rfl | rfl | rfl | rfl | rfl | rfl | rfl | rfl | rfl | rfl <;> assumption)), (by intro b T' u0 u1 v0 v1 hb h0 h1; exact Sw.op_storeN ty31 b hb _ T' _ rfl rfl (by intro v hv; simp only [List.mem_cons, List.not_mem_nil, or_false] at hv; rcases hv with rfl | rfl <;> assumption)), (Sw.op_storeC ty32), (Sw.op_storeC ty42), (by intro b T' u0 u1 u2 v0 v1 v2 hb h0 h1 h2; exact Sw.op_storeN ty44 b hb _ T' _ rfl rfl (by intro v hv; simp only [List.mem_cons, List.not_mem_nil, or_false] at hv; rcases hv with rfl | rfl | rfl <;> assumption)), (Sw.op_storeC ty48), (by intro b T' u0 u1 v0 v1 hb h0 h1; exact Sw.op_storeN ty50 b hb _ T' _ rfl rfl (by intro v hv; simp only [List.mem_cons, List.not_mem_nil, or_false] at hv; rcases hv with rfl | rfl <;> assumption)), (Sw.op_storeC ty53), (by intro b T' u0 u1 u2 v0 v1 v2 hb h0 h1 h2; exact Sw.op_storeN ty62 b hb _ T' _ rfl rfl (by intro v hv; simp only [List.mem_cons, List.not_mem_nil, or_false] at hv; rcases hv with rfl | rfl | rfl <;> assumption)), (Sw.op_storeC ty63), (by intro b T' u0 u1 u2 v0 v1 v2 hb h0 h1 h2; exact Sw.op_storeN ty68 b hb _ T' _ rfl rfl (by intro v hv; simp only [List.mem_cons, List.not_mem_nil, or_false] at hv; rcases hv with rfl | rfl | rfl <;> assumption)), (by intro b T' u0 u1 v0 v1 hb h0 h1; exact Sw.op_storeN ty77 b hb _ T' _ rfl rfl (by intro v hv; simp only [List.mem_cons, List.not_mem_nil, or_false] at hv; rcases hv with rfl | rfl <;> assumption)), (Sw.op_storeC ty99), (by intro b T' u0 u1 u2 u3 u4 u5 u6 u7 u8 u9 u10 u11 u12 v0 v1 v2 v3 v4 v5 v6 v7 v8 v9 v10 v11 v12 hb h0 h1 h2 h3 h4 h5 h6 h7 h8 h9 h10 h11 h12; exact Sw.op_storeN ty116 b hb _ T' _ rfl rfl (by intro v hv; simp only [List.mem_cons, List.not_mem_nil, or_false] at hv; rcases hv with rfl | rfl | rfl | rfl | rfl | rfl | rfl | rfl | rfl | rfl | rfl | rfl | rfl <;> assumption)), (by intro b T' u0 u1 v0 v1 hb h0 h1; exact Sw.op_storeN ty130 b hb _ T' _ rfl rfl (by intro v hv; simp only [List.mem_cons, List.not_mem_nil, or_false] at hv; rcases hv with rfl | rfl <;> assumption))⟩
theorem OPA0 {QP : List PanicEntry → World → Prop} {w : World} {ku : World → Prop} : (∀ b o v0 v1, v0.oneCell' = true → v1.oneCell' = true → Sw.opU Try.prog (Instr.storeAt 25 (.pointer (some ⟨b, o, none⟩)) (.agg #[v0, v1])) QP w ku = Sw.onCells [w.cell? ⟨b, o, none⟩, w.cell? ⟨b, o + 1, none⟩] (fun _ => Sw.onFree [w.frozen? ⟨b, o, none⟩, w.frozen? ⟨b, o + 1, none⟩] (ku ((w.setCell ⟨b, o, none⟩ v0).setCell ⟨b, o + 1, none⟩ v1)) (Sw.opUx Try.prog (Instr.storeAt 25 (.pointer (some ⟨b, o, none⟩)) (.agg #[v0, v1])) QP w ku)) (Sw.opUx Try.prog (Instr.storeAt 25 (.pointer (some ⟨b, o, none⟩)) (.agg #[v0, v1])) QP w ku)) ∧
  (∀ b o v0 v1, v0.oneCell' = true → v1.oneCell' = true → Sw.opU Try.prog (Instr.storeAt 31 (.pointer (some ⟨b, o, none⟩)) (.agg #[v0, v1])) QP w ku = Sw.onCells [w.cell? ⟨b, o, none⟩, w.cell? ⟨b, o + 1, none⟩] (fun _ => Sw.onFree [w.frozen? ⟨b, o, none⟩, w.frozen? ⟨b, o + 1, none⟩] (ku ((w.setCell ⟨b, o, none⟩ v0).setCell ⟨b, o + 1, none⟩ v1)) (Sw.opUx Try.prog (Instr.storeAt 31 (.pointer (some ⟨b, o, none⟩)) (.agg #[v0, v1])) QP w ku)) (Sw.opUx Try.prog (Instr.storeAt 31 (.pointer (some ⟨b, o, none⟩)) (.agg #[v0, v1])) QP w ku)) ∧
  (∀ b o v0 v1 v2, v0.oneCell' = true → v1.oneCell' = true → v2.oneCell' = true → Sw.opU Try.prog (Instr.storeAt 44 (.pointer (some ⟨b, o, none⟩)) (.agg #[v0, v1, v2])) QP w ku = Sw.onCells [w.cell? ⟨b, o, none⟩, w.cell? ⟨b, o + 1, none⟩, w.cell? ⟨b, o + 2, none⟩] (fun _ => Sw.onFree [w.frozen? ⟨b, o, none⟩, w.frozen? ⟨b, o + 1, none⟩, w.frozen? ⟨b, o + 2, none⟩] (ku (((w.setCell ⟨b, o, none⟩ v0).setCell ⟨b, o + 1, none⟩ v1).setCell ⟨b, o + 2, none⟩ v2)) (Sw.opUx Try.prog (Instr.storeAt 44 (.pointer (some ⟨b, o, none⟩)) (.agg #[v0, v1, v2])) QP w ku)) (Sw.opUx Try.prog (Instr.storeAt 44 (.pointer (some ⟨b, o, none⟩)) (.agg #[v0, v1, v2])) QP w ku)) ∧
  (∀ b o v0 v1, v0.oneCell' = true → v1.oneCell' = true → Sw.opU Try.prog (Instr.storeAt 50 (.pointer (some ⟨b, o, none⟩)) (.agg #[v0, v1])) QP w ku = Sw.onCells [w.cell? ⟨b, o, none⟩, w.cell? ⟨b, o + 1, none⟩] (fun _ => Sw.onFree [w.frozen? ⟨b, o, none⟩, w.frozen? ⟨b, o + 1, none⟩] (ku ((w.setCell ⟨b, o, none⟩ v0).setCell ⟨b, o + 1, none⟩ v1)) (Sw.opUx Try.prog (Instr.storeAt 50 (.pointer (some ⟨b, o, none⟩)) (.agg #[v0, v1])) QP w ku)) (Sw.opUx Try.prog (Instr.storeAt 50 (.pointer (some ⟨b, o, none⟩)) (.agg #[v0, v1])) QP w ku)) ∧
  (∀ b o v0 v1 v2, v0.oneCell' = true → v1.oneCell' = true → v2.oneCell' = true → Sw.opU Try.prog (Instr.storeAt 62 (.pointer (some ⟨b, o, none⟩)) (.agg #[v0, v1, v2])) QP w ku = Sw.onCells [w.cell? ⟨b, o, none⟩, w.cell? ⟨b, o + 1, none⟩, w.cell? ⟨b, o + 2, none⟩] (fun _ => Sw.onFree [w.frozen? ⟨b, o, none⟩, w.frozen? ⟨b, o + 1, none⟩, w.frozen? ⟨b, o + 2, none⟩] (ku (((w.setCell ⟨b, o, none⟩ v0).setCell ⟨b, o + 1, none⟩ v1).setCell ⟨b, o + 2, none⟩ v2)) (Sw.opUx Try.prog (Instr.storeAt 62 (.pointer (some ⟨b, o, none⟩)) (.agg #[v0, v1, v2])) QP w ku)) (Sw.opUx Try.prog (Instr.storeAt 62 (.pointer (some ⟨b, o, none⟩)) (.agg #[v0, v1, v2])) QP w ku)) ∧
  (∀ b o v0 v1 v2, v0.oneCell' = true → v1.oneCell' = true → v2.oneCell' = true → Sw.opU Try.prog (Instr.storeAt 68 (.pointer (some ⟨b, o, none⟩)) (.agg #[v0, v1, v2])) QP w ku = Sw.onCells [w.cell? ⟨b, o, none⟩, w.cell? ⟨b, o + 1, none⟩, w.cell? ⟨b, o + 2, none⟩] (fun _ => Sw.onFree [w.frozen? ⟨b, o, none⟩, w.frozen? ⟨b, o + 1, none⟩, w.frozen? ⟨b, o + 2, none⟩] (ku (((w.setCell ⟨b, o, none⟩ v0).setCell ⟨b, o + 1, none⟩ v1).setCell ⟨b, o + 2, none⟩ v2)) (Sw.opUx Try.prog (Instr.storeAt 68 (.pointer (some ⟨b, o, none⟩)) (.agg #[v0, v1, v2])) QP w ku)) (Sw.opUx Try.prog (Instr.storeAt 68 (.pointer (some ⟨b, o, none⟩)) (.agg #[v0, v1, v2])) QP w ku)) ∧
  (∀ b o v0 v1, v0.oneCell' = true → v1.oneCell' = true → Sw.opU Try.prog (Instr.storeAt 77 (.pointer (some ⟨b, o, none⟩)) (.agg #[v0, v1])) QP w ku = Sw.onCells [w.cell? ⟨b, o, none⟩, w.cell? ⟨b, o + 1, none⟩] (fun _ => Sw.onFree [w.frozen? ⟨b, o, none⟩, w.frozen? ⟨b, o + 1, none⟩] (ku ((w.setCell ⟨b, o, none⟩ v0).setCell ⟨b, o + 1, none⟩ v1)) (Sw.opUx Try.prog (Instr.storeAt 77 (.pointer (some ⟨b, o, none⟩)) (.agg #[v0, v1])) QP w ku)) (Sw.opUx Try.prog (Instr.storeAt 77 (.pointer (some ⟨b, o, none⟩)) (.agg #[v0, v1])) QP w ku)) ∧
  (∀ b o v0 v1, v0.oneCell' = true → v1.oneCell' = true → Sw.opU Try.prog (Instr.storeAt 130 (.pointer (some ⟨b, o, none⟩)) (.agg #[v0, v1])) QP w ku = Sw.onCells [w.cell? ⟨b, o, none⟩, w.cell? ⟨b, o + 1, none⟩] (fun _ => Sw.onFree [w.frozen? ⟨b, o, none⟩, w.frozen? ⟨b, o + 1, none⟩] (ku ((w.setCell ⟨b, o, none⟩ v0).setCell ⟨b, o + 1, none⟩ v1)) (Sw.opUx Try.prog (Instr.storeAt 130 (.pointer (some ⟨b, o, none⟩)) (.agg #[v0, v1])) QP w ku)) (Sw.opUx Try.prog (Instr.storeAt 130 (.pointer (some ⟨b, o, none⟩)) (.agg #[v0, v1])) QP w ku)) :=
  ⟨(by intro b o v0 v1 h0 h1; exact Sw.op_storeA ty25 b o _ rfl (by intro v hv; simp only [List.mem_cons, List.not_mem_nil, or_false] at hv; rcases hv with rfl | rfl <;> assumption) _ rfl _ rfl), (by intro b o v0 v1 h0 h1; exact Sw.op_storeA ty31 b o _ rfl (by intro v hv; simp only [List.mem_cons, List.not_mem_nil, or_false] at hv; rcases hv with rfl | rfl <;> assumption) _ rfl _ rfl), (by intro b o v0 v1 v2 h0 h1 h2; exact Sw.op_storeA ty44 b o _ rfl (by intro v hv; simp only [List.mem_cons, List.not_mem_nil, or_false] at hv; rcases hv with rfl | rfl | rfl <;> assumption) _ rfl _ rfl), (by intro b o v0 v1 h0 h1; exact Sw.op_storeA ty50 b o _ rfl (by intro v hv; simp only [List.mem_cons, List.not_mem_nil, or_false] at hv; rcases hv with rfl | rfl <;> assumption) _ rfl _ rfl), (by intro b o v0 v1 v2 h0 h1 h2; exact Sw.op_storeA ty62 b o _ rfl (by intro v hv; simp only [List.mem_cons, List.not_mem_nil, or_false] at hv; rcases hv with rfl | rfl | rfl <;> assumption) _ rfl _ rfl), (by intro b o v0 v1 v2 h0 h1 h2; exact Sw.op_storeA ty68 b o _ rfl (by intro v hv; simp only [List.mem_cons, List.not_mem_nil, or_false] at hv; rcases hv with rfl | rfl | rfl <;> assumption) _ rfl _ rfl), (by intro b o v0 v1 h0 h1; exact Sw.op_storeA ty77 b o _ rfl (by intro v hv; simp only [List.mem_cons, List.not_mem_nil, or_false] at hv; rcases hv with rfl | rfl <;> assumption) _ rfl _ rfl), (by intro b o v0 v1 h0 h1; exact Sw.op_storeA ty130 b o _ rfl (by intro v hv; simp only [List.mem_cons, List.not_mem_nil, or_false] at hv; rcases hv with rfl | rfl <;> assumption) _ rfl _ rfl)⟩
section
theorem OPW0 {w : World} {k : Value → Prop} : (∀ b o, Sw.qV Try.prog (Sw.EC w) (Instr.loadAt 3 (.pointer (some ⟨b, o, none⟩))) k = Sw.onCell (w.cell? ⟨b, o, none⟩) k (Sw.qVx Try.prog (Sw.EC w) (Instr.loadAt 3 (.pointer (some ⟨b, o, none⟩))) k)) ∧
  (∀ b1 b2 b o, b ≠ b1 → b ≠ b2 → Sw.qV Try.prog (Sw.KB w b1 b2) (Instr.loadAt 3 (.pointer (some ⟨b, o, none⟩))) k = Sw.onCell (w.cell? ⟨b, o, none⟩) k (Sw.qVx Try.prog (Sw.KB w b1 b2) (Instr.loadAt 3 (.pointer (some ⟨b, o, none⟩))) k)) ∧
  (∀ b o, Sw.qV Try.prog (Sw.EC w) (Instr.loadAt 4 (.pointer (some ⟨b, o, none⟩))) k = Sw.onCell (w.cell? ⟨b, o, none⟩) k (Sw.qVx Try.prog (Sw.EC w) (Instr.loadAt 4 (.pointer (some ⟨b, o, none⟩))) k)) ∧
  (∀ b1 b2 b o, b ≠ b1 → b ≠ b2 → Sw.qV Try.prog (Sw.KB w b1 b2) (Instr.loadAt 4 (.pointer (some ⟨b, o, none⟩))) k = Sw.onCell (w.cell? ⟨b, o, none⟩) k (Sw.qVx Try.prog (Sw.KB w b1 b2) (Instr.loadAt 4 (.pointer (some ⟨b, o, none⟩))) k)) ∧
  (∀ b o, Sw.qV Try.prog (Sw.EC w) (Instr.loadAt 5 (.pointer (some ⟨b, o, none⟩))) k = Sw.onCell (w.cell? ⟨b, o, none⟩) k (Sw.qVx Try.prog (Sw.EC w) (Instr.loadAt 5 (.pointer (some ⟨b, o, none⟩))) k)) ∧
  (∀ b1 b2 b o, b ≠ b1 → b ≠ b2 → Sw.qV Try.prog (Sw.KB w b1 b2) (Instr.loadAt 5 (.pointer (some ⟨b, o, none⟩))) k = Sw.onCell (w.cell? ⟨b, o, none⟩) k (Sw.qVx Try.prog (Sw.KB w b1 b2) (Instr.loadAt 5 (.pointer (some ⟨b, o, none⟩))) k)) ∧
  (∀ b o, Sw.qV Try.prog (Sw.EC w) (Instr.loadAt 9 (.pointer (some ⟨b, o, none⟩))) k = Sw.onCell (w.cell? ⟨b, o, none⟩) k (Sw.qVx Try.prog (Sw.EC w) (Instr.loadAt 9 (.pointer (some ⟨b, o, none⟩))) k)) ∧
  (∀ b1 b2 b o, b ≠ b1 → b ≠ b2 → Sw.qV Try.prog (Sw.KB w b1 b2) (Instr.loadAt 9 (.pointer (some ⟨b, o, none⟩))) k = Sw.onCell (w.cell? ⟨b, o, none⟩) k (Sw.qVx Try.prog (Sw.KB w b1 b2) (Instr.loadAt 9 (.pointer (some ⟨b, o, none⟩))) k)) ∧
  (∀ b o, Sw.qV Try.prog (Sw.EC w) (Instr.loadAt 22 (.pointer (some ⟨b, o, none⟩))) k = Sw.onCell (w.cell? ⟨b, o, none⟩) k (Sw.qVx Try.prog (Sw.EC w) (Instr.loadAt 22 (.pointer (some ⟨b, o, none⟩))) k)) ∧
  (∀ b1 b2 b o, b ≠ b1 → b ≠ b2 → Sw.qV Try.prog (Sw.KB w b1 b2) (Instr.loadAt 22 (.pointer (some ⟨b, o, none⟩))) k = Sw.onCell (w.cell? ⟨b, o, none⟩) k (Sw.qVx Try.prog (Sw.KB w b1 b2) (Instr.loadAt 22 (.pointer (some ⟨b, o, none⟩))) k)) ∧
  (∀ b o, Sw.qV Try.prog (Sw.EC w) (Instr.loadAt 23 (.pointer (some ⟨b, o, none⟩))) k = Sw.onCell (w.cell? ⟨b, o, none⟩) k (Sw.qVx Try.prog (Sw.EC w) (Instr.loadAt 23 (.pointer (some ⟨b, o, none⟩))) k)) ∧
  (∀ b1 b2 b o, b ≠ b1 → b ≠ b2 → Sw.qV Try.prog (Sw.KB w b1 b2) (Instr.loadAt 23 (.pointer (some ⟨b, o, none⟩))) k = Sw.onCell (w.cell? ⟨b, o, none⟩) k (Sw.qVx Try.prog (Sw.KB w b1 b2) (Instr.loadAt 23 (.pointer (some ⟨b, o, none⟩))) k)) ∧
  (∀ b o, Sw.qV Try.prog (Sw.EC w) (Instr.loadAt 25 (.pointer (some ⟨b, o, none⟩))) k = Sw.onCells [w.cell? ⟨b, o, none⟩, w.cell? ⟨b, o + 1, none⟩] (fun vs => k (.agg vs.toArray)) (Sw.qVx Try.prog (Sw.EC w) (Instr.loadAt 25 (.pointer (some ⟨b, o, none⟩))) k)) ∧
  (∀ b o, Sw.qV Try.prog (Sw.EC w) (Instr.loadAt 26 (.pointer (some ⟨b, o, none⟩))) k = Sw.onCell (w.cell? ⟨b, o, none⟩) k (Sw.qVx Try.prog (Sw.EC w) (Instr.loadAt 26 (.pointer (some ⟨b, o, none⟩))) k)) ∧
  (∀ b1 b2 b o, b ≠ b1 → b ≠ b2 → Sw.qV Try.prog (Sw.KB w b1 b2) (Instr.loadAt 26 (.pointer (some ⟨b, o, none⟩))) k = Sw.onCell (w.cell? ⟨b, o, none⟩) k (Sw.qVx Try.prog (Sw.KB w b1 b2) (Instr.loadAt 26 (.pointer (some ⟨b, o, none⟩))) k)) ∧
  (∀ b o, Sw.qV Try.prog (Sw.EC w) (Instr.loadAt 28 (.pointer (some ⟨b, o, none⟩))) k = Sw.onCells [w.cell? ⟨b, o, none⟩, w.cell? ⟨b, o + 1, none⟩, w.cell? ⟨b, o + 2, none⟩, w.cell? ⟨b, o + 3, none⟩, w.cell? ⟨b, o + 4, none⟩, w.cell? ⟨b, o + 5, none⟩, w.cell? ⟨b, o + 6, none⟩, w.cell? ⟨b, o + 7, none⟩, w.cell? ⟨b, o + 8, none⟩, w.cell? ⟨b, o + 9, none⟩, w.cell? ⟨b, o + 10, none⟩, w.cell? ⟨b, o + 11, none⟩, w.cell? ⟨b, o + 12, none⟩, w.cell? ⟨b, o + 13, none⟩, w.cell? ⟨b, o + 14, none⟩] (fun vs => k (.agg vs.toArray)) (Sw.qVx Try.prog (Sw.EC w) (Instr.loadAt 28 (.pointer (some ⟨b, o, none⟩))) k)) ∧
  (∀ b o, Sw.qV Try.prog (Sw.EC w) (Instr.loadAt 31 (.pointer (some ⟨b, o, none⟩))) k = Sw.onCells [w.cell? ⟨b, o, none⟩, w.cell? ⟨b, o + 1, none⟩] (fun vs => k (.agg vs.toArray)) (Sw.qVx Try.prog (Sw.EC w) (Instr.loadAt 31 (.pointer (some ⟨b, o, none⟩))) k)) ∧
  (∀ b o, Sw.qV Try.prog (Sw.EC w) (Instr.loadAt 42 (.pointer (some ⟨b, o, none⟩))) k = Sw.onCell (w.cell? ⟨b, o, none⟩) k (Sw.qVx Try.prog (Sw.EC w) (Instr.loadAt 42 (.pointer (some ⟨b, o, none⟩))) k)) ∧
  (∀ b1 b2 b o, b ≠ b1 → b ≠ b2 → Sw.qV Try.prog (Sw.KB w b1 b2) (Instr.loadAt 42 (.pointer (some ⟨b, o, none⟩))) k = Sw.onCell (w.cell? ⟨b, o, none⟩) k (Sw.qVx Try.prog (Sw.KB w b1 b2) (Instr.loadAt 42 (.pointer (some ⟨b, o, none⟩))) k)) ∧
  (∀ b o, Sw.qV Try.prog (Sw.EC w) (Instr.loadAt 44 (.pointer (some ⟨b, o, none⟩))) k = Sw.onCells [w.cell? ⟨b, o, none⟩, w.cell? ⟨b, o + 1, none⟩, w.cell? ⟨b, o + 2, none⟩] (fun vs => k (.agg vs.toArray)) (Sw.qVx Try.prog (Sw.EC w) (Instr.loadAt 44 (.pointer (some ⟨b, o, none⟩))) k)) ∧
  (∀ b o, Sw.qV Try.prog (Sw.EC w) (Instr.loadAt 48 (.pointer (some ⟨b, o, none⟩))) k = Sw.onCell (w.cell? ⟨b, o, none⟩) k (Sw.qVx Try.prog (Sw.EC w) (Instr.loadAt 48 (.pointer (some ⟨b, o, none⟩))) k)) ∧
  (∀ b1 b2 b o, b ≠ b1 → b ≠ b2 → Sw.qV Try.prog (Sw.KB w b1 b2) (Instr.loadAt 48 (.pointer (some ⟨b, o, none⟩))) k = Sw.onCell (w.cell? ⟨b, o, none⟩) k (Sw.qVx Try.prog (Sw.KB w b1 b2) (Instr.loadAt 48 (.pointer (some ⟨b, o, none⟩))) k)) ∧
  (∀ b o, Sw.qV Try.prog (Sw.EC w) (Instr.loadAt 50 (.pointer (some ⟨b, o, none⟩))) k = Sw.onCells [w.cell? ⟨b, o, none⟩, w.cell? ⟨b, o + 1, none⟩] (fun vs => k (.agg vs.toArray)) (Sw.qVx Try.prog (Sw.EC w) (Instr.loadAt 50 (.pointer (some ⟨b, o, none⟩))) k)) ∧
  (∀ b o, Sw.qV Try.prog (Sw.EC w) (Instr.loadAt 53 (.pointer (some ⟨b, o, none⟩))) k = Sw.onCell (w.cell? ⟨b, o, none⟩) k (Sw.qVx Try.prog (Sw.EC w) (Instr.loadAt 53 (.pointer (some ⟨b, o, none⟩))) k)) ∧
  (∀ b1 b2 b o, b ≠ b1 → b ≠ b2 → Sw.qV Try.prog (Sw.KB w b1 b2) (Instr.loadAt 53 (.pointer (some ⟨b, o, none⟩))) k = Sw.onCell (w.cell? ⟨b, o, none⟩) k (Sw.qVx Try.prog (Sw.KB w b1 b2) (Instr.loadAt 53 (.pointer (some ⟨b, o, none⟩))) k)) ∧
  (∀ b o, Sw.qV Try.prog (Sw.EC w) (Instr.loadAt 62 (.pointer (some ⟨b, o, none⟩))) k = Sw.onCells [w.cell? ⟨b, o, none⟩, w.cell? ⟨b, o + 1, none⟩, w.cell? ⟨b, o + 2, none⟩] (fun vs => k (.agg vs.toArray)) (Sw.qVx Try.prog (Sw.EC w) (Instr.loadAt 62 (.pointer (some ⟨b, o, none⟩))) k)) ∧
  (∀ b o, Sw.qV Try.prog (Sw.EC w) (Instr.loadAt 63 (.pointer (some ⟨b, o, none⟩))) k = Sw.onCell (w.cell? ⟨b, o, none⟩) k (Sw.qVx Try.prog (Sw.EC w) (Instr.loadAt 63 (.pointer (some ⟨b, o, none⟩))) k)) ∧
  (∀ b1 b2 b o, b ≠ b1 → b ≠ b2 → Sw.qV Try.prog (Sw.KB w b1 b2) (Instr.loadAt 63 (.pointer (some ⟨b, o, none⟩))) k = Sw.onCell (w.cell? ⟨b, o, none⟩) k (Sw.qVx Try.prog (Sw.KB w b1 b2) (Instr.loadAt 63 (.pointer (some ⟨b, o, none⟩))) k)) ∧
  (∀ b o, Sw.qV Try.prog (Sw.EC w) (Instr.loadAt 68 (.pointer (some ⟨b, o, none⟩))) k = Sw.onCells [w.cell? ⟨b, o, none⟩, w.cell? ⟨b, o + 1, none⟩, w.cell? ⟨b, o + 2, none⟩] (fun vs => k (.agg vs.toArray)) (Sw.qVx Try.prog (Sw.EC w) (Instr.loadAt 68 (.pointer (some ⟨b, o, none⟩))) k)) ∧
  (∀ b o, Sw.qV Try.prog (Sw.EC w) (Instr.loadAt 77 (.pointer (some ⟨b, o, none⟩))) k = Sw.onCells [w.cell? ⟨b, o, none⟩, w.cell? ⟨b, o + 1, none⟩] (fun vs => k (.agg vs.toArray)) (Sw.qVx Try.prog (Sw.EC w) (Instr.loadAt 77 (.pointer (some ⟨b, o, none⟩))) k)) ∧
  (∀ b o, Sw.qV Try.prog (Sw.EC w) (Instr.loadAt 93 (.pointer (some ⟨b, o, none⟩))) k = Sw.onCell (w.cell? ⟨b, o, none⟩) k (Sw.qVx Try.prog (Sw.EC w) (Instr.loadAt 93 (.pointer (some ⟨b, o, none⟩))) k)) ∧
  (∀ b1 b2 b o, b ≠ b1 → b ≠ b2 → Sw.qV Try.prog (Sw.KB w b1 b2) (Instr.loadAt 93 (.pointer (some ⟨b, o, none⟩))) k = Sw.onCell (w.cell? ⟨b, o, none⟩) k (Sw.qVx Try.prog (Sw.KB w b1 b2) (Instr.loadAt 93 (.pointer (some ⟨b, o, none⟩))) k)) ∧
  (∀ b o, Sw.qV Try.prog (Sw.EC w) (Instr.loadAt 98 (.pointer (some ⟨b, o, none⟩))) k = Sw.onCell (w.cell? ⟨b, o, none⟩) k (Sw.qVx Try.prog (Sw.EC w) (Instr.loadAt 98 (.pointer (some ⟨b, o, none⟩))) k)) ∧
  (∀ b1 b2 b o, b ≠ b1 → b ≠ b2 → Sw.qV Try.prog (Sw.KB w b1 b2) (Instr.loadAt 98 (.pointer (some ⟨b, o, none⟩))) k = Sw.onCell (w.cell? ⟨b, o, none⟩) k (Sw.qVx Try.prog (Sw.KB w b1 b2) (Instr.loadAt 98 (.pointer (some ⟨b, o, none⟩))) k)) ∧
  (∀ b o, Sw.qV Try.prog (Sw.EC w) (Instr.loadAt 99 (.pointer (some ⟨b, o, none⟩))) k = Sw.onCell (w.cell? ⟨b, o, none⟩) k (Sw.qVx Try.prog (Sw.EC w) (Instr.loadAt 99 (.pointer (some ⟨b, o, none⟩))) k)) ∧
  (∀ b1 b2 b o, b ≠ b1 → b ≠ b2 → Sw.qV Try.prog (Sw.KB w b1 b2) (Instr.loadAt 99 (.pointer (some ⟨b, o, none⟩))) k = Sw.onCell (w.cell? ⟨b, o, none⟩) k (Sw.qVx Try.prog (Sw.KB w b1 b2) (Instr.loadAt 99 (.pointer (some ⟨b, o, none⟩))) k)) ∧
  (∀ b o, Sw.qV Try.prog (Sw.EC w) (Instr.loadAt 127 (.pointer (some ⟨b, o, none⟩))) k = Sw.onCell (w.cell? ⟨b, o, none⟩) k (Sw.qVx Try.prog (Sw.EC w) (Instr.loadAt 127 (.pointer (some ⟨b, o, none⟩))) k)) ∧
  (∀ b1 b2 b o, b ≠ b1 → b ≠ b2 → Sw.qV Try.prog (Sw.KB w b1 b2) (Instr.loadAt 127 (.pointer (some ⟨b, o, none⟩))) k = Sw.onCell (w.cell? ⟨b, o, none⟩) k (Sw.qVx Try.prog (Sw.KB w b1 b2) (Instr.loadAt 127 (.pointer (some ⟨b, o, none⟩))) k)) ∧
  (∀ b o, Sw.qV Try.prog (Sw.EC w) (Instr.loadAt 128 (.pointer (some ⟨b, o, none⟩))) k = Sw.onCell (w.cell? ⟨b, o, none⟩) k (Sw.qVx Try.prog (Sw.EC w) (Instr.loadAt 128 (.pointer (some ⟨b, o, none⟩))) k)) ∧
  (∀ b1 b2 b o, b ≠ b1 → b ≠ b2 → Sw.qV Try.prog (Sw.KB w b1 b2) (Instr.loadAt 128 (.pointer (some ⟨b, o, none⟩))) k = Sw.onCell (w.cell? ⟨b, o, none⟩) k (Sw.qVx Try.prog (Sw.KB w b1 b2) (Instr.loadAt 128 (.pointer (some ⟨b, o, none⟩))) k)) :=
  ⟨(Sw.qV_loadC ty3), (Sw.qV_loadKB ty3), (Sw.qV_loadC ty4), (Sw.qV_loadKB ty4), (Sw.qV_loadC ty5), (Sw.qV_loadKB ty5), (Sw.qV_loadC ty9), (Sw.qV_loadKB ty9), (Sw.qV_loadC ty22), (Sw.qV_loadKB ty22), (Sw.qV_loadC ty23), (Sw.qV_loadKB ty23), (by intro b o; exact Sw.qV_loadA ty25 b o _ rfl), (Sw.qV_loadC ty26), (Sw.qV_loadKB ty26), (by intro b o; exact Sw.qV_loadA ty28 b o _ rfl), (by intro b o; exact Sw.qV_loadA ty31 b o _ rfl), (Sw.qV_loadC ty42), (Sw.qV_loadKB ty42), (by intro b o; exact Sw.qV_loadA ty44 b o _ rfl), (Sw.qV_loadC ty48), (Sw.qV_loadKB ty48), (by intro b o; exact Sw.qV_loadA ty50 b o _ rfl), (Sw.qV_loadC ty53), (Sw.qV_loadKB ty53), (by intro b o; exact Sw.qV_loadA ty62 b o _ rfl), (Sw.qV_loadC ty63), (Sw.qV_loadKB ty63), (by intro b o; exact Sw.qV_loadA ty68 b o _ rfl), (by intro b o; exact Sw.qV_loadA ty77 b o _ rfl), (Sw.qV_loadC ty93), (Sw.qV_loadKB ty93), (Sw.qV_loadC ty98), (Sw.qV_loadKB ty98), (Sw.qV_loadC ty99), (Sw.qV_loadKB ty99), (Sw.qV_loadC ty127), (Sw.qV_loadKB ty127), (Sw.qV_loadC ty128), (Sw.qV_loadKB ty128)⟩
theorem OPW1 {w : World} {k : Value → Prop} : (∀ b o, Sw.qV Try.prog (Sw.EC w) (Instr.loadAt 145 (.pointer (some ⟨b, o, none⟩))) k = Sw.onCell (w.cell? ⟨b, o, none⟩) k (Sw.qVx Try.prog (Sw.EC w) (Instr.loadAt 145 (.pointer (some ⟨b, o, none⟩))) k)) ∧
  (∀ b1 b2 b o, b ≠ b1 → b ≠ b2 → Sw.qV Try.prog (Sw.KB w b1 b2) (Instr.loadAt 145 (.pointer (some ⟨b, o, none⟩))) k = Sw.onCell (w.cell? ⟨b, o, none⟩) k (Sw.qVx Try.prog (Sw.KB w b1 b2) (Instr.loadAt 145 (.pointer (some ⟨b, o, none⟩))) k)) ∧
  (∀ b o, Sw.qW Try.prog 3 (.pointer (some ⟨b, o, none⟩)) w k = Sw.onCell (w.cell? ⟨b, o, none⟩) k (Sw.qWx Try.prog 3 (.pointer (some ⟨b, o, none⟩)) w k)) ∧
  (∀ b o, Sw.qW Try.prog 4 (.pointer (some ⟨b, o, none⟩)) w k = Sw.onCell (w.cell? ⟨b, o, none⟩) k (Sw.qWx Try.prog 4 (.pointer (some ⟨b, o, none⟩)) w k)) ∧
  (∀ b o, Sw.qW Try.prog 9 (.pointer (some ⟨b, o, none⟩)) w k = Sw.onCell (w.cell? ⟨b, o, none⟩) k (Sw.qWx Try.prog 9 (.pointer (some ⟨b, o, none⟩)) w k)) ∧
  (∀ b o, Sw.qW Try.prog 23 (.pointer (some ⟨b, o, none⟩)) w k = Sw.onCell (w.cell? ⟨b, o, none⟩) k (Sw.qWx Try.prog 23 (.pointer (some ⟨b, o, none⟩)) w k)) ∧
  (∀ b o, Sw.qW Try.prog 25 (.pointer (some ⟨b, o, none⟩)) w k = Sw.onCells [w.cell? ⟨b, o, none⟩, w.cell? ⟨b, o + 1, none⟩] (fun vs => k (.agg vs.toArray)) (Sw.qWx Try.prog 25 (.pointer (some ⟨b, o, none⟩)) w k)) ∧
  (∀ b o, Sw.qW Try.prog 28 (.pointer (some ⟨b, o, none⟩)) w k = Sw.onCells [w.cell? ⟨b, o, none⟩, w.cell? ⟨b, o + 1, none⟩, w.cell? ⟨b, o + 2, none⟩, w.cell? ⟨b, o + 3, none⟩, w.cell? ⟨b, o + 4, none⟩, w.cell? ⟨b, o + 5, none⟩, w.cell? ⟨b, o + 6, none⟩, w.cell? ⟨b, o + 7, none⟩, w.cell? ⟨b, o + 8, none⟩, w.cell? ⟨b, o + 9, none⟩, w.cell? ⟨b, o + 10, none⟩, w.cell? ⟨b, o + 11, none⟩, w.cell? ⟨b, o + 12, none⟩, w.cell? ⟨b, o + 13, none⟩, w.cell? ⟨b, o + 14, none⟩] (fun vs => k (.agg vs.toArray)) (Sw.qWx Try.prog 28 (.pointer (some ⟨b, o, none⟩)) w k)) ∧
  (∀ b o, Sw.qW Try.prog 31 (.pointer (some ⟨b, o, none⟩)) w k = Sw.onCells [w.cell? ⟨b, o, none⟩, w.cell? ⟨b, o + 1, none⟩] (fun vs => k (.agg vs.toArray)) (Sw.qWx Try.prog 31 (.pointer (some ⟨b, o, none⟩)) w k)) ∧
  (∀ b o, Sw.qW Try.prog 32 (.pointer (some ⟨b, o, none⟩)) w k = Sw.onCell (w.cell? ⟨b, o, none⟩) k (Sw.qWx Try.prog 32 (.pointer (some ⟨b, o, none⟩)) w k)) ∧
  (∀ b o, Sw.qW Try.prog 44 (.pointer (some ⟨b, o, none⟩)) w k = Sw.onCells [w.cell? ⟨b, o, none⟩, w.cell? ⟨b, o + 1, none⟩, w.cell? ⟨b, o + 2, none⟩] (fun vs => k (.agg vs.toArray)) (Sw.qWx Try.prog 44 (.pointer (some ⟨b, o, none⟩)) w k)) ∧
  (∀ b o, Sw.qW Try.prog 50 (.pointer (some ⟨b, o, none⟩)) w k = Sw.onCells [w.cell? ⟨b, o, none⟩, w.cell? ⟨b, o + 1, none⟩] (fun vs => k (.agg vs.toArray)) (Sw.qWx Try.prog 50 (.pointer (some ⟨b, o, none⟩)) w k)) ∧
  (∀ b o, Sw.qW Try.prog 53 (.pointer (some ⟨b, o, none⟩)) w k = Sw.onCell (w.cell? ⟨b, o, none⟩) k (Sw.qWx Try.prog 53 (.pointer (some ⟨b, o, none⟩)) w k)) ∧
  (∀ b o, Sw.qW Try.prog 62 (.pointer (some ⟨b, o, none⟩)) w k = Sw.onCells [w.cell? ⟨b, o, none⟩, w.cell? ⟨b, o + 1, none⟩, w.cell? ⟨b, o + 2, none⟩] (fun vs => k (.agg vs.toArray)) (Sw.qWx Try.prog 62 (.pointer (some ⟨b, o, none⟩)) w k)) ∧
  (∀ b o, Sw.qW Try.prog 63 (.pointer (some ⟨b, o, none⟩)) w k = Sw.onCell (w.cell? ⟨b, o, none⟩) k (Sw.qWx Try.prog 63 (.pointer (some ⟨b, o, none⟩)) w k)) ∧
  (∀ b o, Sw.qW Try.prog 68 (.pointer (some ⟨b, o, none⟩)) w k = Sw.onCells [w.cell? ⟨b, o, none⟩, w.cell? ⟨b, o + 1, none⟩, w.cell? ⟨b, o + 2, none⟩] (fun vs => k (.agg vs.toArray)) (Sw.qWx Try.prog 68 (.pointer (some ⟨b, o, none⟩)) w k)) ∧
  (∀ b o, Sw.qW Try.prog 77 (.pointer (some ⟨b, o, none⟩)) w k = Sw.onCells [w.cell? ⟨b, o, none⟩, w.cell? ⟨b, o + 1, none⟩] (fun vs => k (.agg vs.toArray)) (Sw.qWx Try.prog 77 (.pointer (some ⟨b, o, none⟩)) w k)) ∧
  (∀ b o, Sw.qW Try.prog 93 (.pointer (some ⟨b, o, none⟩)) w k = Sw.onCell (w.cell? ⟨b, o, none⟩) k (Sw.qWx Try.prog 93 (.pointer (some ⟨b, o, none⟩)) w k)) ∧
  (∀ b o, Sw.qW Try.prog 99 (.pointer (some ⟨b, o, none⟩)) w k = Sw.onCell (w.cell? ⟨b, o, none⟩) k (Sw.qWx Try.prog 99 (.pointer (some ⟨b, o, none⟩)) w k)) ∧
  (∀ b o, Sw.qW Try.prog 101 (.pointer (some ⟨b, o, none⟩)) w k = Sw.onCells [w.cell? ⟨b, o, none⟩, w.cell? ⟨b, o + 1, none⟩, w.cell? ⟨b, o + 2, none⟩, w.cell? ⟨b, o + 3, none⟩, w.cell? ⟨b, o + 4, none⟩, w.cell? ⟨b, o + 5, none⟩, w.cell? ⟨b, o + 6, none⟩, w.cell? ⟨b, o + 7, none⟩, w.cell? ⟨b, o + 8, none⟩] (fun vs => k (.agg vs.toArray)) (Sw.qWx Try.prog 101 (.pointer (some ⟨b, o, none⟩)) w k)) ∧
  (∀ b o, Sw.qW Try.prog 116 (.pointer (some ⟨b, o, none⟩)) w k = Sw.onCells [w.cell? ⟨b, o, none⟩, w.cell? ⟨b, o + 1, none⟩, w.cell? ⟨b, o + 2, none⟩, w.cell? ⟨b, o + 3, none⟩, w.cell? ⟨b, o + 4, none⟩, w.cell? ⟨b, o + 5, none⟩, w.cell? ⟨b, o + 6, none⟩, w.cell? ⟨b, o + 7, none⟩, w.cell? ⟨b, o + 8, none⟩, w.cell? ⟨b, o + 9, none⟩, w.cell? ⟨b, o + 10, none⟩, w.cell? ⟨b, o + 11, none⟩, w.cell? ⟨b, o + 12, none⟩] (fun vs => k (.agg vs.toArray)) (Sw.qWx Try.prog 116 (.pointer (some ⟨b, o, none⟩)) w k)) ∧
  (∀ b o, Sw.qW Try.prog 130 (.pointer (some ⟨b, o, none⟩)) w k = Sw.onCells [w.cell? ⟨b, o, none⟩, w.cell? ⟨b, o + 1, none⟩] (fun vs => k (.agg vs.toArray)) (Sw.qWx Try.prog 130 (.pointer (some ⟨b, o, none⟩)) w k)) ∧
  (∀ b o, Sw.qW Try.prog 145 (.pointer (some ⟨b, o, none⟩)) w k = Sw.onCell (w.cell? ⟨b, o, none⟩) k (Sw.qWx Try.prog 145 (.pointer (some ⟨b, o, none⟩)) w k)) :=
  ⟨(Sw.qV_loadC ty145), (Sw.qV_loadKB ty145), (Sw.qW_loadC ty3), (Sw.qW_loadC ty4), (Sw.qW_loadC ty9), (Sw.qW_loadC ty23), (by intro b o; exact Sw.qW_loadA ty25 b o _ rfl), (by intro b o; exact Sw.qW_loadA ty28 b o _ rfl), (by intro b o; exact Sw.qW_loadA ty31 b o _ rfl), (Sw.qW_loadC ty32), (by intro b o; exact Sw.qW_loadA ty44 b o _ rfl), (by intro b o; exact Sw.qW_loadA ty50 b o _ rfl), (Sw.qW_loadC ty53), (by intro b o; exact Sw.qW_loadA ty62 b o _ rfl), (Sw.qW_loadC ty63), (by intro b o; exact Sw.qW_loadA ty68 b o _ rfl), (by intro b o; exact Sw.qW_loadA ty77 b o _ rfl), (Sw.qW_loadC ty93), (Sw.qW_loadC ty99), (by intro b o; exact Sw.qW_loadA ty101 b o _ rfl), (by intro b o; exact Sw.qW_loadA ty116 b o _ rfl), (by intro b o; exact Sw.qW_loadA ty130 b o _ rfl), (Sw.qW_loadC ty145)⟩
theorem OPQ0 {C : World → Prop} [Sw.ClassNe C] {k : Value → Prop} : (∀ c a b, Sw.qV Try.prog C (Sw.binS .eql 4 c (.bool a) (.bool b)) k = k (.bool (a == b))) ∧
  (∀ c a b, Sw.qV Try.prog C (Sw.binS .neq 4 c (.bool a) (.bool b)) k = k (.bool (a != b))) ∧
  (∀ r s, Sw.qV Try.prog C (Builtin.len_ #[9] r #[.string s]) k = k (.int .i64 (s.size : Int))) ∧
  (∀ r a n c, Sw.qV Try.prog C (Builtin.len_ #[23] r #[.slice a n c]) k = k (.int .i64 (n : Int))) ∧
  (∀ b o len cap ik (i : Nat), i < len → Sw.qV Try.prog C (Instr.indexAt 23 (.slice (some ⟨b, o, none⟩) len cap) (.int ik (i : Int))) k = k (.pointer (some ⟨b, o + i * 2, none⟩))) ∧
  (∀ b o, Sw.qV Try.prog C (Instr.fieldAt 25 (.pointer (some ⟨b, o, none⟩)) 0) k = k (.pointer (some ⟨b, o, none⟩))) ∧
  (∀ b o, Sw.qV Try.prog C (Instr.fieldAt 25 (.pointer (some ⟨b, o, none⟩)) 1) k = k (.pointer (some ⟨b, o + 1, none⟩))) ∧
  (∀ r a n c, Sw.qV Try.prog C (Builtin.len_ #[26] r #[.slice a n c]) k = k (.int .i64 (n : Int))) ∧
  (∀ b o len cap ik (i : Nat), i < len → Sw.qV Try.prog C (Instr.indexAt 26 (.slice (some ⟨b, o, none⟩) len cap) (.int ik (i : Int))) k = k (.pointer (some ⟨b, o + i * 3, none⟩))) ∧
  (∀ b o, Sw.qV Try.prog C (Instr.fieldAt 28 (.pointer (some ⟨b, o, none⟩)) 0) k = k (.pointer (some ⟨b, o, none⟩))) ∧
  (∀ b o, Sw.qV Try.prog C (Instr.fieldAt 28 (.pointer (some ⟨b, o, none⟩)) 1) k = k (.pointer (some ⟨b, o + 1, none⟩))) ∧
  (∀ b o, Sw.qV Try.prog C (Instr.fieldAt 28 (.pointer (some ⟨b, o, none⟩)) 2) k = k (.pointer (some ⟨b, o + 2, none⟩))) ∧
  (∀ b o, Sw.qV Try.prog C (Instr.fieldAt 28 (.pointer (some ⟨b, o, none⟩)) 3) k = k (.pointer (some ⟨b, o + 3, none⟩))) ∧
  (∀ b o, Sw.qV Try.prog C (Instr.fieldAt 28 (.pointer (some ⟨b, o, none⟩)) 4) k = k (.pointer (some ⟨b, o + 4, none⟩))) ∧
  (∀ b o, Sw.qV Try.prog C (Instr.fieldAt 28 (.pointer (some ⟨b, o, none⟩)) 5) k = k (.pointer (some ⟨b, o + 5, none⟩))) ∧
  (∀ b o, Sw.qV Try.prog C (Instr.fieldAt 28 (.pointer (some ⟨b, o, none⟩)) 6) k = k (.pointer (some ⟨b, o + 6, none⟩))) ∧
  (∀ b o, Sw.qV Try.prog C (Instr.fieldAt 28 (.pointer (some ⟨b, o, none⟩)) 7) k = k (.pointer (some ⟨b, o + 7, none⟩))) ∧
  (∀ b o, Sw.qV Try.prog C (Instr.fieldAt 28 (.pointer (some ⟨b, o, none⟩)) 8) k = k (.pointer (some ⟨b, o + 9, none⟩))) ∧
  (∀ b o, Sw.qV Try.prog C (Instr.fieldAt 28 (.pointer (some ⟨b, o, none⟩)) 9) k = k (.pointer (some ⟨b, o + 10, none⟩))) ∧
  (∀ b o, Sw.qV Try.prog C (Instr.fieldAt 28 (.pointer (some ⟨b, o, none⟩)) 10) k = k (.pointer (some ⟨b, o + 11, none⟩))) ∧
  (∀ b o, Sw.qV Try.prog C (Instr.fieldAt 28 (.pointer (some ⟨b, o, none⟩)) 11) k = k (.pointer (some ⟨b, o + 12, none⟩))) ∧
  (∀ b o, Sw.qV Try.prog C (Instr.fieldAt 28 (.pointer (some ⟨b, o, none⟩)) 12) k = k (.pointer (some ⟨b, o + 13, none⟩))) ∧
  (∀ b o, Sw.qV Try.prog C (Instr.fieldAt 28 (.pointer (some ⟨b, o, none⟩)) 13) k = k (.pointer (some ⟨b, o + 14, none⟩))) ∧
  (∀ b o, Sw.qV Try.prog C (Instr.fieldAt 31 (.pointer (some ⟨b, o, none⟩)) 0) k = k (.pointer (some ⟨b, o, none⟩))) ∧
  (∀ b o, Sw.qV Try.prog C (Instr.fieldAt 31 (.pointer (some ⟨b, o, none⟩)) 1) k = k (.pointer (some ⟨b, o + 1, none⟩))) ∧
  (∀ v0 v1, Sw.qV Try.prog C (Instr.field 31 (.agg #[v0, v1]) 1) k = k v1) ∧
  (∀ r a n c, Sw.qV Try.prog C (Builtin.len_ #[42] r #[.slice a n c]) k = k (.int .i64 (n : Int))) ∧
  (∀ b o len cap ik (i : Nat), i < len → Sw.qV Try.prog C (Instr.indexAt 42 (.slice (some ⟨b, o, none⟩) len cap) (.int ik (i : Int))) k = k (.pointer (some ⟨b, o + i * 2, none⟩))) ∧
  (∀ b o, Sw.qV Try.prog C (Instr.fieldAt 44 (.pointer (some ⟨b, o, none⟩)) 0) k = k (.pointer (some ⟨b, o, none⟩))) ∧
  (∀ b o, Sw.qV Try.prog C (Instr.fieldAt 44 (.pointer (some ⟨b, o, none⟩)) 1) k = k (.pointer (some ⟨b, o + 1, none⟩))) ∧
  (∀ b o, Sw.qV Try.prog C (Instr.fieldAt 44 (.pointer (some ⟨b, o, none⟩)) 2) k = k (.pointer (some ⟨b, o + 2, none⟩))) ∧
  (∀ v0 v1 v2, Sw.qV Try.prog C (Instr.field 44 (.agg #[v0, v1, v2]) 1) k = k v1) ∧
  (∀ r a n c, Sw.qV Try.prog C (Builtin.len_ #[48] r #[.slice a n c]) k = k (.int .i64 (n : Int))) ∧
  (∀ b o len cap ik (i : Nat), i < len → Sw.qV Try.prog C (Instr.indexAt 48 (.slice (some ⟨b, o, none⟩) len cap) (.int ik (i : Int))) k = k (.pointer (some ⟨b, o + i * 15, none⟩))) ∧
  (∀ b o, Sw.qV Try.prog C (Instr.fieldAt 50 (.pointer (some ⟨b, o, none⟩)) 0) k = k (.pointer (some ⟨b, o, none⟩))) ∧
  (∀ b o, Sw.qV Try.prog C (Instr.fieldAt 50 (.pointer (some ⟨b, o, none⟩)) 1) k = k (.pointer (some ⟨b, o + 1, none⟩))) ∧
  (∀ b o, Sw.qV Try.prog C (Instr.fieldAt 62 (.pointer (some ⟨b, o, none⟩)) 0) k = k (.pointer (some ⟨b, o, none⟩))) ∧
  (∀ b o, Sw.qV Try.prog C (Instr.fieldAt 62 (.pointer (some ⟨b, o, none⟩)) 1) k = k (.pointer (some ⟨b, o + 1, none⟩))) ∧
  (∀ b o, Sw.qV Try.prog C (Instr.fieldAt 62 (.pointer (some ⟨b, o, none⟩)) 2) k = k (.pointer (some ⟨b, o + 2, none⟩))) ∧
  (∀ r a n c, Sw.qV Try.prog C (Builtin.len_ #[63] r #[.slice a n c]) k = k (.int .i64 (n : Int))) :=
  ⟨(by intros; apply Sw.qV_of; intros; apply o3 <;> assumption), (by intros; apply Sw.qV_of; intros; apply o4 <;> assumption), (by intros; apply Sw.qV_of; intros; apply o8 <;> assumption), (by intros; apply Sw.qV_of; intros; apply o11 <;> assumption), (by intros; apply Sw.qV_of; intros; apply o12 <;> assumption), (by intros; apply Sw.qV_of; intros; apply o14 <;> assumption), (by intros; apply Sw.qV_of; intros; apply o15 <;> assumption), (by intros; apply Sw.qV_of; intros; apply o18 <;> assumption), (by intros; apply Sw.qV_of; intros; apply o19 <;> assumption), (by intros; apply Sw.qV_of; intros; apply o20 <;> assumption), (by intros; apply Sw.qV_of; intros; apply o21 <;> assumption), (by intros; apply Sw.qV_of; intros; apply o22 <;> assumption), (by intros; apply Sw.qV_of; intros; apply o23 <;> assumption), (by intros; apply Sw.qV_of; intros; apply o24 <;> assumption), (by intros; apply Sw.qV_of; intros; apply o25 <;> assumption), (by intros; apply Sw.qV_of; intros; apply o26 <;> assumption), (by intros; apply Sw.qV_of; intros; apply o27 <;> assumption), (by intros; apply Sw.qV_of; intros; apply o28 <;> assumption), (by intros; apply Sw.qV_of; intros; apply o29 <;> assumption), (by intros; apply Sw.qV_of; intros; apply o30 <;> assumption), (by intros; apply Sw.qV_of; intros; apply o31 <;> assumption), (by intros; apply Sw.qV_of; intros; apply o32 <;> assumption), (by intros; apply Sw.qV_of; intros; apply o33 <;> assumption), (by intros; apply Sw.qV_of; intros; apply o36 <;> assumption), (by intros; apply Sw.qV_of; intros; apply o37 <;> assumption), (by intros; apply Sw.qV_of; intros; apply o38 <;> assumption), (by intros; apply Sw.qV_of; intros; apply o43 <;> assumption), (by intros; apply Sw.qV_of; intros; apply o44 <;> assumption), (by intros; apply Sw.qV_of; intros; apply o45 <;> assumption), (by intros; apply Sw.qV_of; intros; apply o46 <;> assumption), (by intros; apply Sw.qV_of; intros; apply o47 <;> assumption), (by intros; apply Sw.qV_of; intros; apply o48 <;> assumption), (by intros; apply Sw.qV_of; intros; apply o52 <;> assumption), (by intros; apply Sw.qV_of; intros; apply o53 <;> assumption), (by intros; apply Sw.qV_of; intros; apply o54 <;> assumption), (by intros; apply Sw.qV_of; intros; apply o55 <;> assumption), (by intros; apply Sw.qV_of; intros; apply o60 <;> assumption), (by intros; apply Sw.qV_of; intros; apply o61 <;> assumption), (by intros; apply Sw.qV_of; intros; apply o62 <;> assumption), (by intros; apply Sw.qV_of; intros; apply o66 <;> assumption)⟩
theorem OPQ1 {C : World → Prop} [Sw.ClassNe C] {k : Value → Prop} : (∀ b o len cap ik (i : Nat), i < len → Sw.qV Try.prog C (Instr.indexAt 63 (.slice (some ⟨b, o, none⟩) len cap) (.int ik (i : Int))) k = k (.pointer (some ⟨b, o + i * 1, none⟩))) ∧
  (∀ b o, Sw.qV Try.prog C (Instr.fieldAt 68 (.pointer (some ⟨b, o, none⟩)) 0) k = k (.pointer (some ⟨b, o, none⟩))) ∧
  (∀ b o, Sw.qV Try.prog C (Instr.fieldAt 77 (.pointer (some ⟨b, o, none⟩)) 0) k = k (.pointer (some ⟨b, o, none⟩))) ∧
  (∀ b o, Sw.qV Try.prog C (Instr.fieldAt 77 (.pointer (some ⟨b, o, none⟩)) 1) k = k (.pointer (some ⟨b, o + 1, none⟩))) ∧
  (∀ b o, Sw.qV Try.prog C (Instr.fieldAt 101 (.pointer (some ⟨b, o, none⟩)) 1) k = k (.pointer (some ⟨b, o + 3, none⟩))) ∧
  (∀ b o, Sw.qV Try.prog C (Instr.fieldAt 101 (.pointer (some ⟨b, o, none⟩)) 2) k = k (.pointer (some ⟨b, o + 4, none⟩))) ∧
  (∀ b o, Sw.qV Try.prog C (Instr.fieldAt 101 (.pointer (some ⟨b, o, none⟩)) 3) k = k (.pointer (some ⟨b, o + 5, none⟩))) ∧
  (∀ b o, Sw.qV Try.prog C (Instr.fieldAt 101 (.pointer (some ⟨b, o, none⟩)) 4) k = k (.pointer (some ⟨b, o + 6, none⟩))) ∧
  (∀ b o, Sw.qV Try.prog C (Instr.fieldAt 101 (.pointer (some ⟨b, o, none⟩)) 5) k = k (.pointer (some ⟨b, o + 7, none⟩))) ∧
  (∀ r a n c, Sw.qV Try.prog C (Builtin.len_ #[121] r #[.slice a n c]) k = k (.int .i64 (n : Int))) ∧
  (∀ b o len cap ik (i : Nat), i < len → Sw.qV Try.prog C (Instr.indexAt 121 (.slice (some ⟨b, o, none⟩) len cap) (.int ik (i : Int))) k = k (.pointer (some ⟨b, o + i * 1, none⟩))) ∧
  (∀ r a n c, Sw.qV Try.prog C (Builtin.len_ #[123] r #[.slice a n c]) k = k (.int .i64 (n : Int))) ∧
  (∀ b o len cap ik (i : Nat), i < len → Sw.qV Try.prog C (Instr.indexAt 123 (.slice (some ⟨b, o, none⟩) len cap) (.int ik (i : Int))) k = k (.pointer (some ⟨b, o + i * 1, none⟩))) ∧
  (∀ b o, Sw.qV Try.prog C (Instr.fieldAt 130 (.pointer (some ⟨b, o, none⟩)) 0) k = k (.pointer (some ⟨b, o, none⟩))) ∧
  (∀ b o, Sw.qV Try.prog C (Instr.fieldAt 130 (.pointer (some ⟨b, o, none⟩)) 1) k = k (.pointer (some ⟨b, o + 1, none⟩))) ∧
  (∀ r a n c, Sw.qV Try.prog C (Builtin.len_ #[137] r #[.slice a n c]) k = k (.int .i64 (n : Int))) ∧
  (∀ b o len cap ik (i : Nat), i < len → Sw.qV Try.prog C (Instr.indexAt 137 (.slice (some ⟨b, o, none⟩) len cap) (.int ik (i : Int))) k = k (.pointer (some ⟨b, o + i * 1, none⟩))) ∧
  (Sw.qV Try.prog C (Instr.build 25 #[]) k = k (.agg #[.int .i64 0, .slice none 0 0])) ∧
  (∀ v1 : Value, v1.oneCell' = true → Sw.qV Try.prog C (Instr.build 25 #[(1, v1)]) k = k (.agg #[.int .i64 0, v1])) ∧
  (∀ v0 v1 : Value, v0.oneCell' = true → v1.oneCell' = true → Sw.qV Try.prog C (Instr.build 28 #[(0, v0), (1, v1)]) k = k (.agg #[v0, v1, .int .i64 0, .bool false, .bool false, .int .i64 0, .int .i64 0, .int .i64 0, .slice none 0 0, .string ByteArray.empty, .string ByteArray.empty, .string ByteArray.empty, .slice none 0 0, .int .i64 0, .int .i64 0])) ∧
  (∀ v0 v1 v2 v6 : Value, v0.oneCell' = true → v1.oneCell' = true → v2.oneCell' = true → v6.oneCell' = true → Sw.qV Try.prog C (Instr.build 28 #[(0, v0), (1, v1), (2, v2), (6, v6)]) k = k (.agg #[v0, v1, v2, .bool false, .bool false, .int .i64 0, v6, .int .i64 0, .slice none 0 0, .string ByteArray.empty, .string ByteArray.empty, .string ByteArray.empty, .slice none 0 0, .int .i64 0, .int .i64 0])) ∧
  (∀ v0 v1 v7_0 v7_1 : Value, v0.oneCell' = true → v1.oneCell' = true → Sw.qV Try.prog C (Instr.build 28 #[(0, v0), (1, v1), (7, (.agg #[v7_0, v7_1]))]) k = k (.agg #[v0, v1, .int .i64 0, .bool false, .bool false, .int .i64 0, .int .i64 0, v7_0, v7_1, .string ByteArray.empty, .string ByteArray.empty, .string ByteArray.empty, .slice none 0 0, .int .i64 0, .int .i64 0])) ∧
  (∀ v0 v1 v8 : Value, v0.oneCell' = true → v1.oneCell' = true → v8.oneCell' = true → Sw.qV Try.prog C (Instr.build 28 #[(0, v0), (1, v1), (8, v8)]) k = k (.agg #[v0, v1, .int .i64 0, .bool false, .bool false, .int .i64 0, .int .i64 0, .int .i64 0, .slice none 0 0, v8, .string ByteArray.empty, .string ByteArray.empty, .slice none 0 0, .int .i64 0, .int .i64 0])) ∧
  (∀ v1 : Value, v1.oneCell' = true → Sw.qV Try.prog C (Instr.build 28 #[(1, v1)]) k = k (.agg #[.string ByteArray.empty, v1, .int .i64 0, .bool false, .bool false, .int .i64 0, .int .i64 0, .int .i64 0, .slice none 0 0, .string ByteArray.empty, .string ByteArray.empty, .string ByteArray.empty, .slice none 0 0, .int .i64 0, .int .i64 0])) ∧
  (Sw.qV Try.prog C (Instr.build 31 #[]) k = k (.agg #[.int .i64 0, .int .i64 0])) ∧
  (∀ v0 v1 : Value, v0.oneCell' = true → v1.oneCell' = true → Sw.qV Try.prog C (Instr.build 31 #[(0, v0), (1, v1)]) k = k (.agg #[v0, v1])) ∧
  (∀ v1 : Value, v1.oneCell' = true → Sw.qV Try.prog C (Instr.build 31 #[(1, v1)]) k = k (.agg #[.int .i64 0, v1])) ∧
  (∀ v0 v2 v1 : Value, v0.oneCell' = true → v2.oneCell' = true → v1.oneCell' = true → Sw.qV Try.prog C (Instr.build 44 #[(0, v0), (2, v2), (1, v1)]) k = k (.agg #[v0, v1, v2])) ∧
  (∀ v1 : Value, v1.oneCell' = true → Sw.qV Try.prog C (Instr.build 44 #[(1, v1)]) k = k (.agg #[.string ByteArray.empty, v1, .string ByteArray.empty])) ∧
  (∀ v0 v1 : Value, v0.oneCell' = true → v1.oneCell' = true → Sw.qV Try.prog C (Instr.build 50 #[(0, v0), (1, v1)]) k = k (.agg #[v0, v1])) ∧
  (∀ v1 : Value, v1.oneCell' = true → Sw.qV Try.prog C (Instr.build 50 #[(1, v1)]) k = k (.agg #[.string ByteArray.empty, v1])) ∧
  (Sw.qV Try.prog C (Instr.build 68 #[]) k = k (.agg #[.int .i64 0, .int .i64 0, .int .i64 0])) ∧
  (∀ v0 v1 v2 : Value, v0.oneCell' = true → v1.oneCell' = true → v2.oneCell' = true → Sw.qV Try.prog C (Instr.build 68 #[(0, v0), (1, v1), (2, v2)]) k = k (.agg #[v0, v1, v2])) ∧
  (∀ v0 v1 : Value, v0.oneCell' = true → v1.oneCell' = true → Sw.qV Try.prog C (Instr.build 77 #[(0, v0), (1, v1)]) k = k (.agg #[v0, v1])) ∧
  (∀ v0_0 v0_1 v0_2 v1 v2 v3 v4 : Value, v1.oneCell' = true → v2.oneCell' = true → v3.oneCell' = true → v4.oneCell' = true → Sw.qV Try.prog C (Instr.build 101 #[(0, (.agg #[v0_0, v0_1, v0_2])), (1, v1), (2, v2), (3, v3), (4, v4)]) k = k (.agg #[v0_0, v0_1, v0_2, v1, v2, v3, v4, .string ByteArray.empty, .slice none 0 0])) ∧
  (∀ v0 v1 v2 v3 v4 v5 v6 v7 v8 v9 v10 v11 v12 : Value, v0.oneCell' = true → v1.oneCell' = true → v2.oneCell' = true → v3.oneCell' = true → v4.oneCell' = true → v5.oneCell' = true → v6.oneCell' = true → v7.oneCell' = true → v8.oneCell' = true → v9.oneCell' = true → v10.oneCell' = true → v11.oneCell' = true → v12.oneCell' = true → Sw.qV Try.prog C (Instr.build 116 #[(0, v0), (1, v1), (2, v2), (3, v3), (4, v4), (5, v5), (6, v6), (7, v7), (8, v8), (9, v9), (10, v10), (11, v11), (12, v12)]) k = k (.agg #[v0, v1, v2, v3, v4, v5, v6, v7, v8, v9, v10, v11, v12])) ∧
  (∀ v0 v1 : Value, v0.oneCell' = true → v1.oneCell' = true → Sw.qV Try.prog C (Instr.build 130 #[(0, v0), (1, v1)]) k = k (.agg #[v0, v1])) ∧
  (∀ q n, Sw.qV Try.prog C (Go.convert 5 3 (.int q n)) k = k (.int .i64 (IntKind.i64.wrap n))) ∧
  (∀ v, Sw.qV Try.prog C (Instr.makeInterface 68 v) k = k (.iface 68 v)) ∧
  (∀ v, Sw.qV Try.prog C (Instr.typeAssert (.iface 68 v) 20 68 true) k = k (.tuple #[v, .bool true])) :=
  ⟨(by intros; apply Sw.qV_of; intros; apply o67 <;> assumption), (by intros; apply Sw.qV_of; intros; apply o69 <;> assumption), (by intros; apply Sw.qV_of; intros; apply o72 <;> assumption), (by intros; apply Sw.qV_of; intros; apply o73 <;> assumption), (by intros; apply Sw.qV_of; intros; apply o80 <;> assumption), (by intros; apply Sw.qV_of; intros; apply o81 <;> assumption), (by intros; apply Sw.qV_of; intros; apply o82 <;> assumption), (by intros; apply Sw.qV_of; intros; apply o83 <;> assumption), (by intros; apply Sw.qV_of; intros; apply o84 <;> assumption), (by intros; apply Sw.qV_of; intros; apply o86 <;> assumption), (by intros; apply Sw.qV_of; intros; apply o87 <;> assumption), (by intros; apply Sw.qV_of; intros; apply o88 <;> assumption), (by intros; apply Sw.qV_of; intros; apply o89 <;> assumption), (by intros; apply Sw.qV_of; intros; apply o92 <;> assumption), (by intros; apply Sw.qV_of; intros; apply o93 <;> assumption), (by intros; apply Sw.qV_of; intros; apply o95 <;> assumption), (by intros; apply Sw.qV_of; intros; apply o96 <;> assumption), (by intros; apply Sw.qV_of; intros; apply o98 <;> assumption), (by intros; apply Sw.qV_of; intros; apply o99 <;> assumption), (by intros; apply Sw.qV_of; intros; apply o100 <;> assumption), (by intros; apply Sw.qV_of; intros; apply o101 <;> assumption), (by intros; apply Sw.qV_of; intros; apply o102 <;> assumption), (by intros; apply Sw.qV_of; intros; apply o103 <;> assumption), (by intros; apply Sw.qV_of; intros; apply o104 <;> assumption), (by intros; apply Sw.qV_of; intros; apply o105 <;> assumption), (by intros; apply Sw.qV_of; intros; apply o106 <;> assumption), (by intros; apply Sw.qV_of; intros; apply o107 <;> assumption), (by intros; apply Sw.qV_of; intros; apply o108 <;> assumption), (by intros; apply Sw.qV_of; intros; apply o109 <;> assumption), (by intros; apply Sw.qV_of; intros; apply o110 <;> assumption), (by intros; apply Sw.qV_of; intros; apply o111 <;> assumption), (by intros; apply Sw.qV_of; intros; apply o112 <;> assumption), (by intros; apply Sw.qV_of; intros; apply o113 <;> assumption), (by intros; apply Sw.qV_of; intros; apply o114 <;> assumption), (by intros; apply Sw.qV_of; intros; apply o115 <;> assumption), (by intros; apply Sw.qV_of; intros; apply o116 <;> assumption), (by intros; apply Sw.qV_of; intros; apply o117 <;> assumption), (by intros; apply Sw.qV_of; intros; apply o131 <;> assumption), (by intros; apply Sw.qV_of; intros; apply o132 <;> assumption), (by intros; apply Sw.qV_of; intros; apply o133 <;> assumption)⟩
theorem OPQ2 {C : World → Prop} [Sw.ClassNe C] {k : Value → Prop} : (∀ d v, Sw.qV Try.prog C (Sw.binS .neq 20 true (.iface d v) .nilIface) k = k (.bool true)) ∧
  (Sw.qV Try.prog C (Sw.binS .neq 20 true .nilIface .nilIface) k = k (.bool false)) ∧
  (∀ c A n m, Sw.qV Try.prog C (Sw.binS .eql 23 c (.slice A n m) (.slice none 0 0)) k = k (.bool A.isNone)) ∧
  (∀ c A n m, Sw.qV Try.prog C (Sw.binS .eql 26 c (.slice A n m) (.slice none 0 0)) k = k (.bool A.isNone)) ∧
  (∀ c (a0 b0 : Int) (a1 b1 : Int), Sw.qV Try.prog C (Sw.binS .eql 31 c (.agg #[.int .i64 a0, .int .i64 a1]) (.agg #[.int .i64 b0, .int .i64 b1])) k = k (.bool (decide (a0 = b0) && (decide (a1 = b1) && true)))) ∧
  (∀ c (a0 b0 : Int) (a1 b1 : Int), Sw.qV Try.prog C (Sw.binS .neq 31 c (.agg #[.int .i64 a0, .int .i64 a1]) (.agg #[.int .i64 b0, .int .i64 b1])) k = k (.bool (!(decide (a0 = b0) && (decide (a1 = b1) && true))))) ∧
  (∀ c A n m, Sw.qV Try.prog C (Sw.binS .eql 42 c (.slice A n m) (.slice none 0 0)) k = k (.bool A.isNone)) ∧
  (∀ c A n m, Sw.qV Try.prog C (Sw.binS .eql 48 c (.slice A n m) (.slice none 0 0)) k = k (.bool A.isNone)) ∧
  (∀ c f x y, Sw.qV Try.prog C (Sw.binS .neq 59 c (.func f x y) .nilFunc) k = k (.bool true)) ∧
  (∀ c f x y, Sw.qV Try.prog C (Sw.binS .eql 59 c (.func f x y) .nilFunc) k = k (.bool false)) ∧
  (∀ c (a0 b0 : Int) (a1 b1 : Int) (a2 b2 : ByteArray), Sw.qV Try.prog C (Sw.binS .eql 62 c (.agg #[.int .i64 a0, .int .i64 a1, .string a2]) (.agg #[.int .i64 b0, .int .i64 b1, .string b2])) k = k (.bool (decide (a0 = b0) && (decide (a1 = b1) && (decide (a2 = b2) && true))))) ∧
  (∀ c (a0 b0 : Int) (a1 b1 : Int) (a2 b2 : ByteArray), Sw.qV Try.prog C (Sw.binS .neq 62 c (.agg #[.int .i64 a0, .int .i64 a1, .string a2]) (.agg #[.int .i64 b0, .int .i64 b1, .string b2])) k = k (.bool (!(decide (a0 = b0) && (decide (a1 = b1) && (decide (a2 = b2) && true)))))) ∧
  (∀ c (a0 b0 : Int) (a1 b1 : Int) (a2 b2 : Int), Sw.qV Try.prog C (Sw.binS .eql 68 c (.agg #[.int .i64 a0, .int .i64 a1, .int .i64 a2]) (.agg #[.int .i64 b0, .int .i64 b1, .int .i64 b2])) k = k (.bool (decide (a0 = b0) && (decide (a1 = b1) && (decide (a2 = b2) && true))))) ∧
  (∀ c (a0 b0 : Int) (a1 b1 : Int) (a2 b2 : Int), Sw.qV Try.prog C (Sw.binS .neq 68 c (.agg #[.int .i64 a0, .int .i64 a1, .int .i64 a2]) (.agg #[.int .i64 b0, .int .i64 b1, .int .i64 b2])) k = k (.bool (!(decide (a0 = b0) && (decide (a1 = b1) && (decide (a2 = b2) && true)))))) ∧
  (∀ c (a0 b0 : ByteArray) (a1 b1 : Int), Sw.qV Try.prog C (Sw.binS .eql 77 c (.agg #[.string a0, .int .i64 a1]) (.agg #[.string b0, .int .i64 b1])) k = k (.bool (decide (a0 = b0) && (decide (a1 = b1) && true)))) ∧
  (∀ c (a0 b0 : ByteArray) (a1 b1 : Int), Sw.qV Try.prog C (Sw.binS .neq 77 c (.agg #[.string a0, .int .i64 a1]) (.agg #[.string b0, .int .i64 b1])) k = k (.bool (!(decide (a0 = b0) && (decide (a1 = b1) && true))))) ∧
  (∀ c (a0 b0 : ByteArray) (a1 b1 : ByteArray) (a2 b2 : ByteArray) (a3 b3 : ByteArray) (a4 b4 : Int) (a5 b5 : Int) (a6 b6 : Int) (a7 b7 : Int) (a8 b8 : Int) (a9 b9 : Int) (a10 b10 : Int) (a11 b11 : Bool) (a12 b12 : Bool), Sw.qV Try.prog C (Sw.binS .eql 116 c (.agg #[.string a0, .string a1, .string a2, .string a3, .int .i64 a4, .int .i64 a5, .int .i64 a6, .int .i64 a7, .int .i64 a8, .int .i64 a9, .int .i64 a10, .bool a11, .bool a12]) (.agg #[.string b0, .string b1, .string b2, .string b3, .int .i64 b4, .int .i64 b5, .int .i64 b6, .int .i64 b7, .int .i64 b8, .int .i64 b9, .int .i64 b10, .bool b11, .bool b12])) k = k (.bool (decide (a0 = b0) && (decide (a1 = b1) && (decide (a2 = b2) && (decide (a3 = b3) && (decide (a4 = b4) && (decide (a5 = b5) && (decide (a6 = b6) && (decide (a7 = b7) && (decide (a8 = b8) && (decide (a9 = b9) && (decide (a10 = b10) && (decide (a11 = b11) && (decide (a12 = b12) && true))))))))))))))) ∧
  (∀ c (a0 b0 : ByteArray) (a1 b1 : ByteArray) (a2 b2 : ByteArray) (a3 b3 : ByteArray) (a4 b4 : Int) (a5 b5 : Int) (a6 b6 : Int) (a7 b7 : Int) (a8 b8 : Int) (a9 b9 : Int) (a10 b10 : Int) (a11 b11 : Bool) (a12 b12 : Bool), Sw.qV Try.prog C (Sw.binS .neq 116 c (.agg #[.string a0, .string a1, .string a2, .string a3, .int .i64 a4, .int .i64 a5, .int .i64 a6, .int .i64 a7, .int .i64 a8, .int .i64 a9, .int .i64 a10, .bool a11, .bool a12]) (.agg #[.string b0, .string b1, .string b2, .string b3, .int .i64 b4, .int .i64 b5, .int .i64 b6, .int .i64 b7, .int .i64 b8, .int .i64 b9, .int .i64 b10, .bool b11, .bool b12])) k = k (.bool (!(decide (a0 = b0) && (decide (a1 = b1) && (decide (a2 = b2) && (decide (a3 = b3) && (decide (a4 = b4) && (decide (a5 = b5) && (decide (a6 = b6) && (decide (a7 = b7) && (decide (a8 = b8) && (decide (a9 = b9) && (decide (a10 = b10) && (decide (a11 = b11) && (decide (a12 = b12) && true)))))))))))))))) :=
  ⟨(by intros; apply Sw.qV_of; intros; apply o134 <;> assumption), (by intros; apply Sw.qV_of; intros; apply o135 <;> assumption), (by intros; apply Sw.qV_of; intros; apply o136 <;> assumption), (by intros; apply Sw.qV_of; intros; apply o137 <;> assumption), (by intros; apply Sw.qV_of; intros; apply o138 <;> assumption), (by intros; apply Sw.qV_of; intros; apply o139 <;> assumption), (by intros; apply Sw.qV_of; intros; apply o140 <;> assumption), (by intros; apply Sw.qV_of; intros; apply o141 <;> assumption), (by intros; apply Sw.qV_of; intros; apply o142 <;> assumption), (by intros; apply Sw.qV_of; intros; apply o143 <;> assumption), (by intros; apply Sw.qV_of; intros; apply o144 <;> assumption), (by intros; apply Sw.qV_of; intros; apply o145 <;> assumption), (by intros; apply Sw.qV_of; intros; apply o146 <;> assumption), (by intros; apply Sw.qV_of; intros; apply o147 <;> assumption), (by intros; apply Sw.qV_of; intros; apply o148 <;> assumption), (by intros; apply Sw.qV_of; intros; apply o149 <;> assumption), (by intros; apply Sw.qV_of; intros; apply o150 <;> assumption), (by intros; apply Sw.qV_of; intros; apply o151 <;> assumption)⟩
end
theorem PR : type_of% (And.intro @Sw.GEN <| And.intro @Sw.op_makeMap <| And.intro @Sw.CTL <| And.intro @Sw.GENQ <| And.intro @OPS0 <| And.intro @OPS1 <| And.intro @OPS2 <| And.intro @OPS3 <| And.intro @OPU0 <| And.intro @OPW0 <| And.intro @OPW1 <| And.intro @OPQ0 <| And.intro @OPQ1 <| And.intro @OPQ2 <| And.intro @Sw.joinK_eq <| And.intro @Sw.op_rem <| And.intro @Sw.qV_shl <| And.intro @Sw.qV_rem <| And.intro @Sw.guard_undef <| @Sw.op_shl) := (And.intro @Sw.GEN <| And.intro @Sw.op_makeMap <| And.intro @Sw.CTL <| And.intro @Sw.GENQ <| And.intro @OPS0 <| And.intro @OPS1 <| And.intro @OPS2 <| And.intro @OPS3 <| And.intro @OPU0 <| And.intro @OPW0 <| And.intro @OPW1 <| And.intro @OPQ0 <| And.intro @OPQ1 <| And.intro @OPQ2 <| And.intro @Sw.joinK_eq <| And.intro @Sw.op_rem <| And.intro @Sw.qV_shl <| And.intro @Sw.qV_rem <| And.intro @Sw.guard_undef <| @Sw.op_shl)
theorem QR : type_of% (And.intro @OPA0 <| And.intro @Sw.dirty_eq <| And.intro @Sw.onCells_nil <| And.intro @Sw.onCells_some <| And.intro @Sw.onFree_nil <| And.intro @Sw.onFree_false <| And.intro @Sw.guard_or <| And.intro @Sw.guard_and <| And.intro @Sw.STD <| And.intro @Sw.heap_newE <| And.intro @Sw.heap_oldE <| And.intro @Sw.heap_drewE <| And.intro @Sw.heap_setE <| And.intro @Sw.cell_newE <| And.intro @Sw.frozen_newE <| And.intro @Sw.set_newE <| And.intro @Sw.cell_old <| And.intro @Sw.frozen_old <| And.intro @Sw.set_old <| And.intro @Sw.wrap_succ <| And.intro @List.setIfInBounds_toArray.{0} <| And.intro @List.set_cons_zero.{0} <| And.intro @List.set_cons_succ.{0} <| And.intro @decide_true <| And.intro @decide_false <| And.intro @Bool.false_eq_true <| And.intro @if_false.{1} <| And.intro @if_true.{1} <| And.intro @Option.isSome_some.{0} <| And.intro @Option.isSome_none.{0} <| And.intro @Option.getD_some.{0} <| And.intro @Option.getD_none.{0} <| And.intro @Sw.cell_set_map <| And.intro @Sw.cell_set_other <| And.intro @Option.map_some.{0, 0} <| And.intro @List.getElem?_toArray.{0} <| And.intro @List.getElem?_cons_succ.{0} <| And.intro @List.getElem?_cons_zero.{0} <| And.intro @Nat.zero_add <| And.intro @Nat.add_zero <| And.intro @World.size_alloc <| And.intro @World.size_setCell <| And.intro @World.size_drew <| And.intro @World.putObj_size <| And.intro @Sw.putW_size <| And.intro @Bool.not_true <| And.intro @Bool.not_false <| And.intro @Bool.and_true <| And.intro @Bool.true_and <| And.intro @Bool.and_false <| And.intro @Bool.false_and <| And.intro @Bool.or_true <| And.intro @Bool.true_or <| And.intro @Bool.or_false <| And.intro @Bool.false_or <| @Bool.not_not) := (And.intro @OPA0 <| And.intro @Sw.dirty_eq <| And.intro @Sw.onCells_nil <| And.intro @Sw.onCells_some <| And.intro @Sw.onFree_nil <| And.intro @Sw.onFree_false <| And.intro @Sw.guard_or <| And.intro @Sw.guard_and <| And.intro @Sw.STD <| And.intro @Sw.heap_newE <| And.intro @Sw.heap_oldE <| And.intro @Sw.heap_drewE <| And.intro @Sw.heap_setE <| And.intro @Sw.cell_newE <| And.intro @Sw.frozen_newE <| And.intro @Sw.set_newE <| And.intro @Sw.cell_old <| And.intro @Sw.frozen_old <| And.intro @Sw.set_old <| And.intro @Sw.wrap_succ <| And.intro @List.setIfInBounds_toArray.{0} <| And.intro @List.set_cons_zero.{0} <| And.intro @List.set_cons_succ.{0} <| And.intro @decide_true <| And.intro @decide_false <| And.intro @Bool.false_eq_true <| And.intro @if_false.{1} <| And.intro @if_true.{1} <| And.intro @Option.isSome_some.{0} <| And.intro @Option.isSome_none.{0} <| And.intro @Option.getD_some.{0} <| And.intro @Option.getD_none.{0} <| And.intro @Sw.cell_set_map <| And.intro @Sw.cell_set_other <| And.intro @Option.map_some.{0, 0} <| And.intro @List.getElem?_toArray.{0} <| And.intro @List.getElem?_cons_succ.{0} <| And.intro @List.getElem?_cons_zero.{0} <| And.intro @Nat.zero_add <| And.intro @Nat.add_zero <| And.intro @World.size_alloc <| And.intro @World.size_setCell <| And.intro @World.size_drew <| And.intro @World.putObj_size <| And.intro @Sw.putW_size <| And.intro @Bool.not_true <| And.intro @Bool.not_false <| And.intro @Bool.and_true <| And.intro @Bool.true_and <| And.intro @Bool.and_false <| And.intro @Bool.false_and <| And.intro @Bool.or_true <| And.intro @Bool.true_or <| And.intro @Bool.or_false <| And.intro @Bool.false_or <| @Bool.not_not)
theorem SZ : type_of% (And.intro @World.size_alloc <| And.intro @World.size_setCell <| And.intro @World.size_drew <| And.intro @World.putObj_size <| @Sw.putW_size) := (And.intro @World.size_alloc <| And.intro @World.size_setCell <| And.intro @World.size_drew <| And.intro @World.putObj_size <| @Sw.putW_size)
theorem ee {a b : World} (h : Sw.Ext a b := by repeat' first | exact Sw.Ext.refl _ | assumption | apply Sw.Ext.alloc | apply Sw.Ext.wdrew | apply Sw.Ext.drew | (refine Sw.Ext.setCell ?_ (by first | omega | (simp only [SZ] at *; omega)) _) | (refine Sw.Ext.putObj ?_ (by first | omega | (simp only [SZ] at *; omega)) _) | (refine Sw.Ext.trans ?_ (by assumption))) : Sw.Ext a b := h
end Go.Proofs.Ytiajhbbmgglmlaa
namespace Go.Proofs.Ytiajhbbmgglmlaa
open Sw
structure TermD where
  field : ByteArray
  factor : Int
 deriving DecidableEq
structure CaseD where
  low : Int
  high : Int
  of : ByteArray
 deriving DecidableEq
structure FieldD where
  name : ByteArray
  kind : Int
  bits : Int
  little : Bool
  loose : Bool
  low : Int
  high : Int
  base : Int
  terms : List TermD
  of : ByteArray
  tag : ByteArray
  fr : ByteArray
  cases : List CaseD
  check : Int
  key : Int
 deriving DecidableEq
structure MsgD where
  name : ByteArray
  fields : List FieldD
 deriving DecidableEq
structure DefD where
  name : ByteArray
  msgs : List MsgD
  start : ByteArray
 deriving DecidableEq
abbrev termCells (t : TermD) : List Value := [.string t.field, .int .i64 t.factor]
abbrev caseCells (c : CaseD) : List Value := [.int .i64 c.low, .int .i64 c.high, .string c.of]
abbrev fieldCells (f : FieldD) (tv cv : Value) : List Value := [.string f.name, .int .i64 f.kind, .int .i64 f.bits, .bool f.little, .bool f.loose, .int .i64 f.low, .int .i64 f.high, .int .i64 f.base, tv, .string f.of, .string f.tag, .string f.fr, cv, .int .i64 f.check, .int .i64 f.key]
abbrev msgCells (m : MsgD) (fv : Value) : List Value := [.string m.name, fv]
abbrev defCells (d : DefD) (mv : Value) : List Value := [.string d.name, mv, .string d.start]
def ETerm (_ : World) (cs : List Value) (t : TermD) : Prop := cs = termCells t
def ECase (_ : World) (cs : List Value) (c : CaseD) : Prop := cs = caseCells c
def TermsOf (w : World) (v : Value) (l : List TermD) : Prop := SliceOf w 2 ETerm v l
def CasesOf (w : World) (v : Value) (l : List CaseD) : Prop := SliceOf w 3 ECase v l
def EField (w : World) (cs : List Value) (f : FieldD) : Prop := ∃ tv cv, cs = fieldCells f tv cv ∧ TermsOf w tv f.terms ∧ CasesOf w cv f.cases
def FieldsOf (w : World) (v : Value) (l : List FieldD) : Prop := SliceOf w 15 EField v l
def EMsg (w : World) (cs : List Value) (m : MsgD) : Prop := ∃ fv, cs = msgCells m fv ∧ FieldsOf w fv m.fields
def MsgsOf (w : World) (v : Value) (l : List MsgD) : Prop := SliceOf w 2 EMsg v l
def EByte (_ : World) (cs : List Value) (b : UInt8) : Prop := cs = [.int .u8 b.toNat]
def EBool (_ : World) (cs : List Value) (b : Bool) : Prop := cs = [.bool b]
def EStr (_ : World) (cs : List Value) (s : ByteArray) : Prop := cs = [.string s]
def EInt (_ : World) (cs : List Value) (n : Int) : Prop := cs = [.int .i64 n]
theorem keptTerm : Kept ETerm := fun _ _ _ _ _ h => h
theorem keptCase : Kept ECase := fun _ _ _ _ _ h => h
theorem keptStr : Kept EStr := fun _ _ _ _ _ h => h
theorem keptField : Kept EField := fun _ _ _ _ e ⟨tv, cv, h, h1, h2⟩ => ⟨tv, cv, h, h1.ext keptTerm e, h2.ext keptCase e⟩
theorem keptMsg : Kept EMsg := fun _ _ _ _ e ⟨fv, h, h1⟩ => ⟨fv, h, h1.ext keptField e⟩
theorem TermsOf.ext {w w' : World} {v : Value} {l : List TermD} (h : TermsOf w v l) (e : Ext w w') : TermsOf w' v l := SliceOf.ext keptTerm h e
theorem CasesOf.ext {w w' : World} {v : Value} {l : List CaseD} (h : CasesOf w v l) (e : Ext w w') : CasesOf w' v l := SliceOf.ext keptCase h e
theorem FieldsOf.ext {w w' : World} {v : Value} {l : List FieldD} (h : FieldsOf w v l) (e : Ext w w') : FieldsOf w' v l := SliceOf.ext keptField h e
theorem MsgsOf.ext {w w' : World} {v : Value} {l : List MsgD} (h : MsgsOf w v l) (e : Ext w w') : MsgsOf w' v l := SliceOf.ext keptMsg h e
theorem EField.op {w : World} {cs : List Value} {f : FieldD} (h : EField w cs f) : ∃ tv cv, cs = fieldCells f tv cv ∧ TermsOf w tv f.terms ∧ CasesOf w cv f.cases ∧ tv.oneCell' = true ∧ cv.oneCell' = true := by
  obtain ⟨tv, cv, h1, h2, h3⟩ := h; exact ⟨tv, cv, h1, h2, h3, SliceOf.oneCell h2, SliceOf.oneCell h3⟩
def FieldVal (w : World) (v : Value) (f : FieldD) : Prop := ∃ tv cv, v = .agg (fieldCells f tv cv).toArray ∧ TermsOf w tv f.terms ∧ CasesOf w cv f.cases
def MsgVal (w : World) (v : Value) (m : MsgD) : Prop := ∃ fv, v = .agg (msgCells m fv).toArray ∧ FieldsOf w fv m.fields
def DefVal (w : World) (v : Value) (d : DefD) : Prop := ∃ mv, v = .agg (defCells d mv).toArray ∧ MsgsOf w mv d.msgs
def SizeVal (w : World) (v : Value) (base : Int) (ts : List TermD) : Prop := ∃ tv, v = .agg #[.int .i64 base, tv] ∧ TermsOf w tv ts
def termVal (t : TermD) : Value := .agg (termCells t).toArray
theorem FieldVal.ext {w w' : World} {v : Value} {f : FieldD} (h : FieldVal w v f) (e : Ext w w') : FieldVal w' v f := by obtain ⟨tv, cv, h, h1, h2⟩ := h; exact ⟨tv, cv, h, h1.ext e, h2.ext e⟩
theorem FieldVal.op {w : World} {v : Value} {f : FieldD} (h : FieldVal w v f) : ∃ tv cv, v = .agg (fieldCells f tv cv).toArray ∧ TermsOf w tv f.terms ∧ CasesOf w cv f.cases ∧ tv.oneCell' = true ∧ cv.oneCell' = true := by
  obtain ⟨tv, cv, h1, h2, h3⟩ := h; exact ⟨tv, cv, h1, h2, h3, SliceOf.oneCell h2, SliceOf.oneCell h3⟩
theorem MsgVal.ext {w w' : World} {v : Value} {m : MsgD} (h : MsgVal w v m) (e : Ext w w') : MsgVal w' v m := by obtain ⟨fv, h, h1⟩ := h; exact ⟨fv, h, h1.ext e⟩
theorem DefVal.ext {w w' : World} {v : Value} {d : DefD} (h : DefVal w v d) (e : Ext w w') : DefVal w' v d := by obtain ⟨fv, h, h1⟩ := h; exact ⟨fv, h, h1.ext e⟩
theorem SizeVal.ext {w w' : World} {v : Value} {b : Int} {ts : List TermD} (h : SizeVal w v b ts) (e : Ext w w') : SizeVal w' v b ts := by obtain ⟨fv, h, h1⟩ := h; exact ⟨fv, h, h1.ext e⟩
def Tests {α : Type} (w0 : World) (V : World → Value → α → Prop) (g : FuncId) (caps : Array Value) (p : α → Bool) (l : List α) : Prop :=
  ∀ w v x, x ∈ l → Ext w0 w → V w v x → Ret Try.prog g (#[v] ++ caps) w fun r w' => r = .bool (p x) ∧ Ext w w'
end Go.Proofs.Ytiajhbbmgglmlaa
namespace Go.Sw
section
variable {P : Program} {N : Nat} {ro : Option Nat} {QP : KP} {T : Env → List Deferred → World → Prop} {o : Oper} {rest : List Oper} {ρ : Env} {ds : List Deferred} {w : World}
theorem zm {v : Value} (h : denSeq P N ro QP T rest (put N ρ o.dst v) ds w) (hs : execOp (ev ρ) o = Sem.pure (.value v) := by exact rfl) (hd : isDefer o.op = false := by exact rfl) : denSeq P N ro QP T (o :: rest) ρ ds w := sim_move hd hs h
theorem zv {s : Sem Value} {QP' : List PanicEntry → World → Prop} {k : Value → World → Prop} (h : opV P s QP' w k) (hk : ∀ v w, k v w → denSeq P N ro QP T rest (put N ρ o.dst v) ds w) (hs : execOp (ev ρ) o = (do pure (.value (← s))) := by exact rfl) (hd : isDefer o.op = false := by exact rfl) (hp : ∀ ch w, QP' ch w → QP ch ρ ds w := by exact fun _ _ h => ⟨rfl, h⟩) : denSeq P N ro QP T (o :: rest) ρ ds w := sim_val h hd hs hp hk
theorem zq {s : Sem Value} {QP' : List PanicEntry → World → Prop} {k : Value → World → Prop} (h : opV P s QP' w k) (hk : ∀ v w, k v w → denSeq P N ro QP T rest (put N ρ o.dst v) ds w) (hs : execOp (ev ρ) o = (do pure (.value (← s))) := by exact rfl) (hd : isDefer o.op = false := by exact rfl) (hp : ∀ ch w, QP' ch w → QP ch ρ ds w := by exact fun _ _ h => outQ_of rfl h) : denSeq P N ro QP T (o :: rest) ρ ds w := sim_val h hd hs hp hk
theorem zu {s : Sem Unit} {QP' : List PanicEntry → World → Prop} {k : World → Prop} (h : opU P s QP' w k) (hk : ∀ w, k w → denSeq P N ro QP T rest (put N ρ o.dst undef) ds w) (hs : execOp (ev ρ) o = (do s; pure .skip) := by exact rfl) (hd : isDefer o.op = false := by exact rfl) (hp : ∀ ch w, QP' ch w → QP ch ρ ds w := by exact fun _ _ h => ⟨rfl, h⟩) : denSeq P N ro QP T (o :: rest) ρ ds w := sim_unit h hd hs hp hk
theorem zb {op : BinOp} {t ty : TypeId} {x y : Operand} {d : Nat} {t2 : TypeId} {pos : String} {after : Array Edge} {g : Option (Nat × Bool)} {c : Bool} {a b : Value} {QP' : List PanicEntry → World → Prop} {k : Value → World → Prop}
    (h : opV P (binS op t c a b) QP' w k) (hk : ∀ v w', k v w' → denSeq P N ro QP T rest (put N ρ (some d) v) ds w') (hc : (isConst x || isConst y) = c := by exact rfl) (h1 : ev ρ x = a := by exact rfl) (h2 : ev ρ y = b := by exact rfl) (hp : ∀ ch w, QP' ch w → QP ch ρ ds w := by exact fun _ _ h => ⟨rfl, h⟩) :
    denSeq P N ro QP T (⟨some d, .binOp op t x y t2, ty, pos, after, g⟩ :: rest) ρ ds w := sim_bin h hc h1 h2 hp hk
theorem zc {f : FuncId} {l : List Operand} {ats : Array TypeId} {ty : TypeId} {dst : Option Nat} {pos : String} {after : Array Edge} {g : Option (Nat × Bool)} {args : List Value} {QP' : List PanicEntry → World → Prop} {k : Value → World → Prop}
    (h : callK P f args.toArray QP' w k) (hf : Callable P f) (hk : ∀ v w', k v w' → denSeq P N ro QP T rest (put N ρ dst v) ds w') (h2 : l.map (ev ρ) = args := by exact rfl) (hp : ∀ ch w, QP' ch w → QP ch ρ ds w := by exact fun _ _ h => ⟨rfl, h⟩) :
    denSeq P N ro QP T (⟨dst, .call ⟨.value (.func f), l.toArray, ats⟩, ty, pos, after, g⟩ :: rest) ρ ds w := sim_call h hf h2 hp hk
theorem zx {b : Builtin} {l : List Operand} {ats : Array TypeId} {ty : TypeId} {d : Nat} {pos : String} {after : Array Edge} {g : Option (Nat × Bool)} {s : Sem Value} {QP' : List PanicEntry → World → Prop} {k : Value → World → Prop}
    (h : opV P s QP' w k) (hk : ∀ v w', k v w' → denSeq P N ro QP T rest (put N ρ (some d) v) ds w') (hs : builtin b ats ty ((l.map fun | .const _ => true | _ => false).toArray) (l.map (ev ρ)).toArray = (do pure (.value (← s))) := by exact rfl) (hp : ∀ ch w, QP' ch w → QP ch ρ ds w := by exact fun _ _ h => ⟨rfl, h⟩) :
    denSeq P N ro QP T (⟨some d, .call ⟨.builtin b, l.toArray, ats⟩, ty, pos, after, g⟩ :: rest) ρ ds w := sim_builtin h hs hp hk
theorem zt {S : List Nat} {J G : Env → World → Prop} (hT : ∀ ρ' w, Fr S ρ ρ' → J ρ' w → G ρ' w) {ρ' : Env} {w : World} (h : J ρ' w) (hf : Fr S ρ ρ' := by repeat (first | exact Fr.refl _ _ | refine Fr.put rfl ?_ | refine Fr.put_none ?_ | refine Fr.mix rfl ?_ | refine Fr.skipAll rfl ?_)) : G ρ' w := hT ρ' w hf h
end
section
variable {P : Program} {N : Nat} {ro : Option Nat} {ops : Array Oper} {Q : Env → List Deferred → World → Prop} {QP0 : List PanicEntry → List Deferred → World → Prop} {C : World → Prop}
theorem ze (i : Nat) {fuel : Nat} {done : List Nat} {o : Oper} {ρ : Env} {ds : List Deferred} {w : World} {k : Value → Prop} (hC : C w) {s : Sem Value} (h : qV P C s k) (hk : ∀ v, k v → denD P N ro ops Q (fun ch _ ds w => QP0 ch ds w) C fuel (i :: done) (put N ρ o.dst v) ds w)
    (hi : ops[i]? = some o := by exact rfl) (hr : (readyL ops done).contains i = true := by kernel_rfl) (hf : freeB ops done i = true := by kernel_rfl) (hg : ∀ p q, guardO ops o ρ p q = p := by exact fun _ _ => rfl) (hd : isDefer o.op = false := by exact rfl) (hs : execOp (ev ρ) o = (do pure (.value (← s))) := by exact rfl) :
    denD P N ro ops Q (fun ch _ ds w => QP0 ch ds w) C (fuel + 1) done ρ ds w := let ⟨v, hv, hkv⟩ := h; sim_dsilent i hC hi hr hf hg hd (qV_run hs hv) (hk v hkv)
theorem zw (i : Nat) {fuel : Nat} {done : List Nat} {o : Oper} {v : Value} {ρ : Env} {ds : List Deferred} {w : World} (hC : C w) (h : denD P N ro ops Q (fun ch _ ds w => QP0 ch ds w) C fuel (i :: done) (put N ρ o.dst v) ds w)
    (hi : ops[i]? = some o := by exact rfl) (hr : (readyL ops done).contains i = true := by kernel_rfl) (hf : freeB ops done i = true := by kernel_rfl) (hg : ∀ p q, guardO ops o ρ p q = p := by exact fun _ _ => rfl) (hd : isDefer o.op = false := by exact rfl) (hs : execOp (ev ρ) o = Sem.pure (.value v) := by exact rfl) :
    denD P N ro ops Q (fun ch _ ds w => QP0 ch ds w) C (fuel + 1) done ρ ds w := sim_dsilent i hC hi hr hf hg hd (move_run hs) h
end
theorem zr {P : Program} {N : Nat} {ro : Option Nat} {id : Nat} {l : List Oper} {Q : K} {QP : KP} {ρ : Env} {ds : List Deferred} {w : World} (h : denSeq P N ro QP (fun ρ ds w => Q .normal ρ ds w) l ρ ds w) (hu : unguarded l = true := by exact rfl) : den P N ro (.region id l.toArray false) Q QP ρ ds w := sim_region hu h
theorem zn : type_of% @sim_nil := @sim_nil
theorem zk : type_of% @sim_then := @sim_then
theorem zs : type_of% @sim_seq := @sim_seq
end Go.Sw
namespace Go.Proofs.Ytiajhbbmgglmlaa
open Sw
theorem c3 : Sw.Callable Try.prog 3 := ⟨_, Try.func3, by kernel_rfl, rfl⟩
theorem c4 : Sw.Callable Try.prog 4 := ⟨_, Try.func4, by kernel_rfl, rfl⟩
theorem c5 : Sw.Callable Try.prog 5 := ⟨_, Try.func5, by kernel_rfl, rfl⟩
theorem c6 : Sw.Callable Try.prog 6 := ⟨_, Try.func6, by kernel_rfl, rfl⟩
theorem c7 : Sw.Callable Try.prog 7 := ⟨_, Try.func7, by kernel_rfl, rfl⟩
theorem c8 : Sw.Callable Try.prog 8 := ⟨_, Try.func8, by kernel_rfl, rfl⟩
theorem c9 : Sw.Callable Try.prog 9 := ⟨_, Try.func9, by kernel_rfl, rfl⟩
theorem c10 : Sw.Callable Try.prog 10 := ⟨_, Try.func10, by kernel_rfl, rfl⟩
theorem c11 : Sw.Callable Try.prog 11 := ⟨_, Try.func11, by kernel_rfl, rfl⟩
theorem c12 : Sw.Callable Try.prog 12 := ⟨_, Try.func12, by kernel_rfl, rfl⟩
theorem c13 : Sw.Callable Try.prog 13 := ⟨_, Try.func13, by kernel_rfl, rfl⟩
theorem c14 : Sw.Callable Try.prog 14 := ⟨_, Try.func14, by kernel_rfl, rfl⟩
theorem c15 : Sw.Callable Try.prog 15 := ⟨_, Try.func15, by kernel_rfl, rfl⟩
theorem c17 : Sw.Callable Try.prog 17 := ⟨_, Try.func17, by kernel_rfl, rfl⟩
theorem c20 : Sw.Callable Try.prog 20 := ⟨_, Try.func20, by kernel_rfl, rfl⟩
theorem c22 : Sw.Callable Try.prog 22 := ⟨_, Try.func22, by kernel_rfl, rfl⟩
theorem c23 : Sw.Callable Try.prog 23 := ⟨_, Try.func23, by kernel_rfl, rfl⟩
theorem c24 : Sw.Callable Try.prog 24 := ⟨_, Try.func24, by kernel_rfl, rfl⟩
theorem c25 : Sw.Callable Try.prog 25 := ⟨_, Try.func25, by kernel_rfl, rfl⟩
theorem c26 : Sw.Callable Try.prog 26 := ⟨_, Try.func26, by kernel_rfl, rfl⟩
theorem c27 : Sw.Callable Try.prog 27 := ⟨_, Try.func27, by kernel_rfl, rfl⟩
theorem c29 : Sw.Callable Try.prog 29 := ⟨_, Try.func29, by kernel_rfl, rfl⟩
theorem c32 : Sw.Callable Try.prog 32 := ⟨_, Try.func32, by kernel_rfl, rfl⟩
theorem c33 : Sw.Callable Try.prog 33 := ⟨_, Try.func33, by kernel_rfl, rfl⟩
theorem c38 : Sw.Callable Try.prog 38 := ⟨_, Try.func38, by kernel_rfl, rfl⟩
theorem c39 : Sw.Callable Try.prog 39 := ⟨_, Try.func39, by kernel_rfl, rfl⟩
theorem c40 : Sw.Callable Try.prog 40 := ⟨_, Try.func40, by kernel_rfl, rfl⟩
theorem c41 : Sw.Callable Try.prog 41 := ⟨_, Try.func41, by kernel_rfl, rfl⟩
theorem c42 : Sw.Callable Try.prog 42 := ⟨_, Try.func42, by kernel_rfl, rfl⟩
theorem c43 : Sw.Callable Try.prog 43 := ⟨_, Try.func43, by kernel_rfl, rfl⟩
theorem c44 : Sw.Callable Try.prog 44 := ⟨_, Try.func44, by kernel_rfl, rfl⟩
theorem c45 : Sw.Callable Try.prog 45 := ⟨_, Try.func45, by kernel_rfl, rfl⟩
theorem c46 : Sw.Callable Try.prog 46 := ⟨_, Try.func46, by kernel_rfl, rfl⟩
theorem c47 : Sw.Callable Try.prog 47 := ⟨_, Try.func47, by kernel_rfl, rfl⟩
theorem c50 : Sw.Callable Try.prog 50 := ⟨_, Try.func50, by kernel_rfl, rfl⟩
theorem c51 : Sw.Callable Try.prog 51 := ⟨_, Try.func51, by kernel_rfl, rfl⟩
theorem c56 : Sw.Callable Try.prog 56 := ⟨_, Try.func56, by kernel_rfl, rfl⟩
theorem c59 : Sw.Callable Try.prog 59 := ⟨_, Try.func59, by kernel_rfl, rfl⟩
theorem c60 : Sw.Callable Try.prog 60 := ⟨_, Try.func60, by kernel_rfl, rfl⟩
theorem c61 : Sw.Callable Try.prog 61 := ⟨_, Try.func61, by kernel_rfl, rfl⟩
theorem c62 : Sw.Callable Try.prog 62 := ⟨_, Try.func62, by kernel_rfl, rfl⟩
theorem c63 : Sw.Callable Try.prog 63 := ⟨_, Try.func63, by kernel_rfl, rfl⟩
theorem c64 : Sw.Callable Try.prog 64 := ⟨_, Try.func64, by kernel_rfl, rfl⟩
theorem c67 : Sw.Callable Try.prog 67 := ⟨_, Try.func67, by kernel_rfl, rfl⟩
theorem c68 : Sw.Callable Try.prog 68 := ⟨_, Try.func68, by kernel_rfl, rfl⟩
theorem c69 : Sw.Callable Try.prog 69 := ⟨_, Try.func69, by kernel_rfl, rfl⟩
theorem c70 : Sw.Callable Try.prog 70 := ⟨_, Try.func70, by kernel_rfl, rfl⟩
theorem c71 : Sw.Callable Try.prog 71 := ⟨_, Try.func71, by kernel_rfl, rfl⟩
theorem c72 : Sw.Callable Try.prog 72 := ⟨_, Try.func72, by kernel_rfl, rfl⟩
theorem c73 : Sw.Callable Try.prog 73 := ⟨_, Try.func73, by kernel_rfl, rfl⟩
theorem c74 : Sw.Callable Try.prog 74 := ⟨_, Try.func74, by kernel_rfl, rfl⟩
theorem c75 : Sw.Callable Try.prog 75 := ⟨_, Try.func75, by kernel_rfl, rfl⟩
theorem c76 : Sw.Callable Try.prog 76 := ⟨_, Try.func76, by kernel_rfl, rfl⟩
theorem c77 : Sw.Callable Try.prog 77 := ⟨_, Try.func77, by kernel_rfl, rfl⟩
theorem c78 : Sw.Callable Try.prog 78 := ⟨_, Try.func78, by kernel_rfl, rfl⟩
theorem c79 : Sw.Callable Try.prog 79 := ⟨_, Try.func79, by kernel_rfl, rfl⟩
theorem c80 : Sw.Callable Try.prog 80 := ⟨_, Try.func80, by kernel_rfl, rfl⟩
theorem c81 : Sw.Callable Try.prog 81 := ⟨_, Try.func81, by kernel_rfl, rfl⟩
theorem c82 : Sw.Callable Try.prog 82 := ⟨_, Try.func82, by kernel_rfl, rfl⟩
theorem c83 : Sw.Callable Try.prog 83 := ⟨_, Try.func83, by kernel_rfl, rfl⟩
theorem c84 : Sw.Callable Try.prog 84 := ⟨_, Try.func84, by kernel_rfl, rfl⟩
theorem c85 : Sw.Callable Try.prog 85 := ⟨_, Try.func85, by kernel_rfl, rfl⟩
theorem c86 : Sw.Callable Try.prog 86 := ⟨_, Try.func86, by kernel_rfl, rfl⟩
theorem c87 : Sw.Callable Try.prog 87 := ⟨_, Try.func87, by kernel_rfl, rfl⟩
theorem c88 : Sw.Callable Try.prog 88 := ⟨_, Try.func88, by kernel_rfl, rfl⟩
theorem c89 : Sw.Callable Try.prog 89 := ⟨_, Try.func89, by kernel_rfl, rfl⟩
theorem c90 : Sw.Callable Try.prog 90 := ⟨_, Try.func90, by kernel_rfl, rfl⟩
theorem c91 : Sw.Callable Try.prog 91 := ⟨_, Try.func91, by kernel_rfl, rfl⟩
theorem c92 : Sw.Callable Try.prog 92 := ⟨_, Try.func92, by kernel_rfl, rfl⟩
theorem c93 : Sw.Callable Try.prog 93 := ⟨_, Try.func93, by kernel_rfl, rfl⟩
theorem c94 : Sw.Callable Try.prog 94 := ⟨_, Try.func94, by kernel_rfl, rfl⟩
theorem c95 : Sw.Callable Try.prog 95 := ⟨_, Try.func95, by kernel_rfl, rfl⟩
theorem c96 : Sw.Callable Try.prog 96 := ⟨_, Try.func96, by kernel_rfl, rfl⟩
theorem c97 : Sw.Callable Try.prog 97 := ⟨_, Try.func97, by kernel_rfl, rfl⟩
theorem c98 : Sw.Callable Try.prog 98 := ⟨_, Try.func98, by kernel_rfl, rfl⟩
theorem c99 : Sw.Callable Try.prog 99 := ⟨_, Try.func99, by kernel_rfl, rfl⟩
theorem c100 : Sw.Callable Try.prog 100 := ⟨_, Try.func100, by kernel_rfl, rfl⟩
theorem c101 : Sw.Callable Try.prog 101 := ⟨_, Try.func101, by kernel_rfl, rfl⟩
theorem c102 : Sw.Callable Try.prog 102 := ⟨_, Try.func102, by kernel_rfl, rfl⟩
theorem c103 : Sw.Callable Try.prog 103 := ⟨_, Try.func103, by kernel_rfl, rfl⟩
theorem c104 : Sw.Callable Try.prog 104 := ⟨_, Try.func104, by kernel_rfl, rfl⟩
theorem c105 : Sw.Callable Try.prog 105 := ⟨_, Try.func105, by kernel_rfl, rfl⟩
theorem c106 : Sw.Callable Try.prog 106 := ⟨_, Try.func106, by kernel_rfl, rfl⟩
theorem c107 : Sw.Callable Try.prog 107 := ⟨_, Try.func107, by kernel_rfl, rfl⟩
theorem c108 : Sw.Callable Try.prog 108 := ⟨_, Try.func108, by kernel_rfl, rfl⟩
theorem c109 : Sw.Callable Try.prog 109 := ⟨_, Try.func109, by kernel_rfl, rfl⟩
theorem c110 : Sw.Callable Try.prog 110 := ⟨_, Try.func110, by kernel_rfl, rfl⟩
theorem c111 : Sw.Callable Try.prog 111 := ⟨_, Try.func111, by kernel_rfl, rfl⟩
theorem c112 : Sw.Callable Try.prog 112 := ⟨_, Try.func112, by kernel_rfl, rfl⟩
theorem c113 : Sw.Callable Try.prog 113 := ⟨_, Try.func113, by kernel_rfl, rfl⟩
theorem c114 : Sw.Callable Try.prog 114 := ⟨_, Try.func114, by kernel_rfl, rfl⟩
theorem c115 : Sw.Callable Try.prog 115 := ⟨_, Try.func115, by kernel_rfl, rfl⟩
theorem c116 : Sw.Callable Try.prog 116 := ⟨_, Try.func116, by kernel_rfl, rfl⟩
theorem c117 : Sw.Callable Try.prog 117 := ⟨_, Try.func117, by kernel_rfl, rfl⟩
theorem c118 : Sw.Callable Try.prog 118 := ⟨_, Try.func118, by kernel_rfl, rfl⟩
theorem c119 : Sw.Callable Try.prog 119 := ⟨_, Try.func119, by kernel_rfl, rfl⟩
theorem c120 : Sw.Callable Try.prog 120 := ⟨_, Try.func120, by kernel_rfl, rfl⟩
theorem c121 : Sw.Callable Try.prog 121 := ⟨_, Try.func121, by kernel_rfl, rfl⟩
theorem c122 : Sw.Callable Try.prog 122 := ⟨_, Try.func122, by kernel_rfl, rfl⟩
end Go.Proofs.Ytiajhbbmgglmlaa
namespace Go.Proofs.Ytiajhbbmgglmlaa
open Sw
def n_schema_sameField_c1 (t2 t3 t9 t17 : Value) (C1 : World → Prop) (R : Ending → World → Prop) (w : World) : Prop :=
 pickK t9 t17 (.bool false) fun t18 =>
 joinK (fun (t24 : Value) (w : World) =>
 pickK t18 t24 (.bool false) fun t25 =>
 R (.returned t25) w) fun K3 =>
 guardP t18 true (
 qV Try.prog C1 (Instr.fieldAt 28 t2 11) fun t20 =>
 qV Try.prog C1 (Instr.loadAt 26 t20) fun t21 =>
 qV Try.prog C1 (Instr.fieldAt 28 t3 11) fun t22 =>
 qV Try.prog C1 (Instr.loadAt 26 t22) fun t23 =>
 callK Try.prog 69 #[t21, t23] (panK R) w fun t24 w =>
 C1 w ∧ (
 K3 t24 w)) (
 K3 undef w)
def n_schema_sameField_c2 (t2 t3 t6 t8 : Value) (C1 : World → Prop) (R : Ending → World → Prop) (w : World) : Prop :=
 qV Try.prog C1 (binS .eql 116 false t6 t8) fun t9 =>
 joinK (fun (t17 : Value) (w : World) =>
 n_schema_sameField_c1 t2 t3 t9 t17 C1 R w) fun K2 =>
 guardP t9 true (
 qV Try.prog C1 (Instr.fieldAt 28 t2 7) fun t11 =>
 qV Try.prog C1 (Instr.fieldAt 25 t11 1) fun t12 =>
 qV Try.prog C1 (Instr.loadAt 23 t12) fun t13 =>
 qV Try.prog C1 (Instr.fieldAt 28 t3 7) fun t14 =>
 qV Try.prog C1 (Instr.fieldAt 25 t14 1) fun t15 =>
 qV Try.prog C1 (Instr.loadAt 23 t15) fun t16 =>
 callK Try.prog 68 #[t13, t16] (panK R) w fun t17 w =>
 C1 w ∧ (
 K2 t17 w)) (
 K2 undef w)
def n_schema_sameField_c3 (t2 t3 : Value) (C1 : World → Prop) (R : Ending → World → Prop) (w : World) : Prop :=
 qV Try.prog C1 (Instr.loadAt 28 t2) fun t5 =>
 qV Try.prog C1 (Instr.loadAt 28 t3) fun t7 =>
 callK Try.prog 67 #[t5] (panK R) w fun t6 w =>
 C1 w ∧ (
 callK Try.prog 67 #[t7] (panK R) w fun t8 w =>
 C1 w ∧ (
 n_schema_sameField_c2 t2 t3 t6 t8 C1 R w))
def n_schema_sameField (t0 t1 : Value) (R : Ending → World → Prop) (w : World) : Prop :=
 opV Try.prog (Instr.box 28 t0) (panK R) w fun t2 w =>
 opV Try.prog (Instr.box 28 t1) (panK R) w fun t3 w =>
 drawK w fun C1 w =>
 n_schema_sameField_c3 t2 t3 C1 R w
set_option maxRecDepth 100000 in
set_option maxHeartbeats 4000000 in
theorem n_schema_sameField_sound {t0 t1 : Value} {R : Ending → World → Prop} {w : World} (h : n_schema_sameField t0 t1 R w) : Calls Try.prog 56 #[t0, t1] w R := by
  refine calls_of_den (args := [t0, t1]) Try.func56 rfl (Nat.le_of_ble_eq_true rfl) ?_
  unfold n_schema_sameField at h
  refine zs <| zr ?_
  refine zv h fun t2 w h => ?_
  refine zv h fun t3 w h => ?_
  refine zm <| zn <| zk <| zs ?_
  obtain ⟨C1, hC, h⟩ := h
  refine sim_draw [4, 5, 6, 7, 8, 9, 10, 11, 12, 13, 14, 15, 16, 17, 18, 19, 20, 21, 22, 23, 24, 25] (by kernel_rfl) (by kernel_rfl) C1 ?_
  refine ze 0 hC h fun t5 h => ?_
  refine ze 2 hC h fun t7 h => ?_
  refine sim_dloud 1 rfl (by kernel_rfl) (fun _ _ => rfl) ?_
  refine sim_call h c67 rfl (fun _ _ h _ _ => ⟨rfl, h⟩) ?_; intro t6 w h
  refine zn ?_
  obtain ⟨hC, h⟩ := h
  refine ⟨hC, ?_⟩
  refine sim_dloud 3 rfl (by kernel_rfl) (fun _ _ => rfl) ?_
  refine sim_call h c67 rfl (fun _ _ h _ _ => ⟨rfl, h⟩) ?_; intro t8 w h
  refine zn ?_
  obtain ⟨hC, h⟩ := h
  refine ⟨hC, ?_⟩
  obtain ⟨t9, hv, h⟩ := h
  refine sim_dsilent 4 hC rfl (by kernel_rfl) (by kernel_rfl) (fun _ _ => rfl) rfl (Sw.qV_bin rfl rfl rfl hv) ?_
  refine zw 5 hC ?_
  refine joinK_elim h (fun K2 hK h => ?_)
  refine sim_djoin 9 [12, 11, 10, 9, 8, 7, 6, 5, 4, 3, 1, 2, 0] [11, 12, 13, 14, 15, 16, 17] (fun ρ w => K2 (ρ 17) w) (fun _ hT => ?_) (fun σ w hC h => ?_)
  · rcases Sw.guardP_cases h with ⟨hb, h⟩ | ⟨hb, h⟩
    · obtain ⟨t11, hv, h⟩ := h
      refine sim_dsilent 6 hC rfl (by kernel_rfl) (by kernel_rfl) (fun _ _ => Sw.guardP_true hb) rfl (Sw.qV_run rfl hv) ?_
      obtain ⟨t12, hv, h⟩ := h
      refine sim_dsilent 7 hC rfl (by kernel_rfl) (by kernel_rfl) (fun _ _ => Sw.guardP_true hb) rfl (Sw.qV_run rfl hv) ?_
      obtain ⟨t13, hv, h⟩ := h
      refine sim_dsilent 8 hC rfl (by kernel_rfl) (by kernel_rfl) (fun _ _ => Sw.guardP_true hb) rfl (Sw.qV_run rfl hv) ?_
      obtain ⟨t14, hv, h⟩ := h
      refine sim_dsilent 9 hC rfl (by kernel_rfl) (by kernel_rfl) (fun _ _ => Sw.guardP_true hb) rfl (Sw.qV_run rfl hv) ?_
      obtain ⟨t15, hv, h⟩ := h
      refine sim_dsilent 10 hC rfl (by kernel_rfl) (by kernel_rfl) (fun _ _ => Sw.guardP_true hb) rfl (Sw.qV_run rfl hv) ?_
      obtain ⟨t16, hv, h⟩ := h
      refine sim_dsilent 11 hC rfl (by kernel_rfl) (by kernel_rfl) (fun _ _ => Sw.guardP_true hb) rfl (Sw.qV_run rfl hv) ?_
      refine sim_dloud 12 rfl (by kernel_rfl) (fun _ _ => Sw.guardP_true hb) ?_
      refine sim_call h c68 rfl (fun _ _ h _ _ => ⟨rfl, h⟩) ?_; intro t17 w h
      refine zn ?_
      obtain ⟨hC, h⟩ := h
      refine ⟨hC, ?_⟩
      exact hT _ _ (by repeat (first | exact Sw.Fr.refl _ _ | refine Sw.Fr.put rfl ?_ | refine Sw.Fr.put_none ?_ | refine Sw.Fr.mix rfl ?_ | refine Sw.Fr.skipAll rfl ?_)) hC h
    · refine sim_dskip 6 hC rfl (by kernel_rfl) (by kernel_rfl) (fun _ _ => Sw.guardP_false hb) ?_
      refine sim_dskip 7 hC rfl (by kernel_rfl) (by kernel_rfl) (fun _ _ => Sw.guardP_false hb) ?_
      refine sim_dskip 8 hC rfl (by kernel_rfl) (by kernel_rfl) (fun _ _ => Sw.guardP_false hb) ?_
      refine sim_dskip 9 hC rfl (by kernel_rfl) (by kernel_rfl) (fun _ _ => Sw.guardP_false hb) ?_
      refine sim_dskip 10 hC rfl (by kernel_rfl) (by kernel_rfl) (fun _ _ => Sw.guardP_false hb) ?_
      refine sim_dskip 11 hC rfl (by kernel_rfl) (by kernel_rfl) (fun _ _ => Sw.guardP_false hb) ?_
      refine sim_dskip 12 hC rfl (by kernel_rfl) (by kernel_rfl) (fun _ _ => Sw.guardP_false hb) ?_
      exact hT _ _ (by repeat (first | exact Sw.Fr.refl _ _ | refine Sw.Fr.put rfl ?_ | refine Sw.Fr.put_none ?_ | refine Sw.Fr.mix rfl ?_ | refine Sw.Fr.skipAll rfl ?_)) hC h
  subst hK
  obtain ⟨b18, hb18, h⟩ := Sw.pickK_elim h
  refine sim_dsilent 13 hC rfl (by kernel_rfl) (by kernel_rfl) (fun _ _ => rfl) rfl (Sw.pick_run hb18 rfl rfl) ?_
  refine zw 14 hC ?_
  refine joinK_elim h (fun K3 hK h => ?_)
  refine sim_djoin 2 [19, 18, 17, 16, 15, 14, 13, 12, 11, 10, 9, 8, 7, 6, 5, 4, 3, 1, 2, 0] [20, 21, 22, 23, 24] (fun ρ w => K3 (ρ 24) w) (fun _ hT => ?_) (fun σ w hC h => ?_)
  · rcases Sw.guardP_cases h with ⟨hb, h⟩ | ⟨hb, h⟩
    · obtain ⟨t20, hv, h⟩ := h
      refine sim_dsilent 15 hC rfl (by kernel_rfl) (by kernel_rfl) (fun _ _ => Sw.guardP_true hb) rfl (Sw.qV_run rfl hv) ?_
      obtain ⟨t21, hv, h⟩ := h
      refine sim_dsilent 16 hC rfl (by kernel_rfl) (by kernel_rfl) (fun _ _ => Sw.guardP_true hb) rfl (Sw.qV_run rfl hv) ?_
      obtain ⟨t22, hv, h⟩ := h
      refine sim_dsilent 17 hC rfl (by kernel_rfl) (by kernel_rfl) (fun _ _ => Sw.guardP_true hb) rfl (Sw.qV_run rfl hv) ?_
      obtain ⟨t23, hv, h⟩ := h
      refine sim_dsilent 18 hC rfl (by kernel_rfl) (by kernel_rfl) (fun _ _ => Sw.guardP_true hb) rfl (Sw.qV_run rfl hv) ?_
      refine sim_dloud 19 rfl (by kernel_rfl) (fun _ _ => Sw.guardP_true hb) ?_
      refine sim_call h c69 rfl (fun _ _ h _ _ => ⟨rfl, h⟩) ?_; intro t24 w h
      refine zn ?_
      obtain ⟨hC, h⟩ := h
      refine ⟨hC, ?_⟩
      exact hT _ _ (by repeat (first | exact Sw.Fr.refl _ _ | refine Sw.Fr.put rfl ?_ | refine Sw.Fr.put_none ?_ | refine Sw.Fr.mix rfl ?_ | refine Sw.Fr.skipAll rfl ?_)) hC h
    · refine sim_dskip 15 hC rfl (by kernel_rfl) (by kernel_rfl) (fun _ _ => Sw.guardP_false hb) ?_
      refine sim_dskip 16 hC rfl (by kernel_rfl) (by kernel_rfl) (fun _ _ => Sw.guardP_false hb) ?_
      refine sim_dskip 17 hC rfl (by kernel_rfl) (by kernel_rfl) (fun _ _ => Sw.guardP_false hb) ?_
      refine sim_dskip 18 hC rfl (by kernel_rfl) (by kernel_rfl) (fun _ _ => Sw.guardP_false hb) ?_
      refine sim_dskip 19 hC rfl (by kernel_rfl) (by kernel_rfl) (fun _ _ => Sw.guardP_false hb) ?_
      exact hT _ _ (by repeat (first | exact Sw.Fr.refl _ _ | refine Sw.Fr.put rfl ?_ | refine Sw.Fr.put_none ?_ | refine Sw.Fr.mix rfl ?_ | refine Sw.Fr.skipAll rfl ?_)) hC h
  subst hK
  obtain ⟨b25, hb25, h⟩ := Sw.pickK_elim h
  refine sim_dsilent 20 hC rfl (by kernel_rfl) (by kernel_rfl) (fun _ _ => rfl) rfl (Sw.pick_run hb25 rfl rfl) ?_
  refine zw 21 hC ?_
  refine sim_dend (by kernel_rfl) ?_
  refine zk <| sim_ret ?_
  exact body_ret1 rfl rfl h
end Go.Proofs.Ytiajhbbmgglmlaa
namespace Go.Proofs.Ytiajhbbmgglmlaa
open Sw
def n_slices_IndexFunc_api_Field_c1 (t0 t1 t8 : Value) (next1 : Value → World → Prop) (R : Ending → World → Prop) (w : World) : Prop :=
 opV Try.prog (Instr.indexAt 48 t0 t8) (panK R) w fun t14 w =>
 opV Try.prog (Instr.loadAt 28 t14) (panK R) w fun t15 w =>
 callV Try.prog t1 #[t15] (panK R) w fun t16 w =>
 condP t16 (
 R (.returned t8) w) (
 opV Try.prog (binS .add 3 true t8 (.int .i64 1)) (panK R) w fun t18 w =>
 next1 t18 w)
def n_slices_IndexFunc_api_Field (t0 t1 : Value) (R : Ending → World → Prop) (w : World) : Prop :=
 opV Try.prog (Builtin.len_ #[48] 3 #[t0]) (panK R) w fun t7 w =>
 loop1 (fun t8 w next1 =>
 opV Try.prog (binS .lss 3 false t8 t7) (panK R) w fun t9 w =>
 condP t9 (
 n_slices_IndexFunc_api_Field_c1 t0 t1 t8 next1 R w) (
 R (.returned (.int .i64 (-1))) w)) (.int .i64 0) w
set_option maxRecDepth 100000 in
set_option maxHeartbeats 4000000 in
theorem n_slices_IndexFunc_api_Field_sound {t0 t1 : Value} {R : Ending → World → Prop} {w : World} (h : n_slices_IndexFunc_api_Field t0 t1 R w) : Calls Try.prog 59 #[t0, t1] w R := by
  refine calls_of_den (args := [t0, t1]) Try.func59 rfl (Nat.le_of_ble_eq_true rfl) ?_
  unfold n_slices_IndexFunc_api_Field at h
  refine zs <| zr <| zm <| zn <| zk <| zs <| zs <| zr <| zm ?_
  refine zx h fun t7 w h => ?_
  refine zm <| zn <| zk <| sim_block ?_
  obtain ⟨I, μ, h0, hr⟩ := h
  refine sim_loop [4, 5, 8, 9, 10, 11, 12, 13, 14, 15, 16, 17, 18] (by kernel_rfl) (fun ρ w => I (ρ 8) w) (fun ρ w => μ (ρ 8) w) h0 (fun σ w hI => ?_)
  have h := hr _ _ hI
  clear hr h0 hI
  refine zs <| zr ?_
  refine zb h fun t9 w h => ?_
  refine zn <| zk <| zs ?_
  refine sim_cond h rfl (fun h => ?_) (fun h => ?_)
  · refine sim_skip <| zk <| zs <| sim_block <| zs <| zr <| zm <| zm <| zn <| zk <| zs <| zr <| zm <| zm <| zm ?_
    refine zv h fun t14 w h => ?_
    refine zv h fun t15 w h => ?_
    refine sim_callV h rfl rfl (fun _ _ h => ⟨rfl, h⟩) ?_; intro t16 w h
    refine zn <| zk ?_
    refine sim_cond h rfl (fun h => ?_) (fun h => ?_)
    · refine zs <| zr <| zm <| zm <| zn <| zk <| sim_ret <| sim_block_ret <| sim_then_ret <| sim_then_ret <| sim_block_ret <| sim_then_ret ?_
      exact body_ret1 rfl rfl h
    · refine sim_skip <| sim_block_normal <| zk <| zr ?_
      refine zb h fun t18 w h => ?_
      refine zm <| zn <| zk ?_
      exact ⟨rfl, h⟩
  · refine sim_exit <| sim_then_exit <| sim_then_exit <| sim_block_hit <| zk <| zs <| zr <| zm <| zn <| zk <| sim_ret ?_
    exact body_ret1 rfl rfl h
def n_slices_Index_string_c1 (t0 t1 t8 : Value) (next1 : Value → World → Prop) (R : Ending → World → Prop) (w : World) : Prop :=
 opV Try.prog (Instr.indexAt 63 t0 t8) (panK R) w fun t14 w =>
 opV Try.prog (Instr.loadAt 9 t14) (panK R) w fun t15 w =>
 opV Try.prog (binS .eql 9 false t1 t15) (panK R) w fun t16 w =>
 condP t16 (
 R (.returned t8) w) (
 opV Try.prog (binS .add 3 true t8 (.int .i64 1)) (panK R) w fun t18 w =>
 next1 t18 w)
def n_slices_Index_string (t0 t1 : Value) (R : Ending → World → Prop) (w : World) : Prop :=
 opV Try.prog (Builtin.len_ #[63] 3 #[t0]) (panK R) w fun t7 w =>
 loop1 (fun t8 w next1 =>
 opV Try.prog (binS .lss 3 false t8 t7) (panK R) w fun t9 w =>
 condP t9 (
 n_slices_Index_string_c1 t0 t1 t8 next1 R w) (
 R (.returned (.int .i64 (-1))) w)) (.int .i64 0) w
set_option maxRecDepth 100000 in
set_option maxHeartbeats 4000000 in
theorem n_slices_Index_string_sound {t0 t1 : Value} {R : Ending → World → Prop} {w : World} (h : n_slices_Index_string t0 t1 R w) : Calls Try.prog 60 #[t0, t1] w R := by
  refine calls_of_den (args := [t0, t1]) Try.func60 rfl (Nat.le_of_ble_eq_true rfl) ?_
  unfold n_slices_Index_string at h
  refine zs <| zr <| zm <| zn <| zk <| zs <| zs <| zr <| zm ?_
  refine zx h fun t7 w h => ?_
  refine zm <| zn <| zk <| sim_block ?_
  obtain ⟨I, μ, h0, hr⟩ := h
  refine sim_loop [4, 5, 8, 9, 10, 11, 12, 13, 14, 15, 16, 17, 18] (by kernel_rfl) (fun ρ w => I (ρ 8) w) (fun ρ w => μ (ρ 8) w) h0 (fun σ w hI => ?_)
  have h := hr _ _ hI
  clear hr h0 hI
  refine zs <| zr ?_
  refine zb h fun t9 w h => ?_
  refine zn <| zk <| zs ?_
  refine sim_cond h rfl (fun h => ?_) (fun h => ?_)
  · refine sim_skip <| zk <| zs <| sim_block <| zs <| zr <| zm <| zm <| zn <| zk <| zs <| zr <| zm <| zm <| zm ?_
    refine zv h fun t14 w h => ?_
    refine zv h fun t15 w h => ?_
    refine zb h fun t16 w h => ?_
    refine zn <| zk ?_
    refine sim_cond h rfl (fun h => ?_) (fun h => ?_)
    · refine zs <| zr <| zm <| zm <| zn <| zk <| sim_ret <| sim_block_ret <| sim_then_ret <| sim_then_ret <| sim_block_ret <| sim_then_ret ?_
      exact body_ret1 rfl rfl h
    · refine sim_skip <| sim_block_normal <| zk <| zr ?_
      refine zb h fun t18 w h => ?_
      refine zm <| zn <| zk ?_
      exact ⟨rfl, h⟩
  · refine sim_exit <| sim_then_exit <| sim_then_exit <| sim_block_hit <| zk <| zs <| zr <| zm <| zn <| zk <| sim_ret ?_
    exact body_ret1 rfl rfl h
def n_schema_examined_1_c1 (t0 t1 t3 : Value) (K1 : World → Prop) (R : Ending → World → Prop) (w : World) : Prop :=
 opV Try.prog (Instr.typeAssert t3 20 68 true) (panK R) w fun t8 w =>
 opV Try.prog (Instr.extract t8 0) (panK R) w fun t9 w =>
 opV Try.prog (Instr.extract t8 1) (panK R) w fun t10 w =>
 opU Try.prog (Instr.storeAt 68 t0 t9) (panK R) w fun w =>
 opU Try.prog (Instr.storeAt 4 t1 t10) (panK R) w fun w =>
 opV Try.prog (Instr.loadAt 4 t1) (panK R) w fun t11 w =>
 opV Try.prog (Op.unary .not t11) (panK R) w fun t12 w =>
 condP t12 (
 opV Try.prog (Instr.panic t3) (panK R) w fun _ w =>
 False) (
 K1 w)
def n_schema_examined_1 (t0 t1 t3 : Value) (R : Ending → World → Prop) (w : World) : Prop :=
 opV Try.prog (binS .neq 20 true t3 .nilIface) (panK R) w fun t5 w =>
 joinK (fun (w : World) =>
 R (.returned (.tuple #[])) w) fun K1 =>
 condP t5 (
 n_schema_examined_1_c1 t0 t1 t3 K1 R w) (
 K1 w)
set_option maxRecDepth 100000 in
set_option maxHeartbeats 4000000 in
theorem n_schema_examined_1_sound {t0 t1 : Value} {u : FrameMode} {R : Ending → FrameMode → World → Prop} {w : World} (h : n_schema_examined_1 t0 t1 (Sw.recM u).1 (fun e w => R e (Sw.recM u).2 w) w) : CallsDIn Fence.wide 0 Try.prog 61 #[t0, t1] u w R := by
  refine calls_of_denR (args := [t0, t1]) (d := 3) Try.func61 rfl (Nat.le_of_ble_eq_true rfl) rfl rfl rfl rfl ?_
  generalize (Sw.recM u).1 = t3 at h ⊢
  generalize hR : (fun e w => R e (Sw.recM u).2 w) = R' at h ⊢
  clear hR
  revert h
  generalize R' = R
  intro h
  unfold n_schema_examined_1 at h
  refine zm <| zn <| zs <| zr <| zm ?_
  refine zb h fun t5 w h => ?_
  refine zn <| zk ?_
  refine joinK_elim h (fun K1 hK h => ?_)
  refine sim_joinQ [6, 7, 8, 9, 10, 11, 12, 13] (fun ρ w => K1 w) (fun _ hkK1 => ?_) (fun σ w h => ?_)
  · refine sim_cond h rfl (fun h => ?_) (fun h => ?_)
    · refine zs <| zr <| zm ?_
      refine zv h fun t8 w h => ?_
      refine zm ?_
      refine zv h fun t9 w h => ?_
      refine zv h fun t10 w h => ?_
      refine zu h fun w h => ?_
      refine zu h fun w h => ?_
      refine zn <| zk <| zs <| zr ?_
      refine zv h fun t11 w h => ?_
      refine zv h fun t12 w h => ?_
      refine zn <| zk ?_
      refine sim_cond h rfl (fun h => ?_) (fun h => ?_)
      · refine zr <| zm ?_
        refine zv h fun _ w h => ?_
        refine zn ?_
        exact h.elim
      · refine sim_skip <| zk ?_
        exact zt hkK1 h
    · refine sim_skip <| zk ?_
      exact zt hkK1 h
  subst hK
  refine body_normal ?_
  exact body_ret0 rfl h
def n_schema_checker_need_c1 (t0 t2 : Value) (C1 : World → Prop) (R : Ending → World → Prop) (w : World) : Prop :=
 qN Try.prog C1 (nilN t0) fun t9 =>
 qV Try.prog C1 (Instr.fieldAt 101 t9 3) fun t10 =>
 qV Try.prog C1 (Instr.loadAt 3 t10) fun t11 =>
 qN Try.prog C1 (nilN t0) fun t13 =>
 qV Try.prog C1 (Instr.fieldAt 101 t13 4) fun t14 =>
 qV Try.prog C1 (Instr.loadAt 3 t14) fun t15 =>
 qV Try.prog C1 (Instr.build 68 #[(0, t11), (1, t15), (2, t2)]) fun t17 =>
 qV Try.prog C1 (Instr.makeInterface 68 t17) fun t18 =>
 opV Try.prog (Instr.panic t18) (panK R) w fun _ w =>
 False
def n_schema_checker_need (t0 t1 t2 : Value) (R : Ending → World → Prop) (w : World) : Prop :=
 opV Try.prog (Op.unary .not t1) (panK R) w fun t7 w =>
 condP t7 (
 drawK w fun C1 w =>
 n_schema_checker_need_c1 t0 t2 C1 R w) (
 R (.returned (.tuple #[])) w)
set_option maxRecDepth 100000 in
set_option maxHeartbeats 4000000 in
theorem n_schema_checker_need_sound {t0 t1 t2 : Value} {R : Ending → World → Prop} {w : World} (h : n_schema_checker_need t0 t1 t2 R w) : Calls Try.prog 62 #[t0, t1, t2] w R := by
  refine calls_of_den (args := [t0, t1, t2]) Try.func62 rfl (Nat.le_of_ble_eq_true rfl) ?_
  unfold n_schema_checker_need at h
  refine zs <| zr <| zm ?_
  refine zv h fun t7 w h => ?_
  refine zn <| zk ?_
  refine sim_cond h rfl (fun h => ?_) (fun h => ?_)
  · obtain ⟨C1, hC, h⟩ := h
    refine sim_draw [8, 9, 10, 11, 12, 13, 14, 15, 16, 17, 18] (by kernel_rfl) (by kernel_rfl) C1 ?_
    refine zw 0 hC ?_
    obtain ⟨t9, hv, h⟩ := h
    refine sim_dsilent 1 hC rfl (by kernel_rfl) (by kernel_rfl) (fun _ _ => rfl) rfl (Sw.qN_run rfl hv) ?_
    refine ze 2 hC h fun t10 h => ?_
    refine ze 3 hC h fun t11 h => ?_
    refine zw 4 hC ?_
    obtain ⟨t13, hv, h⟩ := h
    refine sim_dsilent 5 hC rfl (by kernel_rfl) (by kernel_rfl) (fun _ _ => rfl) rfl (Sw.qN_run rfl hv) ?_
    refine ze 6 hC h fun t14 h => ?_
    refine ze 7 hC h fun t15 h => ?_
    refine zw 8 hC ?_
    obtain ⟨t17, hv, h⟩ := h
    refine sim_dsilent 9 hC rfl (by kernel_rfl) (by kernel_rfl) (fun _ _ => rfl) rfl (Sw.qV_build rfl hv) ?_
    refine ze 10 hC h fun t18 h => ?_
    refine sim_dloud 11 rfl (by kernel_rfl) (fun _ _ => rfl) ?_
    refine sim_val h rfl rfl (fun _ _ h _ _ => ⟨rfl, h⟩) ?_; intro _ w h
    refine zn ?_
    exact h.elim
  · refine sim_skip ?_
    refine body_normal ?_
    exact body_ret0 rfl h
def n_size_Name_c1 (t0 t11 t15 : Value) (R : Ending → World → Prop) (w : World) : Prop :=
 pickK t11 t15 (.bool false) fun t16 =>
 joinK (fun (t22 : Value) (w : World) =>
 pickK t16 t22 (.bool false) fun t23 =>
 R (.returned t23) w) fun K2 =>
 guardP t16 true (
 opV Try.prog (Go.convert 9 121 t0) (panK R) w fun t19 w =>
 callK Try.prog 74 #[t19, (.func (.func 70) #[] #[])] (panK R) w fun t21 w =>
 opV Try.prog (Op.unary .not t21) (panK R) w fun t22 w =>
 K2 t22 w) (
 K2 undef w)
def n_size_Name_c2 (t0 t11 : Value) (R : Ending → World → Prop) (w : World) : Prop :=
 joinK (fun (t15 : Value) (w : World) =>
 n_size_Name_c1 t0 t11 t15 R w) fun K1 =>
 guardP t11 true (
 opV Try.prog (Instr.index 9 t0 (.int .i64 0)) (panK R) w fun t14 w =>
 callK Try.prog 71 #[t14] (panK R) w fun t15 w =>
 K1 t15 w) (
 K1 undef w)
def n_size_Name (t0 : Value) (R : Ending → World → Prop) (w : World) : Prop :=
 opV Try.prog (Builtin.len_ #[9] 3 #[t0]) (panK R) w fun t5 w =>
 opV Try.prog (binS .geq 3 true t5 (.int .i64 1)) (panK R) w fun t6 w =>
 opV Try.prog (Builtin.len_ #[9] 3 #[t0]) (panK R) w fun t8 w =>
 opV Try.prog (binS .leq 3 true t8 (.int .i64 32)) (panK R) w fun t9 w =>
 opV Try.prog (Instr.buildSlice 123 2 #[(0, t6), (1, t9)]) (panK R) w fun t10 w =>
 callK Try.prog 73 #[t10] (panK R) w fun t11 w =>
 n_size_Name_c2 t0 t11 R w
set_option maxRecDepth 100000 in
set_option maxHeartbeats 4000000 in
theorem n_size_Name_sound {t0 : Value} {R : Ending → World → Prop} {w : World} (h : n_size_Name t0 R w) : Calls Try.prog 63 #[t0] w R := by
  refine calls_of_den (args := [t0]) Try.func63 rfl (Nat.le_of_ble_eq_true rfl) ?_
  unfold n_size_Name at h
  refine zs <| zr <| zm <| zn <| zk <| zs <| zr <| zm <| zn <| zk <| zs <| sim_regionG ?_
  refine sim_seg 9 rfl ?_
  refine zm ?_
  refine zx h fun t5 w h => ?_
  refine zb h fun t6 w h => ?_
  refine zm ?_
  refine zx h fun t8 w h => ?_
  refine zb h fun t9 w h => ?_
  refine sim_buildSlice h rfl (fun _ _ h => ⟨rfl, h⟩) ?_; intro t10 w h
  refine zc h c73 fun t11 w h => ?_
  refine zm <| zn ?_
  refine joinK_elim h (fun K1 hK h => ?_)
  refine sim_groupJ 3 8 true [13, 14, 15] (fun ρ w => K1 (ρ 15) w) rfl rfl (fun T hT => guardP_mono h (fun h => ?_) (fun h => ?_)) (fun σ w h => ?_)
  · refine zm ?_
    refine zv h fun t14 w h => ?_
    refine zc h c71 fun t15 w h => ?_
    refine zn ?_
    exact zt hT h
  · exact zt hT h
  subst hK
  refine sim_seg 2 rfl ?_
  refine sim_pick h rfl rfl rfl ?_; intro t16 h
  refine zm <| zn ?_
  refine joinK_elim h (fun K2 hK h => ?_)
  refine sim_groupJ 5 13 true [18, 19, 20, 21, 22] (fun ρ w => K2 (ρ 22) w) rfl rfl (fun T hT => guardP_mono h (fun h => ?_) (fun h => ?_)) (fun σ w h => ?_)
  · refine zm ?_
    refine zv h fun t19 w h => ?_
    refine zm ?_
    refine zc h c74 fun t21 w h => ?_
    refine zv h fun t22 w h => ?_
    refine zn ?_
    exact zt hT h
  · exact zt hT h
  subst hK
  refine sim_seg 2 rfl ?_
  refine sim_pick h rfl rfl rfl ?_; intro t23 h
  refine zm <| zn <| sim_end <| zk <| sim_ret ?_
  exact body_ret1 rfl rfl h
def n_schema_checker_next_c1 (t6 t52 t64 t68 : Value) (next6 : Value → World → Prop) (ds : List Deferred) (R : Ending → World → Prop) (w : World) : Prop :=
 pickK t64 t68 (.bool false) fun t69 =>
 opU Try.prog (Instr.storeAt 4 t6 t69) (outQ Try.prog ds [] R) w fun w =>
 opV Try.prog (binS .add 3 true t52 (.int .i64 1)) (outQ Try.prog ds [] R) w fun t70 w =>
 next6 t70 w
def n_schema_checker_next_c2 (t6 t8 t52 : Value) (next6 : Value → World → Prop) (ds : List Deferred) (R : Ending → World → Prop) (w : World) : Prop :=
 opV Try.prog (Instr.loadAt 4 t6) (outQ Try.prog ds [] R) w fun t64 w =>
 joinK (fun (t68 : Value) (w : World) =>
 n_schema_checker_next_c1 t6 t52 t64 t68 next6 ds R w) fun K7 =>
 guardP t64 true (
 opV Try.prog (Instr.fieldAt 28 t8 4) (outQ Try.prog ds [] R) w fun t66 w =>
 opV Try.prog (Instr.loadAt 4 t66) (outQ Try.prog ds [] R) w fun t67 w =>
 opV Try.prog (Op.unary .not t67) (outQ Try.prog ds [] R) w fun t68 w =>
 K7 t68 w) (
 K7 undef w)
def n_schema_checker_next_c3 (t2 t6 t76 : Value) (Kr8 : World → Prop) (Qr8 : List PanicEntry → World → Prop) (R : Ending → World → Prop) (w : World) : Prop :=
 opV Try.prog (Instr.loadAt 4 t6) Qr8 w fun t85 w =>
 joinK (fun (t92 : Value) (w : World) =>
 pickK t85 t92 (.bool false) fun t93 =>
 opU Try.prog (Instr.storeAt 4 t6 t93) Qr8 w fun w =>
 Kr8 w) fun K11 =>
 guardP t85 true (
 opV Try.prog (Instr.loadAt 93 t2) Qr8 w fun t87 w =>
 opN Try.prog (nilN t87) Qr8 w fun t88 w =>
 opV Try.prog (Instr.fieldAt 101 t88 2) Qr8 w fun t89 w =>
 opV Try.prog (Instr.loadAt 99 t89) Qr8 w fun t90 w =>
 opV Try.prog (Instr.lookup 99 t90 t76 false) Qr8 w fun t92 w =>
 K11 t92 w) (
 K11 undef w)
def n_schema_checker_next_c4 (t2 t6 t9 t76 : Value) (C9 : World → Prop) (Kr8 : World → Prop) (Qr8 : List PanicEntry → World → Prop) (R : Ending → World → Prop) (w : World) : Prop :=
 qV Try.prog C9 (Instr.loadAt 3 t9) fun t77 =>
 qV Try.prog C9 (Instr.loadAt 93 t2) fun t78 =>
 qN Try.prog C9 (nilN t78) fun t79 =>
 qV Try.prog C9 (Instr.fieldAt 101 t79 1) fun t80 =>
 qV Try.prog C9 (Instr.loadAt 98 t80) fun t81 =>
 qV Try.prog C9 (Instr.lookup 98 t81 t76 false) fun t83 =>
 qV Try.prog C9 (Builtin.max_ #[3, 3] 3 #[t77, t83]) fun t84 =>
 opU Try.prog (Instr.storeAt 3 t9 t84) Qr8 w fun w =>
 turnK w fun C10 w =>
 n_schema_checker_next_c3 t2 t6 t76 Kr8 Qr8 R w
def n_schema_checker_next_c5 (t2 t9 : Value) (ds : List Deferred) (R : Ending → World → Prop) (w : World) : Prop :=
 opV Try.prog (Instr.loadAt 93 t2) (outQ Try.prog ds [] R) w fun t113 w =>
 opV Try.prog (Instr.loadAt 3 t9) (outQ Try.prog ds [] R) w fun t114 w =>
 opV Try.prog (binS .lss 3 true t114 (.int .i64 16)) (outQ Try.prog ds [] R) w fun t115 w =>
 callK Try.prog 62 #[t113, t115, (.int .i64 10)] (outQ Try.prog ds [] R) w fun t116 w =>
 outX Try.prog ds [] R w
def n_schema_checker_next_c6 (t2 t9 t103 t108 t111 : Value) (C12 : World → Prop) (ds : List Deferred) (R : Ending → World → Prop) (w : World) : Prop :=
 qV Try.prog C12 (Instr.extract t111 1) fun t112 =>
 opU Try.prog (Instr.entryStore 99 t103 t112 t108) (outQ Try.prog ds [] R) w fun w =>
 turnK w fun C13 w =>
 n_schema_checker_next_c5 t2 t9 ds R w
def n_schema_checker_next_c7 (t2 t9 t97 t103 t105 t107 t108 t109 : Value) (C12 : World → Prop) (ds : List Deferred) (R : Ending → World → Prop) (w : World) : Prop :=
 qV Try.prog C12 (Instr.extract t109 1) fun t110 =>
 opU Try.prog (Instr.entryStore 98 t97 t110 t107) (outQ Try.prog ds [] R) w fun w =>
 C12 w ∧ (
 opV Try.prog (Instr.mapEntry 99 t103 t105) (outQ Try.prog ds [] R) w fun t111 w =>
 C12 w ∧ (
 n_schema_checker_next_c6 t2 t9 t103 t108 t111 C12 ds R w))
def n_schema_checker_next_c8 (t2 t3 t6 t9 : Value) (C12 : World → Prop) (ds : List Deferred) (R : Ending → World → Prop) (w : World) : Prop :=
 qV Try.prog C12 (Instr.loadAt 93 t2) fun t94 =>
 qN Try.prog C12 (nilN t94) fun t95 =>
 qV Try.prog C12 (Instr.fieldAt 101 t95 1) fun t96 =>
 qV Try.prog C12 (Instr.loadAt 98 t96) fun t97 =>
 qV Try.prog C12 (Instr.fieldAt 50 t3 0) fun t98 =>
 qV Try.prog C12 (Instr.loadAt 9 t98) fun t99 =>
 qV Try.prog C12 (Instr.loadAt 93 t2) fun t100 =>
 qN Try.prog C12 (nilN t100) fun t101 =>
 qV Try.prog C12 (Instr.fieldAt 101 t101 2) fun t102 =>
 qV Try.prog C12 (Instr.loadAt 99 t102) fun t103 =>
 qV Try.prog C12 (Instr.fieldAt 50 t3 0) fun t104 =>
 qV Try.prog C12 (Instr.loadAt 9 t104) fun t105 =>
 qV Try.prog C12 (Instr.loadAt 3 t9) fun t106 =>
 qV Try.prog C12 (binS .add 3 true t106 (.int .i64 1)) fun t107 =>
 qV Try.prog C12 (Instr.loadAt 4 t6) fun t108 =>
 opV Try.prog (Instr.mapEntry 98 t97 t99) (outQ Try.prog ds [] R) w fun t109 w =>
 C12 w ∧ (
 n_schema_checker_next_c7 t2 t9 t97 t103 t105 t107 t108 t109 C12 ds R w)
def n_schema_checker_next_c9 (t2 t3 t6 t9 t75 : Value) (ds : List Deferred) (R : Ending → World → Prop) (w : World) : Prop :=
 rangeN Try.prog t75 ds (fun l8 t76 w Kr8 Xr8 Qr8 =>
 busyK l8 w fun w =>
 drawK w fun C9 w =>
 n_schema_checker_next_c4 t2 t6 t9 t76 C9 Kr8 Qr8 R w) (fun ch ds w => outQ Try.prog ds [] R ch w) w (fun ds w =>
 drawK w fun C12 w =>
 n_schema_checker_next_c8 t2 t3 t6 t9 C12 ds R w) []
def n_schema_checker_next_c10 (t2 t3 t6 : Value) (ds : List Deferred) (R : Ending → World → Prop) (w : World) : Prop :=
 opV Try.prog (Instr.loadAt 93 t2) (outQ Try.prog ds [] R) w fun t71 w =>
 opN Try.prog (nilN t71) (outQ Try.prog ds [] R) w fun t72 w =>
 opV Try.prog (Instr.fieldAt 101 t72 4) (outQ Try.prog ds [] R) w fun t73 w =>
 opU Try.prog (Instr.storeAt 3 t73 (.int .i64 (-1))) (outQ Try.prog ds [] R) w fun w =>
 opV Try.prog (Instr.alloc 3 true (.tuple #[])) (outQ Try.prog ds [] R) w fun t9 w =>
 opU Try.prog (Instr.storeAt 3 t9 (.int .i64 0)) (outQ Try.prog ds [] R) w fun w =>
 opV Try.prog (Instr.loadAt 50 t3) (outQ Try.prog ds [] R) w fun t74 w =>
 callK Try.prog 24 #[t74] (outQ Try.prog ds [] R) w fun t75 w =>
 n_schema_checker_next_c9 t2 t3 t6 t9 t75 ds R w
def n_schema_checker_next_c11 (t2 t6 t50 t52 : Value) (next6 : Value → World → Prop) (ds : List Deferred) (R : Ending → World → Prop) (w : World) : Prop :=
 opV Try.prog (Instr.indexAt 48 t50 t52) (outQ Try.prog ds [] R) w fun t55 w =>
 opV Try.prog (Instr.loadAt 28 t55) (outQ Try.prog ds [] R) w fun t56 w =>
 opV Try.prog (Instr.alloc 28 true (.tuple #[])) (outQ Try.prog ds [] R) w fun t8 w =>
 opU Try.prog (Instr.storeAt 28 t8 t56) (outQ Try.prog ds [] R) w fun w =>
 opV Try.prog (Instr.loadAt 93 t2) (outQ Try.prog ds [] R) w fun t57 w =>
 opN Try.prog (nilN t57) (outQ Try.prog ds [] R) w fun t59 w =>
 opV Try.prog (Instr.fieldAt 101 t59 4) (outQ Try.prog ds [] R) w fun t60 w =>
 opU Try.prog (Instr.storeAt 3 t60 t52) (outQ Try.prog ds [] R) w fun w =>
 opV Try.prog (Instr.loadAt 93 t2) (outQ Try.prog ds [] R) w fun t61 w =>
 opV Try.prog (Instr.loadAt 28 t8) (outQ Try.prog ds [] R) w fun t62 w =>
 callK Try.prog 75 #[t61, t62] (outQ Try.prog ds [] R) w fun t63 w =>
 n_schema_checker_next_c2 t6 t8 t52 next6 ds R w
def n_schema_checker_next_c12 (t2 t3 t6 t50 t51 t52 : Value) (next6 : Value → World → Prop) (ds : List Deferred) (R : Ending → World → Prop) (w : World) : Prop :=
 opV Try.prog (binS .lss 3 false t52 t51) (outQ Try.prog ds [] R) w fun t53 w =>
 condP t53 (
 n_schema_checker_next_c11 t2 t6 t50 t52 next6 ds R w) (
 n_schema_checker_next_c10 t2 t3 t6 ds R w)
def n_schema_checker_next_c13 (t2 t3 : Value) (ds : List Deferred) (R : Ending → World → Prop) (w : World) : Prop :=
 opV Try.prog (Instr.alloc 4 true (.tuple #[])) (outQ Try.prog ds [] R) w fun t6 w =>
 opU Try.prog (Instr.storeAt 4 t6 (.bool true)) (outQ Try.prog ds [] R) w fun w =>
 opV Try.prog (Instr.fieldAt 50 t3 1) (outQ Try.prog ds [] R) w fun t49 w =>
 opV Try.prog (Instr.loadAt 48 t49) (outQ Try.prog ds [] R) w fun t50 w =>
 opV Try.prog (Builtin.len_ #[48] 3 #[t50]) (outQ Try.prog ds [] R) w fun t51 w =>
 loop1 (fun t52 w next6 =>
 n_schema_checker_next_c12 t2 t3 t6 t50 t51 t52 next6 ds R w) (.int .i64 0) w
def n_schema_checker_next_c14 (t2 t3 : Value) (ds : List Deferred) (R : Ending → World → Prop) (w : World) : Prop :=
 opV Try.prog (Instr.loadAt 93 t2) (outQ Try.prog ds [] R) w fun t37 w =>
 opV Try.prog (Instr.fieldAt 50 t3 1) (outQ Try.prog ds [] R) w fun t38 w =>
 opV Try.prog (Instr.loadAt 48 t38) (outQ Try.prog ds [] R) w fun t39 w =>
 opV Try.prog (Builtin.len_ #[48] 3 #[t39]) (outQ Try.prog ds [] R) w fun t40 w =>
 opV Try.prog (binS .geq 3 true t40 (.int .i64 1)) (outQ Try.prog ds [] R) w fun t41 w =>
 joinK (fun (t46 : Value) (w : World) =>
 pickK t41 t46 (.bool false) fun t47 =>
 callK Try.prog 62 #[t37, t47, (.int .i64 3)] (outQ Try.prog ds [] R) w fun t48 w =>
 n_schema_checker_next_c13 t2 t3 ds R w) fun K5 =>
 guardP t41 true (
 opV Try.prog (Instr.fieldAt 50 t3 1) (outQ Try.prog ds [] R) w fun t43 w =>
 opV Try.prog (Instr.loadAt 48 t43) (outQ Try.prog ds [] R) w fun t44 w =>
 opV Try.prog (Builtin.len_ #[48] 3 #[t44]) (outQ Try.prog ds [] R) w fun t45 w =>
 opV Try.prog (binS .leq 3 true t45 (.int .i64 40)) (outQ Try.prog ds [] R) w fun t46 w =>
 K5 t46 w) (
 K5 undef w)
def n_schema_checker_next_c15 (t2 t3 : Value) (C4 : World → Prop) (ds : List Deferred) (R : Ending → World → Prop) (w : World) : Prop :=
 qV Try.prog C4 (Instr.loadAt 93 t2) fun t24 =>
 qN Try.prog C4 (nilN t24) fun t25 =>
 qV Try.prog C4 (Instr.fieldAt 101 t25 1) fun t26 =>
 qV Try.prog C4 (Instr.loadAt 98 t26) fun t27 =>
 qV Try.prog C4 (Instr.fieldAt 50 t3 0) fun t28 =>
 qV Try.prog C4 (Instr.loadAt 9 t28) fun t29 =>
 qV Try.prog C4 (Instr.lookup 98 t27 t29 true) fun t30 =>
 qV Try.prog C4 (Instr.extract t30 0) fun t31 =>
 qV Try.prog C4 (Instr.extract t30 1) fun t32 =>
 opV Try.prog (Instr.loadAt 93 t2) (outQ Try.prog ds [] R) w fun t33 w =>
 opV Try.prog (Op.unary .not t32) (outQ Try.prog ds [] R) w fun t35 w =>
 callK Try.prog 62 #[t33, t35, (.int .i64 2)] (outQ Try.prog ds [] R) w fun t36 w =>
 n_schema_checker_next_c14 t2 t3 ds R w
def n_schema_checker_next_c16 (t2 t3 : Value) (C3 : World → Prop) (ds : List Deferred) (R : Ending → World → Prop) (w : World) : Prop :=
 qV Try.prog C3 (Instr.loadAt 93 t2) fun t18 =>
 qV Try.prog C3 (Instr.fieldAt 50 t3 0) fun t19 =>
 qV Try.prog C3 (Instr.loadAt 9 t19) fun t20 =>
 callK Try.prog 63 #[t20] (outQ Try.prog ds [] R) w fun t21 w =>
 C3 w ∧ (
 callK Try.prog 62 #[t18, t21, (.int .i64 1)] (outQ Try.prog ds [] R) w fun t22 w =>
 C3 w ∧ (
 drawK w fun C4 w =>
 n_schema_checker_next_c15 t2 t3 C4 ds R w))
def n_schema_checker_next_c17 (t2 t3 t12 : Value) (C1 : World → Prop) (ds : List Deferred) (R : Ending → World → Prop) (w : World) : Prop :=
 qN Try.prog C1 (nilN t12) fun t16 =>
 qV Try.prog C1 (Instr.fieldAt 101 t16 4) fun t17 =>
 opU Try.prog (Instr.storeAt 3 t17 (.int .i64 (-1))) (outQ Try.prog ds [] R) w fun w =>
 turnK w fun C2 w =>
 drawK w fun C3 w =>
 n_schema_checker_next_c16 t2 t3 C3 ds R w
def n_schema_checker_next_c18 (t2 t3 : Value) (C1 : World → Prop) (ds : List Deferred) (R : Ending → World → Prop) (w : World) : Prop :=
 qV Try.prog C1 (Instr.loadAt 93 t2) fun t11 =>
 qV Try.prog C1 (Instr.loadAt 93 t2) fun t12 =>
 qV Try.prog C1 (Instr.loadAt 50 t3) fun t13 =>
 qN Try.prog C1 (nilN t11) fun t14 =>
 qV Try.prog C1 (Instr.fieldAt 101 t14 5) fun t15 =>
 opU Try.prog (Instr.storeAt 50 t15 t13) (outQ Try.prog ds [] R) w fun w =>
 C1 w ∧ (
 n_schema_checker_next_c17 t2 t3 t12 C1 ds R w)
def n_schema_checker_next (t0 t1 : Value) (R : Ending → World → Prop) (w : World) : Prop :=
 (fun (ds : List Deferred) =>
 opV Try.prog (Instr.box 93 t0) (outQ Try.prog ds [] R) w fun t2 w =>
 opV Try.prog (Instr.box 50 t1) (outQ Try.prog ds [] R) w fun t3 w =>
 drawK w fun C1 w =>
 n_schema_checker_next_c18 t2 t3 C1 ds R w) []
set_option maxRecDepth 100000 in
set_option maxHeartbeats 4000000 in
theorem n_schema_checker_next_sound {t0 t1 : Value} {R : Ending → World → Prop} {w : World} (h : n_schema_checker_next t0 t1 R w) : Calls Try.prog 64 #[t0, t1] w R := by
  refine calls_of_denM (args := [t0, t1]) Try.func64 rfl (Nat.le_of_ble_eq_true rfl) ?_
  unfold n_schema_checker_next at h
  dsimp only at h
  refine zs <| zr ?_
  refine zq h fun t2 w h => ?_
  refine zq h fun t3 w h => ?_
  refine zn <| zk <| zs ?_
  obtain ⟨C1, hC, h⟩ := h
  refine sim_draw [11, 12, 13, 14, 15, 16, 17] (by kernel_rfl) (by kernel_rfl) C1 ?_
  refine ze 0 hC h fun t11 h => ?_
  refine ze 1 hC h fun t12 h => ?_
  refine ze 2 hC h fun t13 h => ?_
  obtain ⟨t14, hv, h⟩ := h
  refine sim_dsilent 3 hC rfl (by kernel_rfl) (by kernel_rfl) (fun _ _ => rfl) rfl (Sw.qN_run rfl hv) ?_
  refine ze 4 hC h fun t15 h => ?_
  refine sim_dloud 5 rfl (by kernel_rfl) (fun _ _ => rfl) ?_
  refine sim_unit h rfl rfl (fun _ _ h => outQ_ofD rfl rfl h) ?_; intro w h
  refine zn ?_
  obtain ⟨hC, h⟩ := h
  refine ⟨hC, ?_⟩
  obtain ⟨t16, hv, h⟩ := h
  refine sim_dsilent 6 hC rfl (by kernel_rfl) (by kernel_rfl) (fun _ _ => rfl) rfl (Sw.qN_run rfl hv) ?_
  refine ze 7 hC h fun t17 h => ?_
  refine sim_dturn 8 2 rfl (by kernel_rfl) (by kernel_rfl) (fun _ _ => rfl) ?_
  refine sim_unit h rfl rfl (fun _ _ h => outQ_ofD rfl rfl h) ?_; intro w h
  refine zn ?_
  obtain ⟨C2, hC, h⟩ := h
  refine ⟨C2, hC, ?_⟩
  refine sim_dend (by kernel_rfl) ?_
  refine zk <| zs ?_
  obtain ⟨C3, hC, h⟩ := h
  refine sim_draw [18, 19, 20, 21, 22] (by kernel_rfl) (by kernel_rfl) C3 ?_
  refine ze 0 hC h fun t18 h => ?_
  refine ze 1 hC h fun t19 h => ?_
  refine ze 2 hC h fun t20 h => ?_
  refine sim_dloud 3 rfl (by kernel_rfl) (fun _ _ => rfl) ?_
  refine sim_call h c63 rfl (fun _ _ h => outQ_ofD rfl rfl h) ?_; intro t21 w h
  refine zn ?_
  obtain ⟨hC, h⟩ := h
  refine ⟨hC, ?_⟩
  refine sim_dloud 4 rfl (by kernel_rfl) (fun _ _ => rfl) ?_
  refine sim_call h c62 rfl (fun _ _ h => outQ_ofD rfl rfl h) ?_; intro t22 w h
  refine zn ?_
  obtain ⟨hC, h⟩ := h
  refine ⟨hC, ?_⟩
  refine sim_dend (by kernel_rfl) ?_
  refine zk <| zs ?_
  obtain ⟨C4, hC, h⟩ := h
  refine sim_draw [4, 5, 23, 24, 25, 26, 27, 28, 29, 30, 31, 32] (by kernel_rfl) (by kernel_rfl) C4 ?_
  refine ze 0 hC h fun t24 h => ?_
  obtain ⟨t25, hv, h⟩ := h
  refine sim_dsilent 1 hC rfl (by kernel_rfl) (by kernel_rfl) (fun _ _ => rfl) rfl (Sw.qN_run rfl hv) ?_
  refine ze 2 hC h fun t26 h => ?_
  refine ze 3 hC h fun t27 h => ?_
  refine ze 4 hC h fun t28 h => ?_
  refine ze 5 hC h fun t29 h => ?_
  refine ze 6 hC h fun t30 h => ?_
  refine zw 7 hC ?_
  refine ze 8 hC h fun t31 h => ?_
  refine ze 9 hC h fun t32 h => ?_
  refine zw 10 hC ?_
  refine zw 11 hC ?_
  refine sim_dend (by kernel_rfl) ?_
  refine zk <| zs <| zr ?_
  refine zq h fun t33 w h => ?_
  refine zm ?_
  refine zq h fun t35 w h => ?_
  refine sim_call h c62 rfl (fun _ _ h => outQ_of rfl h) ?_; intro t36 w h
  refine zn <| zk <| zs <| sim_regionG ?_
  refine sim_seg 6 rfl ?_
  refine zq h fun t37 w h => ?_
  refine zq h fun t38 w h => ?_
  refine zq h fun t39 w h => ?_
  refine sim_builtin h rfl (fun _ _ h => outQ_of rfl h) ?_; intro t40 w h
  refine sim_bin h rfl rfl rfl (fun _ _ h => outQ_of rfl h) ?_; intro t41 w h
  refine zm <| zn ?_
  refine joinK_elim h (fun K5 hK h => ?_)
  refine sim_groupJ 4 5 true [43, 44, 45, 46] (fun ρ w => K5 (ρ 46) w) rfl rfl (fun T hT => guardP_mono h (fun h => ?_) (fun h => ?_)) (fun σ w h => ?_)
  · refine zq h fun t43 w h => ?_
    refine zq h fun t44 w h => ?_
    refine sim_builtin h rfl (fun _ _ h => outQ_of rfl h) ?_; intro t45 w h
    refine sim_bin h rfl rfl rfl (fun _ _ h => outQ_of rfl h) ?_; intro t46 w h
    refine zn ?_
    exact zt hT h
  · exact zt hT h
  subst hK
  refine sim_seg 2 rfl ?_
  refine sim_pick h rfl rfl rfl ?_; intro t47 h
  refine sim_call h c62 rfl (fun _ _ h => outQ_of rfl h) ?_; intro t48 w h
  refine zn <| sim_end <| zk <| zs <| zr ?_
  refine zq h fun t6 w h => ?_
  refine sim_unit h rfl rfl (fun _ _ h => outQ_of rfl h) ?_; intro w h
  refine zn <| zk <| zs <| zs <| zr ?_
  refine zq h fun t49 w h => ?_
  refine zq h fun t50 w h => ?_
  refine sim_builtin h rfl (fun _ _ h => outQ_of rfl h) ?_; intro t51 w h
  refine zm <| zn <| zk <| sim_block ?_
  obtain ⟨I, μ, h0, hr⟩ := h
  refine sim_loop [7, 8, 52, 53, 54, 55, 56, 57, 58, 59, 60, 61, 62, 63, 64, 65, 66, 67, 68, 69, 70] (by kernel_rfl) (fun ρ w => I (ρ 52) w) (fun ρ w => μ (ρ 52) w) h0 (fun σ w hI => ?_)
  have h := hr _ _ hI
  clear hr h0 hI
  refine zs <| zr ?_
  refine sim_bin h rfl rfl rfl (fun _ _ h => outQ_of rfl h) ?_; intro t53 w h
  refine zn <| zk <| zs ?_
  refine sim_cond h rfl (fun h => ?_) (fun h => ?_)
  · refine sim_skip <| zk <| zs <| sim_block <| zs <| zr <| zm ?_
    refine zq h fun t55 w h => ?_
    refine zq h fun t56 w h => ?_
    refine zq h fun t8 w h => ?_
    refine zm ?_
    refine sim_unit h rfl rfl (fun _ _ h => outQ_of rfl h) ?_; intro w h
    refine zn <| zk <| zs <| zr ?_
    refine zq h fun t57 w h => ?_
    refine zm ?_
    refine sim_next h rfl rfl (fun _ _ h => outQ_of rfl h) ?_; intro t59 w h
    refine zq h fun t60 w h => ?_
    refine sim_unit h rfl rfl (fun _ _ h => outQ_of rfl h) ?_; intro w h
    refine zn <| zk <| zs <| zr ?_
    refine zq h fun t61 w h => ?_
    refine zq h fun t62 w h => ?_
    refine sim_call h c75 rfl (fun _ _ h => outQ_of rfl h) ?_; intro t63 w h
    refine zn <| zk <| sim_regionG ?_
    refine sim_seg 2 rfl ?_
    refine zq h fun t64 w h => ?_
    refine zm <| zn ?_
    refine joinK_elim h (fun K7 hK h => ?_)
    refine sim_groupJ 3 1 true [66, 67, 68] (fun ρ w => K7 (ρ 68) w) rfl rfl (fun T hT => guardP_mono h (fun h => ?_) (fun h => ?_)) (fun σ w h => ?_)
    · refine zq h fun t66 w h => ?_
      refine zq h fun t67 w h => ?_
      refine zq h fun t68 w h => ?_
      refine zn ?_
      exact zt hT h
    · exact zt hT h
    subst hK
    refine sim_seg 2 rfl ?_
    refine sim_pick h rfl rfl rfl ?_; intro t69 h
    refine sim_unit h rfl rfl (fun _ _ h => outQ_of rfl h) ?_; intro w h
    refine zn <| sim_end <| sim_block_normal <| zk <| zr ?_
    refine sim_bin h rfl rfl rfl (fun _ _ h => outQ_of rfl h) ?_; intro t70 w h
    refine zm <| zn <| zk ?_
    exact ⟨rfl, h⟩
  · refine sim_exit <| sim_then_exit <| sim_then_exit <| sim_block_hit <| zk <| zs <| zr ?_
    refine zq h fun t71 w h => ?_
    refine sim_next h rfl rfl (fun _ _ h => outQ_of rfl h) ?_; intro t72 w h
    refine zq h fun t73 w h => ?_
    refine sim_unit h rfl rfl (fun _ _ h => outQ_of rfl h) ?_; intro w h
    refine zn <| zk <| zs <| zr ?_
    refine zq h fun t9 w h => ?_
    refine sim_unit h rfl rfl (fun _ _ h => outQ_of rfl h) ?_; intro w h
    refine zn <| zk <| zs <| zs <| zr ?_
    refine zq h fun t74 w h => ?_
    refine sim_call h c24 rfl (fun _ _ h => outQ_of rfl h) ?_; intro t75 w h
    refine zn <| zk <| sim_block ?_
    refine sim_range [] h rfl (fun l8 t76 w Kr8 Xr8 Qr8 h => ?_) (fun ds w h => ?_) (fun c ds w h => ?_) (fun ch ds w h => outQ_of rfl h)
    · refine zr <| zm <| zn <| zk ?_
      obtain ⟨hr, h⟩ := h
      refine ⟨rfl, hr, fun w hb => ?_⟩
      have h := h w hb
      refine sim_block <| zs ?_
      obtain ⟨C9, hC, h⟩ := h
      refine sim_draw [77, 78, 79, 80, 81, 82, 83, 84] (by kernel_rfl) (by kernel_rfl) C9 ?_
      refine ze 0 hC h fun t77 h => ?_
      refine ze 1 hC h fun t78 h => ?_
      obtain ⟨t79, hv, h⟩ := h
      refine sim_dsilent 2 hC rfl (by kernel_rfl) (by kernel_rfl) (fun _ _ => rfl) rfl (Sw.qN_run rfl hv) ?_
      refine ze 3 hC h fun t80 h => ?_
      refine ze 4 hC h fun t81 h => ?_
      refine zw 5 hC ?_
      refine ze 6 hC h fun t83 h => ?_
      obtain ⟨t84, hv, h⟩ := h
      refine sim_dsilent 7 hC rfl (by kernel_rfl) (by kernel_rfl) (fun _ _ => rfl) rfl (Sw.qV_builtin rfl hv) ?_
      refine sim_dturn 8 1 rfl (by kernel_rfl) (by kernel_rfl) (fun _ _ => rfl) ?_
      refine sim_unit h rfl rfl (fun _ _ h _ _ => ⟨rfl, h⟩) ?_; intro w h
      refine zn ?_
      obtain ⟨C10, hC, h⟩ := h
      refine ⟨C10, hC, ?_⟩
      refine sim_dend (by kernel_rfl) ?_
      refine zk <| sim_regionG ?_
      refine sim_seg 2 rfl ?_
      refine zv h fun t85 w h => ?_
      refine zm <| zn ?_
      refine joinK_elim h (fun K11 hK h => ?_)
      refine sim_groupJ 6 1 true [87, 88, 89, 90, 91, 92] (fun ρ w => K11 (ρ 92) w) rfl rfl (fun T hT => guardP_mono h (fun h => ?_) (fun h => ?_)) (fun σ w h => ?_)
      · refine zv h fun t87 w h => ?_
        refine sim_next h rfl rfl (fun _ _ h => ⟨rfl, h⟩) ?_; intro t88 w h
        refine zv h fun t89 w h => ?_
        refine zv h fun t90 w h => ?_
        refine zm ?_
        refine zv h fun t92 w h => ?_
        refine zn ?_
        exact zt hT h
      · exact zt hT h
      subst hK
      refine sim_seg 2 rfl ?_
      refine sim_pick h rfl rfl rfl ?_; intro t93 h
      refine zu h fun w h => ?_
      refine zn <| sim_end <| sim_block_normal ?_
      exact ⟨rfl, h⟩
    · refine sim_block_normal <| zk <| zs ?_
      obtain ⟨C12, hC, h⟩ := h
      refine sim_draw [94, 95, 96, 97, 98, 99, 100, 101, 102, 103, 104, 105, 106, 107, 108, 109, 110, 111, 112] (by kernel_rfl) (by kernel_rfl) C12 ?_
      refine ze 0 hC h fun t94 h => ?_
      obtain ⟨t95, hv, h⟩ := h
      refine sim_dsilent 1 hC rfl (by kernel_rfl) (by kernel_rfl) (fun _ _ => rfl) rfl (Sw.qN_run rfl hv) ?_
      refine ze 2 hC h fun t96 h => ?_
      refine ze 3 hC h fun t97 h => ?_
      refine ze 4 hC h fun t98 h => ?_
      refine ze 5 hC h fun t99 h => ?_
      refine ze 6 hC h fun t100 h => ?_
      obtain ⟨t101, hv, h⟩ := h
      refine sim_dsilent 7 hC rfl (by kernel_rfl) (by kernel_rfl) (fun _ _ => rfl) rfl (Sw.qN_run rfl hv) ?_
      refine ze 8 hC h fun t102 h => ?_
      refine ze 9 hC h fun t103 h => ?_
      refine ze 10 hC h fun t104 h => ?_
      refine ze 11 hC h fun t105 h => ?_
      refine ze 12 hC h fun t106 h => ?_
      obtain ⟨t107, hv, h⟩ := h
      refine sim_dsilent 13 hC rfl (by kernel_rfl) (by kernel_rfl) (fun _ _ => rfl) rfl (Sw.qV_bin rfl rfl rfl hv) ?_
      refine ze 14 hC h fun t108 h => ?_
      refine sim_dloud 15 rfl (by kernel_rfl) (fun _ _ => rfl) ?_
      refine sim_val h rfl rfl (fun _ _ h => outQ_ofD rfl rfl h) ?_; intro t109 w h
      refine zn ?_
      obtain ⟨hC, h⟩ := h
      refine ⟨hC, ?_⟩
      refine ze 16 hC h fun t110 h => ?_
      refine sim_dloud 17 rfl (by kernel_rfl) (fun _ _ => rfl) ?_
      refine sim_unit h rfl rfl (fun _ _ h => outQ_ofD rfl rfl h) ?_; intro w h
      refine zn ?_
      obtain ⟨hC, h⟩ := h
      refine ⟨hC, ?_⟩
      refine sim_dloud 18 rfl (by kernel_rfl) (fun _ _ => rfl) ?_
      refine sim_val h rfl rfl (fun _ _ h => outQ_ofD rfl rfl h) ?_; intro t111 w h
      refine zn ?_
      obtain ⟨hC, h⟩ := h
      refine ⟨hC, ?_⟩
      refine ze 19 hC h fun t112 h => ?_
      refine sim_dturn 20 1 rfl (by kernel_rfl) (by kernel_rfl) (fun _ _ => rfl) ?_
      refine sim_unit h rfl rfl (fun _ _ h => outQ_ofD rfl rfl h) ?_; intro w h
      refine zn ?_
      obtain ⟨C13, hC, h⟩ := h
      refine ⟨C13, hC, ?_⟩
      refine sim_dend (by kernel_rfl) ?_
      refine zk <| zr ?_
      refine zq h fun t113 w h => ?_
      refine zq h fun t114 w h => ?_
      refine sim_bin h rfl rfl rfl (fun _ _ h => outQ_of rfl h) ?_; intro t115 w h
      refine sim_call h c62 rfl (fun _ _ h => outQ_of rfl h) ?_; intro t116 w h
      refine zn ?_
      refine Sw.bodyM_normal ?_
      exact Sw.bodyM_ret rfl h
    · exact h.elim
end Go.Proofs.Ytiajhbbmgglmlaa
