/-
  No cell of these rows narrows 'for every input' (looked for: loops, veiled, ifaces, maps, wideKeys, modest, calm, conditions, laid).
  DERIVED. THE GIVEN ROWS OF THIS SEAT. 5 by the template 'for every input the law returns true; each argument reads behind the call as it read before'; 0 by the template 'total and deterministic' (their statements: YtiajhbbmgglmlaaTotals.lean).
  GIVEN WITH THE SEED: the statements are not yours to turn. If you find one false, say at which input.
  Laid BY PROGRAM, IN A SANDBOX (cutbox-rows.mjs): the forced cells as the released guide's own fill.sh prints them over the translation cd8ee94d8c3af3bc… (all of the seat's roots in one cut). By AI agents, Wed Nov 11 2026. No macro, syntax, notation, axiom, sorry.
-/
import Derived.Test.YtiajhbbmgglmlaaChecked
import GoSem.Claim
import GoSem.ClaimJoined
import GoSem.ClaimMapViews
import Derived.JoinedTies
import Derived.KernelRfl
namespace Go.Proofs.Ytiajhbbmgglmlaa
/- THE CELL 'sum', in the pinned program and in every row, IS THE sha256 OF THE DUMP (.gsa) THAT YtiajhbbmgglmlaaProg.lean LOADS. Nothing in Lean hashes anything: it is a label: what it is worth is what the hold of that sum in a sandbox is worth. -/
noncomputable def Try.pinned : Pinned := { name := "ytiajhbbmgglmlaa", sum := "cd8ee94d8c3af3bc0eee0aba97c29d20abdc3b29fbbf1167fb80ac0d221fba88", checked := Try.checked }
namespace Rows
def none {H : Type} : Left H := { results := [], args := [] }

/-- 'phrasebooklaw05.SchemaFields': WHATEVER THE INPUT: true; the input reads as it did. -/
def schemaFieldsSpec : ChangeSpec := { name := "schemaFields", fn := fun _ => fun
  | [d1, d2] => { results := [.lit (.bool true)], args := [d1, d2] }
  | _ => none }
def schemaFieldsRow : OpenClaim := { program := "ytiajhbbmgglmlaa", sum := "cd8ee94d8c3af3bc0eee0aba97c29d20abdc3b29fbbf1167fb80ac0d221fba88", func := "phrasebook/phrasebooklaw05.SchemaFields", spec := "schemaFields", unfollowed := true, recurses := true, apart := false }
def SchemaFieldsSaid : Prop := schemaFieldsRow.holds Try.pinned (OpenSpec.ofChange schemaFieldsSpec)

/-- ITS FALSE NEIGHBOUR: 'it returns false'. Refute it at one input. -/
def schemaFieldsWrong : ChangeSpec := { name := "schemaFields", fn := fun _ => fun
  | [d1, d2] => { results := [.lit (.bool false)], args := [d1, d2] }
  | _ => none }
def SchemaFieldsWrongFalsely : Prop := schemaFieldsRow.holds Try.pinned (OpenSpec.ofChange schemaFieldsWrong)

/-- 'phrasebooklaw05.SchemaFinds': WHATEVER THE INPUT: true; the input reads as it did. -/
def schemaFindsSpec : ChangeSpec := { name := "schemaFinds", fn := fun _ => fun
  | [d1, d2, d3] => { results := [.lit (.bool true)], args := [d1, d2, d3] }
  | _ => none }
def schemaFindsRow : OpenClaim := { program := "ytiajhbbmgglmlaa", sum := "cd8ee94d8c3af3bc0eee0aba97c29d20abdc3b29fbbf1167fb80ac0d221fba88", func := "phrasebook/phrasebooklaw05.SchemaFinds", spec := "schemaFinds", unfollowed := true, recurses := true, apart := false }
def SchemaFindsSaid : Prop := schemaFindsRow.holds Try.pinned (OpenSpec.ofChange schemaFindsSpec)

/-- ITS FALSE NEIGHBOUR: 'it returns false'. Refute it at one input. -/
def schemaFindsWrong : ChangeSpec := { name := "schemaFinds", fn := fun _ => fun
  | [d1, d2, d3] => { results := [.lit (.bool false)], args := [d1, d2, d3] }
  | _ => none }
def SchemaFindsWrongFalsely : Prop := schemaFindsRow.holds Try.pinned (OpenSpec.ofChange schemaFindsWrong)

/-- 'phrasebooklaw05.SchemaRefers': WHATEVER THE INPUT: true; the input reads as it did. -/
def schemaRefersSpec : ChangeSpec := { name := "schemaRefers", fn := fun _ => fun
  | [d1, d2] => { results := [.lit (.bool true)], args := [d1, d2] }
  | _ => none }
def schemaRefersRow : OpenClaim := { program := "ytiajhbbmgglmlaa", sum := "cd8ee94d8c3af3bc0eee0aba97c29d20abdc3b29fbbf1167fb80ac0d221fba88", func := "phrasebook/phrasebooklaw05.SchemaRefers", spec := "schemaRefers", unfollowed := true, recurses := true, apart := false }
def SchemaRefersSaid : Prop := schemaRefersRow.holds Try.pinned (OpenSpec.ofChange schemaRefersSpec)

/-- ITS FALSE NEIGHBOUR: 'it returns false'. Refute it at one input. -/
def schemaRefersWrong : ChangeSpec := { name := "schemaRefers", fn := fun _ => fun
  | [d1, d2] => { results := [.lit (.bool false)], args := [d1, d2] }
  | _ => none }
def SchemaRefersWrongFalsely : Prop := schemaRefersRow.holds Try.pinned (OpenSpec.ofChange schemaRefersWrong)

/-- 'phrasebooklaw05.SchemaGrows': WHATEVER THE INPUT: true; the input reads as it did. -/
def schemaGrowsSpec : ChangeSpec := { name := "schemaGrows", fn := fun _ => fun
  | [d1, d2, d3] => { results := [.lit (.bool true)], args := [d1, d2, d3] }
  | _ => none }
def schemaGrowsRow : OpenClaim := { program := "ytiajhbbmgglmlaa", sum := "cd8ee94d8c3af3bc0eee0aba97c29d20abdc3b29fbbf1167fb80ac0d221fba88", func := "phrasebook/phrasebooklaw05.SchemaGrows", spec := "schemaGrows", unfollowed := true, recurses := true, apart := false }
def SchemaGrowsSaid : Prop := schemaGrowsRow.holds Try.pinned (OpenSpec.ofChange schemaGrowsSpec)

/-- ITS FALSE NEIGHBOUR: 'it returns false'. Refute it at one input. -/
def schemaGrowsWrong : ChangeSpec := { name := "schemaGrows", fn := fun _ => fun
  | [d1, d2, d3] => { results := [.lit (.bool false)], args := [d1, d2, d3] }
  | _ => none }
def SchemaGrowsWrongFalsely : Prop := schemaGrowsRow.holds Try.pinned (OpenSpec.ofChange schemaGrowsWrong)

/-- 'phrasebooklaw05.SchemaEquals': WHATEVER THE INPUT: true; the input reads as it did. -/
def schemaEqualsSpec : ChangeSpec := { name := "schemaEquals", fn := fun _ => fun
  | [d1, d2] => { results := [.lit (.bool true)], args := [d1, d2] }
  | _ => none }
def schemaEqualsRow : OpenClaim := { program := "ytiajhbbmgglmlaa", sum := "cd8ee94d8c3af3bc0eee0aba97c29d20abdc3b29fbbf1167fb80ac0d221fba88", func := "phrasebook/phrasebooklaw05.SchemaEquals", spec := "schemaEquals", unfollowed := true, recurses := true, apart := false }
def SchemaEqualsSaid : Prop := schemaEqualsRow.holds Try.pinned (OpenSpec.ofChange schemaEqualsSpec)

/-- ITS FALSE NEIGHBOUR: 'it returns false'. Refute it at one input. -/
def schemaEqualsWrong : ChangeSpec := { name := "schemaEquals", fn := fun _ => fun
  | [d1, d2] => { results := [.lit (.bool false)], args := [d1, d2] }
  | _ => none }
def SchemaEqualsWrongFalsely : Prop := schemaEqualsRow.holds Try.pinned (OpenSpec.ofChange schemaEqualsWrong)

/- THE SECOND FORM. 'bulk': how many values and letters a reading holds, each counted each time it is reached (what is shared counts as often as it is met; a slice's spare places count too). A statement '..UptoSaid' is the law's where the arguments, and the package variables that the reading takes, are together of bulk at most 1048576: NARROWER than '..Said'. Prove '..Said' where nothing that the law and all that it calls make is longer than what came in: it says more and counts as full. Else prove '..UptoSaid'. A law counts once. -/
mutual
def uptoBulk {H : Type} : DataW H → Nat
  | .lit (.string bytes) => bytes.length + 1
  | .lit _ => 1
  | .nil => 1
  | .ptr d => uptoBulk d + 1
  | .slice elems spare => uptoBulkAll elems + uptoBulkAll spare + 1
  | .agg parts => uptoBulkAll parts + 1
  | .iface _ d => uptoBulk d + 1
  | .map entries => uptoBulkEntries entries + 1
  | .held _ => 1
def uptoBulkAll {H : Type} : List (DataW H) → Nat
  | [] => 0
  | d :: r => uptoBulk d + uptoBulkAll r
def uptoBulkEntries {H : Type} : List (Lit × DataW H) → Nat
  | [] => 0
  | x :: r => uptoBulkEntry x + uptoBulkEntries r
def uptoBulkEntry {H : Type} : Lit × DataW H → Nat
  | (.string bytes, d) => bytes.length + uptoBulk d + 1
  | (_, d) => uptoBulk d + 1
 end
def uptoSmall : (H : Type) → List (DataW H) → Bool := fun _ ds => decide (uptoBulkAll ds ≤ 1048576)
def OpenSpec.upto (s : _root_.Go.ChangeSpec) : _root_.Go.OpenSpec := { _root_.Go.OpenSpec.ofChange s with cond := some uptoSmall }

/-- 'phrasebooklaw05.SchemaFields', WHERE WHAT IT READS IS OF BULK AT MOST 1048576: true; the input reads as it did. -/
def schemaFieldsUptoRow : OpenClaim := { program := "ytiajhbbmgglmlaa", sum := "cd8ee94d8c3af3bc0eee0aba97c29d20abdc3b29fbbf1167fb80ac0d221fba88", func := "phrasebook/phrasebooklaw05.SchemaFields", spec := "schemaFields", unfollowed := true, recurses := true, apart := false, narrowed := true }
def SchemaFieldsUptoSaid : Prop := schemaFieldsUptoRow.holds Try.pinned (OpenSpec.upto schemaFieldsSpec)

/-- 'phrasebooklaw05.SchemaFinds', WHERE WHAT IT READS IS OF BULK AT MOST 1048576: true; the input reads as it did. -/
def schemaFindsUptoRow : OpenClaim := { program := "ytiajhbbmgglmlaa", sum := "cd8ee94d8c3af3bc0eee0aba97c29d20abdc3b29fbbf1167fb80ac0d221fba88", func := "phrasebook/phrasebooklaw05.SchemaFinds", spec := "schemaFinds", unfollowed := true, recurses := true, apart := false, narrowed := true }
def SchemaFindsUptoSaid : Prop := schemaFindsUptoRow.holds Try.pinned (OpenSpec.upto schemaFindsSpec)

/-- 'phrasebooklaw05.SchemaRefers', WHERE WHAT IT READS IS OF BULK AT MOST 1048576: true; the input reads as it did. -/
def schemaRefersUptoRow : OpenClaim := { program := "ytiajhbbmgglmlaa", sum := "cd8ee94d8c3af3bc0eee0aba97c29d20abdc3b29fbbf1167fb80ac0d221fba88", func := "phrasebook/phrasebooklaw05.SchemaRefers", spec := "schemaRefers", unfollowed := true, recurses := true, apart := false, narrowed := true }
def SchemaRefersUptoSaid : Prop := schemaRefersUptoRow.holds Try.pinned (OpenSpec.upto schemaRefersSpec)

/-- 'phrasebooklaw05.SchemaGrows', WHERE WHAT IT READS IS OF BULK AT MOST 1048576: true; the input reads as it did. -/
def schemaGrowsUptoRow : OpenClaim := { program := "ytiajhbbmgglmlaa", sum := "cd8ee94d8c3af3bc0eee0aba97c29d20abdc3b29fbbf1167fb80ac0d221fba88", func := "phrasebook/phrasebooklaw05.SchemaGrows", spec := "schemaGrows", unfollowed := true, recurses := true, apart := false, narrowed := true }
def SchemaGrowsUptoSaid : Prop := schemaGrowsUptoRow.holds Try.pinned (OpenSpec.upto schemaGrowsSpec)

/-- 'phrasebooklaw05.SchemaEquals', WHERE WHAT IT READS IS OF BULK AT MOST 1048576: true; the input reads as it did. -/
def schemaEqualsUptoRow : OpenClaim := { program := "ytiajhbbmgglmlaa", sum := "cd8ee94d8c3af3bc0eee0aba97c29d20abdc3b29fbbf1167fb80ac0d221fba88", func := "phrasebook/phrasebooklaw05.SchemaEquals", spec := "schemaEquals", unfollowed := true, recurses := true, apart := false, narrowed := true }
def SchemaEqualsUptoSaid : Prop := schemaEqualsUptoRow.holds Try.pinned (OpenSpec.upto schemaEqualsSpec)

end Rows
end Go.Proofs.Ytiajhbbmgglmlaa
