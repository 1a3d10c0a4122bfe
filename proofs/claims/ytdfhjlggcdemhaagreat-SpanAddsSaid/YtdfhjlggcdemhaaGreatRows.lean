/-
  No cell of these rows narrows 'for every input' (looked for: loops, veiled, ifaces, maps, wideKeys, modest, calm, conditions, laid).
  DERIVED. THE GIVEN ROWS OF THIS SEAT. 11 by the template 'for every input the law returns true; each argument reads behind the call as it read before'; 0 by the template 'total and deterministic' (their statements: YtdfhjlggcdemhaaGreatTotals.lean).
  GIVEN WITH THE SEED: the statements are not yours to turn. If you find one false, say at which input.
  Laid BY PROGRAM, IN A SANDBOX (cutbox-rows.mjs): the forced cells as the released guide's own fill.sh prints them over the translation bd2e3d413f8ac3d1… (all of the seat's roots in one cut). By AI agents, Wed Nov 11 2026. No macro, syntax, notation, axiom, sorry.
-/
import Derived.Test.YtdfhjlggcdemhaaGreatChecked
import GoSem.Claim
import GoSem.ClaimJoined
import GoSem.ClaimMapViews
import Derived.JoinedTies
import Derived.KernelRfl
namespace Go.Proofs.YtdfhjlggcdemhaaGreat
/- THE CELL 'sum', in the pinned program and in every row, IS THE sha256 OF THE DUMP (.gsa) THAT YtdfhjlggcdemhaaGreatProg.lean LOADS. Nothing in Lean hashes anything: it is a label: what it is worth is what the hold of that sum in a sandbox is worth. -/
noncomputable def Tryz.pinned : Pinned := { name := "ytdfhjlggcdemhaagreat", sum := "bd2e3d413f8ac3d11ea8ce16dbca9a2830427d0ae972bcbc2a0bb75a6a197d58", checked := Tryz.checked }
namespace Rows
def none {H : Type} : Left H := { results := [], args := [] }

/-- 'phrasebooklaw14.AlignChecks': WHATEVER THE INPUT: true; the input reads as it did. -/
def alignChecksSpec : ChangeSpec := { name := "alignChecks", fn := fun _ => fun
  | [d] => { results := [.lit (.bool true)], args := [d] }
  | _ => none }
def alignChecksRow : OpenClaim := { program := "ytdfhjlggcdemhaagreat", sum := "bd2e3d413f8ac3d11ea8ce16dbca9a2830427d0ae972bcbc2a0bb75a6a197d58", func := "phrasebook/phrasebooklaw14.AlignChecks", spec := "alignChecks", unfollowed := true, recurses := true, apart := false }
def AlignChecksSaid : Prop := alignChecksRow.holds Tryz.pinned (OpenSpec.ofChange alignChecksSpec)

/-- ITS FALSE NEIGHBOUR: 'it returns false'. Refute it at one input. -/
def alignChecksWrong : ChangeSpec := { name := "alignChecks", fn := fun _ => fun
  | [d] => { results := [.lit (.bool false)], args := [d] }
  | _ => none }
def AlignChecksWrongFalsely : Prop := alignChecksRow.holds Tryz.pinned (OpenSpec.ofChange alignChecksWrong)

/-- 'phrasebooklaw14.AlignNeeds': WHATEVER THE INPUT: true; the input reads as it did. -/
def alignNeedsSpec : ChangeSpec := { name := "alignNeeds", fn := fun _ => fun
  | [d1, d2, d3] => { results := [.lit (.bool true)], args := [d1, d2, d3] }
  | _ => none }
def alignNeedsRow : OpenClaim := { program := "ytdfhjlggcdemhaagreat", sum := "bd2e3d413f8ac3d11ea8ce16dbca9a2830427d0ae972bcbc2a0bb75a6a197d58", func := "phrasebook/phrasebooklaw14.AlignNeeds", spec := "alignNeeds", unfollowed := true, recurses := true, apart := false }
def AlignNeedsSaid : Prop := alignNeedsRow.holds Tryz.pinned (OpenSpec.ofChange alignNeedsSpec)

/-- ITS FALSE NEIGHBOUR: 'it returns false'. Refute it at one input. -/
def alignNeedsWrong : ChangeSpec := { name := "alignNeeds", fn := fun _ => fun
  | [d1, d2, d3] => { results := [.lit (.bool false)], args := [d1, d2, d3] }
  | _ => none }
def AlignNeedsWrongFalsely : Prop := alignNeedsRow.holds Tryz.pinned (OpenSpec.ofChange alignNeedsWrong)

/-- 'phrasebooklaw14.AlignState': WHATEVER THE INPUT: true; the input reads as it did. -/
def alignStateSpec : ChangeSpec := { name := "alignState", fn := fun _ => fun
  | [d1, d2] => { results := [.lit (.bool true)], args := [d1, d2] }
  | _ => none }
def alignStateRow : OpenClaim := { program := "ytdfhjlggcdemhaagreat", sum := "bd2e3d413f8ac3d11ea8ce16dbca9a2830427d0ae972bcbc2a0bb75a6a197d58", func := "phrasebook/phrasebooklaw14.AlignState", spec := "alignState", unfollowed := true, recurses := true, apart := false }
def AlignStateSaid : Prop := alignStateRow.holds Tryz.pinned (OpenSpec.ofChange alignStateSpec)

/-- ITS FALSE NEIGHBOUR: 'it returns false'. Refute it at one input. -/
def alignStateWrong : ChangeSpec := { name := "alignState", fn := fun _ => fun
  | [d1, d2] => { results := [.lit (.bool false)], args := [d1, d2] }
  | _ => none }
def AlignStateWrongFalsely : Prop := alignStateRow.holds Tryz.pinned (OpenSpec.ofChange alignStateWrong)

/-- 'phrasebooklaw14.AlignPads': WHATEVER THE INPUT: true; the input reads as it did. -/
def alignPadsSpec : ChangeSpec := { name := "alignPads", fn := fun _ => fun
  | [d1, d2] => { results := [.lit (.bool true)], args := [d1, d2] }
  | _ => none }
def alignPadsRow : OpenClaim := { program := "ytdfhjlggcdemhaagreat", sum := "bd2e3d413f8ac3d11ea8ce16dbca9a2830427d0ae972bcbc2a0bb75a6a197d58", func := "phrasebook/phrasebooklaw14.AlignPads", spec := "alignPads", unfollowed := true, recurses := true, apart := false }
def AlignPadsSaid : Prop := alignPadsRow.holds Tryz.pinned (OpenSpec.ofChange alignPadsSpec)

/-- ITS FALSE NEIGHBOUR: 'it returns false'. Refute it at one input. -/
def alignPadsWrong : ChangeSpec := { name := "alignPads", fn := fun _ => fun
  | [d1, d2] => { results := [.lit (.bool false)], args := [d1, d2] }
  | _ => none }
def AlignPadsWrongFalsely : Prop := alignPadsRow.holds Tryz.pinned (OpenSpec.ofChange alignPadsWrong)

/-- 'phrasebooklaw14.AlignOffsets': WHATEVER THE INPUT: true; the input reads as it did. -/
def alignOffsetsSpec : ChangeSpec := { name := "alignOffsets", fn := fun _ => fun
  | [d1, d2, d3, d4] => { results := [.lit (.bool true)], args := [d1, d2, d3, d4] }
  | _ => none }
def alignOffsetsRow : OpenClaim := { program := "ytdfhjlggcdemhaagreat", sum := "bd2e3d413f8ac3d11ea8ce16dbca9a2830427d0ae972bcbc2a0bb75a6a197d58", func := "phrasebook/phrasebooklaw14.AlignOffsets", spec := "alignOffsets", unfollowed := true, recurses := true, apart := false }
def AlignOffsetsSaid : Prop := alignOffsetsRow.holds Tryz.pinned (OpenSpec.ofChange alignOffsetsSpec)

/-- ITS FALSE NEIGHBOUR: 'it returns false'. Refute it at one input. -/
def alignOffsetsWrong : ChangeSpec := { name := "alignOffsets", fn := fun _ => fun
  | [d1, d2, d3, d4] => { results := [.lit (.bool false)], args := [d1, d2, d3, d4] }
  | _ => none }
def AlignOffsetsWrongFalsely : Prop := alignOffsetsRow.holds Tryz.pinned (OpenSpec.ofChange alignOffsetsWrong)

/-- 'phrasebooklaw14.AlignBorders': WHATEVER THE INPUT: true; the input reads as it did. -/
def alignBordersSpec : ChangeSpec := { name := "alignBorders", fn := fun _ => fun
  | [d1, d2, d3] => { results := [.lit (.bool true)], args := [d1, d2, d3] }
  | _ => none }
def alignBordersRow : OpenClaim := { program := "ytdfhjlggcdemhaagreat", sum := "bd2e3d413f8ac3d11ea8ce16dbca9a2830427d0ae972bcbc2a0bb75a6a197d58", func := "phrasebook/phrasebooklaw14.AlignBorders", spec := "alignBorders", unfollowed := true, recurses := true, apart := false }
def AlignBordersSaid : Prop := alignBordersRow.holds Tryz.pinned (OpenSpec.ofChange alignBordersSpec)

/-- ITS FALSE NEIGHBOUR: 'it returns false'. Refute it at one input. -/
def alignBordersWrong : ChangeSpec := { name := "alignBorders", fn := fun _ => fun
  | [d1, d2, d3] => { results := [.lit (.bool false)], args := [d1, d2, d3] }
  | _ => none }
def AlignBordersWrongFalsely : Prop := alignBordersRow.holds Tryz.pinned (OpenSpec.ofChange alignBordersWrong)

/-- 'phrasebooklaw14.AlignSwaps': WHATEVER THE INPUT: true; the input reads as it did. -/
def alignSwapsSpec : ChangeSpec := { name := "alignSwaps", fn := fun _ => fun
  | [d1, d2, d3, d4] => { results := [.lit (.bool true)], args := [d1, d2, d3, d4] }
  | _ => none }
def alignSwapsRow : OpenClaim := { program := "ytdfhjlggcdemhaagreat", sum := "bd2e3d413f8ac3d11ea8ce16dbca9a2830427d0ae972bcbc2a0bb75a6a197d58", func := "phrasebook/phrasebooklaw14.AlignSwaps", spec := "alignSwaps", unfollowed := true, recurses := true, apart := false }
def AlignSwapsSaid : Prop := alignSwapsRow.holds Tryz.pinned (OpenSpec.ofChange alignSwapsSpec)

/-- ITS FALSE NEIGHBOUR: 'it returns false'. Refute it at one input. -/
def alignSwapsWrong : ChangeSpec := { name := "alignSwaps", fn := fun _ => fun
  | [d1, d2, d3, d4] => { results := [.lit (.bool false)], args := [d1, d2, d3, d4] }
  | _ => none }
def AlignSwapsWrongFalsely : Prop := alignSwapsRow.holds Tryz.pinned (OpenSpec.ofChange alignSwapsWrong)

/-- 'phrasebooklaw08.SpanFields': WHATEVER THE INPUT: true; the input reads as it did. -/
def spanFieldsSpec : ChangeSpec := { name := "spanFields", fn := fun _ => fun
  | [d1, d2, d3] => { results := [.lit (.bool true)], args := [d1, d2, d3] }
  | _ => none }
def spanFieldsRow : OpenClaim := { program := "ytdfhjlggcdemhaagreat", sum := "bd2e3d413f8ac3d11ea8ce16dbca9a2830427d0ae972bcbc2a0bb75a6a197d58", func := "phrasebook/phrasebooklaw08.SpanFields", spec := "spanFields", unfollowed := true, recurses := true, apart := false }
def SpanFieldsSaid : Prop := spanFieldsRow.holds Tryz.pinned (OpenSpec.ofChange spanFieldsSpec)

/-- ITS FALSE NEIGHBOUR: 'it returns false'. Refute it at one input. -/
def spanFieldsWrong : ChangeSpec := { name := "spanFields", fn := fun _ => fun
  | [d1, d2, d3] => { results := [.lit (.bool false)], args := [d1, d2, d3] }
  | _ => none }
def SpanFieldsWrongFalsely : Prop := spanFieldsRow.holds Tryz.pinned (OpenSpec.ofChange spanFieldsWrong)

/-- 'phrasebooklaw08.SpanMessages': WHATEVER THE INPUT: true; the input reads as it did. -/
def spanMessagesSpec : ChangeSpec := { name := "spanMessages", fn := fun _ => fun
  | [d1, d2] => { results := [.lit (.bool true)], args := [d1, d2] }
  | _ => none }
def spanMessagesRow : OpenClaim := { program := "ytdfhjlggcdemhaagreat", sum := "bd2e3d413f8ac3d11ea8ce16dbca9a2830427d0ae972bcbc2a0bb75a6a197d58", func := "phrasebook/phrasebooklaw08.SpanMessages", spec := "spanMessages", unfollowed := true, recurses := true, apart := false }
def SpanMessagesSaid : Prop := spanMessagesRow.holds Tryz.pinned (OpenSpec.ofChange spanMessagesSpec)

/-- ITS FALSE NEIGHBOUR: 'it returns false'. Refute it at one input. -/
def spanMessagesWrong : ChangeSpec := { name := "spanMessages", fn := fun _ => fun
  | [d1, d2] => { results := [.lit (.bool false)], args := [d1, d2] }
  | _ => none }
def SpanMessagesWrongFalsely : Prop := spanMessagesRow.holds Tryz.pinned (OpenSpec.ofChange spanMessagesWrong)

/-- 'phrasebooklaw08.SpanAdds': WHATEVER THE INPUT: true; the input reads as it did. -/
def spanAddsSpec : ChangeSpec := { name := "spanAdds", fn := fun _ => fun
  | [d] => { results := [.lit (.bool true)], args := [d] }
  | _ => none }
def spanAddsRow : OpenClaim := { program := "ytdfhjlggcdemhaagreat", sum := "bd2e3d413f8ac3d11ea8ce16dbca9a2830427d0ae972bcbc2a0bb75a6a197d58", func := "phrasebook/phrasebooklaw08.SpanAdds", spec := "spanAdds", unfollowed := true, recurses := true, apart := false }
def SpanAddsSaid : Prop := spanAddsRow.holds Tryz.pinned (OpenSpec.ofChange spanAddsSpec)

/-- ITS FALSE NEIGHBOUR: 'it returns false'. Refute it at one input. -/
def spanAddsWrong : ChangeSpec := { name := "spanAdds", fn := fun _ => fun
  | [d] => { results := [.lit (.bool false)], args := [d] }
  | _ => none }
def SpanAddsWrongFalsely : Prop := spanAddsRow.holds Tryz.pinned (OpenSpec.ofChange spanAddsWrong)

/-- 'phrasebooklaw08.SpanGrows': WHATEVER THE INPUT: true; the input reads as it did. -/
def spanGrowsSpec : ChangeSpec := { name := "spanGrows", fn := fun _ => fun
  | [d1, d2, d3, d4] => { results := [.lit (.bool true)], args := [d1, d2, d3, d4] }
  | _ => none }
def spanGrowsRow : OpenClaim := { program := "ytdfhjlggcdemhaagreat", sum := "bd2e3d413f8ac3d11ea8ce16dbca9a2830427d0ae972bcbc2a0bb75a6a197d58", func := "phrasebook/phrasebooklaw08.SpanGrows", spec := "spanGrows", unfollowed := true, recurses := true, apart := false }
def SpanGrowsSaid : Prop := spanGrowsRow.holds Tryz.pinned (OpenSpec.ofChange spanGrowsSpec)

/-- ITS FALSE NEIGHBOUR: 'it returns false'. Refute it at one input. -/
def spanGrowsWrong : ChangeSpec := { name := "spanGrows", fn := fun _ => fun
  | [d1, d2, d3, d4] => { results := [.lit (.bool false)], args := [d1, d2, d3, d4] }
  | _ => none }
def SpanGrowsWrongFalsely : Prop := spanGrowsRow.holds Tryz.pinned (OpenSpec.ofChange spanGrowsWrong)

/- THE SECOND FORM. 'bulk': how many values and letters a reading holds, each counted each time it is reached (what is shared counts as often as it is met; a slice's spare places count too). A statement '..UptoSaid' is the law's where the arguments, and the package variables that the reading takes, are together of bulk at most 1048576: NARROWER than '..Said'. Prove '..Said' where nothing that the law and all that it calls make is longer than what came in: it says more and counts as full. Else prove '..UptoSaid'. A law counts once. -/
mutual
def uptoBulk {H : Type} : DataW H → Nat
  | .lit (.string bytes) => bytes.length + 1
  | .lit _ => 1
  | .nil => 1
  | .ptr d => uptoBulk d + 1
  | .slice elems spare => uptoBulkAll elems + uptoBulkAll spare + 1
  | .agg parts => uptoBulkAll parts + 1
  | .iface _ d => uptoBulk d + 1
  | .map entries => uptoBulkEntries entries + 1
  | .held _ => 1
def uptoBulkAll {H : Type} : List (DataW H) → Nat
  | [] => 0
  | d :: r => uptoBulk d + uptoBulkAll r
def uptoBulkEntries {H : Type} : List (Lit × DataW H) → Nat
  | [] => 0
  | x :: r => uptoBulkEntry x + uptoBulkEntries r
def uptoBulkEntry {H : Type} : Lit × DataW H → Nat
  | (.string bytes, d) => bytes.length + uptoBulk d + 1
  | (_, d) => uptoBulk d + 1
 end
def uptoSmall : (H : Type) → List (DataW H) → Bool := fun _ ds => decide (uptoBulkAll ds ≤ 1048576)
def OpenSpec.upto (s : _root_.Go.ChangeSpec) : _root_.Go.OpenSpec := { _root_.Go.OpenSpec.ofChange s with cond := some uptoSmall }

/-- 'phrasebooklaw14.AlignChecks', WHERE WHAT IT READS IS OF BULK AT MOST 1048576: true; the input reads as it did. -/
def alignChecksUptoRow : OpenClaim := { program := "ytdfhjlggcdemhaagreat", sum := "bd2e3d413f8ac3d11ea8ce16dbca9a2830427d0ae972bcbc2a0bb75a6a197d58", func := "phrasebook/phrasebooklaw14.AlignChecks", spec := "alignChecks", unfollowed := true, recurses := true, apart := false, narrowed := true }
def AlignChecksUptoSaid : Prop := alignChecksUptoRow.holds Tryz.pinned (OpenSpec.upto alignChecksSpec)

/-- 'phrasebooklaw14.AlignNeeds', WHERE WHAT IT READS IS OF BULK AT MOST 1048576: true; the input reads as it did. -/
def alignNeedsUptoRow : OpenClaim := { program := "ytdfhjlggcdemhaagreat", sum := "bd2e3d413f8ac3d11ea8ce16dbca9a2830427d0ae972bcbc2a0bb75a6a197d58", func := "phrasebook/phrasebooklaw14.AlignNeeds", spec := "alignNeeds", unfollowed := true, recurses := true, apart := false, narrowed := true }
def AlignNeedsUptoSaid : Prop := alignNeedsUptoRow.holds Tryz.pinned (OpenSpec.upto alignNeedsSpec)

/-- 'phrasebooklaw14.AlignState', WHERE WHAT IT READS IS OF BULK AT MOST 1048576: true; the input reads as it did. -/
def alignStateUptoRow : OpenClaim := { program := "ytdfhjlggcdemhaagreat", sum := "bd2e3d413f8ac3d11ea8ce16dbca9a2830427d0ae972bcbc2a0bb75a6a197d58", func := "phrasebook/phrasebooklaw14.AlignState", spec := "alignState", unfollowed := true, recurses := true, apart := false, narrowed := true }
def AlignStateUptoSaid : Prop := alignStateUptoRow.holds Tryz.pinned (OpenSpec.upto alignStateSpec)

/-- 'phrasebooklaw14.AlignPads', WHERE WHAT IT READS IS OF BULK AT MOST 1048576: true; the input reads as it did. -/
def alignPadsUptoRow : OpenClaim := { program := "ytdfhjlggcdemhaagreat", sum := "bd2e3d413f8ac3d11ea8ce16dbca9a2830427d0ae972bcbc2a0bb75a6a197d58", func := "phrasebook/phrasebooklaw14.AlignPads", spec := "alignPads", unfollowed := true, recurses := true, apart := false, narrowed := true }
def AlignPadsUptoSaid : Prop := alignPadsUptoRow.holds Tryz.pinned (OpenSpec.upto alignPadsSpec)

/-- 'phrasebooklaw14.AlignOffsets', WHERE WHAT IT READS IS OF BULK AT MOST 1048576: true; the input reads as it did. -/
def alignOffsetsUptoRow : OpenClaim := { program := "ytdfhjlggcdemhaagreat", sum := "bd2e3d413f8ac3d11ea8ce16dbca9a2830427d0ae972bcbc2a0bb75a6a197d58", func := "phrasebook/phrasebooklaw14.AlignOffsets", spec := "alignOffsets", unfollowed := true, recurses := true, apart := false, narrowed := true }
def AlignOffsetsUptoSaid : Prop := alignOffsetsUptoRow.holds Tryz.pinned (OpenSpec.upto alignOffsetsSpec)

/-- 'phrasebooklaw14.AlignBorders', WHERE WHAT IT READS IS OF BULK AT MOST 1048576: true; the input reads as it did. -/
def alignBordersUptoRow : OpenClaim := { program := "ytdfhjlggcdemhaagreat", sum := "bd2e3d413f8ac3d11ea8ce16dbca9a2830427d0ae972bcbc2a0bb75a6a197d58", func := "phrasebook/phrasebooklaw14.AlignBorders", spec := "alignBorders", unfollowed := true, recurses := true, apart := false, narrowed := true }
def AlignBordersUptoSaid : Prop := alignBordersUptoRow.holds Tryz.pinned (OpenSpec.upto alignBordersSpec)

/-- 'phrasebooklaw14.AlignSwaps', WHERE WHAT IT READS IS OF BULK AT MOST 1048576: true; the input reads as it did. -/
def alignSwapsUptoRow : OpenClaim := { program := "ytdfhjlggcdemhaagreat", sum := "bd2e3d413f8ac3d11ea8ce16dbca9a2830427d0ae972bcbc2a0bb75a6a197d58", func := "phrasebook/phrasebooklaw14.AlignSwaps", spec := "alignSwaps", unfollowed := true, recurses := true, apart := false, narrowed := true }
def AlignSwapsUptoSaid : Prop := alignSwapsUptoRow.holds Tryz.pinned (OpenSpec.upto alignSwapsSpec)

/-- 'phrasebooklaw08.SpanFields', WHERE WHAT IT READS IS OF BULK AT MOST 1048576: true; the input reads as it did. -/
def spanFieldsUptoRow : OpenClaim := { program := "ytdfhjlggcdemhaagreat", sum := "bd2e3d413f8ac3d11ea8ce16dbca9a2830427d0ae972bcbc2a0bb75a6a197d58", func := "phrasebook/phrasebooklaw08.SpanFields", spec := "spanFields", unfollowed := true, recurses := true, apart := false, narrowed := true }
def SpanFieldsUptoSaid : Prop := spanFieldsUptoRow.holds Tryz.pinned (OpenSpec.upto spanFieldsSpec)

/-- 'phrasebooklaw08.SpanMessages', WHERE WHAT IT READS IS OF BULK AT MOST 1048576: true; the input reads as it did. -/
def spanMessagesUptoRow : OpenClaim := { program := "ytdfhjlggcdemhaagreat", sum := "bd2e3d413f8ac3d11ea8ce16dbca9a2830427d0ae972bcbc2a0bb75a6a197d58", func := "phrasebook/phrasebooklaw08.SpanMessages", spec := "spanMessages", unfollowed := true, recurses := true, apart := false, narrowed := true }
def SpanMessagesUptoSaid : Prop := spanMessagesUptoRow.holds Tryz.pinned (OpenSpec.upto spanMessagesSpec)

/-- 'phrasebooklaw08.SpanAdds', WHERE WHAT IT READS IS OF BULK AT MOST 1048576: true; the input reads as it did. -/
def spanAddsUptoRow : OpenClaim := { program := "ytdfhjlggcdemhaagreat", sum := "bd2e3d413f8ac3d11ea8ce16dbca9a2830427d0ae972bcbc2a0bb75a6a197d58", func := "phrasebook/phrasebooklaw08.SpanAdds", spec := "spanAdds", unfollowed := true, recurses := true, apart := false, narrowed := true }
def SpanAddsUptoSaid : Prop := spanAddsUptoRow.holds Tryz.pinned (OpenSpec.upto spanAddsSpec)

/-- 'phrasebooklaw08.SpanGrows', WHERE WHAT IT READS IS OF BULK AT MOST 1048576: true; the input reads as it did. -/
def spanGrowsUptoRow : OpenClaim := { program := "ytdfhjlggcdemhaagreat", sum := "bd2e3d413f8ac3d11ea8ce16dbca9a2830427d0ae972bcbc2a0bb75a6a197d58", func := "phrasebook/phrasebooklaw08.SpanGrows", spec := "spanGrows", unfollowed := true, recurses := true, apart := false, narrowed := true }
def SpanGrowsUptoSaid : Prop := spanGrowsUptoRow.holds Tryz.pinned (OpenSpec.upto spanGrowsSpec)

end Rows
end Go.Proofs.YtdfhjlggcdemhaaGreat
