/-
  No cell of these rows narrows 'for every input' (looked for: loops, veiled, ifaces, maps, wideKeys, modest, calm, conditions, laid).
  DERIVED. THE GIVEN ROWS OF THIS SEAT. 7 by the template 'for every input the law returns true; each argument reads behind the call as it read before'; 0 by the template 'total and deterministic' (their statements: YtfjjgjjlebllmaaGreatTotals.lean).
  GIVEN WITH THE SEED: the statements are not yours to turn. If you find one false, say at which input.
  Laid BY PROGRAM, IN A SANDBOX (cutbox-rows.mjs): the forced cells as the released guide's own fill.sh prints them over the translation 6ba521b8be3f8a9b… (all of the seat's roots in one cut). By AI agents, Wed Nov 11 2026. No macro, syntax, notation, axiom, sorry.
-/
import Derived.Test.YtfjjgjjlebllmaaGreatChecked
import GoSem.Claim
import GoSem.ClaimJoined
import GoSem.ClaimMapViews
import Derived.JoinedTies
import Derived.KernelRfl
namespace Go.Proofs.YtfjjgjjlebllmaaGreat
/- THE CELL 'sum', in the pinned program and in every row, IS THE sha256 OF THE DUMP (.gsa) THAT YtfjjgjjlebllmaaGreatProg.lean LOADS. Nothing in Lean hashes anything: it is a label: what it is worth is what the hold of that sum in a sandbox is worth. -/
noncomputable def Tryz.pinned : Pinned := { name := "ytfjjgjjlebllmaagreat", sum := "6ba521b8be3f8a9b38ccdedabdc39ac244f56115baf8f7ea2fb03cd424ad8fa2", checked := Tryz.checked }
namespace Rows
def none {H : Type} : Left H := { results := [], args := [] }

/-- 'phrasebooklaw07.ScopeUses': WHATEVER THE INPUT: true; the input reads as it did. -/
def scopeUsesSpec : ChangeSpec := { name := "scopeUses", fn := fun _ => fun
  | [d1, d2] => { results := [.lit (.bool true)], args := [d1, d2] }
  | _ => none }
def scopeUsesRow : OpenClaim := { program := "ytfjjgjjlebllmaagreat", sum := "6ba521b8be3f8a9b38ccdedabdc39ac244f56115baf8f7ea2fb03cd424ad8fa2", func := "phrasebook/phrasebooklaw07.ScopeUses", spec := "scopeUses", unfollowed := true, recurses := true, apart := false }
def ScopeUsesSaid : Prop := scopeUsesRow.holds Tryz.pinned (OpenSpec.ofChange scopeUsesSpec)

/-- ITS FALSE NEIGHBOUR: 'it returns false'. Refute it at one input. -/
def scopeUsesWrong : ChangeSpec := { name := "scopeUses", fn := fun _ => fun
  | [d1, d2] => { results := [.lit (.bool false)], args := [d1, d2] }
  | _ => none }
def ScopeUsesWrongFalsely : Prop := scopeUsesRow.holds Tryz.pinned (OpenSpec.ofChange scopeUsesWrong)

/-- 'phrasebooklaw07.ScopeFree': WHATEVER THE INPUT: true; the input reads as it did. -/
def scopeFreeSpec : ChangeSpec := { name := "scopeFree", fn := fun _ => fun
  | [d1, d2] => { results := [.lit (.bool true)], args := [d1, d2] }
  | _ => none }
def scopeFreeRow : OpenClaim := { program := "ytfjjgjjlebllmaagreat", sum := "6ba521b8be3f8a9b38ccdedabdc39ac244f56115baf8f7ea2fb03cd424ad8fa2", func := "phrasebook/phrasebooklaw07.ScopeFree", spec := "scopeFree", unfollowed := true, recurses := true, apart := false }
def ScopeFreeSaid : Prop := scopeFreeRow.holds Tryz.pinned (OpenSpec.ofChange scopeFreeSpec)

/-- ITS FALSE NEIGHBOUR: 'it returns false'. Refute it at one input. -/
def scopeFreeWrong : ChangeSpec := { name := "scopeFree", fn := fun _ => fun
  | [d1, d2] => { results := [.lit (.bool false)], args := [d1, d2] }
  | _ => none }
def ScopeFreeWrongFalsely : Prop := scopeFreeRow.holds Tryz.pinned (OpenSpec.ofChange scopeFreeWrong)

/-- 'phrasebooklaw07.ScopeReach': WHATEVER THE INPUT: true; the input reads as it did. -/
def scopeReachSpec : ChangeSpec := { name := "scopeReach", fn := fun _ => fun
  | [d] => { results := [.lit (.bool true)], args := [d] }
  | _ => none }
def scopeReachRow : OpenClaim := { program := "ytfjjgjjlebllmaagreat", sum := "6ba521b8be3f8a9b38ccdedabdc39ac244f56115baf8f7ea2fb03cd424ad8fa2", func := "phrasebook/phrasebooklaw07.ScopeReach", spec := "scopeReach", unfollowed := true, recurses := true, apart := false }
def ScopeReachSaid : Prop := scopeReachRow.holds Tryz.pinned (OpenSpec.ofChange scopeReachSpec)

/-- ITS FALSE NEIGHBOUR: 'it returns false'. Refute it at one input. -/
def scopeReachWrong : ChangeSpec := { name := "scopeReach", fn := fun _ => fun
  | [d] => { results := [.lit (.bool false)], args := [d] }
  | _ => none }
def ScopeReachWrongFalsely : Prop := scopeReachRow.holds Tryz.pinned (OpenSpec.ofChange scopeReachWrong)

/-- 'phrasebooklaw07.ScopePaths': WHATEVER THE INPUT: true; the input reads as it did. -/
def scopePathsSpec : ChangeSpec := { name := "scopePaths", fn := fun _ => fun
  | [d1, d2] => { results := [.lit (.bool true)], args := [d1, d2] }
  | _ => none }
def scopePathsRow : OpenClaim := { program := "ytfjjgjjlebllmaagreat", sum := "6ba521b8be3f8a9b38ccdedabdc39ac244f56115baf8f7ea2fb03cd424ad8fa2", func := "phrasebook/phrasebooklaw07.ScopePaths", spec := "scopePaths", unfollowed := true, recurses := true, apart := false }
def ScopePathsSaid : Prop := scopePathsRow.holds Tryz.pinned (OpenSpec.ofChange scopePathsSpec)

/-- ITS FALSE NEIGHBOUR: 'it returns false'. Refute it at one input. -/
def scopePathsWrong : ChangeSpec := { name := "scopePaths", fn := fun _ => fun
  | [d1, d2] => { results := [.lit (.bool false)], args := [d1, d2] }
  | _ => none }
def ScopePathsWrongFalsely : Prop := scopePathsRow.holds Tryz.pinned (OpenSpec.ofChange scopePathsWrong)

/-- 'phrasebooklaw07.ScopePrunes': WHATEVER THE INPUT: true; the input reads as it did. -/
def scopePrunesSpec : ChangeSpec := { name := "scopePrunes", fn := fun _ => fun
  | [d] => { results := [.lit (.bool true)], args := [d] }
  | _ => none }
def scopePrunesRow : OpenClaim := { program := "ytfjjgjjlebllmaagreat", sum := "6ba521b8be3f8a9b38ccdedabdc39ac244f56115baf8f7ea2fb03cd424ad8fa2", func := "phrasebook/phrasebooklaw07.ScopePrunes", spec := "scopePrunes", unfollowed := true, recurses := true, apart := false }
def ScopePrunesSaid : Prop := scopePrunesRow.holds Tryz.pinned (OpenSpec.ofChange scopePrunesSpec)

/-- ITS FALSE NEIGHBOUR: 'it returns false'. Refute it at one input. -/
def scopePrunesWrong : ChangeSpec := { name := "scopePrunes", fn := fun _ => fun
  | [d] => { results := [.lit (.bool false)], args := [d] }
  | _ => none }
def ScopePrunesWrongFalsely : Prop := scopePrunesRow.holds Tryz.pinned (OpenSpec.ofChange scopePrunesWrong)

/-- 'phrasebooklaw07.ScopeHolds': WHATEVER THE INPUT: true; the input reads as it did. -/
def scopeHoldsSpec : ChangeSpec := { name := "scopeHolds", fn := fun _ => fun
  | [d] => { results := [.lit (.bool true)], args := [d] }
  | _ => none }
def scopeHoldsRow : OpenClaim := { program := "ytfjjgjjlebllmaagreat", sum := "6ba521b8be3f8a9b38ccdedabdc39ac244f56115baf8f7ea2fb03cd424ad8fa2", func := "phrasebook/phrasebooklaw07.ScopeHolds", spec := "scopeHolds", unfollowed := true, recurses := true, apart := false }
def ScopeHoldsSaid : Prop := scopeHoldsRow.holds Tryz.pinned (OpenSpec.ofChange scopeHoldsSpec)

/-- ITS FALSE NEIGHBOUR: 'it returns false'. Refute it at one input. -/
def scopeHoldsWrong : ChangeSpec := { name := "scopeHolds", fn := fun _ => fun
  | [d] => { results := [.lit (.bool false)], args := [d] }
  | _ => none }
def ScopeHoldsWrongFalsely : Prop := scopeHoldsRow.holds Tryz.pinned (OpenSpec.ofChange scopeHoldsWrong)

/-- 'phrasebooklaw08.SpanSpans': WHATEVER THE INPUT: true; the input reads as it did. -/
def spanSpansSpec : ChangeSpec := { name := "spanSpans", fn := fun _ => fun
  | [d1, d2] => { results := [.lit (.bool true)], args := [d1, d2] }
  | _ => none }
def spanSpansRow : OpenClaim := { program := "ytfjjgjjlebllmaagreat", sum := "6ba521b8be3f8a9b38ccdedabdc39ac244f56115baf8f7ea2fb03cd424ad8fa2", func := "phrasebook/phrasebooklaw08.SpanSpans", spec := "spanSpans", unfollowed := true, recurses := true, apart := false }
def SpanSpansSaid : Prop := spanSpansRow.holds Tryz.pinned (OpenSpec.ofChange spanSpansSpec)

/-- ITS FALSE NEIGHBOUR: 'it returns false'. Refute it at one input. -/
def spanSpansWrong : ChangeSpec := { name := "spanSpans", fn := fun _ => fun
  | [d1, d2] => { results := [.lit (.bool false)], args := [d1, d2] }
  | _ => none }
def SpanSpansWrongFalsely : Prop := spanSpansRow.holds Tryz.pinned (OpenSpec.ofChange spanSpansWrong)

/- THE SECOND FORM. 'bulk': how many values and letters a reading holds, each counted each time it is reached (what is shared counts as often as it is met; a slice's spare places count too). A statement '..UptoSaid' is the law's where the arguments, and the package variables that the reading takes, are together of bulk at most 1048576: NARROWER than '..Said'. Prove '..Said' where nothing that the law and all that it calls make is longer than what came in: it says more and counts as full. Else prove '..UptoSaid'. A law counts once. -/
mutual
def uptoBulk {H : Type} : DataW H → Nat
  | .lit (.string bytes) => bytes.length + 1
  | .lit _ => 1
  | .nil => 1
  | .ptr d => uptoBulk d + 1
  | .slice elems spare => uptoBulkAll elems + uptoBulkAll spare + 1
  | .agg parts => uptoBulkAll parts + 1
  | .iface _ d => uptoBulk d + 1
  | .map entries => uptoBulkEntries entries + 1
  | .held _ => 1
def uptoBulkAll {H : Type} : List (DataW H) → Nat
  | [] => 0
  | d :: r => uptoBulk d + uptoBulkAll r
def uptoBulkEntries {H : Type} : List (Lit × DataW H) → Nat
  | [] => 0
  | x :: r => uptoBulkEntry x + uptoBulkEntries r
def uptoBulkEntry {H : Type} : Lit × DataW H → Nat
  | (.string bytes, d) => bytes.length + uptoBulk d + 1
  | (_, d) => uptoBulk d + 1
 end
def uptoSmall : (H : Type) → List (DataW H) → Bool := fun _ ds => decide (uptoBulkAll ds ≤ 1048576)
def OpenSpec.upto (s : _root_.Go.ChangeSpec) : _root_.Go.OpenSpec := { _root_.Go.OpenSpec.ofChange s with cond := some uptoSmall }

/-- 'phrasebooklaw07.ScopeUses', WHERE WHAT IT READS IS OF BULK AT MOST 1048576: true; the input reads as it did. -/
def scopeUsesUptoRow : OpenClaim := { program := "ytfjjgjjlebllmaagreat", sum := "6ba521b8be3f8a9b38ccdedabdc39ac244f56115baf8f7ea2fb03cd424ad8fa2", func := "phrasebook/phrasebooklaw07.ScopeUses", spec := "scopeUses", unfollowed := true, recurses := true, apart := false, narrowed := true }
def ScopeUsesUptoSaid : Prop := scopeUsesUptoRow.holds Tryz.pinned (OpenSpec.upto scopeUsesSpec)

/-- 'phrasebooklaw07.ScopeFree', WHERE WHAT IT READS IS OF BULK AT MOST 1048576: true; the input reads as it did. -/
def scopeFreeUptoRow : OpenClaim := { program := "ytfjjgjjlebllmaagreat", sum := "6ba521b8be3f8a9b38ccdedabdc39ac244f56115baf8f7ea2fb03cd424ad8fa2", func := "phrasebook/phrasebooklaw07.ScopeFree", spec := "scopeFree", unfollowed := true, recurses := true, apart := false, narrowed := true }
def ScopeFreeUptoSaid : Prop := scopeFreeUptoRow.holds Tryz.pinned (OpenSpec.upto scopeFreeSpec)

/-- 'phrasebooklaw07.ScopeReach', WHERE WHAT IT READS IS OF BULK AT MOST 1048576: true; the input reads as it did. -/
def scopeReachUptoRow : OpenClaim := { program := "ytfjjgjjlebllmaagreat", sum := "6ba521b8be3f8a9b38ccdedabdc39ac244f56115baf8f7ea2fb03cd424ad8fa2", func := "phrasebook/phrasebooklaw07.ScopeReach", spec := "scopeReach", unfollowed := true, recurses := true, apart := false, narrowed := true }
def ScopeReachUptoSaid : Prop := scopeReachUptoRow.holds Tryz.pinned (OpenSpec.upto scopeReachSpec)

/-- 'phrasebooklaw07.ScopePaths', WHERE WHAT IT READS IS OF BULK AT MOST 1048576: true; the input reads as it did. -/
def scopePathsUptoRow : OpenClaim := { program := "ytfjjgjjlebllmaagreat", sum := "6ba521b8be3f8a9b38ccdedabdc39ac244f56115baf8f7ea2fb03cd424ad8fa2", func := "phrasebook/phrasebooklaw07.ScopePaths", spec := "scopePaths", unfollowed := true, recurses := true, apart := false, narrowed := true }
def ScopePathsUptoSaid : Prop := scopePathsUptoRow.holds Tryz.pinned (OpenSpec.upto scopePathsSpec)

/-- 'phrasebooklaw07.ScopePrunes', WHERE WHAT IT READS IS OF BULK AT MOST 1048576: true; the input reads as it did. -/
def scopePrunesUptoRow : OpenClaim := { program := "ytfjjgjjlebllmaagreat", sum := "6ba521b8be3f8a9b38ccdedabdc39ac244f56115baf8f7ea2fb03cd424ad8fa2", func := "phrasebook/phrasebooklaw07.ScopePrunes", spec := "scopePrunes", unfollowed := true, recurses := true, apart := false, narrowed := true }
def ScopePrunesUptoSaid : Prop := scopePrunesUptoRow.holds Tryz.pinned (OpenSpec.upto scopePrunesSpec)

/-- 'phrasebooklaw07.ScopeHolds', WHERE WHAT IT READS IS OF BULK AT MOST 1048576: true; the input reads as it did. -/
def scopeHoldsUptoRow : OpenClaim := { program := "ytfjjgjjlebllmaagreat", sum := "6ba521b8be3f8a9b38ccdedabdc39ac244f56115baf8f7ea2fb03cd424ad8fa2", func := "phrasebook/phrasebooklaw07.ScopeHolds", spec := "scopeHolds", unfollowed := true, recurses := true, apart := false, narrowed := true }
def ScopeHoldsUptoSaid : Prop := scopeHoldsUptoRow.holds Tryz.pinned (OpenSpec.upto scopeHoldsSpec)

/-- 'phrasebooklaw08.SpanSpans', WHERE WHAT IT READS IS OF BULK AT MOST 1048576: true; the input reads as it did. -/
def spanSpansUptoRow : OpenClaim := { program := "ytfjjgjjlebllmaagreat", sum := "6ba521b8be3f8a9b38ccdedabdc39ac244f56115baf8f7ea2fb03cd424ad8fa2", func := "phrasebook/phrasebooklaw08.SpanSpans", spec := "spanSpans", unfollowed := true, recurses := true, apart := false, narrowed := true }
def SpanSpansUptoSaid : Prop := spanSpansUptoRow.holds Tryz.pinned (OpenSpec.upto spanSpansSpec)

end Rows
end Go.Proofs.YtfjjgjjlebllmaaGreat
