/-
  No cell of these rows narrows 'for every input' (looked for: loops, veiled, ifaces, maps, wideKeys, modest, calm, conditions, laid).
  DERIVED. THE GIVEN ROWS OF THIS SEAT. 10 by the template 'for every input the law returns true; each argument reads behind the call as it read before'; 0 by the template 'total and deterministic' (their statements: YtfgmjnmkcobhkaaTotals.lean).
  GIVEN WITH THE SEED: the statements are not yours to turn. If you find one false, say at which input.
  Laid BY PROGRAM, IN A SANDBOX (cutbox-rows.mjs): the forced cells as the released guide's own fill.sh prints them over the translation 9593c32ca82e130d… (all of the seat's roots in one cut). By AI agents, Wed Nov 11 2026. No macro, syntax, notation, axiom, sorry.
-/
import Derived.Test.YtfgmjnmkcobhkaaChecked
import GoSem.Claim
import GoSem.ClaimJoined
import GoSem.ClaimMapViews
import Derived.JoinedTies
import Derived.KernelRfl
namespace Go.Proofs.Ytfgmjnmkcobhkaa
/- THE CELL 'sum', in the pinned program and in every row, IS THE sha256 OF THE DUMP (.gsa) THAT YtfgmjnmkcobhkaaProg.lean LOADS. Nothing in Lean hashes anything: it is a label: what it is worth is what the hold of that sum in a sandbox is worth. -/
noncomputable def Try.pinned : Pinned := { name := "ytfgmjnmkcobhkaa", sum := "9593c32ca82e130d304ab04bf472511e35504937351e8c7bfb1f8b916bac5e49", checked := Try.checked }
namespace Rows
def none {H : Type} : Left H := { results := [], args := [] }

/-- 'weirboxlaw21.FlowTells': WHATEVER THE INPUT: true; the input reads as it did. -/
def flowTellsSpec : ChangeSpec := { name := "flowTells", fn := fun _ => fun
  | [d1, d2, d3] => { results := [.lit (.bool true)], args := [d1, d2, d3] }
  | _ => none }
def flowTellsRow : OpenClaim := { program := "ytfgmjnmkcobhkaa", sum := "9593c32ca82e130d304ab04bf472511e35504937351e8c7bfb1f8b916bac5e49", func := "weirbox/weirboxlaw21.FlowTells", spec := "flowTells", unfollowed := true, recurses := true, apart := false }
def FlowTellsSaid : Prop := flowTellsRow.holds Try.pinned (OpenSpec.ofChange flowTellsSpec)

/-- ITS FALSE NEIGHBOUR: 'it returns false'. Refute it at one input. -/
def flowTellsWrong : ChangeSpec := { name := "flowTells", fn := fun _ => fun
  | [d1, d2, d3] => { results := [.lit (.bool false)], args := [d1, d2, d3] }
  | _ => none }
def FlowTellsWrongFalsely : Prop := flowTellsRow.holds Try.pinned (OpenSpec.ofChange flowTellsWrong)

/-- 'weirboxlaw21.FlowOf': WHATEVER THE INPUT: true; the input reads as it did. -/
def flowOfSpec : ChangeSpec := { name := "flowOf", fn := fun _ => fun
  | [d] => { results := [.lit (.bool true)], args := [d] }
  | _ => none }
def flowOfRow : OpenClaim := { program := "ytfgmjnmkcobhkaa", sum := "9593c32ca82e130d304ab04bf472511e35504937351e8c7bfb1f8b916bac5e49", func := "weirbox/weirboxlaw21.FlowOf", spec := "flowOf", unfollowed := true, recurses := true, apart := false }
def FlowOfSaid : Prop := flowOfRow.holds Try.pinned (OpenSpec.ofChange flowOfSpec)

/-- ITS FALSE NEIGHBOUR: 'it returns false'. Refute it at one input. -/
def flowOfWrong : ChangeSpec := { name := "flowOf", fn := fun _ => fun
  | [d] => { results := [.lit (.bool false)], args := [d] }
  | _ => none }
def FlowOfWrongFalsely : Prop := flowOfRow.holds Try.pinned (OpenSpec.ofChange flowOfWrong)

/-- 'weirboxlaw21.FlowMeets': WHATEVER THE INPUT: true; the input reads as it did. -/
def flowMeetsSpec : ChangeSpec := { name := "flowMeets", fn := fun _ => fun
  | [d1, d2, d3] => { results := [.lit (.bool true)], args := [d1, d2, d3] }
  | _ => none }
def flowMeetsRow : OpenClaim := { program := "ytfgmjnmkcobhkaa", sum := "9593c32ca82e130d304ab04bf472511e35504937351e8c7bfb1f8b916bac5e49", func := "weirbox/weirboxlaw21.FlowMeets", spec := "flowMeets", unfollowed := true, recurses := true, apart := false }
def FlowMeetsSaid : Prop := flowMeetsRow.holds Try.pinned (OpenSpec.ofChange flowMeetsSpec)

/-- ITS FALSE NEIGHBOUR: 'it returns false'. Refute it at one input. -/
def flowMeetsWrong : ChangeSpec := { name := "flowMeets", fn := fun _ => fun
  | [d1, d2, d3] => { results := [.lit (.bool false)], args := [d1, d2, d3] }
  | _ => none }
def FlowMeetsWrongFalsely : Prop := flowMeetsRow.holds Try.pinned (OpenSpec.ofChange flowMeetsWrong)

/-- 'weirboxlaw21.FlowCovers': WHATEVER THE INPUT: true; the input reads as it did. -/
def flowCoversSpec : ChangeSpec := { name := "flowCovers", fn := fun _ => fun
  | [d1, d2, d3] => { results := [.lit (.bool true)], args := [d1, d2, d3] }
  | _ => none }
def flowCoversRow : OpenClaim := { program := "ytfgmjnmkcobhkaa", sum := "9593c32ca82e130d304ab04bf472511e35504937351e8c7bfb1f8b916bac5e49", func := "weirbox/weirboxlaw21.FlowCovers", spec := "flowCovers", unfollowed := true, recurses := true, apart := false }
def FlowCoversSaid : Prop := flowCoversRow.holds Try.pinned (OpenSpec.ofChange flowCoversSpec)

/-- ITS FALSE NEIGHBOUR: 'it returns false'. Refute it at one input. -/
def flowCoversWrong : ChangeSpec := { name := "flowCovers", fn := fun _ => fun
  | [d1, d2, d3] => { results := [.lit (.bool false)], args := [d1, d2, d3] }
  | _ => none }
def FlowCoversWrongFalsely : Prop := flowCoversRow.holds Try.pinned (OpenSpec.ofChange flowCoversWrong)

/-- 'weirboxlaw22.PickFilters': WHATEVER THE INPUT: true; the input reads as it did. -/
def pickFiltersSpec : ChangeSpec := { name := "pickFilters", fn := fun _ => fun
  | [d1, d2, d3, d4, d5] => { results := [.lit (.bool true)], args := [d1, d2, d3, d4, d5] }
  | _ => none }
def pickFiltersRow : OpenClaim := { program := "ytfgmjnmkcobhkaa", sum := "9593c32ca82e130d304ab04bf472511e35504937351e8c7bfb1f8b916bac5e49", func := "weirbox/weirboxlaw22.PickFilters", spec := "pickFilters", unfollowed := true, recurses := true, apart := false }
def PickFiltersSaid : Prop := pickFiltersRow.holds Try.pinned (OpenSpec.ofChange pickFiltersSpec)

/-- ITS FALSE NEIGHBOUR: 'it returns false'. Refute it at one input. -/
def pickFiltersWrong : ChangeSpec := { name := "pickFilters", fn := fun _ => fun
  | [d1, d2, d3, d4, d5] => { results := [.lit (.bool false)], args := [d1, d2, d3, d4, d5] }
  | _ => none }
def PickFiltersWrongFalsely : Prop := pickFiltersRow.holds Try.pinned (OpenSpec.ofChange pickFiltersWrong)

/-- 'weirboxlaw22.PickNarrow': WHATEVER THE INPUT: true; the input reads as it did. -/
def pickNarrowSpec : ChangeSpec := { name := "pickNarrow", fn := fun _ => fun
  | [d1, d2] => { results := [.lit (.bool true)], args := [d1, d2] }
  | _ => none }
def pickNarrowRow : OpenClaim := { program := "ytfgmjnmkcobhkaa", sum := "9593c32ca82e130d304ab04bf472511e35504937351e8c7bfb1f8b916bac5e49", func := "weirbox/weirboxlaw22.PickNarrow", spec := "pickNarrow", unfollowed := true, recurses := true, apart := false }
def PickNarrowSaid : Prop := pickNarrowRow.holds Try.pinned (OpenSpec.ofChange pickNarrowSpec)

/-- ITS FALSE NEIGHBOUR: 'it returns false'. Refute it at one input. -/
def pickNarrowWrong : ChangeSpec := { name := "pickNarrow", fn := fun _ => fun
  | [d1, d2] => { results := [.lit (.bool false)], args := [d1, d2] }
  | _ => none }
def PickNarrowWrongFalsely : Prop := pickNarrowRow.holds Try.pinned (OpenSpec.ofChange pickNarrowWrong)

/-- 'weirboxlaw22.PickOrder': WHATEVER THE INPUT: true; the input reads as it did. -/
def pickOrderSpec : ChangeSpec := { name := "pickOrder", fn := fun _ => fun
  | [d1, d2] => { results := [.lit (.bool true)], args := [d1, d2] }
  | _ => none }
def pickOrderRow : OpenClaim := { program := "ytfgmjnmkcobhkaa", sum := "9593c32ca82e130d304ab04bf472511e35504937351e8c7bfb1f8b916bac5e49", func := "weirbox/weirboxlaw22.PickOrder", spec := "pickOrder", unfollowed := true, recurses := true, apart := false }
def PickOrderSaid : Prop := pickOrderRow.holds Try.pinned (OpenSpec.ofChange pickOrderSpec)

/-- ITS FALSE NEIGHBOUR: 'it returns false'. Refute it at one input. -/
def pickOrderWrong : ChangeSpec := { name := "pickOrder", fn := fun _ => fun
  | [d1, d2] => { results := [.lit (.bool false)], args := [d1, d2] }
  | _ => none }
def PickOrderWrongFalsely : Prop := pickOrderRow.holds Try.pinned (OpenSpec.ofChange pickOrderWrong)

/-- 'weirboxlaw27.FirstOrder': WHATEVER THE INPUT: true; the input reads as it did. -/
def firstOrderSpec : ChangeSpec := { name := "firstOrder", fn := fun _ => fun
  | [d] => { results := [.lit (.bool true)], args := [d] }
  | _ => none }
def firstOrderRow : OpenClaim := { program := "ytfgmjnmkcobhkaa", sum := "9593c32ca82e130d304ab04bf472511e35504937351e8c7bfb1f8b916bac5e49", func := "weirbox/weirboxlaw27.FirstOrder", spec := "firstOrder", unfollowed := true, recurses := true, apart := false }
def FirstOrderSaid : Prop := firstOrderRow.holds Try.pinned (OpenSpec.ofChange firstOrderSpec)

/-- ITS FALSE NEIGHBOUR: 'it returns false'. Refute it at one input. -/
def firstOrderWrong : ChangeSpec := { name := "firstOrder", fn := fun _ => fun
  | [d] => { results := [.lit (.bool false)], args := [d] }
  | _ => none }
def FirstOrderWrongFalsely : Prop := firstOrderRow.holds Try.pinned (OpenSpec.ofChange firstOrderWrong)

/-- 'weirboxlaw27.FirstTells': WHATEVER THE INPUT: true; the input reads as it did. -/
def firstTellsSpec : ChangeSpec := { name := "firstTells", fn := fun _ => fun
  | [d1, d2] => { results := [.lit (.bool true)], args := [d1, d2] }
  | _ => none }
def firstTellsRow : OpenClaim := { program := "ytfgmjnmkcobhkaa", sum := "9593c32ca82e130d304ab04bf472511e35504937351e8c7bfb1f8b916bac5e49", func := "weirbox/weirboxlaw27.FirstTells", spec := "firstTells", unfollowed := true, recurses := true, apart := false }
def FirstTellsSaid : Prop := firstTellsRow.holds Try.pinned (OpenSpec.ofChange firstTellsSpec)

/-- ITS FALSE NEIGHBOUR: 'it returns false'. Refute it at one input. -/
def firstTellsWrong : ChangeSpec := { name := "firstTells", fn := fun _ => fun
  | [d1, d2] => { results := [.lit (.bool false)], args := [d1, d2] }
  | _ => none }
def FirstTellsWrongFalsely : Prop := firstTellsRow.holds Try.pinned (OpenSpec.ofChange firstTellsWrong)

/-- 'weirboxlaw27.FirstHighest': WHATEVER THE INPUT: true; the input reads as it did. -/
def firstHighestSpec : ChangeSpec := { name := "firstHighest", fn := fun _ => fun
  | [d1, d2] => { results := [.lit (.bool true)], args := [d1, d2] }
  | _ => none }
def firstHighestRow : OpenClaim := { program := "ytfgmjnmkcobhkaa", sum := "9593c32ca82e130d304ab04bf472511e35504937351e8c7bfb1f8b916bac5e49", func := "weirbox/weirboxlaw27.FirstHighest", spec := "firstHighest", unfollowed := true, recurses := true, apart := false }
def FirstHighestSaid : Prop := firstHighestRow.holds Try.pinned (OpenSpec.ofChange firstHighestSpec)

/-- ITS FALSE NEIGHBOUR: 'it returns false'. Refute it at one input. -/
def firstHighestWrong : ChangeSpec := { name := "firstHighest", fn := fun _ => fun
  | [d1, d2] => { results := [.lit (.bool false)], args := [d1, d2] }
  | _ => none }
def FirstHighestWrongFalsely : Prop := firstHighestRow.holds Try.pinned (OpenSpec.ofChange firstHighestWrong)

/- THE SECOND FORM. 'bulk': how many values and letters a reading holds, each counted each time it is reached (what is shared counts as often as it is met; a slice's spare places count too). A statement '..UptoSaid' is the law's where the arguments, and the package variables that the reading takes, are together of bulk at most 1048576: NARROWER than '..Said'. Prove '..Said' where nothing that the law and all that it calls make is longer than what came in: it says more and counts as full. Else prove '..UptoSaid'. A law counts once. -/
mutual
def uptoBulk {H : Type} : DataW H → Nat
  | .lit (.string bytes) => bytes.length + 1
  | .lit _ => 1
  | .nil => 1
  | .ptr d => uptoBulk d + 1
  | .slice elems spare => uptoBulkAll elems + uptoBulkAll spare + 1
  | .agg parts => uptoBulkAll parts + 1
  | .iface _ d => uptoBulk d + 1
  | .map entries => uptoBulkEntries entries + 1
  | .held _ => 1
def uptoBulkAll {H : Type} : List (DataW H) → Nat
  | [] => 0
  | d :: r => uptoBulk d + uptoBulkAll r
def uptoBulkEntries {H : Type} : List (Lit × DataW H) → Nat
  | [] => 0
  | x :: r => uptoBulkEntry x + uptoBulkEntries r
def uptoBulkEntry {H : Type} : Lit × DataW H → Nat
  | (.string bytes, d) => bytes.length + uptoBulk d + 1
  | (_, d) => uptoBulk d + 1
 end
def uptoSmall : (H : Type) → List (DataW H) → Bool := fun _ ds => decide (uptoBulkAll ds ≤ 1048576)
def OpenSpec.upto (s : _root_.Go.ChangeSpec) : _root_.Go.OpenSpec := { _root_.Go.OpenSpec.ofChange s with cond := some uptoSmall }

/-- 'weirboxlaw21.FlowTells', WHERE WHAT IT READS IS OF BULK AT MOST 1048576: true; the input reads as it did. -/
def flowTellsUptoRow : OpenClaim := { program := "ytfgmjnmkcobhkaa", sum := "9593c32ca82e130d304ab04bf472511e35504937351e8c7bfb1f8b916bac5e49", func := "weirbox/weirboxlaw21.FlowTells", spec := "flowTells", unfollowed := true, recurses := true, apart := false, narrowed := true }
def FlowTellsUptoSaid : Prop := flowTellsUptoRow.holds Try.pinned (OpenSpec.upto flowTellsSpec)

/-- 'weirboxlaw21.FlowOf', WHERE WHAT IT READS IS OF BULK AT MOST 1048576: true; the input reads as it did. -/
def flowOfUptoRow : OpenClaim := { program := "ytfgmjnmkcobhkaa", sum := "9593c32ca82e130d304ab04bf472511e35504937351e8c7bfb1f8b916bac5e49", func := "weirbox/weirboxlaw21.FlowOf", spec := "flowOf", unfollowed := true, recurses := true, apart := false, narrowed := true }
def FlowOfUptoSaid : Prop := flowOfUptoRow.holds Try.pinned (OpenSpec.upto flowOfSpec)

/-- 'weirboxlaw21.FlowMeets', WHERE WHAT IT READS IS OF BULK AT MOST 1048576: true; the input reads as it did. -/
def flowMeetsUptoRow : OpenClaim := { program := "ytfgmjnmkcobhkaa", sum := "9593c32ca82e130d304ab04bf472511e35504937351e8c7bfb1f8b916bac5e49", func := "weirbox/weirboxlaw21.FlowMeets", spec := "flowMeets", unfollowed := true, recurses := true, apart := false, narrowed := true }
def FlowMeetsUptoSaid : Prop := flowMeetsUptoRow.holds Try.pinned (OpenSpec.upto flowMeetsSpec)

/-- 'weirboxlaw21.FlowCovers', WHERE WHAT IT READS IS OF BULK AT MOST 1048576: true; the input reads as it did. -/
def flowCoversUptoRow : OpenClaim := { program := "ytfgmjnmkcobhkaa", sum := "9593c32ca82e130d304ab04bf472511e35504937351e8c7bfb1f8b916bac5e49", func := "weirbox/weirboxlaw21.FlowCovers", spec := "flowCovers", unfollowed := true, recurses := true, apart := false, narrowed := true }
def FlowCoversUptoSaid : Prop := flowCoversUptoRow.holds Try.pinned (OpenSpec.upto flowCoversSpec)

/-- 'weirboxlaw22.PickFilters', WHERE WHAT IT READS IS OF BULK AT MOST 1048576: true; the input reads as it did. -/
def pickFiltersUptoRow : OpenClaim := { program := "ytfgmjnmkcobhkaa", sum := "9593c32ca82e130d304ab04bf472511e35504937351e8c7bfb1f8b916bac5e49", func := "weirbox/weirboxlaw22.PickFilters", spec := "pickFilters", unfollowed := true, recurses := true, apart := false, narrowed := true }
def PickFiltersUptoSaid : Prop := pickFiltersUptoRow.holds Try.pinned (OpenSpec.upto pickFiltersSpec)

/-- 'weirboxlaw22.PickNarrow', WHERE WHAT IT READS IS OF BULK AT MOST 1048576: true; the input reads as it did. -/
def pickNarrowUptoRow : OpenClaim := { program := "ytfgmjnmkcobhkaa", sum := "9593c32ca82e130d304ab04bf472511e35504937351e8c7bfb1f8b916bac5e49", func := "weirbox/weirboxlaw22.PickNarrow", spec := "pickNarrow", unfollowed := true, recurses := true, apart := false, narrowed := true }
def PickNarrowUptoSaid : Prop := pickNarrowUptoRow.holds Try.pinned (OpenSpec.upto pickNarrowSpec)

/-- 'weirboxlaw22.PickOrder', WHERE WHAT IT READS IS OF BULK AT MOST 1048576: true; the input reads as it did. -/
def pickOrderUptoRow : OpenClaim := { program := "ytfgmjnmkcobhkaa", sum := "9593c32ca82e130d304ab04bf472511e35504937351e8c7bfb1f8b916bac5e49", func := "weirbox/weirboxlaw22.PickOrder", spec := "pickOrder", unfollowed := true, recurses := true, apart := false, narrowed := true }
def PickOrderUptoSaid : Prop := pickOrderUptoRow.holds Try.pinned (OpenSpec.upto pickOrderSpec)

/-- 'weirboxlaw27.FirstOrder', WHERE WHAT IT READS IS OF BULK AT MOST 1048576: true; the input reads as it did. -/
def firstOrderUptoRow : OpenClaim := { program := "ytfgmjnmkcobhkaa", sum := "9593c32ca82e130d304ab04bf472511e35504937351e8c7bfb1f8b916bac5e49", func := "weirbox/weirboxlaw27.FirstOrder", spec := "firstOrder", unfollowed := true, recurses := true, apart := false, narrowed := true }
def FirstOrderUptoSaid : Prop := firstOrderUptoRow.holds Try.pinned (OpenSpec.upto firstOrderSpec)

/-- 'weirboxlaw27.FirstTells', WHERE WHAT IT READS IS OF BULK AT MOST 1048576: true; the input reads as it did. -/
def firstTellsUptoRow : OpenClaim := { program := "ytfgmjnmkcobhkaa", sum := "9593c32ca82e130d304ab04bf472511e35504937351e8c7bfb1f8b916bac5e49", func := "weirbox/weirboxlaw27.FirstTells", spec := "firstTells", unfollowed := true, recurses := true, apart := false, narrowed := true }
def FirstTellsUptoSaid : Prop := firstTellsUptoRow.holds Try.pinned (OpenSpec.upto firstTellsSpec)

/-- 'weirboxlaw27.FirstHighest', WHERE WHAT IT READS IS OF BULK AT MOST 1048576: true; the input reads as it did. -/
def firstHighestUptoRow : OpenClaim := { program := "ytfgmjnmkcobhkaa", sum := "9593c32ca82e130d304ab04bf472511e35504937351e8c7bfb1f8b916bac5e49", func := "weirbox/weirboxlaw27.FirstHighest", spec := "firstHighest", unfollowed := true, recurses := true, apart := false, narrowed := true }
def FirstHighestUptoSaid : Prop := firstHighestUptoRow.holds Try.pinned (OpenSpec.upto firstHighestSpec)

end Rows
end Go.Proofs.Ytfgmjnmkcobhkaa
