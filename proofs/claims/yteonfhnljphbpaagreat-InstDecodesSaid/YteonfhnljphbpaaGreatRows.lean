/-
  No cell of these rows narrows 'for every input' (looked for: loops, veiled, ifaces, maps, wideKeys, modest, calm, conditions, laid).
  DERIVED. THE GIVEN ROWS OF THIS SEAT. 4 by the template 'for every input the law returns true; each argument reads behind the call as it read before'; 0 by the template 'total and deterministic' (their statements: YteonfhnljphbpaaGreatTotals.lean).
  GIVEN WITH THE SEED: the statements are not yours to turn. If you find one false, say at which input.
  Laid BY PROGRAM, IN A SANDBOX (cutbox-rows.mjs): the forced cells as the released guide's own fill.sh prints them over the translation cda0c8cb368e2cff… (all of the seat's roots in one cut). By AI agents, Wed Nov 11 2026. No macro, syntax, notation, axiom, sorry.
-/
import Derived.Test.YteonfhnljphbpaaGreatChecked
import GoSem.Claim
import GoSem.ClaimJoined
import GoSem.ClaimMapViews
import Derived.JoinedTies
import Derived.KernelRfl
namespace Go.Proofs.YteonfhnljphbpaaGreat
/- THE CELL 'sum', in the pinned program and in every row, IS THE sha256 OF THE DUMP (.gsa) THAT YteonfhnljphbpaaGreatProg.lean LOADS. Nothing in Lean hashes anything: it is a label: what it is worth is what the hold of that sum in a sandbox is worth. -/
noncomputable def Tryz.pinned : Pinned := { name := "yteonfhnljphbpaagreat", sum := "cda0c8cb368e2cffea23b8ebfa308ce17dd6c8fb9448abc41420c1a6c26f6c43", checked := Tryz.checked }
namespace Rows
def none {H : Type} : Left H := { results := [], args := [] }

/-- 'weirboxlaw18.GroupmodDecodes': WHATEVER THE INPUT: true; the input reads as it did. -/
def groupmodDecodesSpec : ChangeSpec := { name := "groupmodDecodes", fn := fun _ => fun
  | [d] => { results := [.lit (.bool true)], args := [d] }
  | _ => none }
def groupmodDecodesRow : OpenClaim := { program := "yteonfhnljphbpaagreat", sum := "cda0c8cb368e2cffea23b8ebfa308ce17dd6c8fb9448abc41420c1a6c26f6c43", func := "weirbox/weirboxlaw18.GroupmodDecodes", spec := "groupmodDecodes", unfollowed := true, recurses := true, apart := false }
def GroupmodDecodesSaid : Prop := groupmodDecodesRow.holds Tryz.pinned (OpenSpec.ofChange groupmodDecodesSpec)

/-- ITS FALSE NEIGHBOUR: 'it returns false'. Refute it at one input. -/
def groupmodDecodesWrong : ChangeSpec := { name := "groupmodDecodes", fn := fun _ => fun
  | [d] => { results := [.lit (.bool false)], args := [d] }
  | _ => none }
def GroupmodDecodesWrongFalsely : Prop := groupmodDecodesRow.holds Tryz.pinned (OpenSpec.ofChange groupmodDecodesWrong)

/-- 'weirboxlaw18.GroupmodEncodes': WHATEVER THE INPUT: true; the input reads as it did. -/
def groupmodEncodesSpec : ChangeSpec := { name := "groupmodEncodes", fn := fun _ => fun
  | [d1, d2] => { results := [.lit (.bool true)], args := [d1, d2] }
  | _ => none }
def groupmodEncodesRow : OpenClaim := { program := "yteonfhnljphbpaagreat", sum := "cda0c8cb368e2cffea23b8ebfa308ce17dd6c8fb9448abc41420c1a6c26f6c43", func := "weirbox/weirboxlaw18.GroupmodEncodes", spec := "groupmodEncodes", unfollowed := true, recurses := true, apart := false }
def GroupmodEncodesSaid : Prop := groupmodEncodesRow.holds Tryz.pinned (OpenSpec.ofChange groupmodEncodesSpec)

/-- ITS FALSE NEIGHBOUR: 'it returns false'. Refute it at one input. -/
def groupmodEncodesWrong : ChangeSpec := { name := "groupmodEncodes", fn := fun _ => fun
  | [d1, d2] => { results := [.lit (.bool false)], args := [d1, d2] }
  | _ => none }
def GroupmodEncodesWrongFalsely : Prop := groupmodEncodesRow.holds Tryz.pinned (OpenSpec.ofChange groupmodEncodesWrong)

/-- 'weirboxlaw14.InstDecodes': WHATEVER THE INPUT: true; the input reads as it did. -/
def instDecodesSpec : ChangeSpec := { name := "instDecodes", fn := fun _ => fun
  | [d] => { results := [.lit (.bool true)], args := [d] }
  | _ => none }
def instDecodesRow : OpenClaim := { program := "yteonfhnljphbpaagreat", sum := "cda0c8cb368e2cffea23b8ebfa308ce17dd6c8fb9448abc41420c1a6c26f6c43", func := "weirbox/weirboxlaw14.InstDecodes", spec := "instDecodes", unfollowed := true, recurses := true, apart := false }
def InstDecodesSaid : Prop := instDecodesRow.holds Tryz.pinned (OpenSpec.ofChange instDecodesSpec)

/-- ITS FALSE NEIGHBOUR: 'it returns false'. Refute it at one input. -/
def instDecodesWrong : ChangeSpec := { name := "instDecodes", fn := fun _ => fun
  | [d] => { results := [.lit (.bool false)], args := [d] }
  | _ => none }
def InstDecodesWrongFalsely : Prop := instDecodesRow.holds Tryz.pinned (OpenSpec.ofChange instDecodesWrong)

/-- 'weirboxlaw14.InstEncodes': WHATEVER THE INPUT: true; the input reads as it did. -/
def instEncodesSpec : ChangeSpec := { name := "instEncodes", fn := fun _ => fun
  | [d1, d2, d3] => { results := [.lit (.bool true)], args := [d1, d2, d3] }
  | _ => none }
def instEncodesRow : OpenClaim := { program := "yteonfhnljphbpaagreat", sum := "cda0c8cb368e2cffea23b8ebfa308ce17dd6c8fb9448abc41420c1a6c26f6c43", func := "weirbox/weirboxlaw14.InstEncodes", spec := "instEncodes", unfollowed := true, recurses := true, apart := false }
def InstEncodesSaid : Prop := instEncodesRow.holds Tryz.pinned (OpenSpec.ofChange instEncodesSpec)

/-- ITS FALSE NEIGHBOUR: 'it returns false'. Refute it at one input. -/
def instEncodesWrong : ChangeSpec := { name := "instEncodes", fn := fun _ => fun
  | [d1, d2, d3] => { results := [.lit (.bool false)], args := [d1, d2, d3] }
  | _ => none }
def InstEncodesWrongFalsely : Prop := instEncodesRow.holds Tryz.pinned (OpenSpec.ofChange instEncodesWrong)

/- THE SECOND FORM. 'bulk': how many values and letters a reading holds, each counted each time it is reached (what is shared counts as often as it is met; a slice's spare places count too). A statement '..UptoSaid' is the law's where the arguments, and the package variables that the reading takes, are together of bulk at most 1048576: NARROWER than '..Said'. Prove '..Said' where nothing that the law and all that it calls make is longer than what came in: it says more and counts as full. Else prove '..UptoSaid'. A law counts once. -/
mutual
def uptoBulk {H : Type} : DataW H → Nat
  | .lit (.string bytes) => bytes.length + 1
  | .lit _ => 1
  | .nil => 1
  | .ptr d => uptoBulk d + 1
  | .slice elems spare => uptoBulkAll elems + uptoBulkAll spare + 1
  | .agg parts => uptoBulkAll parts + 1
  | .iface _ d => uptoBulk d + 1
  | .map entries => uptoBulkEntries entries + 1
  | .held _ => 1
def uptoBulkAll {H : Type} : List (DataW H) → Nat
  | [] => 0
  | d :: r => uptoBulk d + uptoBulkAll r
def uptoBulkEntries {H : Type} : List (Lit × DataW H) → Nat
  | [] => 0
  | x :: r => uptoBulkEntry x + uptoBulkEntries r
def uptoBulkEntry {H : Type} : Lit × DataW H → Nat
  | (.string bytes, d) => bytes.length + uptoBulk d + 1
  | (_, d) => uptoBulk d + 1
 end
def uptoSmall : (H : Type) → List (DataW H) → Bool := fun _ ds => decide (uptoBulkAll ds ≤ 1048576)
def OpenSpec.upto (s : _root_.Go.ChangeSpec) : _root_.Go.OpenSpec := { _root_.Go.OpenSpec.ofChange s with cond := some uptoSmall }

/-- 'weirboxlaw18.GroupmodDecodes', WHERE WHAT IT READS IS OF BULK AT MOST 1048576: true; the input reads as it did. -/
def groupmodDecodesUptoRow : OpenClaim := { program := "yteonfhnljphbpaagreat", sum := "cda0c8cb368e2cffea23b8ebfa308ce17dd6c8fb9448abc41420c1a6c26f6c43", func := "weirbox/weirboxlaw18.GroupmodDecodes", spec := "groupmodDecodes", unfollowed := true, recurses := true, apart := false, narrowed := true }
def GroupmodDecodesUptoSaid : Prop := groupmodDecodesUptoRow.holds Tryz.pinned (OpenSpec.upto groupmodDecodesSpec)

/-- 'weirboxlaw18.GroupmodEncodes', WHERE WHAT IT READS IS OF BULK AT MOST 1048576: true; the input reads as it did. -/
def groupmodEncodesUptoRow : OpenClaim := { program := "yteonfhnljphbpaagreat", sum := "cda0c8cb368e2cffea23b8ebfa308ce17dd6c8fb9448abc41420c1a6c26f6c43", func := "weirbox/weirboxlaw18.GroupmodEncodes", spec := "groupmodEncodes", unfollowed := true, recurses := true, apart := false, narrowed := true }
def GroupmodEncodesUptoSaid : Prop := groupmodEncodesUptoRow.holds Tryz.pinned (OpenSpec.upto groupmodEncodesSpec)

/-- 'weirboxlaw14.InstDecodes', WHERE WHAT IT READS IS OF BULK AT MOST 1048576: true; the input reads as it did. -/
def instDecodesUptoRow : OpenClaim := { program := "yteonfhnljphbpaagreat", sum := "cda0c8cb368e2cffea23b8ebfa308ce17dd6c8fb9448abc41420c1a6c26f6c43", func := "weirbox/weirboxlaw14.InstDecodes", spec := "instDecodes", unfollowed := true, recurses := true, apart := false, narrowed := true }
def InstDecodesUptoSaid : Prop := instDecodesUptoRow.holds Tryz.pinned (OpenSpec.upto instDecodesSpec)

/-- 'weirboxlaw14.InstEncodes', WHERE WHAT IT READS IS OF BULK AT MOST 1048576: true; the input reads as it did. -/
def instEncodesUptoRow : OpenClaim := { program := "yteonfhnljphbpaagreat", sum := "cda0c8cb368e2cffea23b8ebfa308ce17dd6c8fb9448abc41420c1a6c26f6c43", func := "weirbox/weirboxlaw14.InstEncodes", spec := "instEncodes", unfollowed := true, recurses := true, apart := false, narrowed := true }
def InstEncodesUptoSaid : Prop := instEncodesUptoRow.holds Tryz.pinned (OpenSpec.upto instEncodesSpec)

end Rows
end Go.Proofs.YteonfhnljphbpaaGreat
