/-
  No cell of these rows narrows 'for every input' (looked for: loops, veiled, ifaces, maps, wideKeys, modest, calm, conditions, laid).
  DERIVED. THE GIVEN ROWS OF THIS SEAT. 9 by the template 'for every input the law returns true; each argument reads behind the call as it read before'; 0 by the template 'total and deterministic' (their statements: YteonfhnljphbpaaTotals.lean).
  GIVEN WITH THE SEED: the statements are not yours to turn. If you find one false, say at which input.
  Laid BY PROGRAM, IN A SANDBOX (cutbox-rows.mjs): the forced cells as the released guide's own fill.sh prints them over the translation 6e51f31871eaf8a2… (all of the seat's roots in one cut). By AI agents, Wed Nov 11 2026. No macro, syntax, notation, axiom, sorry.
-/
import Derived.Test.YteonfhnljphbpaaChecked
import GoSem.Claim
import GoSem.ClaimJoined
import GoSem.ClaimMapViews
import Derived.JoinedTies
import Derived.KernelRfl
namespace Go.Proofs.Yteonfhnljphbpaa
/- THE CELL 'sum', in the pinned program and in every row, IS THE sha256 OF THE DUMP (.gsa) THAT YteonfhnljphbpaaProg.lean LOADS. Nothing in Lean hashes anything: it is a label: what it is worth is what the hold of that sum in a sandbox is worth. -/
noncomputable def Try.pinned : Pinned := { name := "yteonfhnljphbpaa", sum := "6e51f31871eaf8a23fa6660c59937ca3b7233b955d231931d9a9d0982aeefb57", checked := Try.checked }
namespace Rows
def none {H : Type} : Left H := { results := [], args := [] }

/-- 'weirboxlaw13.ActsDecode': WHATEVER THE INPUT: true; the input reads as it did. -/
def actsDecodeSpec : ChangeSpec := { name := "actsDecode", fn := fun _ => fun
  | [d] => { results := [.lit (.bool true)], args := [d] }
  | _ => none }
def actsDecodeRow : OpenClaim := { program := "yteonfhnljphbpaa", sum := "6e51f31871eaf8a23fa6660c59937ca3b7233b955d231931d9a9d0982aeefb57", func := "weirbox/weirboxlaw13.ActsDecode", spec := "actsDecode", unfollowed := true, recurses := true, apart := false }
def ActsDecodeSaid : Prop := actsDecodeRow.holds Try.pinned (OpenSpec.ofChange actsDecodeSpec)

/-- ITS FALSE NEIGHBOUR: 'it returns false'. Refute it at one input. -/
def actsDecodeWrong : ChangeSpec := { name := "actsDecode", fn := fun _ => fun
  | [d] => { results := [.lit (.bool false)], args := [d] }
  | _ => none }
def ActsDecodeWrongFalsely : Prop := actsDecodeRow.holds Try.pinned (OpenSpec.ofChange actsDecodeWrong)

/-- 'weirboxlaw13.ActsBack': WHATEVER THE INPUT: true; the input reads as it did. -/
def actsBackSpec : ChangeSpec := { name := "actsBack", fn := fun _ => fun
  | [d1, d2] => { results := [.lit (.bool true)], args := [d1, d2] }
  | _ => none }
def actsBackRow : OpenClaim := { program := "yteonfhnljphbpaa", sum := "6e51f31871eaf8a23fa6660c59937ca3b7233b955d231931d9a9d0982aeefb57", func := "weirbox/weirboxlaw13.ActsBack", spec := "actsBack", unfollowed := true, recurses := true, apart := false }
def ActsBackSaid : Prop := actsBackRow.holds Try.pinned (OpenSpec.ofChange actsBackSpec)

/-- ITS FALSE NEIGHBOUR: 'it returns false'. Refute it at one input. -/
def actsBackWrong : ChangeSpec := { name := "actsBack", fn := fun _ => fun
  | [d1, d2] => { results := [.lit (.bool false)], args := [d1, d2] }
  | _ => none }
def ActsBackWrongFalsely : Prop := actsBackRow.holds Try.pinned (OpenSpec.ofChange actsBackWrong)

/-- 'weirboxlaw13.ActsJoin': WHATEVER THE INPUT: true; the input reads as it did. -/
def actsJoinSpec : ChangeSpec := { name := "actsJoin", fn := fun _ => fun
  | [d1, d2] => { results := [.lit (.bool true)], args := [d1, d2] }
  | _ => none }
def actsJoinRow : OpenClaim := { program := "yteonfhnljphbpaa", sum := "6e51f31871eaf8a23fa6660c59937ca3b7233b955d231931d9a9d0982aeefb57", func := "weirbox/weirboxlaw13.ActsJoin", spec := "actsJoin", unfollowed := true, recurses := true, apart := false }
def ActsJoinSaid : Prop := actsJoinRow.holds Try.pinned (OpenSpec.ofChange actsJoinSpec)

/-- ITS FALSE NEIGHBOUR: 'it returns false'. Refute it at one input. -/
def actsJoinWrong : ChangeSpec := { name := "actsJoin", fn := fun _ => fun
  | [d1, d2] => { results := [.lit (.bool false)], args := [d1, d2] }
  | _ => none }
def ActsJoinWrongFalsely : Prop := actsJoinRow.holds Try.pinned (OpenSpec.ofChange actsJoinWrong)

/-- 'weirboxlaw15.BucketDecodes': WHATEVER THE INPUT: true; the input reads as it did. -/
def bucketDecodesSpec : ChangeSpec := { name := "bucketDecodes", fn := fun _ => fun
  | [d] => { results := [.lit (.bool true)], args := [d] }
  | _ => none }
def bucketDecodesRow : OpenClaim := { program := "yteonfhnljphbpaa", sum := "6e51f31871eaf8a23fa6660c59937ca3b7233b955d231931d9a9d0982aeefb57", func := "weirbox/weirboxlaw15.BucketDecodes", spec := "bucketDecodes", unfollowed := true, recurses := true, apart := false }
def BucketDecodesSaid : Prop := bucketDecodesRow.holds Try.pinned (OpenSpec.ofChange bucketDecodesSpec)

/-- ITS FALSE NEIGHBOUR: 'it returns false'. Refute it at one input. -/
def bucketDecodesWrong : ChangeSpec := { name := "bucketDecodes", fn := fun _ => fun
  | [d] => { results := [.lit (.bool false)], args := [d] }
  | _ => none }
def BucketDecodesWrongFalsely : Prop := bucketDecodesRow.holds Try.pinned (OpenSpec.ofChange bucketDecodesWrong)

/-- 'weirboxlaw15.BucketEncodes': WHATEVER THE INPUT: true; the input reads as it did. -/
def bucketEncodesSpec : ChangeSpec := { name := "bucketEncodes", fn := fun _ => fun
  | [d1, d2] => { results := [.lit (.bool true)], args := [d1, d2] }
  | _ => none }
def bucketEncodesRow : OpenClaim := { program := "yteonfhnljphbpaa", sum := "6e51f31871eaf8a23fa6660c59937ca3b7233b955d231931d9a9d0982aeefb57", func := "weirbox/weirboxlaw15.BucketEncodes", spec := "bucketEncodes", unfollowed := true, recurses := true, apart := false }
def BucketEncodesSaid : Prop := bucketEncodesRow.holds Try.pinned (OpenSpec.ofChange bucketEncodesSpec)

/-- ITS FALSE NEIGHBOUR: 'it returns false'. Refute it at one input. -/
def bucketEncodesWrong : ChangeSpec := { name := "bucketEncodes", fn := fun _ => fun
  | [d1, d2] => { results := [.lit (.bool false)], args := [d1, d2] }
  | _ => none }
def BucketEncodesWrongFalsely : Prop := bucketEncodesRow.holds Try.pinned (OpenSpec.ofChange bucketEncodesWrong)

/-- 'weirboxlaw15.BucketBack': WHATEVER THE INPUT: true; the input reads as it did. -/
def bucketBackSpec : ChangeSpec := { name := "bucketBack", fn := fun _ => fun
  | [d1, d2] => { results := [.lit (.bool true)], args := [d1, d2] }
  | _ => none }
def bucketBackRow : OpenClaim := { program := "yteonfhnljphbpaa", sum := "6e51f31871eaf8a23fa6660c59937ca3b7233b955d231931d9a9d0982aeefb57", func := "weirbox/weirboxlaw15.BucketBack", spec := "bucketBack", unfollowed := true, recurses := true, apart := false }
def BucketBackSaid : Prop := bucketBackRow.holds Try.pinned (OpenSpec.ofChange bucketBackSpec)

/-- ITS FALSE NEIGHBOUR: 'it returns false'. Refute it at one input. -/
def bucketBackWrong : ChangeSpec := { name := "bucketBack", fn := fun _ => fun
  | [d1, d2] => { results := [.lit (.bool false)], args := [d1, d2] }
  | _ => none }
def BucketBackWrongFalsely : Prop := bucketBackRow.holds Try.pinned (OpenSpec.ofChange bucketBackWrong)

/-- 'weirboxlaw18.GroupmodBack': WHATEVER THE INPUT: true; the input reads as it did. -/
def groupmodBackSpec : ChangeSpec := { name := "groupmodBack", fn := fun _ => fun
  | [d1, d2] => { results := [.lit (.bool true)], args := [d1, d2] }
  | _ => none }
def groupmodBackRow : OpenClaim := { program := "yteonfhnljphbpaa", sum := "6e51f31871eaf8a23fa6660c59937ca3b7233b955d231931d9a9d0982aeefb57", func := "weirbox/weirboxlaw18.GroupmodBack", spec := "groupmodBack", unfollowed := true, recurses := true, apart := false }
def GroupmodBackSaid : Prop := groupmodBackRow.holds Try.pinned (OpenSpec.ofChange groupmodBackSpec)

/-- ITS FALSE NEIGHBOUR: 'it returns false'. Refute it at one input. -/
def groupmodBackWrong : ChangeSpec := { name := "groupmodBack", fn := fun _ => fun
  | [d1, d2] => { results := [.lit (.bool false)], args := [d1, d2] }
  | _ => none }
def GroupmodBackWrongFalsely : Prop := groupmodBackRow.holds Try.pinned (OpenSpec.ofChange groupmodBackWrong)

/-- 'weirboxlaw14.InstOnce': WHATEVER THE INPUT: true; the input reads as it did. -/
def instOnceSpec : ChangeSpec := { name := "instOnce", fn := fun _ => fun
  | [d] => { results := [.lit (.bool true)], args := [d] }
  | _ => none }
def instOnceRow : OpenClaim := { program := "yteonfhnljphbpaa", sum := "6e51f31871eaf8a23fa6660c59937ca3b7233b955d231931d9a9d0982aeefb57", func := "weirbox/weirboxlaw14.InstOnce", spec := "instOnce", unfollowed := true, recurses := true, apart := false }
def InstOnceSaid : Prop := instOnceRow.holds Try.pinned (OpenSpec.ofChange instOnceSpec)

/-- ITS FALSE NEIGHBOUR: 'it returns false'. Refute it at one input. -/
def instOnceWrong : ChangeSpec := { name := "instOnce", fn := fun _ => fun
  | [d] => { results := [.lit (.bool false)], args := [d] }
  | _ => none }
def InstOnceWrongFalsely : Prop := instOnceRow.holds Try.pinned (OpenSpec.ofChange instOnceWrong)

/-- 'weirboxlaw14.InstBack': WHATEVER THE INPUT: true; the input reads as it did. -/
def instBackSpec : ChangeSpec := { name := "instBack", fn := fun _ => fun
  | [d1, d2] => { results := [.lit (.bool true)], args := [d1, d2] }
  | _ => none }
def instBackRow : OpenClaim := { program := "yteonfhnljphbpaa", sum := "6e51f31871eaf8a23fa6660c59937ca3b7233b955d231931d9a9d0982aeefb57", func := "weirbox/weirboxlaw14.InstBack", spec := "instBack", unfollowed := true, recurses := true, apart := false }
def InstBackSaid : Prop := instBackRow.holds Try.pinned (OpenSpec.ofChange instBackSpec)

/-- ITS FALSE NEIGHBOUR: 'it returns false'. Refute it at one input. -/
def instBackWrong : ChangeSpec := { name := "instBack", fn := fun _ => fun
  | [d1, d2] => { results := [.lit (.bool false)], args := [d1, d2] }
  | _ => none }
def InstBackWrongFalsely : Prop := instBackRow.holds Try.pinned (OpenSpec.ofChange instBackWrong)

/- THE SECOND FORM. 'bulk': how many values and letters a reading holds, each counted each time it is reached (what is shared counts as often as it is met; a slice's spare places count too). A statement '..UptoSaid' is the law's where the arguments, and the package variables that the reading takes, are together of bulk at most 1048576: NARROWER than '..Said'. Prove '..Said' where nothing that the law and all that it calls make is longer than what came in: it says more and counts as full. Else prove '..UptoSaid'. A law counts once. -/
mutual
def uptoBulk {H : Type} : DataW H → Nat
  | .lit (.string bytes) => bytes.length + 1
  | .lit _ => 1
  | .nil => 1
  | .ptr d => uptoBulk d + 1
  | .slice elems spare => uptoBulkAll elems + uptoBulkAll spare + 1
  | .agg parts => uptoBulkAll parts + 1
  | .iface _ d => uptoBulk d + 1
  | .map entries => uptoBulkEntries entries + 1
  | .held _ => 1
def uptoBulkAll {H : Type} : List (DataW H) → Nat
  | [] => 0
  | d :: r => uptoBulk d + uptoBulkAll r
def uptoBulkEntries {H : Type} : List (Lit × DataW H) → Nat
  | [] => 0
  | x :: r => uptoBulkEntry x + uptoBulkEntries r
def uptoBulkEntry {H : Type} : Lit × DataW H → Nat
  | (.string bytes, d) => bytes.length + uptoBulk d + 1
  | (_, d) => uptoBulk d + 1
 end
def uptoSmall : (H : Type) → List (DataW H) → Bool := fun _ ds => decide (uptoBulkAll ds ≤ 1048576)
def OpenSpec.upto (s : _root_.Go.ChangeSpec) : _root_.Go.OpenSpec := { _root_.Go.OpenSpec.ofChange s with cond := some uptoSmall }

/-- 'weirboxlaw13.ActsDecode', WHERE WHAT IT READS IS OF BULK AT MOST 1048576: true; the input reads as it did. -/
def actsDecodeUptoRow : OpenClaim := { program := "yteonfhnljphbpaa", sum := "6e51f31871eaf8a23fa6660c59937ca3b7233b955d231931d9a9d0982aeefb57", func := "weirbox/weirboxlaw13.ActsDecode", spec := "actsDecode", unfollowed := true, recurses := true, apart := false, narrowed := true }
def ActsDecodeUptoSaid : Prop := actsDecodeUptoRow.holds Try.pinned (OpenSpec.upto actsDecodeSpec)

/-- 'weirboxlaw13.ActsBack', WHERE WHAT IT READS IS OF BULK AT MOST 1048576: true; the input reads as it did. -/
def actsBackUptoRow : OpenClaim := { program := "yteonfhnljphbpaa", sum := "6e51f31871eaf8a23fa6660c59937ca3b7233b955d231931d9a9d0982aeefb57", func := "weirbox/weirboxlaw13.ActsBack", spec := "actsBack", unfollowed := true, recurses := true, apart := false, narrowed := true }
def ActsBackUptoSaid : Prop := actsBackUptoRow.holds Try.pinned (OpenSpec.upto actsBackSpec)

/-- 'weirboxlaw13.ActsJoin', WHERE WHAT IT READS IS OF BULK AT MOST 1048576: true; the input reads as it did. -/
def actsJoinUptoRow : OpenClaim := { program := "yteonfhnljphbpaa", sum := "6e51f31871eaf8a23fa6660c59937ca3b7233b955d231931d9a9d0982aeefb57", func := "weirbox/weirboxlaw13.ActsJoin", spec := "actsJoin", unfollowed := true, recurses := true, apart := false, narrowed := true }
def ActsJoinUptoSaid : Prop := actsJoinUptoRow.holds Try.pinned (OpenSpec.upto actsJoinSpec)

/-- 'weirboxlaw15.BucketDecodes', WHERE WHAT IT READS IS OF BULK AT MOST 1048576: true; the input reads as it did. -/
def bucketDecodesUptoRow : OpenClaim := { program := "yteonfhnljphbpaa", sum := "6e51f31871eaf8a23fa6660c59937ca3b7233b955d231931d9a9d0982aeefb57", func := "weirbox/weirboxlaw15.BucketDecodes", spec := "bucketDecodes", unfollowed := true, recurses := true, apart := false, narrowed := true }
def BucketDecodesUptoSaid : Prop := bucketDecodesUptoRow.holds Try.pinned (OpenSpec.upto bucketDecodesSpec)

/-- 'weirboxlaw15.BucketEncodes', WHERE WHAT IT READS IS OF BULK AT MOST 1048576: true; the input reads as it did. -/
def bucketEncodesUptoRow : OpenClaim := { program := "yteonfhnljphbpaa", sum := "6e51f31871eaf8a23fa6660c59937ca3b7233b955d231931d9a9d0982aeefb57", func := "weirbox/weirboxlaw15.BucketEncodes", spec := "bucketEncodes", unfollowed := true, recurses := true, apart := false, narrowed := true }
def BucketEncodesUptoSaid : Prop := bucketEncodesUptoRow.holds Try.pinned (OpenSpec.upto bucketEncodesSpec)

/-- 'weirboxlaw15.BucketBack', WHERE WHAT IT READS IS OF BULK AT MOST 1048576: true; the input reads as it did. -/
def bucketBackUptoRow : OpenClaim := { program := "yteonfhnljphbpaa", sum := "6e51f31871eaf8a23fa6660c59937ca3b7233b955d231931d9a9d0982aeefb57", func := "weirbox/weirboxlaw15.BucketBack", spec := "bucketBack", unfollowed := true, recurses := true, apart := false, narrowed := true }
def BucketBackUptoSaid : Prop := bucketBackUptoRow.holds Try.pinned (OpenSpec.upto bucketBackSpec)

/-- 'weirboxlaw18.GroupmodBack', WHERE WHAT IT READS IS OF BULK AT MOST 1048576: true; the input reads as it did. -/
def groupmodBackUptoRow : OpenClaim := { program := "yteonfhnljphbpaa", sum := "6e51f31871eaf8a23fa6660c59937ca3b7233b955d231931d9a9d0982aeefb57", func := "weirbox/weirboxlaw18.GroupmodBack", spec := "groupmodBack", unfollowed := true, recurses := true, apart := false, narrowed := true }
def GroupmodBackUptoSaid : Prop := groupmodBackUptoRow.holds Try.pinned (OpenSpec.upto groupmodBackSpec)

/-- 'weirboxlaw14.InstOnce', WHERE WHAT IT READS IS OF BULK AT MOST 1048576: true; the input reads as it did. -/
def instOnceUptoRow : OpenClaim := { program := "yteonfhnljphbpaa", sum := "6e51f31871eaf8a23fa6660c59937ca3b7233b955d231931d9a9d0982aeefb57", func := "weirbox/weirboxlaw14.InstOnce", spec := "instOnce", unfollowed := true, recurses := true, apart := false, narrowed := true }
def InstOnceUptoSaid : Prop := instOnceUptoRow.holds Try.pinned (OpenSpec.upto instOnceSpec)

/-- 'weirboxlaw14.InstBack', WHERE WHAT IT READS IS OF BULK AT MOST 1048576: true; the input reads as it did. -/
def instBackUptoRow : OpenClaim := { program := "yteonfhnljphbpaa", sum := "6e51f31871eaf8a23fa6660c59937ca3b7233b955d231931d9a9d0982aeefb57", func := "weirbox/weirboxlaw14.InstBack", spec := "instBack", unfollowed := true, recurses := true, apart := false, narrowed := true }
def InstBackUptoSaid : Prop := instBackUptoRow.holds Try.pinned (OpenSpec.upto instBackSpec)

end Rows
end Go.Proofs.Yteonfhnljphbpaa
