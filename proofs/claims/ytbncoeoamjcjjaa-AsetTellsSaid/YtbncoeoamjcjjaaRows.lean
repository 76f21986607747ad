/-
  No cell of these rows narrows 'for every input' (looked for: loops, veiled, ifaces, maps, wideKeys, modest, calm, conditions, laid).
  DERIVED. THE GIVEN ROWS OF THIS SEAT. 9 by the template 'for every input the law returns true; each argument reads behind the call as it read before'; 0 by the template 'total and deterministic' (their statements: YtbncoeoamjcjjaaTotals.lean).
  GIVEN WITH THE SEED: the statements are not yours to turn. If you find one false, say at which input.
  Laid BY PROGRAM, IN A SANDBOX (cutbox-rows.mjs): the forced cells as the released guide's own fill.sh prints them over the translation 311ea291baf96714… (all of the seat's roots in one cut). By AI agents, Wed Nov 11 2026. No macro, syntax, notation, axiom, sorry.
-/
import Derived.Test.YtbncoeoamjcjjaaChecked
import GoSem.Claim
import GoSem.ClaimJoined
import GoSem.ClaimMapViews
import Derived.JoinedTies
import Derived.KernelRfl
namespace Go.Proofs.Ytbncoeoamjcjjaa
/- THE CELL 'sum', in the pinned program and in every row, IS THE sha256 OF THE DUMP (.gsa) THAT YtbncoeoamjcjjaaProg.lean LOADS. Nothing in Lean hashes anything: it is a label: what it is worth is what the hold of that sum in a sandbox is worth. -/
noncomputable def Try.pinned : Pinned := { name := "ytbncoeoamjcjjaa", sum := "311ea291baf96714d79dde8302b199583ef282b45ec92844fe3b05d3eb71d1af", checked := Try.checked }
namespace Rows
def none {H : Type} : Left H := { results := [], args := [] }

/-- 'weirboxlaw12.ActionDecodes': WHATEVER THE INPUT: true; the input reads as it did. -/
def actionDecodesSpec : ChangeSpec := { name := "actionDecodes", fn := fun _ => fun
  | [d] => { results := [.lit (.bool true)], args := [d] }
  | _ => none }
def actionDecodesRow : OpenClaim := { program := "ytbncoeoamjcjjaa", sum := "311ea291baf96714d79dde8302b199583ef282b45ec92844fe3b05d3eb71d1af", func := "weirbox/weirboxlaw12.ActionDecodes", spec := "actionDecodes", unfollowed := true, recurses := true, apart := false }
def ActionDecodesSaid : Prop := actionDecodesRow.holds Try.pinned (OpenSpec.ofChange actionDecodesSpec)

/-- ITS FALSE NEIGHBOUR: 'it returns false'. Refute it at one input. -/
def actionDecodesWrong : ChangeSpec := { name := "actionDecodes", fn := fun _ => fun
  | [d] => { results := [.lit (.bool false)], args := [d] }
  | _ => none }
def ActionDecodesWrongFalsely : Prop := actionDecodesRow.holds Try.pinned (OpenSpec.ofChange actionDecodesWrong)

/-- 'weirboxlaw28.AsetOnce': WHATEVER THE INPUT: true; the input reads as it did. -/
def asetOnceSpec : ChangeSpec := { name := "asetOnce", fn := fun _ => fun
  | [d] => { results := [.lit (.bool true)], args := [d] }
  | _ => none }
def asetOnceRow : OpenClaim := { program := "ytbncoeoamjcjjaa", sum := "311ea291baf96714d79dde8302b199583ef282b45ec92844fe3b05d3eb71d1af", func := "weirbox/weirboxlaw28.AsetOnce", spec := "asetOnce", unfollowed := true, recurses := true, apart := false }
def AsetOnceSaid : Prop := asetOnceRow.holds Try.pinned (OpenSpec.ofChange asetOnceSpec)

/-- ITS FALSE NEIGHBOUR: 'it returns false'. Refute it at one input. -/
def asetOnceWrong : ChangeSpec := { name := "asetOnce", fn := fun _ => fun
  | [d] => { results := [.lit (.bool false)], args := [d] }
  | _ => none }
def AsetOnceWrongFalsely : Prop := asetOnceRow.holds Try.pinned (OpenSpec.ofChange asetOnceWrong)

/-- 'weirboxlaw12.ActionEncodes': WHATEVER THE INPUT: true; the input reads as it did. -/
def actionEncodesSpec : ChangeSpec := { name := "actionEncodes", fn := fun _ => fun
  | [d1, d2, d3] => { results := [.lit (.bool true)], args := [d1, d2, d3] }
  | _ => none }
def actionEncodesRow : OpenClaim := { program := "ytbncoeoamjcjjaa", sum := "311ea291baf96714d79dde8302b199583ef282b45ec92844fe3b05d3eb71d1af", func := "weirbox/weirboxlaw12.ActionEncodes", spec := "actionEncodes", unfollowed := true, recurses := true, apart := false }
def ActionEncodesSaid : Prop := actionEncodesRow.holds Try.pinned (OpenSpec.ofChange actionEncodesSpec)

/-- ITS FALSE NEIGHBOUR: 'it returns false'. Refute it at one input. -/
def actionEncodesWrong : ChangeSpec := { name := "actionEncodes", fn := fun _ => fun
  | [d1, d2, d3] => { results := [.lit (.bool false)], args := [d1, d2, d3] }
  | _ => none }
def ActionEncodesWrongFalsely : Prop := actionEncodesRow.holds Try.pinned (OpenSpec.ofChange actionEncodesWrong)

/-- 'weirboxlaw23.TableStays': WHATEVER THE INPUT: true; the input reads as it did. -/
def tableStaysSpec : ChangeSpec := { name := "tableStays", fn := fun _ => fun
  | [d] => { results := [.lit (.bool true)], args := [d] }
  | _ => none }
def tableStaysRow : OpenClaim := { program := "ytbncoeoamjcjjaa", sum := "311ea291baf96714d79dde8302b199583ef282b45ec92844fe3b05d3eb71d1af", func := "weirbox/weirboxlaw23.TableStays", spec := "tableStays", unfollowed := true, recurses := true, apart := false }
def TableStaysSaid : Prop := tableStaysRow.holds Try.pinned (OpenSpec.ofChange tableStaysSpec)

/-- ITS FALSE NEIGHBOUR: 'it returns false'. Refute it at one input. -/
def tableStaysWrong : ChangeSpec := { name := "tableStays", fn := fun _ => fun
  | [d] => { results := [.lit (.bool false)], args := [d] }
  | _ => none }
def TableStaysWrongFalsely : Prop := tableStaysRow.holds Try.pinned (OpenSpec.ofChange tableStaysWrong)

/-- 'weirboxlaw28.AsetTells': WHATEVER THE INPUT: true; the input reads as it did. -/
def asetTellsSpec : ChangeSpec := { name := "asetTells", fn := fun _ => fun
  | [d1, d2, d3] => { results := [.lit (.bool true)], args := [d1, d2, d3] }
  | _ => none }
def asetTellsRow : OpenClaim := { program := "ytbncoeoamjcjjaa", sum := "311ea291baf96714d79dde8302b199583ef282b45ec92844fe3b05d3eb71d1af", func := "weirbox/weirboxlaw28.AsetTells", spec := "asetTells", unfollowed := true, recurses := true, apart := false }
def AsetTellsSaid : Prop := asetTellsRow.holds Try.pinned (OpenSpec.ofChange asetTellsSpec)

/-- ITS FALSE NEIGHBOUR: 'it returns false'. Refute it at one input. -/
def asetTellsWrong : ChangeSpec := { name := "asetTells", fn := fun _ => fun
  | [d1, d2, d3] => { results := [.lit (.bool false)], args := [d1, d2, d3] }
  | _ => none }
def AsetTellsWrongFalsely : Prop := asetTellsRow.holds Try.pinned (OpenSpec.ofChange asetTellsWrong)

/-- 'weirboxlaw28.AsetOrder': WHATEVER THE INPUT: true; the input reads as it did. -/
def asetOrderSpec : ChangeSpec := { name := "asetOrder", fn := fun _ => fun
  | [d1, d2] => { results := [.lit (.bool true)], args := [d1, d2] }
  | _ => none }
def asetOrderRow : OpenClaim := { program := "ytbncoeoamjcjjaa", sum := "311ea291baf96714d79dde8302b199583ef282b45ec92844fe3b05d3eb71d1af", func := "weirbox/weirboxlaw28.AsetOrder", spec := "asetOrder", unfollowed := true, recurses := true, apart := false }
def AsetOrderSaid : Prop := asetOrderRow.holds Try.pinned (OpenSpec.ofChange asetOrderSpec)

/-- ITS FALSE NEIGHBOUR: 'it returns false'. Refute it at one input. -/
def asetOrderWrong : ChangeSpec := { name := "asetOrder", fn := fun _ => fun
  | [d1, d2] => { results := [.lit (.bool false)], args := [d1, d2] }
  | _ => none }
def AsetOrderWrongFalsely : Prop := asetOrderRow.holds Try.pinned (OpenSpec.ofChange asetOrderWrong)

/-- 'weirboxlaw12.ActionBack': WHATEVER THE INPUT: true; the input reads as it did. -/
def actionBackSpec : ChangeSpec := { name := "actionBack", fn := fun _ => fun
  | [d1, d2] => { results := [.lit (.bool true)], args := [d1, d2] }
  | _ => none }
def actionBackRow : OpenClaim := { program := "ytbncoeoamjcjjaa", sum := "311ea291baf96714d79dde8302b199583ef282b45ec92844fe3b05d3eb71d1af", func := "weirbox/weirboxlaw12.ActionBack", spec := "actionBack", unfollowed := true, recurses := true, apart := false }
def ActionBackSaid : Prop := actionBackRow.holds Try.pinned (OpenSpec.ofChange actionBackSpec)

/-- ITS FALSE NEIGHBOUR: 'it returns false'. Refute it at one input. -/
def actionBackWrong : ChangeSpec := { name := "actionBack", fn := fun _ => fun
  | [d1, d2] => { results := [.lit (.bool false)], args := [d1, d2] }
  | _ => none }
def ActionBackWrongFalsely : Prop := actionBackRow.holds Try.pinned (OpenSpec.ofChange actionBackWrong)

/-- 'weirboxlaw28.AsetTwice': WHATEVER THE INPUT: true; the input reads as it did. -/
def asetTwiceSpec : ChangeSpec := { name := "asetTwice", fn := fun _ => fun
  | [d1, d2] => { results := [.lit (.bool true)], args := [d1, d2] }
  | _ => none }
def asetTwiceRow : OpenClaim := { program := "ytbncoeoamjcjjaa", sum := "311ea291baf96714d79dde8302b199583ef282b45ec92844fe3b05d3eb71d1af", func := "weirbox/weirboxlaw28.AsetTwice", spec := "asetTwice", unfollowed := true, recurses := true, apart := false }
def AsetTwiceSaid : Prop := asetTwiceRow.holds Try.pinned (OpenSpec.ofChange asetTwiceSpec)

/-- ITS FALSE NEIGHBOUR: 'it returns false'. Refute it at one input. -/
def asetTwiceWrong : ChangeSpec := { name := "asetTwice", fn := fun _ => fun
  | [d1, d2] => { results := [.lit (.bool false)], args := [d1, d2] }
  | _ => none }
def AsetTwiceWrongFalsely : Prop := asetTwiceRow.holds Try.pinned (OpenSpec.ofChange asetTwiceWrong)

/-- 'weirboxlaw13.ActsEncode': WHATEVER THE INPUT: true; the input reads as it did. -/
def actsEncodeSpec : ChangeSpec := { name := "actsEncode", fn := fun _ => fun
  | [d1, d2] => { results := [.lit (.bool true)], args := [d1, d2] }
  | _ => none }
def actsEncodeRow : OpenClaim := { program := "ytbncoeoamjcjjaa", sum := "311ea291baf96714d79dde8302b199583ef282b45ec92844fe3b05d3eb71d1af", func := "weirbox/weirboxlaw13.ActsEncode", spec := "actsEncode", unfollowed := true, recurses := true, apart := false }
def ActsEncodeSaid : Prop := actsEncodeRow.holds Try.pinned (OpenSpec.ofChange actsEncodeSpec)

/-- ITS FALSE NEIGHBOUR: 'it returns false'. Refute it at one input. -/
def actsEncodeWrong : ChangeSpec := { name := "actsEncode", fn := fun _ => fun
  | [d1, d2] => { results := [.lit (.bool false)], args := [d1, d2] }
  | _ => none }
def ActsEncodeWrongFalsely : Prop := actsEncodeRow.holds Try.pinned (OpenSpec.ofChange actsEncodeWrong)

/- THE SECOND FORM. 'bulk': how many values and letters a reading holds, each counted each time it is reached (what is shared counts as often as it is met; a slice's spare places count too). A statement '..UptoSaid' is the law's where the arguments, and the package variables that the reading takes, are together of bulk at most 1048576: NARROWER than '..Said'. Prove '..Said' where nothing that the law and all that it calls make is longer than what came in: it says more and counts as full. Else prove '..UptoSaid'. A law counts once. -/
mutual
def uptoBulk {H : Type} : DataW H → Nat
  | .lit (.string bytes) => bytes.length + 1
  | .lit _ => 1
  | .nil => 1
  | .ptr d => uptoBulk d + 1
  | .slice elems spare => uptoBulkAll elems + uptoBulkAll spare + 1
  | .agg parts => uptoBulkAll parts + 1
  | .iface _ d => uptoBulk d + 1
  | .map entries => uptoBulkEntries entries + 1
  | .held _ => 1
def uptoBulkAll {H : Type} : List (DataW H) → Nat
  | [] => 0
  | d :: r => uptoBulk d + uptoBulkAll r
def uptoBulkEntries {H : Type} : List (Lit × DataW H) → Nat
  | [] => 0
  | x :: r => uptoBulkEntry x + uptoBulkEntries r
def uptoBulkEntry {H : Type} : Lit × DataW H → Nat
  | (.string bytes, d) => bytes.length + uptoBulk d + 1
  | (_, d) => uptoBulk d + 1
 end
def uptoSmall : (H : Type) → List (DataW H) → Bool := fun _ ds => decide (uptoBulkAll ds ≤ 1048576)
def OpenSpec.upto (s : _root_.Go.ChangeSpec) : _root_.Go.OpenSpec := { _root_.Go.OpenSpec.ofChange s with cond := some uptoSmall }

/-- 'weirboxlaw12.ActionDecodes', WHERE WHAT IT READS IS OF BULK AT MOST 1048576: true; the input reads as it did. -/
def actionDecodesUptoRow : OpenClaim := { program := "ytbncoeoamjcjjaa", sum := "311ea291baf96714d79dde8302b199583ef282b45ec92844fe3b05d3eb71d1af", func := "weirbox/weirboxlaw12.ActionDecodes", spec := "actionDecodes", unfollowed := true, recurses := true, apart := false, narrowed := true }
def ActionDecodesUptoSaid : Prop := actionDecodesUptoRow.holds Try.pinned (OpenSpec.upto actionDecodesSpec)

/-- 'weirboxlaw28.AsetOnce', WHERE WHAT IT READS IS OF BULK AT MOST 1048576: true; the input reads as it did. -/
def asetOnceUptoRow : OpenClaim := { program := "ytbncoeoamjcjjaa", sum := "311ea291baf96714d79dde8302b199583ef282b45ec92844fe3b05d3eb71d1af", func := "weirbox/weirboxlaw28.AsetOnce", spec := "asetOnce", unfollowed := true, recurses := true, apart := false, narrowed := true }
def AsetOnceUptoSaid : Prop := asetOnceUptoRow.holds Try.pinned (OpenSpec.upto asetOnceSpec)

/-- 'weirboxlaw12.ActionEncodes', WHERE WHAT IT READS IS OF BULK AT MOST 1048576: true; the input reads as it did. -/
def actionEncodesUptoRow : OpenClaim := { program := "ytbncoeoamjcjjaa", sum := "311ea291baf96714d79dde8302b199583ef282b45ec92844fe3b05d3eb71d1af", func := "weirbox/weirboxlaw12.ActionEncodes", spec := "actionEncodes", unfollowed := true, recurses := true, apart := false, narrowed := true }
def ActionEncodesUptoSaid : Prop := actionEncodesUptoRow.holds Try.pinned (OpenSpec.upto actionEncodesSpec)

/-- 'weirboxlaw23.TableStays', WHERE WHAT IT READS IS OF BULK AT MOST 1048576: true; the input reads as it did. -/
def tableStaysUptoRow : OpenClaim := { program := "ytbncoeoamjcjjaa", sum := "311ea291baf96714d79dde8302b199583ef282b45ec92844fe3b05d3eb71d1af", func := "weirbox/weirboxlaw23.TableStays", spec := "tableStays", unfollowed := true, recurses := true, apart := false, narrowed := true }
def TableStaysUptoSaid : Prop := tableStaysUptoRow.holds Try.pinned (OpenSpec.upto tableStaysSpec)

/-- 'weirboxlaw28.AsetTells', WHERE WHAT IT READS IS OF BULK AT MOST 1048576: true; the input reads as it did. -/
def asetTellsUptoRow : OpenClaim := { program := "ytbncoeoamjcjjaa", sum := "311ea291baf96714d79dde8302b199583ef282b45ec92844fe3b05d3eb71d1af", func := "weirbox/weirboxlaw28.AsetTells", spec := "asetTells", unfollowed := true, recurses := true, apart := false, narrowed := true }
def AsetTellsUptoSaid : Prop := asetTellsUptoRow.holds Try.pinned (OpenSpec.upto asetTellsSpec)

/-- 'weirboxlaw28.AsetOrder', WHERE WHAT IT READS IS OF BULK AT MOST 1048576: true; the input reads as it did. -/
def asetOrderUptoRow : OpenClaim := { program := "ytbncoeoamjcjjaa", sum := "311ea291baf96714d79dde8302b199583ef282b45ec92844fe3b05d3eb71d1af", func := "weirbox/weirboxlaw28.AsetOrder", spec := "asetOrder", unfollowed := true, recurses := true, apart := false, narrowed := true }
def AsetOrderUptoSaid : Prop := asetOrderUptoRow.holds Try.pinned (OpenSpec.upto asetOrderSpec)

/-- 'weirboxlaw12.ActionBack', WHERE WHAT IT READS IS OF BULK AT MOST 1048576: true; the input reads as it did. -/
def actionBackUptoRow : OpenClaim := { program := "ytbncoeoamjcjjaa", sum := "311ea291baf96714d79dde8302b199583ef282b45ec92844fe3b05d3eb71d1af", func := "weirbox/weirboxlaw12.ActionBack", spec := "actionBack", unfollowed := true, recurses := true, apart := false, narrowed := true }
def ActionBackUptoSaid : Prop := actionBackUptoRow.holds Try.pinned (OpenSpec.upto actionBackSpec)

/-- 'weirboxlaw28.AsetTwice', WHERE WHAT IT READS IS OF BULK AT MOST 1048576: true; the input reads as it did. -/
def asetTwiceUptoRow : OpenClaim := { program := "ytbncoeoamjcjjaa", sum := "311ea291baf96714d79dde8302b199583ef282b45ec92844fe3b05d3eb71d1af", func := "weirbox/weirboxlaw28.AsetTwice", spec := "asetTwice", unfollowed := true, recurses := true, apart := false, narrowed := true }
def AsetTwiceUptoSaid : Prop := asetTwiceUptoRow.holds Try.pinned (OpenSpec.upto asetTwiceSpec)

/-- 'weirboxlaw13.ActsEncode', WHERE WHAT IT READS IS OF BULK AT MOST 1048576: true; the input reads as it did. -/
def actsEncodeUptoRow : OpenClaim := { program := "ytbncoeoamjcjjaa", sum := "311ea291baf96714d79dde8302b199583ef282b45ec92844fe3b05d3eb71d1af", func := "weirbox/weirboxlaw13.ActsEncode", spec := "actsEncode", unfollowed := true, recurses := true, apart := false, narrowed := true }
def ActsEncodeUptoSaid : Prop := actsEncodeUptoRow.holds Try.pinned (OpenSpec.upto actsEncodeSpec)

end Rows
end Go.Proofs.Ytbncoeoamjcjjaa
