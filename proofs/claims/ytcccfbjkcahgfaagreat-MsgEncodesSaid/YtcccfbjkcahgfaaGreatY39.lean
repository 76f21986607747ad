/- MsgEncodes: any message's bytes, and whether two are the same, is what the document says, or refused. -/
import Derived.Test.YtcccfbjkcahgfaaGreatWk9
import Derived.Test.YtcccfbjkcahgfaaGreatWk14
set_option linter.all false
set_option linter.unnecessarySimpa false
namespace Go.Proofs.YtcccfbjkcahgfaaGreat
open Go Go.AI Go.Proofs Go.Proofs.YtcccfbjkcahgfaaGreat Go.ChangeShapes Go.WideShapes Go.ChangeAt Go.RowKit
set_option maxHeartbeats 4000000 in
set_option maxRecDepth 100000 in
theorem msgEncodes_lifted (os : Os) (started : os.Started) (H : Type) (enc : TypeId × Value → H) :
   ReturnsInHanded {} Tryz.checked os 3 .any (Rows.msgEncodesSpec.pre6 enc Tryz.prog Tryz.f3 Rows.msgEncodesRow.domain false) (Rows.msgEncodesSpec.post enc Tryz.prog Tryz.f3 false true false false) := by
 refine law_lifted (C := Tryz.checked) (tb := 4) law_own started (by kernel_rfl) Tryz.func3
   (ChangeSpec.witness6 (enc := enc) (C := Tryz.checked) false ⟨#[], #[.agg zeroMsg, .agg zeroMsg], []⟩ 8 (by kernel_rfl) (by kernel_rfl) (by kernel_rfl) (by kernel_rfl)) law_laid (by kernel_rfl)
   (by rw [Tryz.params3]; exact (RdVs.cons rdvMsg (RdVs.cons rdvMsg RdVs.nil))) rfl ?_ (by kernel_rfl) Tryz.underlying4 ?_
 · intro ds hl
   rw [Tryz.params3] at hl
   match ds, hl with
   | [d0, d1], _ => exact ⟨rfl, rfl, rfl⟩
 · intro xs hxs
   obtain ⟨x, y, rfl, ⟨m, rfl⟩, ⟨n, rfl⟩⟩ := allP2 hxs; exact msgEncodes_c m n
theorem msgEncodes_over : Rows.msgEncodesRow.holds Tryz.pinned (OpenSpec.ofChange Rows.msgEncodesSpec) :=
 OpenClaim.holds_of_wide 3 Tryz.f3 rfl rfl rfl rfl rfl rfl rfl ⟨rfl, rfl, rfl, rfl, rfl⟩ rfl rfl rfl rfl rfl (by kernel_rfl) Tryz.func3 (by kernel_rfl)
   (of_decide_eq_true (by kernel_rfl)) (by unfold Func.isWrapper; first | (rw [if_pos (by decide +kernel)]; kernel_rfl) | (rw [if_neg (by decide +kernel)]; exact ⟨rfl, rfl⟩))
   (fun os started H enc _ => msgEncodes_lifted os started H enc)
theorem msgEncodes_holds : Rows.MsgEncodesSaid := msgEncodes_over
end Go.Proofs.YtcccfbjkcahgfaaGreat
