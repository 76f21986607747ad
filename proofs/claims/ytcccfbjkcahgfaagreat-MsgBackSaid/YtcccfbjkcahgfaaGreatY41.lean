/- MsgBack: a message is read from its bytes; what is read has just these bytes. -/
import Derived.Test.YtcccfbjkcahgfaaGreatWk9
import Derived.Test.YtcccfbjkcahgfaaGreatWk12
set_option linter.all false
set_option linter.unnecessarySimpa false
set_option linter.unusedVariables false
set_option linter.unusedSimpArgs false
namespace Go.Proofs.YtcccfbjkcahgfaaGreat
open Go Go.AI Go.Proofs Go.Proofs.YtcccfbjkcahgfaaGreat Go.ChangeShapes Go.WideShapes Go.ChangeAt Go.RowKit
set_option maxHeartbeats 4000000 in
set_option maxRecDepth 100000 in
theorem msgBack_lifted (os : Os) (started : os.Started) (H : Type) (enc : TypeId × Value → H) :
    ReturnsInHanded {} Tryz.checked os 5 .any (Rows.msgBackSpec.pre6 enc Tryz.prog Tryz.f5 Rows.msgBackRow.domain false) (Rows.msgBackSpec.post enc Tryz.prog Tryz.f5 false true false false) := by
  refine law_lifted (C := Tryz.checked) (tb := 4) law_own started (by kernel_rfl) Tryz.func5
    (ChangeSpec.witness6 (enc := enc) (C := Tryz.checked) false ⟨#[], #[.agg zeroMsg, .slice none 0 0], []⟩ 8 (by kernel_rfl) (by kernel_rfl) (by kernel_rfl) (by kernel_rfl)) law_laid (by kernel_rfl)
    (by rw [Tryz.params5]; exact (RdVs.cons rdvMsg (RdVs.cons rdvBytes RdVs.nil))) rfl ?_ (by kernel_rfl) Tryz.underlying4 ?_
  · intro ds hl
    rw [Tryz.params5] at hl
    match ds, hl with
    | [d0, d1], _ => exact ⟨rfl, rfl, rfl⟩
  · intro xs hxs
    obtain ⟨x, y, rfl, ⟨m, rfl⟩, ⟨b, rfl⟩⟩ := allP2 hxs; rw [byL_flat]; exact msgBack_c m b
theorem msgBack_over : Rows.msgBackRow.holds Tryz.pinned (OpenSpec.ofChange Rows.msgBackSpec) :=
  OpenClaim.holds_of_wide 5 Tryz.f5 rfl rfl rfl rfl rfl rfl rfl ⟨rfl, rfl, rfl, rfl, rfl⟩ rfl rfl rfl rfl rfl (by kernel_rfl) Tryz.func5 (by kernel_rfl)
    (of_decide_eq_true (by kernel_rfl)) (by unfold Func.isWrapper; first | (rw [if_pos (by decide +kernel)]; kernel_rfl) | (rw [if_neg (by decide +kernel)]; exact ⟨rfl, rfl⟩))
    (fun os started H enc _ => msgBack_lifted os started H enc)
/-- the statement -/
theorem msgBack_holds : Rows.MsgBackSaid := msgBack_over
end Go.Proofs.YtcccfbjkcahgfaaGreat
