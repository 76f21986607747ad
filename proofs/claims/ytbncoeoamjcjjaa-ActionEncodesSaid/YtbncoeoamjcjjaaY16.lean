/- ActionEncodes: any action's bytes, whether any field may be set, and whether two are the same, is what the document says, or refused. -/
import Derived.Test.YtbncoeoamjcjjaaWk2
import Derived.Test.YtbncoeoamjcjjaaWk8
set_option linter.all false
set_option linter.unnecessarySimpa false
set_option linter.unusedVariables false
set_option linter.unusedSimpArgs false
namespace Go.Proofs.Ytbncoeoamjcjjaa
open Go Go.AI Go.Proofs Go.Proofs.Ytbncoeoamjcjjaa Go.ChangeShapes Go.WideShapes Go.ChangeAt Go.RowKit
set_option maxHeartbeats 4000000 in
set_option maxRecDepth 100000 in
theorem actionEncodes_lifted (os : Os) (started : os.Started) (H : Type) (enc : TypeId × Value → H) :
    ReturnsInHanded {} Try.checked os 5 .any (Rows.actionEncodesSpec.pre6 enc Try.prog Try.f5 Rows.actionEncodesRow.domain false) (Rows.actionEncodesSpec.post enc Try.prog Try.f5 false true false false) := by
  refine law_lifted (C := Try.checked) (tb := 4) law_own started (by kernel_rfl) Try.func5
    (ChangeSpec.witness6 (enc := enc) (C := Try.checked) false ⟨#[], #[.agg zeroAction, .agg zeroAction, .int .i64 0], []⟩ 8 (by kernel_rfl) (by kernel_rfl) (by kernel_rfl) (by kernel_rfl)) law_laid (by kernel_rfl)
    (by rw [Try.params5]; exact (RdVs.cons rdvAction (RdVs.cons rdvAction (RdVs.cons rdvInt RdVs.nil)))) rfl ?_ (by kernel_rfl) Try.underlying4 ?_
  · intro ds hl
    rw [Try.params5] at hl
    match ds, hl with
    | [d0, d1, d2], _ => exact ⟨rfl, rfl, rfl⟩
  · intro xs hxs
    obtain ⟨x, y, z, rfl, ⟨a, rfl⟩, ⟨b, rfl⟩, ⟨f, rfl⟩⟩ := allP3 hxs; exact actionEncodes_c a b f
theorem actionEncodes_over : Rows.actionEncodesRow.holds Try.pinned (OpenSpec.ofChange Rows.actionEncodesSpec) :=
  OpenClaim.holds_of_wide 5 Try.f5 rfl rfl rfl rfl rfl rfl rfl ⟨rfl, rfl, rfl, rfl, rfl⟩ rfl rfl rfl rfl rfl (by kernel_rfl) Try.func5 (by kernel_rfl)
    (of_decide_eq_true (by kernel_rfl)) (by unfold Func.isWrapper; first | (rw [if_pos (by decide +kernel)]; kernel_rfl) | (rw [if_neg (by decide +kernel)]; exact ⟨rfl, rfl⟩))
    (fun os started H enc _ => actionEncodes_lifted os started H enc)
/-- the statement -/
theorem actionEncodes_holds : Rows.ActionEncodesSaid := actionEncodes_over
end Go.Proofs.Ytbncoeoamjcjjaa
