/- FlowmodBack: a change is read from its bytes; what is read has just these bytes. -/
import Derived.Test.YtibaiiibjnnlkaaWk2
import Derived.Test.YtibaiiibjnnlkaaDa
import Derived.Test.YtibaiiibjnnlkaaWk5
import Derived.Test.YtibaiiibjnnlkaaWk11
set_option linter.all false
set_option linter.unnecessarySimpa false
set_option linter.unusedVariables false
set_option linter.unusedSimpArgs false
namespace Go.Proofs.Ytibaiiibjnnlkaa
open Go Go.AI Go.Proofs Go.Proofs.Ytibaiiibjnnlkaa Go.ChangeShapes Go.WideShapes Go.ChangeAt Go.RowKit
set_option maxHeartbeats 4000000 in
set_option maxRecDepth 100000 in
theorem flowmodBack_lifted (os : Os) (started : os.Started) (H : Type) (enc : TypeId × Value → H) :
    ReturnsInHanded {} Try.checked os 3 .any (Rows.flowmodBackSpec.pre6 enc Try.prog Try.f3 Rows.flowmodBackRow.domain false) (Rows.flowmodBackSpec.post enc Try.prog Try.f3 false true false false) := by
  refine law_lifted (C := Try.checked) (tb := 4) law_own started (by kernel_rfl) Try.func3
    (ChangeSpec.witness6 (enc := enc) (C := Try.checked) false ⟨#[], #[.agg zeroFlowMod, .slice none 0 0], []⟩ 8 (by kernel_rfl) (by kernel_rfl) (by kernel_rfl) (by kernel_rfl)) law_laid (by kernel_rfl)
    (by rw [Try.params3]; exact (RdVs.cons rdvFlowMod (RdVs.cons rdvBytes RdVs.nil))) rfl ?_ (by kernel_rfl) Try.underlying4 ?_
  · intro ds hl
    rw [Try.params3] at hl
    match ds, hl with
    | [d0, d1], _ => exact ⟨rfl, rfl, rfl⟩
  · intro xs hxs
    obtain ⟨x, y, rfl, ⟨m, rfl⟩, ⟨b, rfl⟩⟩ := allP2 hxs; rw [byL_flat]; exact flowmodBack_c m b
theorem flowmodBack_over : Rows.flowmodBackRow.holds Try.pinned (OpenSpec.ofChange Rows.flowmodBackSpec) :=
  OpenClaim.holds_of_wide 3 Try.f3 rfl rfl rfl rfl rfl rfl rfl ⟨rfl, rfl, rfl, rfl, rfl⟩ rfl rfl rfl rfl rfl (by kernel_rfl) Try.func3 (by kernel_rfl)
    (of_decide_eq_true (by kernel_rfl)) (by unfold Func.isWrapper; first | (rw [if_pos (by decide +kernel)]; kernel_rfl) | (rw [if_neg (by decide +kernel)]; exact ⟨rfl, rfl⟩))
    (fun os started H enc _ => flowmodBack_lifted os started H enc)
/-- the statement -/
theorem flowmodBack_holds : Rows.FlowmodBackSaid := flowmodBack_over
end Go.Proofs.Ytibaiiibjnnlkaa
