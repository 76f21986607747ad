/- FlowmodDecodes: any bytes' change is what the document says, or the fault. -/
import Derived.Test.YtiifjagnhnchoaaGreatWk2
import Derived.Test.YtiifjagnhnchoaaGreatDa
import Derived.Test.YtiifjagnhnchoaaGreatWk8
import Derived.Test.YtiifjagnhnchoaaGreatWk14
set_option linter.all false
set_option linter.unnecessarySimpa false
set_option linter.unusedVariables false
set_option linter.unusedSimpArgs false
namespace Go.Proofs.YtiifjagnhnchoaaGreat
open Go Go.AI Go.Proofs Go.Proofs.YtiifjagnhnchoaaGreat Go.ChangeShapes Go.WideShapes Go.ChangeAt Go.RowKit
set_option maxHeartbeats 4000000 in
set_option maxRecDepth 100000 in
theorem flowmodDecodes_lifted (os : Os) (started : os.Started) (H : Type) (enc : TypeId × Value → H) :
    ReturnsInHanded {} Tryz.checked os 3 .any (Rows.flowmodDecodesSpec.pre6 enc Tryz.prog Tryz.f3 Rows.flowmodDecodesRow.domain false) (Rows.flowmodDecodesSpec.post enc Tryz.prog Tryz.f3 false true false false) := by
  refine law_lifted (C := Tryz.checked) (tb := 4) law_own started (by kernel_rfl) Tryz.func3
    (ChangeSpec.witness6 (enc := enc) (C := Tryz.checked) false ⟨#[], #[.slice none 0 0], []⟩ 8 (by kernel_rfl) (by kernel_rfl) (by kernel_rfl) (by kernel_rfl)) law_laid (by kernel_rfl)
    (by rw [Tryz.params3]; exact (RdVs.cons rdvBytes RdVs.nil)) rfl ?_ (by kernel_rfl) Tryz.underlying4 ?_
  · intro ds hl
    rw [Tryz.params3] at hl
    match ds, hl with
    | [d0], _ => exact ⟨rfl, rfl, rfl⟩
  · intro xs hxs
    obtain ⟨x, rfl, ⟨b, rfl⟩⟩ := allP1 hxs; rw [byL_flat]; exact flowmodDecodes_c b
theorem flowmodDecodes_over : Rows.flowmodDecodesRow.holds Tryz.pinned (OpenSpec.ofChange Rows.flowmodDecodesSpec) :=
  OpenClaim.holds_of_wide 3 Tryz.f3 rfl rfl rfl rfl rfl rfl rfl ⟨rfl, rfl, rfl, rfl, rfl⟩ rfl rfl rfl rfl rfl (by kernel_rfl) Tryz.func3 (by kernel_rfl)
    (of_decide_eq_true (by kernel_rfl)) (by unfold Func.isWrapper; first | (rw [if_pos (by decide +kernel)]; kernel_rfl) | (rw [if_neg (by decide +kernel)]; exact ⟨rfl, rfl⟩))
    (fun os started H enc _ => flowmodDecodes_lifted os started H enc)
/-- the statement -/
theorem flowmodDecodes_holds : Rows.FlowmodDecodesSaid := flowmodDecodes_over
end Go.Proofs.YtiifjagnhnchoaaGreat
