/- FlowmodEncodes: any change's bytes, what is wrong with it, and whether two are the same, is what the document says, or refused. -/
import Derived.Test.YtiifjagnhnchoaaGreatWk3
import Derived.Test.YtiifjagnhnchoaaGreatDa
import Derived.Test.YtiifjagnhnchoaaGreatWk7
import Derived.Test.YtiifjagnhnchoaaGreatWk12
set_option linter.all false
set_option linter.unnecessarySimpa false
set_option linter.unusedVariables false
set_option linter.unusedSimpArgs false
namespace Go.Proofs.YtiifjagnhnchoaaGreat
open Go Go.AI Go.Proofs Go.Proofs.YtiifjagnhnchoaaGreat Go.ChangeShapes Go.WideShapes Go.ChangeAt Go.RowKit
set_option maxHeartbeats 4000000 in
set_option maxRecDepth 100000 in
theorem flowmodEncodes_lifted (os : Os) (started : os.Started) (H : Type) (enc : TypeId × Value → H) :
    ReturnsInHanded {} Tryz.checked os 4 .any (Rows.flowmodEncodesSpec.pre6 enc Tryz.prog Tryz.f4 Rows.flowmodEncodesRow.domain false) (Rows.flowmodEncodesSpec.post enc Tryz.prog Tryz.f4 false true false false) := by
  refine law_lifted (C := Tryz.checked) (tb := 4) law_own started (by kernel_rfl) Tryz.func4
    (ChangeSpec.witness6 (enc := enc) (C := Tryz.checked) false ⟨#[], #[.agg zeroFlowMod, .agg zeroFlowMod], []⟩ 8 (by kernel_rfl) (by kernel_rfl) (by kernel_rfl) (by kernel_rfl)) law_laid (by kernel_rfl)
    (by rw [Tryz.params4]; exact (RdVs.cons rdvFlowMod (RdVs.cons rdvFlowMod RdVs.nil))) rfl ?_ (by kernel_rfl) Tryz.underlying4 ?_
  · intro ds hl
    rw [Tryz.params4] at hl
    match ds, hl with
    | [d0, d1], _ => exact ⟨rfl, rfl, rfl⟩
  · intro xs hxs
    obtain ⟨x, y, rfl, ⟨m, rfl⟩, ⟨n, rfl⟩⟩ := allP2 hxs; exact flowmodEncodes_c m n
theorem flowmodEncodes_over : Rows.flowmodEncodesRow.holds Tryz.pinned (OpenSpec.ofChange Rows.flowmodEncodesSpec) :=
  OpenClaim.holds_of_wide 4 Tryz.f4 rfl rfl rfl rfl rfl rfl rfl ⟨rfl, rfl, rfl, rfl, rfl⟩ rfl rfl rfl rfl rfl (by kernel_rfl) Tryz.func4 (by kernel_rfl)
    (of_decide_eq_true (by kernel_rfl)) (by unfold Func.isWrapper; first | (rw [if_pos (by decide +kernel)]; kernel_rfl) | (rw [if_neg (by decide +kernel)]; exact ⟨rfl, rfl⟩))
    (fun os started H enc _ => flowmodEncodes_lifted os started H enc)
/-- the statement -/
theorem flowmodEncodes_holds : Rows.FlowmodEncodesSaid := flowmodEncodes_over
end Go.Proofs.YtiifjagnhnchoaaGreat
