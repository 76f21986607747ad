/- TableAdds: behind an addition that is done just one flow is alike it. -/
import Derived.Test.YtbncoeoamjcjjaaGreatL2
import Derived.Test.YtbncoeoamjcjjaaGreatW42
set_option linter.all false
set_option linter.unnecessarySimpa false
set_option linter.unusedVariables false
set_option linter.unusedSimpArgs false
namespace Go.Proofs.YtbncoeoamjcjjaaGreat
open Go Go.AI Go.Proofs Go.Proofs.YtbncoeoamjcjjaaGreat Go.ChangeShapes Go.WideShapes Go.ChangeAt Go.RowKit
set_option maxHeartbeats 4000000 in
set_option maxRecDepth 100000 in
theorem tableAdds_lifted (os : Os) (started : os.Started) (H : Type) (enc : TypeId × Value → H) :
    ReturnsInHanded {} Tryz.checked os 4 .any (Rows.tableAddsSpec.pre6 enc Tryz.prog Tryz.f4 Rows.tableAddsRow.domain false) (Rows.tableAddsSpec.post enc Tryz.prog Tryz.f4 false true false false) := by
  refine law_lifted (C := Tryz.checked) (tb := 4) law_own started (by kernel_rfl) Tryz.func4
    (ChangeSpec.witness6 (enc := enc) (C := Tryz.checked) false ⟨#[], #[.slice none 0 0, .agg zeroFlowMod], []⟩ 8 (by kernel_rfl) (by kernel_rfl) (by kernel_rfl) (by kernel_rfl)) law_laid (by kernel_rfl)
    (by rw [Tryz.params4]; exact (RdVs.cons rdvFlows (RdVs.cons rdvFlowMod RdVs.nil))) rfl ?_ (by kernel_rfl) Tryz.underlying4 ?_
  · intro ds hl
    rw [Tryz.params4] at hl
    match ds, hl with
    | [d0, d1], _ => exact ⟨rfl, rfl, rfl⟩
  · intro xs hxs
    match xs, hxs with | [_, _], ⟨⟨l, rfl⟩, ⟨m, rfl⟩, _⟩ => exact tableAdds_c l m
theorem tableAdds_over : Rows.tableAddsRow.holds Tryz.pinned (OpenSpec.ofChange Rows.tableAddsSpec) :=
  OpenClaim.holds_of_wide 4 Tryz.f4 rfl rfl rfl rfl rfl rfl rfl ⟨rfl, rfl, rfl, rfl, rfl⟩ rfl rfl rfl rfl rfl (by kernel_rfl) Tryz.func4 (by kernel_rfl)
    (of_decide_eq_true (by kernel_rfl)) (by unfold Func.isWrapper; first | (rw [if_pos (by decide +kernel)]; kernel_rfl) | (rw [if_neg (by decide +kernel)]; exact ⟨rfl, rfl⟩))
    (fun os started H enc _ => tableAdds_lifted os started H enc)
/-- the statement -/
theorem tableAdds_holds : Rows.TableAddsSaid := tableAdds_over
end Go.Proofs.YtbncoeoamjcjjaaGreat
