/- FlowOf: the flow of any change is what the document says. -/
import Derived.Test.YtfgmjnmkcobhkaaL2
import Derived.Test.YtfgmjnmkcobhkaaW13
set_option linter.all false
set_option linter.unnecessarySimpa false
set_option linter.unusedVariables false
set_option linter.unusedSimpArgs false
namespace Go.Proofs.Ytfgmjnmkcobhkaa
open Go Go.AI Go.Proofs Go.Proofs.Ytfgmjnmkcobhkaa Go.ChangeShapes Go.WideShapes Go.ChangeAt Go.RowKit
set_option maxRecDepth 100000 in
theorem flowOf_lifted (os : Os) (started : os.Started) (H : Type) (enc : TypeId × Value → H) :
    ReturnsInHanded {} Try.checked os 4 .any (Rows.flowOfSpec.pre6 enc Try.prog Try.f4 Rows.flowOfRow.domain false) (Rows.flowOfSpec.post enc Try.prog Try.f4 false true false false) := by
  refine law_lifted (C := Try.checked) (tb := 4) law_own started (by kernel_rfl) Try.func4
    (ChangeSpec.witness6 (enc := enc) (C := Try.checked) false ⟨#[], #[.agg zeroFlowMod], []⟩ 8 (by kernel_rfl) (by kernel_rfl) (by kernel_rfl) (by kernel_rfl)) law_laid (by kernel_rfl)
    (by rw [Try.params4]; exact (RdVs.cons rdvFlowMod RdVs.nil)) rfl ?_ (by kernel_rfl) Try.underlying4 ?_
  · intro ds hl
    rw [Try.params4] at hl
    match ds, hl with
    | [d0], _ => exact ⟨rfl, rfl, rfl⟩
  · intro xs hxs
    match xs, hxs with | [_], ⟨⟨m, rfl⟩, _⟩ => exact flowOf_c m
theorem flowOf_over : Rows.flowOfRow.holds Try.pinned (OpenSpec.ofChange Rows.flowOfSpec) :=
  OpenClaim.holds_of_wide 4 Try.f4 rfl rfl rfl rfl rfl rfl rfl ⟨rfl, rfl, rfl, rfl, rfl⟩ rfl rfl rfl rfl rfl (by kernel_rfl) Try.func4 (by kernel_rfl)
    (of_decide_eq_true (by kernel_rfl)) (by unfold Func.isWrapper; first | (rw [if_pos (by decide +kernel)]; kernel_rfl) | (rw [if_neg (by decide +kernel)]; exact ⟨rfl, rfl⟩))
    (fun os started H enc _ => flowOf_lifted os started H enc)
/-- the statement -/
theorem flowOf_holds : Rows.FlowOfSaid := flowOf_over
end Go.Proofs.Ytfgmjnmkcobhkaa
