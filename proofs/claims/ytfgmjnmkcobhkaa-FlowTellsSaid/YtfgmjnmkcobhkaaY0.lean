/- FlowTells: the law of the document's chapter 21 on any two flows and a cube. -/
import Derived.Test.YtfgmjnmkcobhkaaL2
import Derived.Test.YtfgmjnmkcobhkaaW12
set_option linter.all false
set_option linter.unnecessarySimpa false
set_option linter.unusedVariables false
set_option linter.unusedSimpArgs false
namespace Go.Proofs.Ytfgmjnmkcobhkaa
open Go Go.AI Go.Proofs Go.Proofs.Ytfgmjnmkcobhkaa Go.ChangeShapes Go.WideShapes Go.ChangeAt Go.RowKit
set_option maxRecDepth 100000 in
theorem flowTells_lifted (os : Os) (started : os.Started) (H : Type) (enc : TypeId × Value → H) :
    ReturnsInHanded {} Try.checked os 3 .any (Rows.flowTellsSpec.pre6 enc Try.prog Try.f3 Rows.flowTellsRow.domain false) (Rows.flowTellsSpec.post enc Try.prog Try.f3 false true false false) := by
  refine law_lifted (C := Try.checked) (tb := 4) law_own started (by kernel_rfl) Try.func3
    (ChangeSpec.witness6 (enc := enc) (C := Try.checked) false ⟨#[], #[.agg zeroFlow, .agg zeroFlow, .agg (zeroCells 96)], []⟩ 8 (by kernel_rfl) (by kernel_rfl) (by kernel_rfl) (by kernel_rfl)) law_laid (by kernel_rfl)
    (by rw [Try.params3]; exact (RdVs.cons rdvFlow (RdVs.cons rdvFlow (RdVs.cons rdvCube RdVs.nil)))) rfl ?_ (by kernel_rfl) Try.underlying4 ?_
  · intro ds hl
    rw [Try.params3] at hl
    match ds, hl with
    | [d0, d1, d2], _ => exact ⟨rfl, rfl, rfl⟩
  · intro xs hxs
    match xs, hxs with | [_, _, _], ⟨⟨a, rfl⟩, ⟨b, rfl⟩, ⟨c, rfl⟩, _⟩ => exact flowTells_c a b c
theorem flowTells_over : Rows.flowTellsRow.holds Try.pinned (OpenSpec.ofChange Rows.flowTellsSpec) :=
  OpenClaim.holds_of_wide 3 Try.f3 rfl rfl rfl rfl rfl rfl rfl ⟨rfl, rfl, rfl, rfl, rfl⟩ rfl rfl rfl rfl rfl (by kernel_rfl) Try.func3 (by kernel_rfl)
    (of_decide_eq_true (by kernel_rfl)) (by unfold Func.isWrapper; first | (rw [if_pos (by decide +kernel)]; kernel_rfl) | (rw [if_neg (by decide +kernel)]; exact ⟨rfl, rfl⟩))
    (fun os started H enc _ => flowTells_lifted os started H enc)
/-- the statement -/
theorem flowTells_holds : Rows.FlowTellsSaid := flowTells_over
end Go.Proofs.Ytfgmjnmkcobhkaa
