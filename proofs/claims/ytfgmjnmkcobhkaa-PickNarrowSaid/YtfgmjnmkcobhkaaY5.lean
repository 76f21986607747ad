/- PickNarrow: what a strict command takes the other one takes, too; without a filter what is deleted is what is changed. -/
import Derived.Test.YtfgmjnmkcobhkaaL2
import Derived.Test.YtfgmjnmkcobhkaaW17
set_option linter.all false
set_option linter.unnecessarySimpa false
set_option linter.unusedVariables false
set_option linter.unusedSimpArgs false
namespace Go.Proofs.Ytfgmjnmkcobhkaa
open Go Go.AI Go.Proofs Go.Proofs.Ytfgmjnmkcobhkaa Go.ChangeShapes Go.WideShapes Go.ChangeAt Go.RowKit
set_option maxHeartbeats 4000000 in
set_option maxRecDepth 100000 in
theorem pickNarrow_lifted (os : Os) (started : os.Started) (H : Type) (enc : TypeId × Value → H) :
    ReturnsInHanded {} Try.checked os 8 .any (Rows.pickNarrowSpec.pre6 enc Try.prog Try.f8 Rows.pickNarrowRow.domain false) (Rows.pickNarrowSpec.post enc Try.prog Try.f8 false true false false) := by
  refine law_lifted (C := Try.checked) (tb := 4) law_own started (by kernel_rfl) Try.func8
    (ChangeSpec.witness6 (enc := enc) (C := Try.checked) false ⟨#[], #[.agg zeroFlow, .agg zeroFlowMod], []⟩ 8 (by kernel_rfl) (by kernel_rfl) (by kernel_rfl) (by kernel_rfl)) law_laid (by kernel_rfl)
    (by rw [Try.params8]; exact (RdVs.cons rdvFlow (RdVs.cons rdvFlowMod RdVs.nil))) rfl ?_ (by kernel_rfl) Try.underlying4 ?_
  · intro ds hl
    rw [Try.params8] at hl
    match ds, hl with
    | [d0, d1], _ => exact ⟨rfl, rfl, rfl⟩
  · intro xs hxs
    match xs, hxs with | [_, _], ⟨⟨f, rfl⟩, ⟨m, rfl⟩, _⟩ => exact pickNarrow_c f m
theorem pickNarrow_over : Rows.pickNarrowRow.holds Try.pinned (OpenSpec.ofChange Rows.pickNarrowSpec) :=
  OpenClaim.holds_of_wide 8 Try.f8 rfl rfl rfl rfl rfl rfl rfl ⟨rfl, rfl, rfl, rfl, rfl⟩ rfl rfl rfl rfl rfl (by kernel_rfl) Try.func8 (by kernel_rfl)
    (of_decide_eq_true (by kernel_rfl)) (by unfold Func.isWrapper; first | (rw [if_pos (by decide +kernel)]; kernel_rfl) | (rw [if_neg (by decide +kernel)]; exact ⟨rfl, rfl⟩))
    (fun os started H enc _ => pickNarrow_lifted os started H enc)
/-- the statement -/
theorem pickNarrow_holds : Rows.PickNarrowSaid := pickNarrow_over
end Go.Proofs.Ytfgmjnmkcobhkaa
