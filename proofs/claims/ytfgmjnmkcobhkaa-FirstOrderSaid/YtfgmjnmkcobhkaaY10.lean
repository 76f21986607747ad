/- FirstOrder: each place is told once, no flow ahead of one of a higher priority, or of one ahead of it of the same. -/
import Derived.Test.YtfgmjnmkcobhkaaL2
import Derived.Test.YtfgmjnmkcobhkaaW29
set_option linter.all false
set_option linter.unnecessarySimpa false
set_option linter.unusedVariables false
set_option linter.unusedSimpArgs false
namespace Go.Proofs.Ytfgmjnmkcobhkaa
open Go Go.AI Go.Proofs Go.Proofs.Ytfgmjnmkcobhkaa Go.ChangeShapes Go.WideShapes Go.ChangeAt Go.RowKit
set_option maxHeartbeats 4000000 in
set_option maxRecDepth 100000 in
theorem firstOrder_lifted (os : Os) (started : os.Started) (H : Type) (enc : TypeId × Value → H) :
    ReturnsInHanded {} Try.checked os 10 .any (Rows.firstOrderSpec.pre6 enc Try.prog Try.f10 Rows.firstOrderRow.domain false) (Rows.firstOrderSpec.post enc Try.prog Try.f10 false true false false) := by
  refine law_lifted (C := Try.checked) (tb := 4) law_own started (by kernel_rfl) Try.func10
    (ChangeSpec.witness6 (enc := enc) (C := Try.checked) false ⟨#[], #[.slice none 0 0], []⟩ 8 (by kernel_rfl) (by kernel_rfl) (by kernel_rfl) (by kernel_rfl)) law_laid (by kernel_rfl)
    (by rw [Try.params10]; exact (RdVs.cons rdvFlows RdVs.nil)) rfl ?_ (by kernel_rfl) Try.underlying4 ?_
  · intro ds hl
    rw [Try.params10] at hl
    match ds, hl with
    | [d0], _ => exact ⟨rfl, rfl, rfl⟩
  · intro xs hxs
    match xs, hxs with | [_], ⟨⟨l, rfl⟩, _⟩ => exact firstOrder_c l
theorem firstOrder_over : Rows.firstOrderRow.holds Try.pinned (OpenSpec.ofChange Rows.firstOrderSpec) :=
  OpenClaim.holds_of_wide 10 Try.f10 rfl rfl rfl rfl rfl rfl rfl ⟨rfl, rfl, rfl, rfl, rfl⟩ rfl rfl rfl rfl rfl (by kernel_rfl) Try.func10 (by kernel_rfl)
    (of_decide_eq_true (by kernel_rfl)) (by unfold Func.isWrapper; first | (rw [if_pos (by decide +kernel)]; kernel_rfl) | (rw [if_neg (by decide +kernel)]; exact ⟨rfl, rfl⟩))
    (fun os started H enc _ => firstOrder_lifted os started H enc)
/-- the statement -/
theorem firstOrder_holds : Rows.FirstOrderSaid := firstOrder_over
end Go.Proofs.Ytfgmjnmkcobhkaa
