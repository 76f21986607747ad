/- FirstHighest: a flow that has a header is of no higher priority than the one that is found, and of the same one not ahead of it; if none is found none has it. -/
import Derived.Test.YtfgmjnmkcobhkaaL2
import Derived.Test.YtfgmjnmkcobhkaaW22
set_option linter.all false
set_option linter.unnecessarySimpa false
set_option linter.unusedVariables false
set_option linter.unusedSimpArgs false
namespace Go.Proofs.Ytfgmjnmkcobhkaa
open Go Go.AI Go.Proofs Go.Proofs.Ytfgmjnmkcobhkaa Go.ChangeShapes Go.WideShapes Go.ChangeAt Go.RowKit
set_option maxHeartbeats 4000000 in
set_option maxRecDepth 100000 in
theorem firstHighest_lifted (os : Os) (started : os.Started) (H : Type) (enc : TypeId × Value → H) :
    ReturnsInHanded {} Try.checked os 12 .any (Rows.firstHighestSpec.pre6 enc Try.prog Try.f12 Rows.firstHighestRow.domain false) (Rows.firstHighestSpec.post enc Try.prog Try.f12 false true false false) := by
  refine law_lifted (C := Try.checked) (tb := 4) law_own started (by kernel_rfl) Try.func12
    (ChangeSpec.witness6 (enc := enc) (C := Try.checked) false ⟨#[], #[.slice none 0 0, .agg (zeroCells 48)], []⟩ 8 (by kernel_rfl) (by kernel_rfl) (by kernel_rfl) (by kernel_rfl)) law_laid (by kernel_rfl)
    (by rw [Try.params12]; exact (RdVs.cons rdvFlows (RdVs.cons rdvHeader RdVs.nil))) rfl ?_ (by kernel_rfl) Try.underlying4 ?_
  · intro ds hl
    rw [Try.params12] at hl
    match ds, hl with
    | [d0, d1], _ => exact ⟨rfl, rfl, rfl⟩
  · intro xs hxs
    match xs, hxs with | [_, _], ⟨⟨l, rfl⟩, ⟨h, rfl⟩, _⟩ => exact firstHighest_c l h
theorem firstHighest_over : Rows.firstHighestRow.holds Try.pinned (OpenSpec.ofChange Rows.firstHighestSpec) :=
  OpenClaim.holds_of_wide 12 Try.f12 rfl rfl rfl rfl rfl rfl rfl ⟨rfl, rfl, rfl, rfl, rfl⟩ rfl rfl rfl rfl rfl (by kernel_rfl) Try.func12 (by kernel_rfl)
    (of_decide_eq_true (by kernel_rfl)) (by unfold Func.isWrapper; first | (rw [if_pos (by decide +kernel)]; kernel_rfl) | (rw [if_neg (by decide +kernel)]; exact ⟨rfl, rfl⟩))
    (fun os started H enc _ => firstHighest_lifted os started H enc)
/-- the statement -/
theorem firstHighest_holds : Rows.FirstHighestSaid := firstHighest_over
end Go.Proofs.Ytfgmjnmkcobhkaa
