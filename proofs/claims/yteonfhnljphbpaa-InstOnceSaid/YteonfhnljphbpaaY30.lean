/- InstOnce: what was read has no kind twice. -/
import Derived.Test.YteonfhnljphbpaaWk2
import Derived.Test.YteonfhnljphbpaaDa
import Derived.Test.YteonfhnljphbpaaWk6
import Derived.Test.YteonfhnljphbpaaWk9
set_option linter.all false
set_option linter.unnecessarySimpa false
set_option linter.unusedVariables false
set_option linter.unusedSimpArgs false
namespace Go.Proofs.Yteonfhnljphbpaa
open Go Go.AI Go.Proofs Go.Proofs.Yteonfhnljphbpaa Go.ChangeShapes Go.WideShapes Go.ChangeAt Go.RowKit
set_option maxHeartbeats 4000000 in
set_option maxRecDepth 100000 in
theorem instOnce_lifted (os : Os) (started : os.Started) (H : Type) (enc : TypeId × Value → H) :
    ReturnsInHanded {} Try.checked os 10 .any (Rows.instOnceSpec.pre6 enc Try.prog Try.f10 Rows.instOnceRow.domain false) (Rows.instOnceSpec.post enc Try.prog Try.f10 false true false false) := by
  refine law_lifted (C := Try.checked) (tb := 4) law_own started (by kernel_rfl) Try.func10
    (ChangeSpec.witness6 (enc := enc) (C := Try.checked) false ⟨#[], #[.slice none 0 0], []⟩ 8 (by kernel_rfl) (by kernel_rfl) (by kernel_rfl) (by kernel_rfl)) law_laid (by kernel_rfl)
    (by rw [Try.params10]; exact (RdVs.cons rdvBytes RdVs.nil)) rfl ?_ (by kernel_rfl) Try.underlying4 ?_
  · intro ds hl
    rw [Try.params10] at hl
    match ds, hl with
    | [d0], _ => exact ⟨rfl, rfl, rfl⟩
  · intro xs hxs
    obtain ⟨x, rfl, ⟨b, rfl⟩⟩ := allP1 hxs; rw [byL_flat]; exact instOnce_c b
theorem instOnce_over : Rows.instOnceRow.holds Try.pinned (OpenSpec.ofChange Rows.instOnceSpec) :=
  OpenClaim.holds_of_wide 10 Try.f10 rfl rfl rfl rfl rfl rfl rfl ⟨rfl, rfl, rfl, rfl, rfl⟩ rfl rfl rfl rfl rfl (by kernel_rfl) Try.func10 (by kernel_rfl)
    (of_decide_eq_true (by kernel_rfl)) (by unfold Func.isWrapper; first | (rw [if_pos (by decide +kernel)]; kernel_rfl) | (rw [if_neg (by decide +kernel)]; exact ⟨rfl, rfl⟩))
    (fun os started H enc _ => instOnce_lifted os started H enc)
/-- the statement -/
theorem instOnce_holds : Rows.InstOnceSaid := instOnce_over
end Go.Proofs.Yteonfhnljphbpaa
