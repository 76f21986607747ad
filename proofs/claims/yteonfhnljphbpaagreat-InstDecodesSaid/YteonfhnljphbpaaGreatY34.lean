/- InstDecodes: any bytes' instructions are what the document says, or the fault. -/
import Derived.Test.YteonfhnljphbpaaGreatWk3
import Derived.Test.YteonfhnljphbpaaGreatDa
import Derived.Test.YteonfhnljphbpaaGreatWk10
import Derived.Test.YteonfhnljphbpaaGreatWk14
set_option linter.all false
set_option linter.unnecessarySimpa false
set_option linter.unusedVariables false
set_option linter.unusedSimpArgs false
namespace Go.Proofs.YteonfhnljphbpaaGreat
open Go Go.AI Go.Proofs Go.Proofs.YteonfhnljphbpaaGreat Go.ChangeShapes Go.WideShapes Go.ChangeAt Go.RowKit
set_option maxHeartbeats 4000000 in
set_option maxRecDepth 100000 in
theorem instDecodes_lifted (os : Os) (started : os.Started) (H : Type) (enc : TypeId × Value → H) :
    ReturnsInHanded {} Tryz.checked os 5 .any (Rows.instDecodesSpec.pre6 enc Tryz.prog Tryz.f5 Rows.instDecodesRow.domain false) (Rows.instDecodesSpec.post enc Tryz.prog Tryz.f5 false true false false) := by
  refine law_lifted (C := Tryz.checked) (tb := 4) law_own started (by kernel_rfl) Tryz.func5
    (ChangeSpec.witness6 (enc := enc) (C := Tryz.checked) false ⟨#[], #[.slice none 0 0], []⟩ 8 (by kernel_rfl) (by kernel_rfl) (by kernel_rfl) (by kernel_rfl)) law_laid (by kernel_rfl)
    (by rw [Tryz.params5]; exact (RdVs.cons rdvBytes RdVs.nil)) rfl ?_ (by kernel_rfl) Tryz.underlying4 ?_
  · intro ds hl
    rw [Tryz.params5] at hl
    match ds, hl with
    | [d0], _ => exact ⟨rfl, rfl, rfl⟩
  · intro xs hxs
    obtain ⟨x, rfl, ⟨b, rfl⟩⟩ := allP1 hxs; rw [byL_flat]; exact instDecodes_c b
theorem instDecodes_over : Rows.instDecodesRow.holds Tryz.pinned (OpenSpec.ofChange Rows.instDecodesSpec) :=
  OpenClaim.holds_of_wide 5 Tryz.f5 rfl rfl rfl rfl rfl rfl rfl ⟨rfl, rfl, rfl, rfl, rfl⟩ rfl rfl rfl rfl rfl (by kernel_rfl) Tryz.func5 (by kernel_rfl)
    (of_decide_eq_true (by kernel_rfl)) (by unfold Func.isWrapper; first | (rw [if_pos (by decide +kernel)]; kernel_rfl) | (rw [if_neg (by decide +kernel)]; exact ⟨rfl, rfl⟩))
    (fun os started H enc _ => instDecodes_lifted os started H enc)
/-- the statement -/
theorem instDecodes_holds : Rows.InstDecodesSaid := instDecodes_over
end Go.Proofs.YteonfhnljphbpaaGreat
