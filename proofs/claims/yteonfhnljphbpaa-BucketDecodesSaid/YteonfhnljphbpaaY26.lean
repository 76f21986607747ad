/- BucketDecodes: any bytes' buckets are what the document says, or the fault. -/
import Derived.Test.YteonfhnljphbpaaWk2
import Derived.Test.YteonfhnljphbpaaDa
import Derived.Test.YteonfhnljphbpaaWk10
import Derived.Test.YteonfhnljphbpaaWk13
set_option linter.all false
set_option linter.unnecessarySimpa false
set_option linter.unusedVariables false
set_option linter.unusedSimpArgs false
namespace Go.Proofs.Yteonfhnljphbpaa
open Go Go.AI Go.Proofs Go.Proofs.Yteonfhnljphbpaa Go.ChangeShapes Go.WideShapes Go.ChangeAt Go.RowKit
set_option maxHeartbeats 4000000 in
set_option maxRecDepth 100000 in
theorem bucketDecodes_lifted (os : Os) (started : os.Started) (H : Type) (enc : TypeId × Value → H) :
    ReturnsInHanded {} Try.checked os 6 .any (Rows.bucketDecodesSpec.pre6 enc Try.prog Try.f6 Rows.bucketDecodesRow.domain false) (Rows.bucketDecodesSpec.post enc Try.prog Try.f6 false true false false) := by
  refine law_lifted (C := Try.checked) (tb := 4) law_own started (by kernel_rfl) Try.func6
    (ChangeSpec.witness6 (enc := enc) (C := Try.checked) false ⟨#[], #[.slice none 0 0], []⟩ 8 (by kernel_rfl) (by kernel_rfl) (by kernel_rfl) (by kernel_rfl)) law_laid (by kernel_rfl)
    (by rw [Try.params6]; exact (RdVs.cons rdvBytes RdVs.nil)) rfl ?_ (by kernel_rfl) Try.underlying4 ?_
  · intro ds hl
    rw [Try.params6] at hl
    match ds, hl with
    | [d0], _ => exact ⟨rfl, rfl, rfl⟩
  · intro xs hxs
    obtain ⟨x, rfl, ⟨b, rfl⟩⟩ := allP1 hxs; rw [byL_flat]; exact bucketDecodes_c b
theorem bucketDecodes_over : Rows.bucketDecodesRow.holds Try.pinned (OpenSpec.ofChange Rows.bucketDecodesSpec) :=
  OpenClaim.holds_of_wide 6 Try.f6 rfl rfl rfl rfl rfl rfl rfl ⟨rfl, rfl, rfl, rfl, rfl⟩ rfl rfl rfl rfl rfl (by kernel_rfl) Try.func6 (by kernel_rfl)
    (of_decide_eq_true (by kernel_rfl)) (by unfold Func.isWrapper; first | (rw [if_pos (by decide +kernel)]; kernel_rfl) | (rw [if_neg (by decide +kernel)]; exact ⟨rfl, rfl⟩))
    (fun os started H enc _ => bucketDecodes_lifted os started H enc)
/-- the statement -/
theorem bucketDecodes_holds : Rows.BucketDecodesSaid := bucketDecodes_over
end Go.Proofs.Yteonfhnljphbpaa
