/- BucketEncodes: any buckets' bytes, and whether two lists are the same, is what the document says, or refused. -/
import Derived.Test.YteonfhnljphbpaaWk9
import Derived.Test.YteonfhnljphbpaaWk11
set_option linter.all false
set_option linter.unnecessarySimpa false
set_option linter.unusedVariables false
set_option linter.unusedSimpArgs false
namespace Go.Proofs.Yteonfhnljphbpaa
open Go Go.AI Go.Proofs Go.Proofs.Yteonfhnljphbpaa Go.ChangeShapes Go.WideShapes Go.ChangeAt Go.RowKit
set_option maxHeartbeats 4000000 in
set_option maxRecDepth 100000 in
theorem bucketEncodes_lifted (os : Os) (started : os.Started) (H : Type) (enc : TypeId × Value → H) :
    ReturnsInHanded {} Try.checked os 7 .any (Rows.bucketEncodesSpec.pre6 enc Try.prog Try.f7 Rows.bucketEncodesRow.domain false) (Rows.bucketEncodesSpec.post enc Try.prog Try.f7 false true false false) := by
  refine law_lifted (C := Try.checked) (tb := 4) law_own started (by kernel_rfl) Try.func7
    (ChangeSpec.witness6 (enc := enc) (C := Try.checked) false ⟨#[], #[.slice none 0 0, .slice none 0 0], []⟩ 8 (by kernel_rfl) (by kernel_rfl) (by kernel_rfl) (by kernel_rfl)) law_laid (by kernel_rfl)
    (by rw [Try.params7]; exact (RdVs.cons rdvBuckets (RdVs.cons rdvBuckets RdVs.nil))) rfl ?_ (by kernel_rfl) Try.underlying4 ?_
  · intro ds hl
    rw [Try.params7] at hl
    match ds, hl with
    | [d0, d1], _ => exact ⟨rfl, rfl, rfl⟩
  · intro xs hxs
    obtain ⟨x, y, rfl, ⟨a, rfl⟩, ⟨b, rfl⟩⟩ := allP2 hxs; exact bucketEncodes_c a b
theorem bucketEncodes_over : Rows.bucketEncodesRow.holds Try.pinned (OpenSpec.ofChange Rows.bucketEncodesSpec) :=
  OpenClaim.holds_of_wide 7 Try.f7 rfl rfl rfl rfl rfl rfl rfl ⟨rfl, rfl, rfl, rfl, rfl⟩ rfl rfl rfl rfl rfl (by kernel_rfl) Try.func7 (by kernel_rfl)
    (of_decide_eq_true (by kernel_rfl)) (by unfold Func.isWrapper; first | (rw [if_pos (by decide +kernel)]; kernel_rfl) | (rw [if_neg (by decide +kernel)]; exact ⟨rfl, rfl⟩))
    (fun os started H enc _ => bucketEncodes_lifted os started H enc)
/-- the statement -/
theorem bucketEncodes_holds : Rows.BucketEncodesSaid := bucketEncodes_over
end Go.Proofs.Yteonfhnljphbpaa
