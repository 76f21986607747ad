/- InstEncodes: any instructions' bytes, the first one of any kind, and whether two lists are the same, is what the document says, or refused. -/
import Derived.Test.YteonfhnljphbpaaGreatWk9
import Derived.Test.YteonfhnljphbpaaGreatWk12
set_option linter.all false
set_option linter.unnecessarySimpa false
set_option linter.unusedVariables false
set_option linter.unusedSimpArgs false
namespace Go.Proofs.YteonfhnljphbpaaGreat
open Go Go.AI Go.Proofs Go.Proofs.YteonfhnljphbpaaGreat Go.ChangeShapes Go.WideShapes Go.ChangeAt Go.RowKit
set_option maxHeartbeats 4000000 in
set_option maxRecDepth 100000 in
theorem instEncodes_lifted (os : Os) (started : os.Started) (H : Type) (enc : TypeId × Value → H) :
    ReturnsInHanded {} Tryz.checked os 6 .any (Rows.instEncodesSpec.pre6 enc Tryz.prog Tryz.f6 Rows.instEncodesRow.domain false) (Rows.instEncodesSpec.post enc Tryz.prog Tryz.f6 false true false false) := by
  refine law_lifted (C := Tryz.checked) (tb := 4) law_own started (by kernel_rfl) Tryz.func6
    (ChangeSpec.witness6 (enc := enc) (C := Tryz.checked) false ⟨#[], #[.slice none 0 0, .slice none 0 0, .int .i64 0], []⟩ 8 (by kernel_rfl) (by kernel_rfl) (by kernel_rfl) (by kernel_rfl)) law_laid (by kernel_rfl)
    (by rw [Tryz.params6]; exact (RdVs.cons rdvInsts (RdVs.cons rdvInsts (RdVs.cons rdvInt RdVs.nil)))) rfl ?_ (by kernel_rfl) Tryz.underlying4 ?_
  · intro ds hl
    rw [Tryz.params6] at hl
    match ds, hl with
    | [d0, d1, d2], _ => exact ⟨rfl, rfl, rfl⟩
  · intro xs hxs
    obtain ⟨x, y, z, rfl, ⟨a, rfl⟩, ⟨b, rfl⟩, ⟨n, rfl⟩⟩ := allP3 hxs; exact instEncodes_c a b n
theorem instEncodes_over : Rows.instEncodesRow.holds Tryz.pinned (OpenSpec.ofChange Rows.instEncodesSpec) :=
  OpenClaim.holds_of_wide 6 Tryz.f6 rfl rfl rfl rfl rfl rfl rfl ⟨rfl, rfl, rfl, rfl, rfl⟩ rfl rfl rfl rfl rfl (by kernel_rfl) Tryz.func6 (by kernel_rfl)
    (of_decide_eq_true (by kernel_rfl)) (by unfold Func.isWrapper; first | (rw [if_pos (by decide +kernel)]; kernel_rfl) | (rw [if_neg (by decide +kernel)]; exact ⟨rfl, rfl⟩))
    (fun os started H enc _ => instEncodes_lifted os started H enc)
/-- the statement -/
theorem instEncodes_holds : Rows.InstEncodesSaid := instEncodes_over
end Go.Proofs.YteonfhnljphbpaaGreat
