/- GroupmodEncodes: any change's bytes, and whether two are the same, is what the document says, or refused. -/
import Derived.Test.YteonfhnljphbpaaGreatWk9
import Derived.Test.YteonfhnljphbpaaGreatWk12
set_option linter.all false
set_option linter.unnecessarySimpa false
set_option linter.unusedVariables false
set_option linter.unusedSimpArgs false
namespace Go.Proofs.YteonfhnljphbpaaGreat
open Go Go.AI Go.Proofs Go.Proofs.YteonfhnljphbpaaGreat Go.ChangeShapes Go.WideShapes Go.ChangeAt Go.RowKit
set_option maxHeartbeats 4000000 in
set_option maxRecDepth 100000 in
theorem groupmodEncodes_lifted (os : Os) (started : os.Started) (H : Type) (enc : TypeId × Value → H) :
    ReturnsInHanded {} Tryz.checked os 4 .any (Rows.groupmodEncodesSpec.pre6 enc Tryz.prog Tryz.f4 Rows.groupmodEncodesRow.domain false) (Rows.groupmodEncodesSpec.post enc Tryz.prog Tryz.f4 false true false false) := by
  refine law_lifted (C := Tryz.checked) (tb := 4) law_own started (by kernel_rfl) Tryz.func4
    (ChangeSpec.witness6 (enc := enc) (C := Tryz.checked) false ⟨#[], #[.agg zeroGroupMod, .agg zeroGroupMod], []⟩ 8 (by kernel_rfl) (by kernel_rfl) (by kernel_rfl) (by kernel_rfl)) law_laid (by kernel_rfl)
    (by rw [Tryz.params4]; exact (RdVs.cons rdvGroupMod (RdVs.cons rdvGroupMod RdVs.nil))) rfl ?_ (by kernel_rfl) Tryz.underlying4 ?_
  · intro ds hl
    rw [Tryz.params4] at hl
    match ds, hl with
    | [d0, d1], _ => exact ⟨rfl, rfl, rfl⟩
  · intro xs hxs
    obtain ⟨x, y, rfl, ⟨a, rfl⟩, ⟨b, rfl⟩⟩ := allP2 hxs; exact groupmodEncodes_c a b
theorem groupmodEncodes_over : Rows.groupmodEncodesRow.holds Tryz.pinned (OpenSpec.ofChange Rows.groupmodEncodesSpec) :=
  OpenClaim.holds_of_wide 4 Tryz.f4 rfl rfl rfl rfl rfl rfl rfl ⟨rfl, rfl, rfl, rfl, rfl⟩ rfl rfl rfl rfl rfl (by kernel_rfl) Tryz.func4 (by kernel_rfl)
    (of_decide_eq_true (by kernel_rfl)) (by unfold Func.isWrapper; first | (rw [if_pos (by decide +kernel)]; kernel_rfl) | (rw [if_neg (by decide +kernel)]; exact ⟨rfl, rfl⟩))
    (fun os started H enc _ => groupmodEncodes_lifted os started H enc)
/-- the statement -/
theorem groupmodEncodes_holds : Rows.GroupmodEncodesSaid := groupmodEncodes_over
end Go.Proofs.YteonfhnljphbpaaGreat
