/- AsetTells: any set, how it is done, and what fields get, is what the document says. -/
import Derived.Test.YtbncoeoamjcjjaaWk2
import Derived.Test.YtbncoeoamjcjjaaWk8
set_option linter.all false
set_option linter.unnecessarySimpa false
set_option linter.unusedVariables false
set_option linter.unusedSimpArgs false
namespace Go.Proofs.Ytbncoeoamjcjjaa
open Go Go.AI Go.Proofs Go.Proofs.Ytbncoeoamjcjjaa Go.ChangeShapes Go.WideShapes Go.ChangeAt Go.RowKit
set_option maxHeartbeats 4000000 in
set_option maxRecDepth 100000 in
theorem asetTells_lifted (os : Os) (started : os.Started) (H : Type) (enc : TypeId × Value → H) :
    ReturnsInHanded {} Try.checked os 7 .any (Rows.asetTellsSpec.pre6 enc Try.prog Try.f7 Rows.asetTellsRow.domain false) (Rows.asetTellsSpec.post enc Try.prog Try.f7 false true false false) := by
  refine law_lifted (C := Try.checked) (tb := 4) law_own started (by kernel_rfl) Try.func7
    (ChangeSpec.witness6 (enc := enc) (C := Try.checked) false ⟨#[], #[.slice none 0 0, .slice none 0 0, .agg zeroAction], []⟩ 8 (by kernel_rfl) (by kernel_rfl) (by kernel_rfl) (by kernel_rfl)) law_laid (by kernel_rfl)
    (by rw [Try.params7]; exact (RdVs.cons rdvActions (RdVs.cons rdvActions (RdVs.cons rdvAction RdVs.nil)))) rfl ?_ (by kernel_rfl) Try.underlying4 ?_
  · intro ds hl
    rw [Try.params7] at hl
    match ds, hl with
    | [d0, d1, d2], _ => exact ⟨rfl, rfl, rfl⟩
  · intro xs hxs
    obtain ⟨x, y, z, rfl, ⟨a, rfl⟩, ⟨b, rfl⟩, ⟨c, rfl⟩⟩ := allP3 hxs; exact asetTells_c a b c
theorem asetTells_over : Rows.asetTellsRow.holds Try.pinned (OpenSpec.ofChange Rows.asetTellsSpec) :=
  OpenClaim.holds_of_wide 7 Try.f7 rfl rfl rfl rfl rfl rfl rfl ⟨rfl, rfl, rfl, rfl, rfl⟩ rfl rfl rfl rfl rfl (by kernel_rfl) Try.func7 (by kernel_rfl)
    (of_decide_eq_true (by kernel_rfl)) (by unfold Func.isWrapper; first | (rw [if_pos (by decide +kernel)]; kernel_rfl) | (rw [if_neg (by decide +kernel)]; exact ⟨rfl, rfl⟩))
    (fun os started H enc _ => asetTells_lifted os started H enc)
/-- the statement -/
theorem asetTells_holds : Rows.AsetTellsSaid := asetTells_over
end Go.Proofs.Ytbncoeoamjcjjaa
