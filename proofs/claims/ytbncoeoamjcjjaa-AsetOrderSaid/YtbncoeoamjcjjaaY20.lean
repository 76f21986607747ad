/- AsetOrder: two actions of unlike places may be written the other way round. -/
import Derived.Test.YtbncoeoamjcjjaaWk2
import Derived.Test.YtbncoeoamjcjjaaWk7
set_option linter.all false
set_option linter.unnecessarySimpa false
set_option linter.unusedVariables false
set_option linter.unusedSimpArgs false
namespace Go.Proofs.Ytbncoeoamjcjjaa
open Go Go.AI Go.Proofs Go.Proofs.Ytbncoeoamjcjjaa Go.ChangeShapes Go.WideShapes Go.ChangeAt Go.RowKit
set_option maxHeartbeats 4000000 in
set_option maxRecDepth 100000 in
theorem asetOrder_lifted (os : Os) (started : os.Started) (H : Type) (enc : TypeId × Value → H) :
    ReturnsInHanded {} Try.checked os 8 .any (Rows.asetOrderSpec.pre6 enc Try.prog Try.f8 Rows.asetOrderRow.domain false) (Rows.asetOrderSpec.post enc Try.prog Try.f8 false true false false) := by
  refine law_lifted (C := Try.checked) (tb := 4) law_own started (by kernel_rfl) Try.func8
    (ChangeSpec.witness6 (enc := enc) (C := Try.checked) false ⟨#[], #[.slice none 0 0, .int .u8 0], []⟩ 8 (by kernel_rfl) (by kernel_rfl) (by kernel_rfl) (by kernel_rfl)) law_laid (by kernel_rfl)
    (by rw [Try.params8]; exact (RdVs.cons rdvActions (RdVs.cons rdvByte RdVs.nil))) rfl ?_ (by kernel_rfl) Try.underlying4 ?_
  · intro ds hl
    rw [Try.params8] at hl
    match ds, hl with
    | [d0, d1], _ => exact ⟨rfl, rfl, rfl⟩
  · intro xs hxs
    obtain ⟨x, y, rfl, ⟨a, rfl⟩, ⟨k, rfl⟩⟩ := allP2 hxs; exact asetOrder_c a k
theorem asetOrder_over : Rows.asetOrderRow.holds Try.pinned (OpenSpec.ofChange Rows.asetOrderSpec) :=
  OpenClaim.holds_of_wide 8 Try.f8 rfl rfl rfl rfl rfl rfl rfl ⟨rfl, rfl, rfl, rfl, rfl⟩ rfl rfl rfl rfl rfl (by kernel_rfl) Try.func8 (by kernel_rfl)
    (of_decide_eq_true (by kernel_rfl)) (by unfold Func.isWrapper; first | (rw [if_pos (by decide +kernel)]; kernel_rfl) | (rw [if_neg (by decide +kernel)]; exact ⟨rfl, rfl⟩))
    (fun os started H enc _ => asetOrder_lifted os started H enc)
/-- the statement -/
theorem asetOrder_holds : Rows.AsetOrderSaid := asetOrder_over
end Go.Proofs.Ytbncoeoamjcjjaa
