/- ActsJoin: the bytes of two lists, one behind the other, are those of both, if there are at most 100. -/
import Derived.Test.YteonfhnljphbpaaWk6
import Derived.Test.YteonfhnljphbpaaWk7
set_option linter.all false
set_option linter.unnecessarySimpa false
set_option linter.unusedVariables false
set_option linter.unusedSimpArgs false
namespace Go.Proofs.Yteonfhnljphbpaa
open Go Go.AI Go.Proofs Go.Proofs.Yteonfhnljphbpaa Go.ChangeShapes Go.WideShapes Go.ChangeAt Go.RowKit
set_option maxHeartbeats 4000000 in
set_option maxRecDepth 100000 in
theorem actsJoin_lifted (os : Os) (started : os.Started) (H : Type) (enc : TypeId × Value → H) :
    ReturnsInHanded {} Try.checked os 5 .any (Rows.actsJoinSpec.pre6 enc Try.prog Try.f5 Rows.actsJoinRow.domain false) (Rows.actsJoinSpec.post enc Try.prog Try.f5 false true false false) := by
  refine law_liftedS (C := Try.checked) (tb := 4) law_own started (by kernel_rfl) Try.func5
    (ChangeSpec.witness6 (enc := enc) (C := Try.checked) false ⟨#[], #[.slice none 0 0, .slice none 0 0], []⟩ 8 (by kernel_rfl) (by kernel_rfl) (by kernel_rfl) (by kernel_rfl)) law_laid (by kernel_rfl)
    (by rw [Try.params5]; exact (RdSs.cons rdsActions (RdSs.cons rdsActions RdSs.nil))) rfl ?_ (by kernel_rfl) Try.underlying4 ?_
  · intro ds hl
    rw [Try.params5] at hl
    match ds, hl with
    | [d0, d1], _ => exact ⟨rfl, rfl, rfl⟩
  · intro xs hxs
    obtain ⟨x, y, rfl, ⟨a, ha, rfl⟩, ⟨b, hb, rfl⟩⟩ := allP2 hxs; exact actsJoin_c a b ha hb
theorem actsJoin_over : Rows.actsJoinRow.holds Try.pinned (OpenSpec.ofChange Rows.actsJoinSpec) :=
  OpenClaim.holds_of_wide 5 Try.f5 rfl rfl rfl rfl rfl rfl rfl ⟨rfl, rfl, rfl, rfl, rfl⟩ rfl rfl rfl rfl rfl (by kernel_rfl) Try.func5 (by kernel_rfl)
    (of_decide_eq_true (by kernel_rfl)) (by unfold Func.isWrapper; first | (rw [if_pos (by decide +kernel)]; kernel_rfl) | (rw [if_neg (by decide +kernel)]; exact ⟨rfl, rfl⟩))
    (fun os started H enc _ => actsJoin_lifted os started H enc)
/-- the statement -/
theorem actsJoin_holds : Rows.ActsJoinSaid := actsJoin_over
end Go.Proofs.Yteonfhnljphbpaa
