/- TableDeletes: behind a deletion nothing is left that it takes, and all else is. -/
import Derived.Test.YtbncoeoamjcjjaaGreatL2
import Derived.Test.YtbncoeoamjcjjaaGreatW44
set_option linter.all false
set_option linter.unnecessarySimpa false
set_option linter.unusedVariables false
set_option linter.unusedSimpArgs false
namespace Go.Proofs.YtbncoeoamjcjjaaGreat
open Go Go.AI Go.Proofs Go.Proofs.YtbncoeoamjcjjaaGreat Go.ChangeShapes Go.WideShapes Go.ChangeAt Go.RowKit
set_option maxHeartbeats 4000000 in
set_option maxRecDepth 100000 in
theorem tableDeletes_lifted (os : Os) (started : os.Started) (H : Type) (enc : TypeId × Value → H) :
    ReturnsInHanded {} Tryz.checked os 5 .any (Rows.tableDeletesSpec.pre6 enc Tryz.prog Tryz.f5 Rows.tableDeletesRow.domain false) (Rows.tableDeletesSpec.post enc Tryz.prog Tryz.f5 false true false false) := by
  refine law_lifted (C := Tryz.checked) (tb := 4) law_own started (by kernel_rfl) Tryz.func5
    (ChangeSpec.witness6 (enc := enc) (C := Tryz.checked) false ⟨#[], #[.slice none 0 0, .agg zeroFlowMod, .bool false], []⟩ 8 (by kernel_rfl) (by kernel_rfl) (by kernel_rfl) (by kernel_rfl)) law_laid (by kernel_rfl)
    (by rw [Tryz.params5]; exact (RdVs.cons rdvFlows (RdVs.cons rdvFlowMod (RdVs.cons rdvBool RdVs.nil)))) rfl ?_ (by kernel_rfl) Tryz.underlying4 ?_
  · intro ds hl
    rw [Tryz.params5] at hl
    match ds, hl with
    | [d0, d1, d2], _ => exact ⟨rfl, rfl, rfl⟩
  · intro xs hxs
    match xs, hxs with | [_, _, _], ⟨⟨l, rfl⟩, ⟨m, rfl⟩, ⟨b, rfl⟩, _⟩ => exact tableDeletes_c l m b
theorem tableDeletes_over : Rows.tableDeletesRow.holds Tryz.pinned (OpenSpec.ofChange Rows.tableDeletesSpec) :=
  OpenClaim.holds_of_wide 5 Tryz.f5 rfl rfl rfl rfl rfl rfl rfl ⟨rfl, rfl, rfl, rfl, rfl⟩ rfl rfl rfl rfl rfl (by kernel_rfl) Tryz.func5 (by kernel_rfl)
    (of_decide_eq_true (by kernel_rfl)) (by unfold Func.isWrapper; first | (rw [if_pos (by decide +kernel)]; kernel_rfl) | (rw [if_neg (by decide +kernel)]; exact ⟨rfl, rfl⟩))
    (fun os started H enc _ => tableDeletes_lifted os started H enc)
/-- the statement -/
theorem tableDeletes_holds : Rows.TableDeletesSaid := tableDeletes_over
end Go.Proofs.YtbncoeoamjcjjaaGreat
