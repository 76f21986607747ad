/- TableDoes: any changes of any table, one behind the other. -/
import Derived.Test.YtbncoeoamjcjjaaGreatL2
import Derived.Test.YtbncoeoamjcjjaaGreatW39
set_option linter.all false
set_option linter.unnecessarySimpa false
set_option linter.unusedVariables false
set_option linter.unusedSimpArgs false
namespace Go.Proofs.YtbncoeoamjcjjaaGreat
open Go Go.AI Go.Proofs Go.Proofs.YtbncoeoamjcjjaaGreat Go.ChangeShapes Go.WideShapes Go.ChangeAt Go.RowKit
set_option maxHeartbeats 4000000 in
set_option maxRecDepth 100000 in
theorem tableDoes_lifted (os : Os) (started : os.Started) (H : Type) (enc : TypeId × Value → H) :
    ReturnsInHanded {} Tryz.checked os 3 .any (Rows.tableDoesSpec.pre6 enc Tryz.prog Tryz.f3 Rows.tableDoesRow.domain false) (Rows.tableDoesSpec.post enc Tryz.prog Tryz.f3 false true false false) := by
  refine law_lifted (C := Tryz.checked) (tb := 4) law_own started (by kernel_rfl) Tryz.func3
    (ChangeSpec.witness6 (enc := enc) (C := Tryz.checked) false ⟨#[], #[.slice none 0 0, .slice none 0 0], []⟩ 8 (by kernel_rfl) (by kernel_rfl) (by kernel_rfl) (by kernel_rfl)) law_laid (by kernel_rfl)
    (by rw [Tryz.params3]; exact (RdVs.cons rdvFlows (RdVs.cons rdvMods RdVs.nil))) rfl ?_ (by kernel_rfl) Tryz.underlying4 ?_
  · intro ds hl
    rw [Tryz.params3] at hl
    match ds, hl with
    | [d0, d1], _ => exact ⟨rfl, rfl, rfl⟩
  · intro xs hxs
    match xs, hxs with | [_, _], ⟨⟨l, rfl⟩, ⟨ms, rfl⟩, _⟩ => exact tableDoes_c l ms
theorem tableDoes_over : Rows.tableDoesRow.holds Tryz.pinned (OpenSpec.ofChange Rows.tableDoesSpec) :=
  OpenClaim.holds_of_wide 3 Tryz.f3 rfl rfl rfl rfl rfl rfl rfl ⟨rfl, rfl, rfl, rfl, rfl⟩ rfl rfl rfl rfl rfl (by kernel_rfl) Tryz.func3 (by kernel_rfl)
    (of_decide_eq_true (by kernel_rfl)) (by unfold Func.isWrapper; first | (rw [if_pos (by decide +kernel)]; kernel_rfl) | (rw [if_neg (by decide +kernel)]; exact ⟨rfl, rfl⟩))
    (fun os started H enc _ => tableDoes_lifted os started H enc)
/-- the statement -/
theorem tableDoes_holds : Rows.TableDoesSaid := tableDoes_over
end Go.Proofs.YtbncoeoamjcjjaaGreat
