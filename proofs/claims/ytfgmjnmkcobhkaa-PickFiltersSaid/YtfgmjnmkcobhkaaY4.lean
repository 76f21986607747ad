/- PickFilters: whether any flow has any cookie, and goes to any port and group, is what the document says. -/
import Derived.Test.YtfgmjnmkcobhkaaL2
import Derived.Test.YtfgmjnmkcobhkaaW17
set_option linter.all false
set_option linter.unnecessarySimpa false
set_option linter.unusedVariables false
set_option linter.unusedSimpArgs false
namespace Go.Proofs.Ytfgmjnmkcobhkaa
open Go Go.AI Go.Proofs Go.Proofs.Ytfgmjnmkcobhkaa Go.ChangeShapes Go.WideShapes Go.ChangeAt Go.RowKit
set_option maxHeartbeats 4000000 in
set_option maxRecDepth 100000 in
theorem pickFilters_lifted (os : Os) (started : os.Started) (H : Type) (enc : TypeId × Value → H) :
    ReturnsInHanded {} Try.checked os 7 .any (Rows.pickFiltersSpec.pre6 enc Try.prog Try.f7 Rows.pickFiltersRow.domain false) (Rows.pickFiltersSpec.post enc Try.prog Try.f7 false true false false) := by
  refine law_lifted (C := Try.checked) (tb := 4) law_own started (by kernel_rfl) Try.func7
    (ChangeSpec.witness6 (enc := enc) (C := Try.checked) false ⟨#[], #[.agg zeroFlow, .int .u64 0, .int .u64 0, .int .i64 0, .int .i64 0], []⟩ 8 (by kernel_rfl) (by kernel_rfl) (by kernel_rfl) (by kernel_rfl)) law_laid (by kernel_rfl)
    (by rw [Try.params7]; exact (RdVs.cons rdvFlow (RdVs.cons rdvU64 (RdVs.cons rdvU64 (RdVs.cons rdvInt (RdVs.cons rdvInt RdVs.nil)))))) rfl ?_ (by kernel_rfl) Try.underlying4 ?_
  · intro ds hl
    rw [Try.params7] at hl
    match ds, hl with
    | [d0, d1, d2, d3, d4], _ => exact ⟨rfl, rfl, rfl⟩
  · intro xs hxs
    match xs, hxs with | [_, _, _, _, _], ⟨⟨f, rfl⟩, ⟨c, rfl⟩, ⟨m, rfl⟩, ⟨p, rfl⟩, ⟨g, rfl⟩, _⟩ => exact pickFilters_c f c m p g
theorem pickFilters_over : Rows.pickFiltersRow.holds Try.pinned (OpenSpec.ofChange Rows.pickFiltersSpec) :=
  OpenClaim.holds_of_wide 7 Try.f7 rfl rfl rfl rfl rfl rfl rfl ⟨rfl, rfl, rfl, rfl, rfl⟩ rfl rfl rfl rfl rfl (by kernel_rfl) Try.func7 (by kernel_rfl)
    (of_decide_eq_true (by kernel_rfl)) (by unfold Func.isWrapper; first | (rw [if_pos (by decide +kernel)]; kernel_rfl) | (rw [if_neg (by decide +kernel)]; exact ⟨rfl, rfl⟩))
    (fun os started H enc _ => pickFilters_lifted os started H enc)
/-- the statement -/
theorem pickFilters_holds : Rows.PickFiltersSaid := pickFilters_over
end Go.Proofs.Ytfgmjnmkcobhkaa
