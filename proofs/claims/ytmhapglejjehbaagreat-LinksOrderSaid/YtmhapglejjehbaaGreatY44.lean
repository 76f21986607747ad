/- LinksOrder: a net that may be tells the same with its links in another order. -/
import Derived.Test.YtmhapglejjehbaaGreatWk9
import Derived.Test.YtmhapglejjehbaaGreatWk10
set_option linter.all false
set_option linter.unnecessarySimpa false
namespace Go.Proofs.YtmhapglejjehbaaGreat
open Go Go.AI Go.Proofs Go.Proofs.YtmhapglejjehbaaGreat Go.ChangeShapes Go.WideShapes Go.ChangeAt Go.RowKit
set_option maxHeartbeats 4000000 in
set_option maxRecDepth 100000 in
theorem linksOrder_lifted (os : Os) (started : os.Started) (H : Type) (enc : TypeId × Value → H) :
   ReturnsInHanded {} Tryz.checked os 4 .any (Rows.linksOrderSpec.pre6 enc Tryz.prog Tryz.f4 Rows.linksOrderRow.domain false) (Rows.linksOrderSpec.post enc Tryz.prog Tryz.f4 false true false false) := by
 refine law_lifted (C := Tryz.checked) (tb := 4) law_own started (by kernel_rfl) Tryz.func4
   (ChangeSpec.witness6 (enc := enc) (C := Tryz.checked) false ⟨#[], #[.agg zeroNet, .int .u8 0, .int .i64 0, .int .i64 0], []⟩ 8 (by kernel_rfl) (by kernel_rfl) (by kernel_rfl) (by kernel_rfl)) law_laid (by kernel_rfl)
   (by rw [Tryz.params4]; exact (RdVs.cons rdvNet (RdVs.cons rdvByte (RdVs.cons rdvInt (RdVs.cons rdvInt RdVs.nil))))) rfl ?_ (by kernel_rfl) Tryz.underlying4 ?_
 · intro ds hl
   rw [Tryz.params4] at hl
   match ds, hl with
   | [d0, d1, d2, d3], _ => exact ⟨rfl, rfl, rfl⟩
 · intro xs hxs
   obtain ⟨x, y, z, u, rfl, ⟨n, rfl⟩, ⟨k, rfl⟩, ⟨a, rfl⟩, ⟨p, rfl⟩⟩ := allP4 hxs; exact linksOrder_c n k a p
theorem linksOrder_over : Rows.linksOrderRow.holds Tryz.pinned (OpenSpec.ofChange Rows.linksOrderSpec) :=
 OpenClaim.holds_of_wide 4 Tryz.f4 rfl rfl rfl rfl rfl rfl rfl ⟨rfl, rfl, rfl, rfl, rfl⟩ rfl rfl rfl rfl rfl (by kernel_rfl) Tryz.func4 (by kernel_rfl)
   (of_decide_eq_true (by kernel_rfl)) (by unfold Func.isWrapper; first | (rw [if_pos (by decide +kernel)]; kernel_rfl) | (rw [if_neg (by decide +kernel)]; exact ⟨rfl, rfl⟩))
   (fun os started H enc _ => linksOrder_lifted os started H enc)
theorem linksOrder_holds : Rows.LinksOrderSaid := linksOrder_over
end Go.Proofs.YtmhapglejjehbaaGreat
