/- LinksTell: where anything that goes out of any net's switch comes in, whether the net may be, which groups, and which ports with links it has, is what the document says. -/
import Derived.Test.YtmhapglejjehbaaGreatWk11
import Derived.Test.YtmhapglejjehbaaGreatWk13
set_option linter.all false
set_option linter.unnecessarySimpa false
namespace Go.Proofs.YtmhapglejjehbaaGreat
open Go Go.AI Go.Proofs Go.Proofs.YtmhapglejjehbaaGreat Go.ChangeShapes Go.WideShapes Go.ChangeAt Go.RowKit
set_option maxHeartbeats 4000000 in
set_option maxRecDepth 100000 in
theorem linksTell_lifted (os : Os) (started : os.Started) (H : Type) (enc : TypeId × Value → H) :
   ReturnsInHanded {} Tryz.checked os 3 .any (Rows.linksTellSpec.pre6 enc Tryz.prog Tryz.f3 Rows.linksTellRow.domain false) (Rows.linksTellSpec.post enc Tryz.prog Tryz.f3 false true false false) := by
 refine law_lifted (C := Tryz.checked) (tb := 4) law_own started (by kernel_rfl) Tryz.func3
   (ChangeSpec.witness6 (enc := enc) (C := Tryz.checked) false ⟨#[], #[.agg zeroNet, .int .i64 0, .int .i64 0], []⟩ 8 (by kernel_rfl) (by kernel_rfl) (by kernel_rfl) (by kernel_rfl)) law_laid (by kernel_rfl)
   (by rw [Tryz.params3]; exact (RdVs.cons rdvNet (RdVs.cons rdvInt (RdVs.cons rdvInt RdVs.nil)))) rfl ?_ (by kernel_rfl) Tryz.underlying4 ?_
 · intro ds hl
   rw [Tryz.params3] at hl
   match ds, hl with
   | [d0, d1, d2], _ => exact ⟨rfl, rfl, rfl⟩
 · intro xs hxs
   obtain ⟨x, y, z, rfl, ⟨n, rfl⟩, ⟨a, rfl⟩, ⟨p, rfl⟩⟩ := allP3 hxs; exact linksTell_c n a p
theorem linksTell_over : Rows.linksTellRow.holds Tryz.pinned (OpenSpec.ofChange Rows.linksTellSpec) :=
 OpenClaim.holds_of_wide 3 Tryz.f3 rfl rfl rfl rfl rfl rfl rfl ⟨rfl, rfl, rfl, rfl, rfl⟩ rfl rfl rfl rfl rfl (by kernel_rfl) Tryz.func3 (by kernel_rfl)
   (of_decide_eq_true (by kernel_rfl)) (by unfold Func.isWrapper; first | (rw [if_pos (by decide +kernel)]; kernel_rfl) | (rw [if_neg (by decide +kernel)]; exact ⟨rfl, rfl⟩))
   (fun os started H enc _ => linksTell_lifted os started H enc)
theorem linksTell_holds : Rows.LinksTellSaid := linksTell_over
end Go.Proofs.YtmhapglejjehbaaGreat
