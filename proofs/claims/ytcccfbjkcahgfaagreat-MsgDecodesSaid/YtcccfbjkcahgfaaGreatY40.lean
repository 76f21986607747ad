/- MsgDecodes: any bytes' message is what the document says, or the fault. -/
import Derived.Test.YtcccfbjkcahgfaaGreatWk2
import Derived.Test.YtcccfbjkcahgfaaGreatDa
import Derived.Test.YtcccfbjkcahgfaaGreatWk6
import Derived.Test.YtcccfbjkcahgfaaGreatWk9
import Derived.Test.YtcccfbjkcahgfaaGreatWk13
set_option linter.all false
set_option linter.unnecessarySimpa false
namespace Go.Proofs.YtcccfbjkcahgfaaGreat
open Go Go.AI Go.Proofs Go.Proofs.YtcccfbjkcahgfaaGreat Go.ChangeShapes Go.WideShapes Go.ChangeAt Go.RowKit
set_option maxHeartbeats 4000000 in
set_option maxRecDepth 100000 in
theorem msgDecodes_lifted (os : Os) (started : os.Started) (H : Type) (enc : TypeId × Value → H) :
   ReturnsInHanded {} Tryz.checked os 4 .any (Rows.msgDecodesSpec.pre6 enc Tryz.prog Tryz.f4 Rows.msgDecodesRow.domain false) (Rows.msgDecodesSpec.post enc Tryz.prog Tryz.f4 false true false false) := by
 refine law_lifted (C := Tryz.checked) (tb := 4) law_own started (by kernel_rfl) Tryz.func4
   (ChangeSpec.witness6 (enc := enc) (C := Tryz.checked) false ⟨#[], #[.slice none 0 0], []⟩ 8 (by kernel_rfl) (by kernel_rfl) (by kernel_rfl) (by kernel_rfl)) law_laid (by kernel_rfl)
   (by rw [Tryz.params4]; exact (RdVs.cons rdvBytes RdVs.nil)) rfl ?_ (by kernel_rfl) Tryz.underlying4 ?_
 · intro ds hl
   rw [Tryz.params4] at hl
   match ds, hl with
   | [d0], _ => exact ⟨rfl, rfl, rfl⟩
 · intro xs hxs
   obtain ⟨x, rfl, ⟨b, rfl⟩⟩ := allP1 hxs; rw [byL_flat]; exact msgDecodes_c b
theorem msgDecodes_over : Rows.msgDecodesRow.holds Tryz.pinned (OpenSpec.ofChange Rows.msgDecodesSpec) :=
 OpenClaim.holds_of_wide 4 Tryz.f4 rfl rfl rfl rfl rfl rfl rfl ⟨rfl, rfl, rfl, rfl, rfl⟩ rfl rfl rfl rfl rfl (by kernel_rfl) Tryz.func4 (by kernel_rfl)
   (of_decide_eq_true (by kernel_rfl)) (by unfold Func.isWrapper; first | (rw [if_pos (by decide +kernel)]; kernel_rfl) | (rw [if_neg (by decide +kernel)]; exact ⟨rfl, rfl⟩))
   (fun os started H enc _ => msgDecodes_lifted os started H enc)
theorem msgDecodes_holds : Rows.MsgDecodesSaid := msgDecodes_over
end Go.Proofs.YtcccfbjkcahgfaaGreat
