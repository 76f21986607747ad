/- The laws of what flow a change makes, of what meets and of what is covered: what they answer. -/
import Derived.Test.YtbncoeoamjcjjaaGreatW12
import Derived.Test.YtbncoeoamjcjjaaGreatD3
set_option linter.all false
set_option linter.unnecessarySimpa false
set_option linter.unusedVariables false
set_option linter.unusedSimpArgs false
namespace Go.Proofs.YtbncoeoamjcjjaaGreat
open Go Go.AI Go.Proofs

theorem eqBy_refl {α : Type} [Inhabited α] {p : α → α → Bool} (h : ∀ x, p x x = true) (l : List α) : eqBy p l l = true := by unfold eqBy; simp [h]
theorem instSame_self (i : Inst) : Inst.same i i = true := by unfold Inst.same; simp [eqBy_refl]
theorem flowSame_self (f : Flow) : Flow.same f f = true := by unfold Flow.same; simp [eqBy_refl, instSame_self]
theorem overlap_comm (a b : Flow) : Flow.overlap b a = Flow.overlap a b := by
  unfold Flow.overlap; rw [cubeMeetOk_comm]; rw [BEq.comm]
theorem alike_comm (a b : Flow) : Flow.alike b a = Flow.alike a b := by
  unfold Flow.alike; rw [cubeEq_comm]; rw [BEq.comm]
theorem alike_covers {a b : Flow} (h : Flow.alike a b = true) : (a.prio == b.prio) = true ∧ Flow.overlap a b = true ∧ cubeWithin (Flow.cube b) (Flow.cube a) = true ∧ cubeWithin (Flow.cube a) (Flow.cube b) = true := by
  unfold Flow.alike at h
  rw [Bool.and_eq_true] at h
  refine ⟨h.1, ?_, cubeWithin_of_eq (by rw [cubeEq_comm]; exact h.2), cubeWithin_of_eq h.2⟩
  unfold Flow.overlap
  rw [h.1, cubeMeetOk_of_eq h.2]; rfl
theorem both_overlap {a b : Flow} {h : Header} (h0 : (a.prio == b.prio) = true) (h1 : cubeHas (Flow.cube a) h = true) (h2 : cubeHas (Flow.cube b) h = true) : Flow.overlap a b = true := by
  unfold Flow.overlap; rw [h0, cubeMeet_of_has h1 h2]; rfl

end Go.Proofs.YtbncoeoamjcjjaaGreat
