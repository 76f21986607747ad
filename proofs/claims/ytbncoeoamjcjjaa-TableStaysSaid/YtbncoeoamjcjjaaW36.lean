/- Tables: the reference's change. -/
import Derived.Test.YtbncoeoamjcjjaaW35
import Derived.Test.YtbncoeoamjcjjaaW13
set_option linter.all false
set_option linter.unnecessarySimpa false
set_option linter.unusedVariables false
set_option linter.unusedSimpArgs false
namespace Go.Proofs.Ytbncoeoamjcjjaa
open Go Go.AI Go.Proofs

theorem nth_any {α : Type} [Inhabited α] {p : α → Bool} {l : List α} : (∀ j, j < l.length → p (nth l j) = false) → l.any p = false := by
  intro h
  rw [List.any_eq_false]
  intro x hx
  obtain ⟨i, hi, rfl⟩ := mem_nth hx
  rw [h i hi]; simp
theorem flow_clone (l : List Flow) : (flowL l).take (l.length * 7) = flowL l := flow_full l _ rfl
end Go.Proofs.Ytbncoeoamjcjjaa
