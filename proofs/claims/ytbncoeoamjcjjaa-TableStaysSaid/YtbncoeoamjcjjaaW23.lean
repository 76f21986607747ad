/- Which flows a change takes, by the reference; the law that the program says the same. -/
import Derived.Test.YtbncoeoamjcjjaaW18
set_option linter.all false
set_option linter.unnecessarySimpa false
set_option linter.unusedVariables false
set_option linter.unusedSimpArgs false
namespace Go.Proofs.Ytbncoeoamjcjjaa
open Go Go.AI Go.Proofs

theorem tookN_ints (m : FlowMod) (l : List Flow) (i : Nat) : (intL ((tookN m l (i + 1)).map fun j : Nat => (j : Int))) =
    if FlowMod.takes m (nth l i) then intL ((tookN m l i).map fun j : Nat => (j : Int)) ++ [.int .i64 i] else intL ((tookN m l i).map fun j : Nat => (j : Int)) := by
  rw [tookN_succ]; split <;> simp [intL]
theorem intL_nil' : intL [] = [] := rfl
end Go.Proofs.Ytbncoeoamjcjjaa
