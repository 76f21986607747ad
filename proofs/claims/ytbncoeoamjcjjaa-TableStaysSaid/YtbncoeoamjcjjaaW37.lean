/- Tables: the reference's change, whole. -/
import Derived.Test.YtbncoeoamjcjjaaW36
set_option linter.all false
set_option linter.unnecessarySimpa false
set_option linter.unusedVariables false
set_option linter.unusedSimpArgs false
namespace Go.Proofs.Ytbncoeoamjcjjaa
open Go Go.AI Go.Proofs

theorem tMod_len (l : List Flow) (m : FlowMod) : (tMod l m).length = l.length := by simp [tMod]
theorem tMod_succ {l : List Flow} {m : FlowMod} {i : Nat} (h : i < l.length) : flowL ((tMod l m).take i) ++ (if FlowMod.takes m (nth l i) then withInsts m (nth l i) else nth l i).enc = flowL ((tMod l m).take (i + 1)) := by
  have h' : i < (tMod l m).length := by rw [tMod_len]; exact h
  rw [take_nth h', flowL_app, flowL_one]
  congr 2
  unfold tMod; rw [nth_map h]
end Go.Proofs.Ytbncoeoamjcjjaa
