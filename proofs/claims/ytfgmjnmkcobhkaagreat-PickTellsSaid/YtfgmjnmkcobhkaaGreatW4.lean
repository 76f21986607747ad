/- Lists that are the same. -/
import Derived.Test.YtfgmjnmkcobhkaaGreatW3
set_option linter.all false
set_option linter.unnecessarySimpa false
set_option linter.unusedVariables false
set_option linter.unusedSimpArgs false
namespace Go.Proofs.YtfgmjnmkcobhkaaGreat
open Go Go.AI Go.Proofs

def eqBy {α : Type} [Inhabited α] (p : α → α → Bool) (l m : List α) : Bool := l.length == m.length && (List.range l.length).all fun i => p (nth l i) (nth m i)

def Inst.same (a b : Inst) : Bool := a.kind == b.kind && a.table == b.table && a.value == b.value && a.mask == b.mask && eqBy (· == ·) a.acts b.acts
end Go.Proofs.YtfgmjnmkcobhkaaGreat
