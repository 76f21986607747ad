/- What the arguments of the laws are seen to be. -/
import Derived.Test.YtfgmjnmkcobhkaaL1
import Derived.Test.YtfgmjnmkcobhkaaDa
import Derived.Test.YtfgmjnmkcobhkaaRows
set_option linter.all false
set_option linter.unnecessarySimpa false
set_option linter.unusedVariables false
set_option linter.unusedSimpArgs false
namespace Go.Proofs.Ytfgmjnmkcobhkaa
open Go Go.AI Go.Proofs Go.Proofs.Ytfgmjnmkcobhkaa
theorem law_own : ownKnob Try.prog.godebug = none := by kernel_rfl
theorem law_laid : laidOutB Try.prog = true := by kernel_rfl
def zeroFlow : Array Value := #[.int .u64 0, .int .i64 0, .int .i64 0, .int .i64 0, .int .i64 0, .slice none 0 0, .slice none 0 0]
def zeroFlowMod : Array Value := #[.int .u64 0, .int .u64 0, .int .i64 0, .int .i64 0, .int .i64 0, .int .i64 0, .int .i64 0, .int .i64 0, .int .i64 0, .int .i64 0, .int .i64 0, .slice none 0 0, .slice none 0 0]
def zeroCells (n : Nat) : Array Value := (List.replicate n (Value.int .u64 0)).toArray
theorem rdvWide : RdV Try.prog 28 (fun a => ∃ x, a = .agg (Wide.enc x)) := rdV_agg (.inl ⟨_, Try.underlying28⟩) (fun _ _ _ => rdWide)
theorem rdvCube : RdV Try.prog 32 (fun a => ∃ x, a = .agg (encC x)) := rdV_agg (.inr ⟨_, _, Try.underlying32⟩) (fun _ _ _ => rdCube)
theorem rdvHeader : RdV Try.prog 47 (fun a => ∃ x, a = .agg (encH x)) := rdV_agg (.inr ⟨_, _, Try.underlying47⟩) (fun _ _ _ => rdHeader)
theorem rdvFlow : RdV Try.prog 26 (fun a => ∃ x, a = .agg (Flow.enc x)) := rdV_agg (.inl ⟨_, Try.underlying26⟩) (fun _ _ _ => rdFlow)
theorem rdvFlowMod : RdV Try.prog 43 (fun a => ∃ x, a = .agg (FlowMod.enc x)) := rdV_agg (.inl ⟨_, Try.underlying43⟩) (fun _ _ _ => rdFlowMod)
theorem rdvFlows : RdV Try.prog 55 (fun a => ∃ l : List Flow, a = .sl false l.length (l.flatMap Flow.enc)) := rdV_slice Try.underlying55 (by kernel_rfl) (by omega) Flow.len (fun _ _ _ => rdFlow)
theorem rdvInt : RdV Try.prog 3 (fun a => ∃ n : Int, a = .int .i64 n) := rdV_int Try.underlying3
theorem rdvU64 : RdV Try.prog 22 (fun a => ∃ n : BitVec 64, a = .int .u64 (uI n)) := rdV_u64 Try.underlying22
end Go.Proofs.Ytfgmjnmkcobhkaa
