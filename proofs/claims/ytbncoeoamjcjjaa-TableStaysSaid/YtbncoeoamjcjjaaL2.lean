/- What the arguments of the laws are seen to be. -/
import Derived.Test.YtbncoeoamjcjjaaL1
import Derived.Test.YtbncoeoamjcjjaaDa
import Derived.Test.YtbncoeoamjcjjaaRows
set_option linter.all false
set_option linter.unnecessarySimpa false
set_option linter.unusedVariables false
set_option linter.unusedSimpArgs false
namespace Go.Proofs.Ytbncoeoamjcjjaa
open Go Go.AI Go.Proofs Go.Proofs.Ytbncoeoamjcjjaa
theorem law_own : ownKnob Try.prog.godebug = none := by kernel_rfl
theorem law_laid : laidOutB Try.prog = true := by kernel_rfl
def zeroFlow : Array Value := #[.int .u64 0, .int .i64 0, .int .i64 0, .int .i64 0, .int .i64 0, .slice none 0 0, .slice none 0 0]
def zeroFlowMod : Array Value := #[.int .u64 0, .int .u64 0, .int .i64 0, .int .i64 0, .int .i64 0, .int .i64 0, .int .i64 0, .int .i64 0, .int .i64 0, .int .i64 0, .int .i64 0, .slice none 0 0, .slice none 0 0]
def zeroCells (n : Nat) : Array Value := (List.replicate n (Value.int .u64 0)).toArray
theorem rdvWide : RdV Try.prog 26 (fun a => ∃ x, a = .agg (Wide.enc x)) := rdV_agg (.inl ⟨_, Try.underlying26⟩) (fun _ _ _ => rdWide)
theorem rdvCube : RdV Try.prog 142 (fun a => ∃ x, a = .agg (encC x)) := rdV_agg (.inr ⟨_, _, Try.underlying142⟩) (fun _ _ _ => rdCube)
theorem rdvFlow : RdV Try.prog 99 (fun a => ∃ x, a = .agg (Flow.enc x)) := rdV_agg (.inl ⟨_, Try.underlying99⟩) (fun _ _ _ => rdFlow)
theorem rdvFlowMod : RdV Try.prog 55 (fun a => ∃ x, a = .agg (FlowMod.enc x)) := rdV_agg (.inl ⟨_, Try.underlying55⟩) (fun _ _ _ => rdFlowMod)
theorem rdvFlows : RdV Try.prog 51 (fun a => ∃ l : List Flow, a = .sl false l.length (l.flatMap Flow.enc)) := rdV_slice Try.underlying51 (by kernel_rfl) (by omega) Flow.len (fun _ _ _ => rdFlow)
theorem rdvMods : RdV Try.prog 49 (fun a => ∃ l : List FlowMod, a = .sl false l.length (l.flatMap FlowMod.enc)) := rdV_slice Try.underlying49 (by kernel_rfl) (by omega) FlowMod.len (fun _ _ _ => rdFlowMod)
theorem rdvInt : RdV Try.prog 3 (fun a => ∃ n : Int, a = .int .i64 n) := rdV_int Try.underlying3
theorem rdvBool : RdV Try.prog 4 (fun a => ∃ b : Bool, a = .bool b) := rdV_bool Try.underlying4
theorem rdvU64 : RdV Try.prog 24 (fun a => ∃ n : BitVec 64, a = .int .u64 (uI n)) := rdV_u64 Try.underlying24
end Go.Proofs.Ytbncoeoamjcjjaa
