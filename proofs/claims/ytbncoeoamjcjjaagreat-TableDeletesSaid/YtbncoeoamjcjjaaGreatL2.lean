/- What the arguments of the laws are seen to be. -/
import Derived.Test.YtbncoeoamjcjjaaGreatL1
import Derived.Test.YtbncoeoamjcjjaaGreatDa
import Derived.Test.YtbncoeoamjcjjaaGreatRows
set_option linter.all false
set_option linter.unnecessarySimpa false
set_option linter.unusedVariables false
set_option linter.unusedSimpArgs false
namespace Go.Proofs.YtbncoeoamjcjjaaGreat
open Go Go.AI Go.Proofs Go.Proofs.YtbncoeoamjcjjaaGreat
theorem law_own : ownKnob Tryz.prog.godebug = none := by kernel_rfl
theorem law_laid : laidOutB Tryz.prog = true := by kernel_rfl
def zeroFlow : Array Value := #[.int .u64 0, .int .i64 0, .int .i64 0, .int .i64 0, .int .i64 0, .slice none 0 0, .slice none 0 0]
def zeroFlowMod : Array Value := #[.int .u64 0, .int .u64 0, .int .i64 0, .int .i64 0, .int .i64 0, .int .i64 0, .int .i64 0, .int .i64 0, .int .i64 0, .int .i64 0, .int .i64 0, .slice none 0 0, .slice none 0 0]
def zeroCells (n : Nat) : Array Value := (List.replicate n (Value.int .u64 0)).toArray
theorem rdvWide : RdV Tryz.prog 65 (fun a => ∃ x, a = .agg (Wide.enc x)) := rdV_agg (.inl ⟨_, Tryz.underlying65⟩) (fun _ _ _ => rdWide)
theorem rdvCube : RdV Tryz.prog 72 (fun a => ∃ x, a = .agg (encC x)) := rdV_agg (.inr ⟨_, _, Tryz.underlying72⟩) (fun _ _ _ => rdCube)
theorem rdvFlow : RdV Tryz.prog 41 (fun a => ∃ x, a = .agg (Flow.enc x)) := rdV_agg (.inl ⟨_, Tryz.underlying41⟩) (fun _ _ _ => rdFlow)
theorem rdvFlowMod : RdV Tryz.prog 31 (fun a => ∃ x, a = .agg (FlowMod.enc x)) := rdV_agg (.inl ⟨_, Tryz.underlying31⟩) (fun _ _ _ => rdFlowMod)
theorem rdvFlows : RdV Tryz.prog 22 (fun a => ∃ l : List Flow, a = .sl false l.length (l.flatMap Flow.enc)) := rdV_slice Tryz.underlying22 (by kernel_rfl) (by omega) Flow.len (fun _ _ _ => rdFlow)
theorem rdvMods : RdV Tryz.prog 23 (fun a => ∃ l : List FlowMod, a = .sl false l.length (l.flatMap FlowMod.enc)) := rdV_slice Tryz.underlying23 (by kernel_rfl) (by omega) FlowMod.len (fun _ _ _ => rdFlowMod)
theorem rdvInt : RdV Tryz.prog 3 (fun a => ∃ n : Int, a = .int .i64 n) := rdV_int Tryz.underlying3
theorem rdvBool : RdV Tryz.prog 4 (fun a => ∃ b : Bool, a = .bool b) := rdV_bool Tryz.underlying4
theorem rdvU64 : RdV Tryz.prog 27 (fun a => ∃ n : BitVec 64, a = .int .u64 (uI n)) := rdV_u64 Tryz.underlying27
end Go.Proofs.YtbncoeoamjcjjaaGreat
