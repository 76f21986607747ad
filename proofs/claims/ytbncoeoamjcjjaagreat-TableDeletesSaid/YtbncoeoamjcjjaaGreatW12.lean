/- The laws of flows: what they answer. -/
import Derived.Test.YtbncoeoamjcjjaaGreatW11
set_option linter.all false
set_option linter.unnecessarySimpa false
set_option linter.unusedVariables false
set_option linter.unusedSimpArgs false
namespace Go.Proofs.YtbncoeoamjcjjaaGreat
open Go Go.AI Go.Proofs

def oxmZ : Oxm := ⟨0, false, wideZ, wideZ⟩
def aA : Flow := ⟨0#64, 3, 0, 0, 0, [⟨0, false, ⟨0#64, 1#64⟩, wideZ⟩], [⟨4, 0, wideZ, wideZ, [⟨0, 2, 0, 0, 0, oxmZ⟩, ⟨22, 0, 0, 4, 0, oxmZ⟩]⟩]⟩
def bA : Flow := ⟨0#64, 3, 0, 0, 0, [], []⟩
def mA : FlowMod := ⟨0#64, 0#64, 0, 0, 0, 0, 3, 0, 0, 0, 0, [], []⟩
theorem uI_one : uI 1#64 = 1 := rfl
theorem fA1 : Flow.same aA aA = true := by kernel_rfl
theorem fA2 : Flow.alike aA bA = false := by kernel_rfl
theorem fA3 : Flow.overlap aA bA = true := by kernel_rfl
theorem fA4 : cubeWithin (Flow.cube aA) cubeZ = true := by kernel_rfl
theorem fA5 : cubeWithin (Flow.cube bA) (Flow.cube aA) = false := by kernel_rfl
theorem fA6 : eqBy (fun x y => x == y) (Flow.goPorts aA) [2] = true := by kernel_rfl
theorem fA7 : eqBy (fun x y => x == y) (Flow.goGroups aA) [4] = true := by kernel_rfl
theorem fA8 : (Flow.goPorts aA).length ≤ 1000000 := of_decide_eq_true (by kernel_rfl)
theorem fA9 : (Flow.goGroups aA).length ≤ 1000000 := of_decide_eq_true (by kernel_rfl)
theorem okA : FOk aA := ⟨of_decide_eq_true (by kernel_rfl), ⟨of_decide_eq_true (by kernel_rfl), fun x hx => by simp [aA] at hx; subst hx; simp⟩⟩
theorem okB : FOk bA := ⟨of_decide_eq_true (by kernel_rfl), ⟨of_decide_eq_true (by kernel_rfl), fun x hx => by simp [bA] at hx⟩⟩
theorem okM : FOk (FlowMod.flow mA) := ⟨of_decide_eq_true (by kernel_rfl), ⟨of_decide_eq_true (by kernel_rfl), fun x hx => by simp [FlowMod.flow, mA] at hx⟩⟩
theorem intS_one (x : Int) : intS [x] = .sl false 1 [.int .i64 x] := rfl
theorem cubeEq_self (c : Cube) : cubeEq c c = true := by unfold cubeEq; rw [List.all_eq_true]; simp
theorem eqBy_self (l : List Int) : eqBy (fun x y => x == y) l l = true := by unfold eqBy; simp
structure FPl (f : Flow) : Prop where
  ok : FOk f
  acts : (allI id f.insts).length ≤ 1000000
theorem plain_ok {f : Flow} (h : Flow.plain f = true) : FPl f := by
  unfold Flow.plain instsPlain at h
  simp only [Bool.and_eq_true, decide_eq_true_eq, List.all_eq_true, actsPlain] at h
  obtain ⟨h1, h2, h3⟩ := h
  refine ⟨⟨by omega, ⟨by omega, fun x hx => by have := h3 x hx; omega⟩⟩, ?_⟩
  have := allI_len (g := id) (fun l => Nat.le_refl _) 12 f.insts h3
  have h4 : f.insts.length * 12 ≤ 8 * 12 := Nat.mul_le_mul_right _ h2
  omega
theorem goPorts_le {f : Flow} (h : FPl f) : (Flow.goPorts f).length ≤ 1000000 := by
  unfold Flow.goPorts; rw [allI_ofA]; exact Nat.le_trans (ofA_le _ _ _) h.acts
theorem goGroups_le {f : Flow} (h : FPl f) : (Flow.goGroups f).length ≤ 1000000 := by
  unfold Flow.goGroups; rw [allI_ofA]; exact Nat.le_trans (ofA_le _ _ _) h.acts
end Go.Proofs.YtbncoeoamjcjjaaGreat
