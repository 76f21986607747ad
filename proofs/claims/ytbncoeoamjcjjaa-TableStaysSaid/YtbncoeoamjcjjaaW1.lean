/- The functions of cubes, and those of the reference. -/
import Derived.Test.YtbncoeoamjcjjaaW0
set_option linter.all false
set_option linter.unnecessarySimpa false
set_option linter.unusedVariables false
set_option linter.unusedSimpArgs false
namespace Go.Proofs.Ytbncoeoamjcjjaa
open Go Go.AI Go.Proofs

theorem cwithin_c (a b : Cube) : FnP Try.prog 220 [.agg (encC a), .agg (encC b)] (.bool (cubeWithin a b)) := by
  refine FnP.intro Try.func220 rfl rfl fun G w => ?_
  repeat (first | refine WK.seq ?_ | refine WK.block ?_ | refine WK.inBlock ?_ | refine WK.skip ?_ | refine WK.label ?_ | refine WK.scope ?_ | refine WK.inScope ?_ | refine WK.exit rfl ?_)
  first | refine WK.reg 100 Try.ntmps220 (by kernel_rfl) ?_ | refine WK.regD 100 clsOf (by kernel_rfl) Try.ntmps220 (by kernel_rfl) (by kernel_rfl) ?_
  intro A hA Q hQ
  simp
  refine hQ _ _ ?_
  clear hQ hA
  repeat (first | refine WK.seq ?_ | refine WK.block ?_ | refine WK.inBlock ?_ | refine WK.skip ?_ | refine WK.label ?_ | refine WK.scope ?_ | refine WK.inScope ?_ | refine WK.exit rfl ?_)
  first | refine WK.reg 200 Try.ntmps220 (by kernel_rfl) ?_ | refine WK.regD 200 clsOf (by kernel_rfl) Try.ntmps220 (by kernel_rfl) (by kernel_rfl) ?_
  intro A hA Q hQ
  simp
  refine hQ _ _ ?_
  clear hQ hA
  repeat (first | refine WK.seq ?_ | refine WK.block ?_ | refine WK.inBlock ?_ | refine WK.skip ?_ | refine WK.label ?_ | refine WK.scope ?_ | refine WK.inScope ?_ | refine WK.exit rfl ?_)
  refine WK.loopI (fun n => n) (fun i : Nat => (⟨(upd (upd (upd J 3 (.ptr 1 0)) 7 (.agg (encC a))) 8 (.int .i64 i)), (upd B0 1 (.var (encC b))), 0⟩ : St)) (fun i => i ≤ 24 ∧ ∀ j, j < i → (a j).within (b j) = true) (fun i => 24 - i) (0) (by repeat (first | exact TmW.nil | refine TmW.upd ?_ (by simp (maxDischargeDepth := 120)))) (by repeat (first | exact BxW.nil | refine BxW.upd ?_ (by simp (maxDischargeDepth := 120)))) (by first | exact InjW.id | exact InjW.nil | exact InjW.one | exact InjW.two (by simp) | exact InjW.three (by simp) (by simp) (by simp)) (⟨by omega, by simp⟩) (fun i hi IH => ?_)
  repeat (first | refine WK.seq ?_ | refine WK.block ?_ | refine WK.inBlock ?_ | refine WK.skip ?_ | refine WK.label ?_ | refine WK.scope ?_ | refine WK.inScope ?_ | refine WK.exit rfl ?_)
  first | refine WK.reg 300 Try.ntmps220 (by kernel_rfl) ?_ | refine WK.regD 300 clsOf (by kernel_rfl) Try.ntmps220 (by kernel_rfl) (by kernel_rfl) ?_
  intro A hA Q hQ
  simp
  refine hQ _ _ ?_
  clear hQ hA
  repeat (first | refine WK.seq ?_ | refine WK.block ?_ | refine WK.inBlock ?_ | refine WK.skip ?_ | refine WK.label ?_ | refine WK.scope ?_ | refine WK.inScope ?_ | refine WK.exit rfl ?_)
  refine WK.cond2 rfl (fun h1 => ?_) (fun h1 => ?_)
  · simp at h1
    have h2 : i < 24 := by omega
    have h3 : i * 4 + 4 ≤ 96 := by omega
    have h6 : IntKind.i64.wrap ((i : Int) + 1) = i + 1 := wrap_i64 (by omega) (by omega)
    repeat (first | refine WK.seq ?_ | refine WK.block ?_ | refine WK.inBlock ?_ | refine WK.skip ?_ | refine WK.label ?_ | refine WK.scope ?_ | refine WK.inScope ?_ | refine WK.exit rfl ?_)
    first | refine WK.reg 400 Try.ntmps220 (by kernel_rfl) ?_ | refine WK.regD 400 clsOf (by kernel_rfl) Try.ntmps220 (by kernel_rfl) (by kernel_rfl) ?_
    intro A hA Q hQ
    simp [h1, h2, h3, encC_sub]
    refine hQ _ _ ?_
    clear hQ hA
    repeat (first | refine WK.seq ?_ | refine WK.block ?_ | refine WK.inBlock ?_ | refine WK.skip ?_ | refine WK.label ?_ | refine WK.scope ?_ | refine WK.inScope ?_ | refine WK.exit rfl ?_)
    first | refine WK.reg 500 Try.ntmps220 (by kernel_rfl) ?_ | refine WK.regD 500 clsOf (by kernel_rfl) Try.ntmps220 (by kernel_rfl) (by kernel_rfl) ?_
    intro A hA Q hQ
    simp [h1, h2, h3, encC_sub]
    refine RunQ.call rfl rfl rfl rfl (by rfl) (by simp (maxDischargeDepth := 120)) (within_c (a i) (b i)) (by simp) ?_
    refine RunQ.eval ?_
    simp
    refine hQ _ _ ?_
    clear hQ hA
    repeat (first | refine WK.seq ?_ | refine WK.block ?_ | refine WK.inBlock ?_ | refine WK.skip ?_ | refine WK.label ?_ | refine WK.scope ?_ | refine WK.inScope ?_ | refine WK.exit rfl ?_)
    refine WK.cond2 rfl (fun h5 => ?_) (fun h5 => ?_)
    · simp at h5
      have hr : cubeWithin a b = false := all_range_false (p := fun i => (a i).within (b i)) h2 h5
      repeat (first | refine WK.seq ?_ | refine WK.block ?_ | refine WK.inBlock ?_ | refine WK.skip ?_ | refine WK.label ?_ | refine WK.scope ?_ | refine WK.inScope ?_ | refine WK.exit rfl ?_)
      first | refine WK.reg 600 Try.ntmps220 (by kernel_rfl) ?_ | refine WK.regD 600 clsOf (by kernel_rfl) Try.ntmps220 (by kernel_rfl) (by kernel_rfl) ?_
      intro A hA Q hQ
      simp
      refine hQ _ _ ?_
      clear hQ hA
      repeat (first | refine WK.seq ?_ | refine WK.block ?_ | refine WK.inBlock ?_ | refine WK.skip ?_ | refine WK.label ?_ | refine WK.scope ?_ | refine WK.inScope ?_ | refine WK.exit rfl ?_)
      refine WK.ret Try.func220 (by simp (maxDischargeDepth := 120) [Try.results220, hr]) (by simp [hr])
    · simp at h5
      repeat (first | refine WK.seq ?_ | refine WK.block ?_ | refine WK.inBlock ?_ | refine WK.skip ?_ | refine WK.label ?_ | refine WK.scope ?_ | refine WK.inScope ?_ | refine WK.exit rfl ?_)
      first | refine WK.reg 700 Try.ntmps220 (by kernel_rfl) ?_ | refine WK.regD 700 clsOf (by kernel_rfl) Try.ntmps220 (by kernel_rfl) (by kernel_rfl) ?_
      intro A hA Q hQ
      simp [h6]
      refine hQ _ _ ?_
      clear hQ hA
      repeat (first | refine WK.seq ?_ | refine WK.block ?_ | refine WK.inBlock ?_ | refine WK.skip ?_ | refine WK.label ?_ | refine WK.scope ?_ | refine WK.inScope ?_ | refine WK.exit rfl ?_)
      refine WK.next (fun n => n) (IH (i + 1) (⟨by omega, fun j hj => by by_cases h7 : j = i; (subst h7; exact h5); exact hi.2 j (by omega)⟩) (by first | omega | (dsimp only; omega))) (by repeat (first | exact TmW.nil | refine TmW.upd ?_ (by simp (maxDischargeDepth := 120)))) (by repeat (first | exact BxW.nil | refine BxW.upd ?_ (by simp (maxDischargeDepth := 120)))) (by first | exact InjW.id | exact InjW.nil | exact InjW.one | exact InjW.two (by simp) | exact InjW.three (by simp) (by simp) (by simp))
  · simp at h1
    have hr : cubeWithin a b = true := all_range_true fun j hj => hi.2 j (by omega)
    repeat (first | refine WK.seq ?_ | refine WK.block ?_ | refine WK.inBlock ?_ | refine WK.skip ?_ | refine WK.label ?_ | refine WK.scope ?_ | refine WK.inScope ?_ | refine WK.exit rfl ?_)
    first | refine WK.reg 800 Try.ntmps220 (by kernel_rfl) ?_ | refine WK.regD 800 clsOf (by kernel_rfl) Try.ntmps220 (by kernel_rfl) (by kernel_rfl) ?_
    intro A hA Q hQ
    simp
    refine hQ _ _ ?_
    clear hQ hA
    repeat (first | refine WK.seq ?_ | refine WK.block ?_ | refine WK.inBlock ?_ | refine WK.skip ?_ | refine WK.label ?_ | refine WK.scope ?_ | refine WK.inScope ?_ | refine WK.exit rfl ?_)
    refine WK.ret Try.func220 (by simp (maxDischargeDepth := 120) [Try.results220, hr]) (by simp [hr])
theorem cubeAll_c : FnP Try.prog 217 [] (.agg (encC cubeZ)) := by
  refine FnP.intro Try.func217 rfl rfl fun G w => ?_
  repeat (first | refine WK.seq ?_ | refine WK.block ?_ | refine WK.inBlock ?_ | refine WK.skip ?_ | refine WK.label ?_ | refine WK.scope ?_ | refine WK.inScope ?_ | refine WK.exit rfl ?_)
  first | refine WK.reg 100 Try.ntmps217 (by kernel_rfl) ?_ | refine WK.regD 100 clsOf (by kernel_rfl) Try.ntmps217 (by kernel_rfl) (by kernel_rfl) ?_
  intro A hA Q hQ
  simp
  refine hQ _ _ ?_
  clear hQ hA
  repeat (first | refine WK.seq ?_ | refine WK.block ?_ | refine WK.inBlock ?_ | refine WK.skip ?_ | refine WK.label ?_ | refine WK.scope ?_ | refine WK.inScope ?_ | refine WK.exit rfl ?_)
  first | refine WK.reg 200 Try.ntmps217 (by kernel_rfl) ?_ | refine WK.regD 200 clsOf (by kernel_rfl) Try.ntmps217 (by kernel_rfl) (by kernel_rfl) ?_
  intro A hA Q hQ
  simp
  refine hQ _ _ ?_
  clear hQ hA
  repeat (first | refine WK.seq ?_ | refine WK.block ?_ | refine WK.inBlock ?_ | refine WK.skip ?_ | refine WK.label ?_ | refine WK.scope ?_ | refine WK.inScope ?_ | refine WK.exit rfl ?_)
  refine WK.ret Try.func217 (by simp (maxDischargeDepth := 120) [Try.results217]) (by simp)
end Go.Proofs.Ytbncoeoamjcjjaa
