/- The functions of cubes, and those of the reference. -/
import Derived.Test.YtfgmjnmkcobhkaaW0
set_option linter.all false
set_option linter.unnecessarySimpa false
set_option linter.unusedVariables false
set_option linter.unusedSimpArgs false
namespace Go.Proofs.Ytfgmjnmkcobhkaa
open Go Go.AI Go.Proofs

theorem chas_c (c : Cube) (h : Header) : FnP Try.prog 33 [.agg (encC c), .agg (encH h)] (.bool (cubeHas c h)) := by
  refine FnP.intro Try.func33 rfl rfl fun G w => ?_
  repeat (first | refine WK.seq ?_ | refine WK.block ?_ | refine WK.inBlock ?_ | refine WK.skip ?_ | refine WK.label ?_ | refine WK.scope ?_ | refine WK.inScope ?_ | refine WK.exit rfl ?_)
  first | refine WK.reg 100 Try.ntmps33 (by kernel_rfl) ?_ | refine WK.regD 100 clsOf (by kernel_rfl) Try.ntmps33 (by kernel_rfl) (by kernel_rfl) ?_
  intro A hA Q hQ
  simp
  refine hQ _ _ ?_
  clear hQ hA
  repeat (first | refine WK.seq ?_ | refine WK.block ?_ | refine WK.inBlock ?_ | refine WK.skip ?_ | refine WK.label ?_ | refine WK.scope ?_ | refine WK.inScope ?_ | refine WK.exit rfl ?_)
  first | refine WK.reg 200 Try.ntmps33 (by kernel_rfl) ?_ | refine WK.regD 200 clsOf (by kernel_rfl) Try.ntmps33 (by kernel_rfl) (by kernel_rfl) ?_
  intro A hA Q hQ
  simp
  refine hQ _ _ ?_
  clear hQ hA
  repeat (first | refine WK.seq ?_ | refine WK.block ?_ | refine WK.inBlock ?_ | refine WK.skip ?_ | refine WK.label ?_ | refine WK.scope ?_ | refine WK.inScope ?_ | refine WK.exit rfl ?_)
  refine WK.loopI (fun n => n) (fun i : Nat => (⟨(upd (upd (upd J 3 (.ptr 1 0)) 7 (.agg (encC c))) 8 (.int .i64 i)), (upd B0 1 (.var (encH h))), 0⟩ : St)) (fun i => i ≤ 24 ∧ ∀ j, j < i → (c j).has (h j) = true) (fun i => 24 - i) (0) (by repeat (first | exact TmW.nil | refine TmW.upd ?_ (by simp (maxDischargeDepth := 120)))) (by repeat (first | exact BxW.nil | refine BxW.upd ?_ (by simp (maxDischargeDepth := 120)))) (by first | exact InjW.id | exact InjW.nil | exact InjW.one | exact InjW.two (by simp) | exact InjW.three (by simp) (by simp) (by simp)) (⟨by omega, by simp⟩) (fun i hi IH => ?_)
  repeat (first | refine WK.seq ?_ | refine WK.block ?_ | refine WK.inBlock ?_ | refine WK.skip ?_ | refine WK.label ?_ | refine WK.scope ?_ | refine WK.inScope ?_ | refine WK.exit rfl ?_)
  first | refine WK.reg 300 Try.ntmps33 (by kernel_rfl) ?_ | refine WK.regD 300 clsOf (by kernel_rfl) Try.ntmps33 (by kernel_rfl) (by kernel_rfl) ?_
  intro A hA Q hQ
  simp
  refine hQ _ _ ?_
  clear hQ hA
  repeat (first | refine WK.seq ?_ | refine WK.block ?_ | refine WK.inBlock ?_ | refine WK.skip ?_ | refine WK.label ?_ | refine WK.scope ?_ | refine WK.inScope ?_ | refine WK.exit rfl ?_)
  refine WK.cond2 rfl (fun h1 => ?_) (fun h1 => ?_)
  · simp at h1
    have h2 : i < 24 := by omega
    have h3 : i * 4 + 4 ≤ 96 := by omega
    have h4 : i * 2 + 2 ≤ 48 := by omega
    have h6 : IntKind.i64.wrap ((i : Int) + 1) = i + 1 := wrap_i64 (by omega) (by omega)
    repeat (first | refine WK.seq ?_ | refine WK.block ?_ | refine WK.inBlock ?_ | refine WK.skip ?_ | refine WK.label ?_ | refine WK.scope ?_ | refine WK.inScope ?_ | refine WK.exit rfl ?_)
    first | refine WK.reg 400 Try.ntmps33 (by kernel_rfl) ?_ | refine WK.regD 400 clsOf (by kernel_rfl) Try.ntmps33 (by kernel_rfl) (by kernel_rfl) ?_
    intro A hA Q hQ
    simp [h1, h2, h3, encC_sub]
    refine hQ _ _ ?_
    clear hQ hA
    repeat (first | refine WK.seq ?_ | refine WK.block ?_ | refine WK.inBlock ?_ | refine WK.skip ?_ | refine WK.label ?_ | refine WK.scope ?_ | refine WK.inScope ?_ | refine WK.exit rfl ?_)
    first | refine WK.reg 500 Try.ntmps33 (by kernel_rfl) ?_ | refine WK.regD 500 clsOf (by kernel_rfl) Try.ntmps33 (by kernel_rfl) (by kernel_rfl) ?_
    intro A hA Q hQ
    simp [h1, h2, h4, encH_sub]
    refine RunQ.call rfl rfl rfl rfl (by rfl) (by simp (maxDischargeDepth := 120)) (has_c (c i) (h i)) (by simp) ?_
    refine RunQ.eval ?_
    simp
    refine hQ _ _ ?_
    clear hQ hA
    repeat (first | refine WK.seq ?_ | refine WK.block ?_ | refine WK.inBlock ?_ | refine WK.skip ?_ | refine WK.label ?_ | refine WK.scope ?_ | refine WK.inScope ?_ | refine WK.exit rfl ?_)
    refine WK.cond2 rfl (fun h5 => ?_) (fun h5 => ?_)
    · simp at h5
      have hr : cubeHas c h = false := all_range_false (p := fun i => (c i).has (h i)) h2 h5
      repeat (first | refine WK.seq ?_ | refine WK.block ?_ | refine WK.inBlock ?_ | refine WK.skip ?_ | refine WK.label ?_ | refine WK.scope ?_ | refine WK.inScope ?_ | refine WK.exit rfl ?_)
      first | refine WK.reg 600 Try.ntmps33 (by kernel_rfl) ?_ | refine WK.regD 600 clsOf (by kernel_rfl) Try.ntmps33 (by kernel_rfl) (by kernel_rfl) ?_
      intro A hA Q hQ
      simp
      refine hQ _ _ ?_
      clear hQ hA
      repeat (first | refine WK.seq ?_ | refine WK.block ?_ | refine WK.inBlock ?_ | refine WK.skip ?_ | refine WK.label ?_ | refine WK.scope ?_ | refine WK.inScope ?_ | refine WK.exit rfl ?_)
      refine WK.ret Try.func33 (by simp (maxDischargeDepth := 120) [Try.results33, hr]) (by simp [hr])
    · simp at h5
      repeat (first | refine WK.seq ?_ | refine WK.block ?_ | refine WK.inBlock ?_ | refine WK.skip ?_ | refine WK.label ?_ | refine WK.scope ?_ | refine WK.inScope ?_ | refine WK.exit rfl ?_)
      first | refine WK.reg 700 Try.ntmps33 (by kernel_rfl) ?_ | refine WK.regD 700 clsOf (by kernel_rfl) Try.ntmps33 (by kernel_rfl) (by kernel_rfl) ?_
      intro A hA Q hQ
      simp [h6]
      refine hQ _ _ ?_
      clear hQ hA
      repeat (first | refine WK.seq ?_ | refine WK.block ?_ | refine WK.inBlock ?_ | refine WK.skip ?_ | refine WK.label ?_ | refine WK.scope ?_ | refine WK.inScope ?_ | refine WK.exit rfl ?_)
      refine WK.next (fun n => n) (IH (i + 1) (⟨by omega, fun j hj => by by_cases h7 : j = i; (subst h7; exact h5); exact hi.2 j (by omega)⟩) (by omega)) (by repeat (first | exact TmW.nil | refine TmW.upd ?_ (by simp (maxDischargeDepth := 120)))) (by repeat (first | exact BxW.nil | refine BxW.upd ?_ (by simp (maxDischargeDepth := 120)))) (by first | exact InjW.id | exact InjW.nil | exact InjW.one | exact InjW.two (by simp) | exact InjW.three (by simp) (by simp) (by simp))
  · simp at h1
    have hr : cubeHas c h = true := all_range_true fun j hj => hi.2 j (by omega)
    repeat (first | refine WK.seq ?_ | refine WK.block ?_ | refine WK.inBlock ?_ | refine WK.skip ?_ | refine WK.label ?_ | refine WK.scope ?_ | refine WK.inScope ?_ | refine WK.exit rfl ?_)
    first | refine WK.reg 800 Try.ntmps33 (by kernel_rfl) ?_ | refine WK.regD 800 clsOf (by kernel_rfl) Try.ntmps33 (by kernel_rfl) (by kernel_rfl) ?_
    intro A hA Q hQ
    simp
    refine hQ _ _ ?_
    clear hQ hA
    repeat (first | refine WK.seq ?_ | refine WK.block ?_ | refine WK.inBlock ?_ | refine WK.skip ?_ | refine WK.label ?_ | refine WK.scope ?_ | refine WK.inScope ?_ | refine WK.exit rfl ?_)
    refine WK.ret Try.func33 (by simp (maxDischargeDepth := 120) [Try.results33, hr]) (by simp [hr])
theorem rchas_c (c : Cube) (h : Header) : FnP Try.prog 85 [.agg (encC c), .agg (encH h)] (.bool (cubeHas c h)) := by
  refine FnP.intro Try.func85 rfl rfl fun G w => ?_
  repeat (first | refine WK.seq ?_ | refine WK.block ?_ | refine WK.inBlock ?_ | refine WK.skip ?_ | refine WK.label ?_ | refine WK.scope ?_ | refine WK.inScope ?_ | refine WK.exit rfl ?_)
  first | refine WK.reg 100 Try.ntmps85 (by kernel_rfl) ?_ | refine WK.regD 100 clsOf (by kernel_rfl) Try.ntmps85 (by kernel_rfl) (by kernel_rfl) ?_
  intro A hA Q hQ
  simp
  refine hQ _ _ ?_
  clear hQ hA
  repeat (first | refine WK.seq ?_ | refine WK.block ?_ | refine WK.inBlock ?_ | refine WK.skip ?_ | refine WK.label ?_ | refine WK.scope ?_ | refine WK.inScope ?_ | refine WK.exit rfl ?_)
  first | refine WK.reg 200 Try.ntmps85 (by kernel_rfl) ?_ | refine WK.regD 200 clsOf (by kernel_rfl) Try.ntmps85 (by kernel_rfl) (by kernel_rfl) ?_
  intro A hA Q hQ
  simp
  refine hQ _ _ ?_
  clear hQ hA
  repeat (first | refine WK.seq ?_ | refine WK.block ?_ | refine WK.inBlock ?_ | refine WK.skip ?_ | refine WK.label ?_ | refine WK.scope ?_ | refine WK.inScope ?_ | refine WK.exit rfl ?_)
  refine WK.loopI (fun n => n) (fun i : Nat => (⟨(upd (upd (upd J 2 (.ptr 0 0)) 3 (.ptr 1 0)) 5 (.int .i64 i)), (upd (upd B0 0 (.var (encC c))) 1 (.var (encH h))), 0⟩ : St)) (fun i => i ≤ 24 ∧ ∀ j, j < i → (c j).has (h j) = true) (fun i => 24 - i) (0) (by repeat (first | exact TmW.nil | refine TmW.upd ?_ (by simp (maxDischargeDepth := 120)))) (by repeat (first | exact BxW.nil | refine BxW.upd ?_ (by simp (maxDischargeDepth := 120)))) (by first | exact InjW.id | exact InjW.nil | exact InjW.one | exact InjW.two (by simp) | exact InjW.three (by simp) (by simp) (by simp)) (⟨by omega, by simp⟩) (fun i hi IH => ?_)
  repeat (first | refine WK.seq ?_ | refine WK.block ?_ | refine WK.inBlock ?_ | refine WK.skip ?_ | refine WK.label ?_ | refine WK.scope ?_ | refine WK.inScope ?_ | refine WK.exit rfl ?_)
  first | refine WK.reg 300 Try.ntmps85 (by kernel_rfl) ?_ | refine WK.regD 300 clsOf (by kernel_rfl) Try.ntmps85 (by kernel_rfl) (by kernel_rfl) ?_
  intro A hA Q hQ
  simp
  refine hQ _ _ ?_
  clear hQ hA
  repeat (first | refine WK.seq ?_ | refine WK.block ?_ | refine WK.inBlock ?_ | refine WK.skip ?_ | refine WK.label ?_ | refine WK.scope ?_ | refine WK.inScope ?_ | refine WK.exit rfl ?_)
  refine WK.cond2 rfl (fun h1 => ?_) (fun h1 => ?_)
  · simp at h1
    have h2 : i < 24 := by omega
    have h3 : i * 4 + 4 ≤ 96 := by omega
    have h4 : i * 2 + 2 ≤ 48 := by omega
    have h6 : IntKind.i64.wrap ((i : Int) + 1) = i + 1 := wrap_i64 (by omega) (by omega)
    repeat (first | refine WK.seq ?_ | refine WK.block ?_ | refine WK.inBlock ?_ | refine WK.skip ?_ | refine WK.label ?_ | refine WK.scope ?_ | refine WK.inScope ?_ | refine WK.exit rfl ?_)
    first | refine WK.reg 400 Try.ntmps85 (by kernel_rfl) ?_ | refine WK.regD 400 clsOf (by kernel_rfl) Try.ntmps85 (by kernel_rfl) (by kernel_rfl) ?_
    intro A hA Q hQ
    simp [h1, h2, h3, h4, encH_sub, encC_sub]
    refine RunQ.call rfl rfl rfl rfl (by rfl) (by simp (maxDischargeDepth := 120)) (rhas_c (c i) (h i)) (by simp) ?_
    refine RunQ.eval ?_
    simp
    refine hQ _ _ ?_
    clear hQ hA
    repeat (first | refine WK.seq ?_ | refine WK.block ?_ | refine WK.inBlock ?_ | refine WK.skip ?_ | refine WK.label ?_ | refine WK.scope ?_ | refine WK.inScope ?_ | refine WK.exit rfl ?_)
    refine WK.cond2 rfl (fun h5 => ?_) (fun h5 => ?_)
    · simp at h5
      have hr : cubeHas c h = false := all_range_false (p := fun i => (c i).has (h i)) h2 h5
      repeat (first | refine WK.seq ?_ | refine WK.block ?_ | refine WK.inBlock ?_ | refine WK.skip ?_ | refine WK.label ?_ | refine WK.scope ?_ | refine WK.inScope ?_ | refine WK.exit rfl ?_)
      first | refine WK.reg 500 Try.ntmps85 (by kernel_rfl) ?_ | refine WK.regD 500 clsOf (by kernel_rfl) Try.ntmps85 (by kernel_rfl) (by kernel_rfl) ?_
      intro A hA Q hQ
      simp
      refine hQ _ _ ?_
      clear hQ hA
      repeat (first | refine WK.seq ?_ | refine WK.block ?_ | refine WK.inBlock ?_ | refine WK.skip ?_ | refine WK.label ?_ | refine WK.scope ?_ | refine WK.inScope ?_ | refine WK.exit rfl ?_)
      refine WK.ret Try.func85 (by simp (maxDischargeDepth := 120) [Try.results85, hr]) (by simp [hr])
    · simp at h5
      repeat (first | refine WK.seq ?_ | refine WK.block ?_ | refine WK.inBlock ?_ | refine WK.skip ?_ | refine WK.label ?_ | refine WK.scope ?_ | refine WK.inScope ?_ | refine WK.exit rfl ?_)
      first | refine WK.reg 600 Try.ntmps85 (by kernel_rfl) ?_ | refine WK.regD 600 clsOf (by kernel_rfl) Try.ntmps85 (by kernel_rfl) (by kernel_rfl) ?_
      intro A hA Q hQ
      simp [h6]
      refine hQ _ _ ?_
      clear hQ hA
      repeat (first | refine WK.seq ?_ | refine WK.block ?_ | refine WK.inBlock ?_ | refine WK.skip ?_ | refine WK.label ?_ | refine WK.scope ?_ | refine WK.inScope ?_ | refine WK.exit rfl ?_)
      refine WK.next (fun n => n) (IH (i + 1) (⟨by omega, fun j hj => by by_cases h7 : j = i; (subst h7; exact h5); exact hi.2 j (by omega)⟩) (by omega)) (by repeat (first | exact TmW.nil | refine TmW.upd ?_ (by simp (maxDischargeDepth := 120)))) (by repeat (first | exact BxW.nil | refine BxW.upd ?_ (by simp (maxDischargeDepth := 120)))) (by first | exact InjW.id | exact InjW.nil | exact InjW.one | exact InjW.two (by simp) | exact InjW.three (by simp) (by simp) (by simp))
  · simp at h1
    have hr : cubeHas c h = true := all_range_true fun j hj => hi.2 j (by omega)
    repeat (first | refine WK.seq ?_ | refine WK.block ?_ | refine WK.inBlock ?_ | refine WK.skip ?_ | refine WK.label ?_ | refine WK.scope ?_ | refine WK.inScope ?_ | refine WK.exit rfl ?_)
    first | refine WK.reg 700 Try.ntmps85 (by kernel_rfl) ?_ | refine WK.regD 700 clsOf (by kernel_rfl) Try.ntmps85 (by kernel_rfl) (by kernel_rfl) ?_
    intro A hA Q hQ
    simp
    refine hQ _ _ ?_
    clear hQ hA
    repeat (first | refine WK.seq ?_ | refine WK.block ?_ | refine WK.inBlock ?_ | refine WK.skip ?_ | refine WK.label ?_ | refine WK.scope ?_ | refine WK.inScope ?_ | refine WK.exit rfl ?_)
    refine WK.ret Try.func85 (by simp (maxDischargeDepth := 120) [Try.results85, hr]) (by simp [hr])
theorem cwithin_c (a b : Cube) : FnP Try.prog 64 [.agg (encC a), .agg (encC b)] (.bool (cubeWithin a b)) := by
  refine FnP.intro Try.func64 rfl rfl fun G w => ?_
  repeat (first | refine WK.seq ?_ | refine WK.block ?_ | refine WK.inBlock ?_ | refine WK.skip ?_ | refine WK.label ?_ | refine WK.scope ?_ | refine WK.inScope ?_ | refine WK.exit rfl ?_)
  first | refine WK.reg 100 Try.ntmps64 (by kernel_rfl) ?_ | refine WK.regD 100 clsOf (by kernel_rfl) Try.ntmps64 (by kernel_rfl) (by kernel_rfl) ?_
  intro A hA Q hQ
  simp
  refine hQ _ _ ?_
  clear hQ hA
  repeat (first | refine WK.seq ?_ | refine WK.block ?_ | refine WK.inBlock ?_ | refine WK.skip ?_ | refine WK.label ?_ | refine WK.scope ?_ | refine WK.inScope ?_ | refine WK.exit rfl ?_)
  first | refine WK.reg 200 Try.ntmps64 (by kernel_rfl) ?_ | refine WK.regD 200 clsOf (by kernel_rfl) Try.ntmps64 (by kernel_rfl) (by kernel_rfl) ?_
  intro A hA Q hQ
  simp
  refine hQ _ _ ?_
  clear hQ hA
  repeat (first | refine WK.seq ?_ | refine WK.block ?_ | refine WK.inBlock ?_ | refine WK.skip ?_ | refine WK.label ?_ | refine WK.scope ?_ | refine WK.inScope ?_ | refine WK.exit rfl ?_)
  refine WK.loopI (fun n => n) (fun i : Nat => (⟨(upd (upd (upd J 3 (.ptr 1 0)) 7 (.agg (encC a))) 8 (.int .i64 i)), (upd B0 1 (.var (encC b))), 0⟩ : St)) (fun i => i ≤ 24 ∧ ∀ j, j < i → (a j).within (b j) = true) (fun i => 24 - i) (0) (by repeat (first | exact TmW.nil | refine TmW.upd ?_ (by simp (maxDischargeDepth := 120)))) (by repeat (first | exact BxW.nil | refine BxW.upd ?_ (by simp (maxDischargeDepth := 120)))) (by first | exact InjW.id | exact InjW.nil | exact InjW.one | exact InjW.two (by simp) | exact InjW.three (by simp) (by simp) (by simp)) (⟨by omega, by simp⟩) (fun i hi IH => ?_)
  repeat (first | refine WK.seq ?_ | refine WK.block ?_ | refine WK.inBlock ?_ | refine WK.skip ?_ | refine WK.label ?_ | refine WK.scope ?_ | refine WK.inScope ?_ | refine WK.exit rfl ?_)
  first | refine WK.reg 300 Try.ntmps64 (by kernel_rfl) ?_ | refine WK.regD 300 clsOf (by kernel_rfl) Try.ntmps64 (by kernel_rfl) (by kernel_rfl) ?_
  intro A hA Q hQ
  simp
  refine hQ _ _ ?_
  clear hQ hA
  repeat (first | refine WK.seq ?_ | refine WK.block ?_ | refine WK.inBlock ?_ | refine WK.skip ?_ | refine WK.label ?_ | refine WK.scope ?_ | refine WK.inScope ?_ | refine WK.exit rfl ?_)
  refine WK.cond2 rfl (fun h1 => ?_) (fun h1 => ?_)
  · simp at h1
    have h2 : i < 24 := by omega
    have h3 : i * 4 + 4 ≤ 96 := by omega
    have h6 : IntKind.i64.wrap ((i : Int) + 1) = i + 1 := wrap_i64 (by omega) (by omega)
    repeat (first | refine WK.seq ?_ | refine WK.block ?_ | refine WK.inBlock ?_ | refine WK.skip ?_ | refine WK.label ?_ | refine WK.scope ?_ | refine WK.inScope ?_ | refine WK.exit rfl ?_)
    first | refine WK.reg 400 Try.ntmps64 (by kernel_rfl) ?_ | refine WK.regD 400 clsOf (by kernel_rfl) Try.ntmps64 (by kernel_rfl) (by kernel_rfl) ?_
    intro A hA Q hQ
    simp [h1, h2, h3, encC_sub]
    refine hQ _ _ ?_
    clear hQ hA
    repeat (first | refine WK.seq ?_ | refine WK.block ?_ | refine WK.inBlock ?_ | refine WK.skip ?_ | refine WK.label ?_ | refine WK.scope ?_ | refine WK.inScope ?_ | refine WK.exit rfl ?_)
    first | refine WK.reg 500 Try.ntmps64 (by kernel_rfl) ?_ | refine WK.regD 500 clsOf (by kernel_rfl) Try.ntmps64 (by kernel_rfl) (by kernel_rfl) ?_
    intro A hA Q hQ
    simp [h1, h2, h3, encC_sub]
    refine RunQ.call rfl rfl rfl rfl (by rfl) (by simp (maxDischargeDepth := 120)) (within_c (a i) (b i)) (by simp) ?_
    refine RunQ.eval ?_
    simp
    refine hQ _ _ ?_
    clear hQ hA
    repeat (first | refine WK.seq ?_ | refine WK.block ?_ | refine WK.inBlock ?_ | refine WK.skip ?_ | refine WK.label ?_ | refine WK.scope ?_ | refine WK.inScope ?_ | refine WK.exit rfl ?_)
    refine WK.cond2 rfl (fun h5 => ?_) (fun h5 => ?_)
    · simp at h5
      have hr : cubeWithin a b = false := all_range_false (p := fun i => (a i).within (b i)) h2 h5
      repeat (first | refine WK.seq ?_ | refine WK.block ?_ | refine WK.inBlock ?_ | refine WK.skip ?_ | refine WK.label ?_ | refine WK.scope ?_ | refine WK.inScope ?_ | refine WK.exit rfl ?_)
      first | refine WK.reg 600 Try.ntmps64 (by kernel_rfl) ?_ | refine WK.regD 600 clsOf (by kernel_rfl) Try.ntmps64 (by kernel_rfl) (by kernel_rfl) ?_
      intro A hA Q hQ
      simp
      refine hQ _ _ ?_
      clear hQ hA
      repeat (first | refine WK.seq ?_ | refine WK.block ?_ | refine WK.inBlock ?_ | refine WK.skip ?_ | refine WK.label ?_ | refine WK.scope ?_ | refine WK.inScope ?_ | refine WK.exit rfl ?_)
      refine WK.ret Try.func64 (by simp (maxDischargeDepth := 120) [Try.results64, hr]) (by simp [hr])
    · simp at h5
      repeat (first | refine WK.seq ?_ | refine WK.block ?_ | refine WK.inBlock ?_ | refine WK.skip ?_ | refine WK.label ?_ | refine WK.scope ?_ | refine WK.inScope ?_ | refine WK.exit rfl ?_)
      first | refine WK.reg 700 Try.ntmps64 (by kernel_rfl) ?_ | refine WK.regD 700 clsOf (by kernel_rfl) Try.ntmps64 (by kernel_rfl) (by kernel_rfl) ?_
      intro A hA Q hQ
      simp [h6]
      refine hQ _ _ ?_
      clear hQ hA
      repeat (first | refine WK.seq ?_ | refine WK.block ?_ | refine WK.inBlock ?_ | refine WK.skip ?_ | refine WK.label ?_ | refine WK.scope ?_ | refine WK.inScope ?_ | refine WK.exit rfl ?_)
      refine WK.next (fun n => n) (IH (i + 1) (⟨by omega, fun j hj => by by_cases h7 : j = i; (subst h7; exact h5); exact hi.2 j (by omega)⟩) (by omega)) (by repeat (first | exact TmW.nil | refine TmW.upd ?_ (by simp (maxDischargeDepth := 120)))) (by repeat (first | exact BxW.nil | refine BxW.upd ?_ (by simp (maxDischargeDepth := 120)))) (by first | exact InjW.id | exact InjW.nil | exact InjW.one | exact InjW.two (by simp) | exact InjW.three (by simp) (by simp) (by simp))
  · simp at h1
    have hr : cubeWithin a b = true := all_range_true fun j hj => hi.2 j (by omega)
    repeat (first | refine WK.seq ?_ | refine WK.block ?_ | refine WK.inBlock ?_ | refine WK.skip ?_ | refine WK.label ?_ | refine WK.scope ?_ | refine WK.inScope ?_ | refine WK.exit rfl ?_)
    first | refine WK.reg 800 Try.ntmps64 (by kernel_rfl) ?_ | refine WK.regD 800 clsOf (by kernel_rfl) Try.ntmps64 (by kernel_rfl) (by kernel_rfl) ?_
    intro A hA Q hQ
    simp
    refine hQ _ _ ?_
    clear hQ hA
    repeat (first | refine WK.seq ?_ | refine WK.block ?_ | refine WK.inBlock ?_ | refine WK.skip ?_ | refine WK.label ?_ | refine WK.scope ?_ | refine WK.inScope ?_ | refine WK.exit rfl ?_)
    refine WK.ret Try.func64 (by simp (maxDischargeDepth := 120) [Try.results64, hr]) (by simp [hr])
theorem rcwithin_c (a b : Cube) : FnP Try.prog 65 [.agg (encC a), .agg (encC b)] (.bool (cubeWithin a b)) := by
  refine FnP.intro Try.func65 rfl rfl fun G w => ?_
  repeat (first | refine WK.seq ?_ | refine WK.block ?_ | refine WK.inBlock ?_ | refine WK.skip ?_ | refine WK.label ?_ | refine WK.scope ?_ | refine WK.inScope ?_ | refine WK.exit rfl ?_)
  first | refine WK.reg 100 Try.ntmps65 (by kernel_rfl) ?_ | refine WK.regD 100 clsOf (by kernel_rfl) Try.ntmps65 (by kernel_rfl) (by kernel_rfl) ?_
  intro A hA Q hQ
  simp
  refine hQ _ _ ?_
  clear hQ hA
  repeat (first | refine WK.seq ?_ | refine WK.block ?_ | refine WK.inBlock ?_ | refine WK.skip ?_ | refine WK.label ?_ | refine WK.scope ?_ | refine WK.inScope ?_ | refine WK.exit rfl ?_)
  first | refine WK.reg 200 Try.ntmps65 (by kernel_rfl) ?_ | refine WK.regD 200 clsOf (by kernel_rfl) Try.ntmps65 (by kernel_rfl) (by kernel_rfl) ?_
  intro A hA Q hQ
  simp
  refine hQ _ _ ?_
  clear hQ hA
  repeat (first | refine WK.seq ?_ | refine WK.block ?_ | refine WK.inBlock ?_ | refine WK.skip ?_ | refine WK.label ?_ | refine WK.scope ?_ | refine WK.inScope ?_ | refine WK.exit rfl ?_)
  refine WK.loopI (fun n => n) (fun i : Nat => (⟨(upd (upd (upd J 2 (.ptr 0 0)) 3 (.ptr 1 0)) 5 (.int .i64 i)), (upd (upd B0 0 (.var (encC a))) 1 (.var (encC b))), 0⟩ : St)) (fun i => i ≤ 24 ∧ ∀ j, j < i → (a j).within (b j) = true) (fun i => 24 - i) (0) (by repeat (first | exact TmW.nil | refine TmW.upd ?_ (by simp (maxDischargeDepth := 120)))) (by repeat (first | exact BxW.nil | refine BxW.upd ?_ (by simp (maxDischargeDepth := 120)))) (by first | exact InjW.id | exact InjW.nil | exact InjW.one | exact InjW.two (by simp) | exact InjW.three (by simp) (by simp) (by simp)) (⟨by omega, by simp⟩) (fun i hi IH => ?_)
  repeat (first | refine WK.seq ?_ | refine WK.block ?_ | refine WK.inBlock ?_ | refine WK.skip ?_ | refine WK.label ?_ | refine WK.scope ?_ | refine WK.inScope ?_ | refine WK.exit rfl ?_)
  first | refine WK.reg 300 Try.ntmps65 (by kernel_rfl) ?_ | refine WK.regD 300 clsOf (by kernel_rfl) Try.ntmps65 (by kernel_rfl) (by kernel_rfl) ?_
  intro A hA Q hQ
  simp
  refine hQ _ _ ?_
  clear hQ hA
  repeat (first | refine WK.seq ?_ | refine WK.block ?_ | refine WK.inBlock ?_ | refine WK.skip ?_ | refine WK.label ?_ | refine WK.scope ?_ | refine WK.inScope ?_ | refine WK.exit rfl ?_)
  refine WK.cond2 rfl (fun h1 => ?_) (fun h1 => ?_)
  · simp at h1
    have h2 : i < 24 := by omega
    have h3 : i * 4 + 4 ≤ 96 := by omega
    have h6 : IntKind.i64.wrap ((i : Int) + 1) = i + 1 := wrap_i64 (by omega) (by omega)
    repeat (first | refine WK.seq ?_ | refine WK.block ?_ | refine WK.inBlock ?_ | refine WK.skip ?_ | refine WK.label ?_ | refine WK.scope ?_ | refine WK.inScope ?_ | refine WK.exit rfl ?_)
    first | refine WK.reg 400 Try.ntmps65 (by kernel_rfl) ?_ | refine WK.regD 400 clsOf (by kernel_rfl) Try.ntmps65 (by kernel_rfl) (by kernel_rfl) ?_
    intro A hA Q hQ
    simp [h1, h2, h3, encC_sub]
    refine RunQ.call rfl rfl rfl rfl (by rfl) (by simp (maxDischargeDepth := 120)) (rwithin_c (a i) (b i)) (by simp) ?_
    refine RunQ.eval ?_
    simp
    refine hQ _ _ ?_
    clear hQ hA
    repeat (first | refine WK.seq ?_ | refine WK.block ?_ | refine WK.inBlock ?_ | refine WK.skip ?_ | refine WK.label ?_ | refine WK.scope ?_ | refine WK.inScope ?_ | refine WK.exit rfl ?_)
    refine WK.cond2 rfl (fun h5 => ?_) (fun h5 => ?_)
    · simp at h5
      have hr : cubeWithin a b = false := all_range_false (p := fun i => (a i).within (b i)) h2 h5
      repeat (first | refine WK.seq ?_ | refine WK.block ?_ | refine WK.inBlock ?_ | refine WK.skip ?_ | refine WK.label ?_ | refine WK.scope ?_ | refine WK.inScope ?_ | refine WK.exit rfl ?_)
      first | refine WK.reg 500 Try.ntmps65 (by kernel_rfl) ?_ | refine WK.regD 500 clsOf (by kernel_rfl) Try.ntmps65 (by kernel_rfl) (by kernel_rfl) ?_
      intro A hA Q hQ
      simp
      refine hQ _ _ ?_
      clear hQ hA
      repeat (first | refine WK.seq ?_ | refine WK.block ?_ | refine WK.inBlock ?_ | refine WK.skip ?_ | refine WK.label ?_ | refine WK.scope ?_ | refine WK.inScope ?_ | refine WK.exit rfl ?_)
      refine WK.ret Try.func65 (by simp (maxDischargeDepth := 120) [Try.results65, hr]) (by simp [hr])
    · simp at h5
      repeat (first | refine WK.seq ?_ | refine WK.block ?_ | refine WK.inBlock ?_ | refine WK.skip ?_ | refine WK.label ?_ | refine WK.scope ?_ | refine WK.inScope ?_ | refine WK.exit rfl ?_)
      first | refine WK.reg 600 Try.ntmps65 (by kernel_rfl) ?_ | refine WK.regD 600 clsOf (by kernel_rfl) Try.ntmps65 (by kernel_rfl) (by kernel_rfl) ?_
      intro A hA Q hQ
      simp [h6]
      refine hQ _ _ ?_
      clear hQ hA
      repeat (first | refine WK.seq ?_ | refine WK.block ?_ | refine WK.inBlock ?_ | refine WK.skip ?_ | refine WK.label ?_ | refine WK.scope ?_ | refine WK.inScope ?_ | refine WK.exit rfl ?_)
      refine WK.next (fun n => n) (IH (i + 1) (⟨by omega, fun j hj => by by_cases h7 : j = i; (subst h7; exact h5); exact hi.2 j (by omega)⟩) (by omega)) (by repeat (first | exact TmW.nil | refine TmW.upd ?_ (by simp (maxDischargeDepth := 120)))) (by repeat (first | exact BxW.nil | refine BxW.upd ?_ (by simp (maxDischargeDepth := 120)))) (by first | exact InjW.id | exact InjW.nil | exact InjW.one | exact InjW.two (by simp) | exact InjW.three (by simp) (by simp) (by simp))
  · simp at h1
    have hr : cubeWithin a b = true := all_range_true fun j hj => hi.2 j (by omega)
    repeat (first | refine WK.seq ?_ | refine WK.block ?_ | refine WK.inBlock ?_ | refine WK.skip ?_ | refine WK.label ?_ | refine WK.scope ?_ | refine WK.inScope ?_ | refine WK.exit rfl ?_)
    first | refine WK.reg 700 Try.ntmps65 (by kernel_rfl) ?_ | refine WK.regD 700 clsOf (by kernel_rfl) Try.ntmps65 (by kernel_rfl) (by kernel_rfl) ?_
    intro A hA Q hQ
    simp
    refine hQ _ _ ?_
    clear hQ hA
    repeat (first | refine WK.seq ?_ | refine WK.block ?_ | refine WK.inBlock ?_ | refine WK.skip ?_ | refine WK.label ?_ | refine WK.scope ?_ | refine WK.inScope ?_ | refine WK.exit rfl ?_)
    refine WK.ret Try.func65 (by simp (maxDischargeDepth := 120) [Try.results65, hr]) (by simp [hr])
theorem cubeAll_c : FnP Try.prog 51 [] (.agg (encC cubeZ)) := by
  refine FnP.intro Try.func51 rfl rfl fun G w => ?_
  repeat (first | refine WK.seq ?_ | refine WK.block ?_ | refine WK.inBlock ?_ | refine WK.skip ?_ | refine WK.label ?_ | refine WK.scope ?_ | refine WK.inScope ?_ | refine WK.exit rfl ?_)
  first | refine WK.reg 100 Try.ntmps51 (by kernel_rfl) ?_ | refine WK.regD 100 clsOf (by kernel_rfl) Try.ntmps51 (by kernel_rfl) (by kernel_rfl) ?_
  intro A hA Q hQ
  simp
  refine hQ _ _ ?_
  clear hQ hA
  repeat (first | refine WK.seq ?_ | refine WK.block ?_ | refine WK.inBlock ?_ | refine WK.skip ?_ | refine WK.label ?_ | refine WK.scope ?_ | refine WK.inScope ?_ | refine WK.exit rfl ?_)
  first | refine WK.reg 200 Try.ntmps51 (by kernel_rfl) ?_ | refine WK.regD 200 clsOf (by kernel_rfl) Try.ntmps51 (by kernel_rfl) (by kernel_rfl) ?_
  intro A hA Q hQ
  simp
  refine hQ _ _ ?_
  clear hQ hA
  repeat (first | refine WK.seq ?_ | refine WK.block ?_ | refine WK.inBlock ?_ | refine WK.skip ?_ | refine WK.label ?_ | refine WK.scope ?_ | refine WK.inScope ?_ | refine WK.exit rfl ?_)
  refine WK.ret Try.func51 (by simp (maxDischargeDepth := 120) [Try.results51]) (by simp)
theorem rcclean_c (c : Cube) : FnP Try.prog 54 [.agg (encC c)] (.agg (encC (cubeClean c))) := by
  refine FnP.intro Try.func54 rfl rfl fun G w => ?_
  repeat (first | refine WK.seq ?_ | refine WK.block ?_ | refine WK.inBlock ?_ | refine WK.skip ?_ | refine WK.label ?_ | refine WK.scope ?_ | refine WK.inScope ?_ | refine WK.exit rfl ?_)
  first | refine WK.reg 100 Try.ntmps54 (by kernel_rfl) ?_ | refine WK.regD 100 clsOf (by kernel_rfl) Try.ntmps54 (by kernel_rfl) (by kernel_rfl) ?_
  intro A hA Q hQ
  simp
  refine hQ _ _ ?_
  clear hQ hA
  repeat (first | refine WK.seq ?_ | refine WK.block ?_ | refine WK.inBlock ?_ | refine WK.skip ?_ | refine WK.label ?_ | refine WK.scope ?_ | refine WK.inScope ?_ | refine WK.exit rfl ?_)
  first | refine WK.reg 200 Try.ntmps54 (by kernel_rfl) ?_ | refine WK.regD 200 clsOf (by kernel_rfl) Try.ntmps54 (by kernel_rfl) (by kernel_rfl) ?_
  intro A hA Q hQ
  simp
  refine hQ _ _ ?_
  clear hQ hA
  repeat (first | refine WK.seq ?_ | refine WK.block ?_ | refine WK.inBlock ?_ | refine WK.skip ?_ | refine WK.label ?_ | refine WK.scope ?_ | refine WK.inScope ?_ | refine WK.exit rfl ?_)
  refine WK.loopI (fun n => n) (fun i : Nat => (⟨(upd (upd (upd J 1 (.ptr 0 0)) 2 (.ptr 1 0)) 3 (.int .i64 i)), (upd (upd B0 0 (.var (encC fun j => if j < i then (c j).clean else c j))) 1 (.var (encC cubeZ))), 0⟩ : St)) (fun i => i ≤ 24) (fun i => 24 - i) (0) (by repeat (first | exact TmW.nil | refine TmW.upd ?_ (by simp (maxDischargeDepth := 120)))) (by repeat (first | exact BxW.nil | refine BxW.upd ?_ (by simp (maxDischargeDepth := 120)))) (by first | exact InjW.id | exact InjW.nil | exact InjW.one | exact InjW.two (by simp) | exact InjW.three (by simp) (by simp) (by simp)) (by omega) (fun i hi IH => ?_)
  repeat (first | refine WK.seq ?_ | refine WK.block ?_ | refine WK.inBlock ?_ | refine WK.skip ?_ | refine WK.label ?_ | refine WK.scope ?_ | refine WK.inScope ?_ | refine WK.exit rfl ?_)
  first | refine WK.reg 300 Try.ntmps54 (by kernel_rfl) ?_ | refine WK.regD 300 clsOf (by kernel_rfl) Try.ntmps54 (by kernel_rfl) (by kernel_rfl) ?_
  intro A hA Q hQ
  simp
  refine hQ _ _ ?_
  clear hQ hA
  repeat (first | refine WK.seq ?_ | refine WK.block ?_ | refine WK.inBlock ?_ | refine WK.skip ?_ | refine WK.label ?_ | refine WK.scope ?_ | refine WK.inScope ?_ | refine WK.exit rfl ?_)
  refine WK.cond2 rfl (fun h1 => ?_) (fun h1 => ?_)
  · simp at h1
    have h2 : i < 24 := by omega
    have h3 : i * 4 + 4 ≤ 96 := by omega
    have h6 : IntKind.i64.wrap ((i : Int) + 1) = i + 1 := wrap_i64 (by omega) (by omega)
    repeat (first | refine WK.seq ?_ | refine WK.block ?_ | refine WK.inBlock ?_ | refine WK.skip ?_ | refine WK.label ?_ | refine WK.scope ?_ | refine WK.inScope ?_ | refine WK.exit rfl ?_)
    first | refine WK.reg 400 Try.ntmps54 (by kernel_rfl) ?_ | refine WK.regD 400 clsOf (by kernel_rfl) Try.ntmps54 (by kernel_rfl) (by kernel_rfl) ?_
    intro A hA Q hQ
    simp [h1, h2, h3, encC_sub]
    refine RunQ.call rfl rfl rfl rfl (by rfl) (by simp (maxDischargeDepth := 120) [h1, h2, h3, encC_set]) (rclean_c (c i)) (by simp [h1, h2, h3, encC_set]) ?_
    refine RunQ.eval ?_
    simp [h1, h2, h3, encC_set]
    refine hQ _ _ ?_
    clear hQ hA
    have h7 : encC (fun j => if j = i then (c i).clean else if j < i then (c j).clean else c j) = encC (fun j => if j < i + 1 then (c j).clean else c j) :=
      encN_congr _ _ fun j hj => by
        by_cases e : j = i
        · subst e; simp
        · by_cases e2 : j < i
          · simp [e, e2, show j < i + 1 by omega]
          · simp [e, e2, show ¬ j < i + 1 by omega]
    repeat (first | refine WK.seq ?_ | refine WK.block ?_ | refine WK.inBlock ?_ | refine WK.skip ?_ | refine WK.label ?_ | refine WK.scope ?_ | refine WK.inScope ?_ | refine WK.exit rfl ?_)
    first | refine WK.reg 500 Try.ntmps54 (by kernel_rfl) ?_ | refine WK.regD 500 clsOf (by kernel_rfl) Try.ntmps54 (by kernel_rfl) (by kernel_rfl) ?_
    intro A hA Q hQ
    simp [h6]
    refine hQ _ _ ?_
    clear hQ hA
    repeat (first | refine WK.seq ?_ | refine WK.block ?_ | refine WK.inBlock ?_ | refine WK.skip ?_ | refine WK.label ?_ | refine WK.scope ?_ | refine WK.inScope ?_ | refine WK.exit rfl ?_)
    refine WK.next (fun n => n) (IH (i + 1) (by omega) (by omega)) (by repeat (first | exact TmW.nil | refine TmW.upd ?_ (by simp (maxDischargeDepth := 120) [h2, h7]))) (by repeat (first | exact BxW.nil | refine BxW.upd ?_ (by simp (maxDischargeDepth := 120) [h2, h7]))) (by first | exact InjW.id | exact InjW.nil | exact InjW.one | exact InjW.two (by simp) | exact InjW.three (by simp) (by simp) (by simp))
  · simp at h1
    repeat (first | refine WK.seq ?_ | refine WK.block ?_ | refine WK.inBlock ?_ | refine WK.skip ?_ | refine WK.label ?_ | refine WK.scope ?_ | refine WK.inScope ?_ | refine WK.exit rfl ?_)
    first | refine WK.reg 600 Try.ntmps54 (by kernel_rfl) ?_ | refine WK.regD 600 clsOf (by kernel_rfl) Try.ntmps54 (by kernel_rfl) (by kernel_rfl) ?_
    intro A hA Q hQ
    simp
    refine hQ _ _ ?_
    clear hQ hA
    have h8 : encC (fun j => if j < i then (c j).clean else c j) = encC (cubeClean c) := encN_congr _ _ fun j hj => by simp [show j < i by omega, cubeClean]
    repeat (first | refine WK.seq ?_ | refine WK.block ?_ | refine WK.inBlock ?_ | refine WK.skip ?_ | refine WK.label ?_ | refine WK.scope ?_ | refine WK.inScope ?_ | refine WK.exit rfl ?_)
    refine WK.ret Try.func54 (by simp (maxDischargeDepth := 120) [Try.results54, h8]) (by simp [h8])
end Go.Proofs.Ytfgmjnmkcobhkaa
