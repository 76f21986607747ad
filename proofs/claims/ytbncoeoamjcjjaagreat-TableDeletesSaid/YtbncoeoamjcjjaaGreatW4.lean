/- Lists that are the same. -/
import Derived.Test.YtbncoeoamjcjjaaGreatW3
set_option linter.all false
set_option linter.unnecessarySimpa false
set_option linter.unusedVariables false
set_option linter.unusedSimpArgs false
namespace Go.Proofs.YtbncoeoamjcjjaaGreat
open Go Go.AI Go.Proofs

def eqBy {α : Type} [Inhabited α] (p : α → α → Bool) (l m : List α) : Bool := l.length == m.length && (List.range l.length).all fun i => p (nth l i) (nth m i)

theorem eqf_oxm (fid : Nat) (caps : List AV) (p : Oxm → Oxm → Bool) (l m : List Oxm) (hcl : ClL caps = true) (hl : l.length ≤ 1000000)
    (hf : ∀ x, x ∈ l → ∀ y, y ∈ m → FnP Tryz.prog fid (.agg x.enc :: .agg y.enc :: caps) (.bool (p x y))) :
    FnP Tryz.prog 68 [oxmS l, oxmS m, .fn fid caps] (.bool (eqBy p l m)) := by
  unfold oxmS
  refine FnP.intro Tryz.func68 rfl rfl fun G w => ?_
  repeat (first | refine WK.seq ?_ | refine WK.block ?_ | refine WK.inBlock ?_ | refine WK.skip ?_ | refine WK.label ?_ | refine WK.scope ?_ | refine WK.inScope ?_ | refine WK.exit rfl ?_)
  first | refine WK.reg 100 Tryz.ntmps68 (by kernel_rfl) ?_ | refine WK.regD 100 clsOf (by kernel_rfl) Tryz.ntmps68 (by kernel_rfl) (by kernel_rfl) ?_
  intro A hA Q hQ
  simp
  refine hQ _ _ ?_
  clear hQ hA
  repeat (first | refine WK.seq ?_ | refine WK.block ?_ | refine WK.inBlock ?_ | refine WK.skip ?_ | refine WK.label ?_ | refine WK.scope ?_ | refine WK.inScope ?_ | refine WK.exit rfl ?_)
  first | refine WK.reg 200 Tryz.ntmps68 (by kernel_rfl) ?_ | refine WK.regD 200 clsOf (by kernel_rfl) Tryz.ntmps68 (by kernel_rfl) (by kernel_rfl) ?_
  intro A hA Q hQ
  simp
  refine hQ _ _ ?_
  clear hQ hA
  repeat (first | refine WK.seq ?_ | refine WK.block ?_ | refine WK.inBlock ?_ | refine WK.skip ?_ | refine WK.label ?_ | refine WK.scope ?_ | refine WK.inScope ?_ | refine WK.exit rfl ?_)
  refine WK.cond2 rfl (fun h => ?_) (fun h => ?_)
  · simp at h
    have e : eqBy p l m = false := by unfold eqBy; simp; intro e; omega
    repeat (first | refine WK.seq ?_ | refine WK.block ?_ | refine WK.inBlock ?_ | refine WK.skip ?_ | refine WK.label ?_ | refine WK.scope ?_ | refine WK.inScope ?_ | refine WK.exit rfl ?_)
    first | refine WK.reg 300 Tryz.ntmps68 (by kernel_rfl) ?_ | refine WK.regD 300 clsOf (by kernel_rfl) Tryz.ntmps68 (by kernel_rfl) (by kernel_rfl) ?_
    intro A hA Q hQ
    simp
    refine hQ _ _ ?_
    clear hQ hA
    repeat (first | refine WK.seq ?_ | refine WK.block ?_ | refine WK.inBlock ?_ | refine WK.skip ?_ | refine WK.label ?_ | refine WK.scope ?_ | refine WK.inScope ?_ | refine WK.exit rfl ?_)
    refine WK.ret Tryz.func68 (by simp (maxDischargeDepth := 120) [Tryz.results68, e]) (by simp [e])
  · simp at h
    have hlm : l.length = m.length := by omega
    repeat (first | refine WK.seq ?_ | refine WK.block ?_ | refine WK.inBlock ?_ | refine WK.skip ?_ | refine WK.label ?_ | refine WK.scope ?_ | refine WK.inScope ?_ | refine WK.exit rfl ?_)
    first | refine WK.reg 400 Tryz.ntmps68 (by kernel_rfl) ?_ | refine WK.regD 400 clsOf (by kernel_rfl) Tryz.ntmps68 (by kernel_rfl) (by kernel_rfl) ?_
    intro A hA Q hQ
    simp
    refine hQ _ _ ?_
    clear hQ hA
    repeat (first | refine WK.seq ?_ | refine WK.block ?_ | refine WK.inBlock ?_ | refine WK.skip ?_ | refine WK.label ?_ | refine WK.scope ?_ | refine WK.inScope ?_ | refine WK.exit rfl ?_)
    refine WK.loopI (fun n => n) (fun i : Nat => (⟨(upd (upd (upd (upd (upd (upd J 0 (.sl false l.length (oxmL l))) 1 (.sl false m.length (oxmL m))) 2 (.fn fid caps)) 15 (.sl false l.length (oxmL l))) 16 (.int .i64 l.length)) 17 (.int .i64 i)), B0, 0⟩ : St)) (fun i => i ≤ l.length ∧ ∀ j, j < i → p (nth l j) (nth m j) = true) (fun i => l.length - i) (0) (by repeat (first | exact TmW.nil | refine TmW.upd ?_ (by simp (maxDischargeDepth := 120) [hcl]))) (by repeat (first | exact BxW.nil | refine BxW.upd ?_ (by simp (maxDischargeDepth := 120) [hcl]))) (by first | exact InjW.id | exact InjW.nil | exact InjW.one | exact InjW.two (by simp) | exact InjW.three (by simp) (by simp) (by simp)) (⟨by omega, by simp⟩) (fun i hi IH => ?_)
    repeat (first | refine WK.seq ?_ | refine WK.block ?_ | refine WK.inBlock ?_ | refine WK.skip ?_ | refine WK.label ?_ | refine WK.scope ?_ | refine WK.inScope ?_ | refine WK.exit rfl ?_)
    first | refine WK.reg 500 Tryz.ntmps68 (by kernel_rfl) ?_ | refine WK.regD 500 clsOf (by kernel_rfl) Tryz.ntmps68 (by kernel_rfl) (by kernel_rfl) ?_
    intro A hA Q hQ
    simp
    refine hQ _ _ ?_
    clear hQ hA
    repeat (first | refine WK.seq ?_ | refine WK.block ?_ | refine WK.inBlock ?_ | refine WK.skip ?_ | refine WK.label ?_ | refine WK.scope ?_ | refine WK.inScope ?_ | refine WK.exit rfl ?_)
    refine WK.cond2 rfl (fun h1 => ?_) (fun h1 => ?_)
    · simp at h1
      have h2 : i < l.length := by omega
      have h2' : i < m.length := by omega
      have h3 : 6 ≤ l.length * 6 - i * 6 := by omega
      have h3' : 6 ≤ m.length * 6 - i * 6 := by omega
      have h4 := oxm_sub l i h2
      have h4' := oxm_sub m i h2'
      have h6 : IntKind.i64.wrap ((i : Int) + 1) = i + 1 := wrap_i64 (by omega) (by omega)
      repeat (first | refine WK.seq ?_ | refine WK.block ?_ | refine WK.inBlock ?_ | refine WK.skip ?_ | refine WK.label ?_ | refine WK.scope ?_ | refine WK.inScope ?_ | refine WK.exit rfl ?_)
      first | refine WK.reg 600 Tryz.ntmps68 (by kernel_rfl) ?_ | refine WK.regD 600 clsOf (by kernel_rfl) Tryz.ntmps68 (by kernel_rfl) (by kernel_rfl) ?_
      intro A hA Q hQ
      simp [h2, h3, h4]
      refine hQ _ _ ?_
      clear hQ hA
      repeat (first | refine WK.seq ?_ | refine WK.block ?_ | refine WK.inBlock ?_ | refine WK.skip ?_ | refine WK.label ?_ | refine WK.scope ?_ | refine WK.inScope ?_ | refine WK.exit rfl ?_)
      first | refine WK.reg 700 Tryz.ntmps68 (by kernel_rfl) ?_ | refine WK.regD 700 clsOf (by kernel_rfl) Tryz.ntmps68 (by kernel_rfl) (by kernel_rfl) ?_
      intro A hA Q hQ
      simp [h2', h3', h4']
      refine hQ _ _ ?_
      clear hQ hA
      repeat (first | refine WK.seq ?_ | refine WK.block ?_ | refine WK.inBlock ?_ | refine WK.skip ?_ | refine WK.label ?_ | refine WK.scope ?_ | refine WK.inScope ?_ | refine WK.exit rfl ?_)
      first | refine WK.reg 800 Tryz.ntmps68 (by kernel_rfl) ?_ | refine WK.regD 800 clsOf (by kernel_rfl) Tryz.ntmps68 (by kernel_rfl) (by kernel_rfl) ?_
      intro A hA Q hQ
      simp
      refine RunQ.call rfl rfl rfl rfl (by rfl) (by simp (maxDischargeDepth := 120) [hcl]) (hf (nth l i) (nth_mem h2) (nth m i) (nth_mem h2')) (by simp [hcl]) ?_
      refine RunQ.eval ?_
      simp [hcl]
      refine hQ _ _ ?_
      clear hQ hA
      repeat (first | refine WK.seq ?_ | refine WK.block ?_ | refine WK.inBlock ?_ | refine WK.skip ?_ | refine WK.label ?_ | refine WK.scope ?_ | refine WK.inScope ?_ | refine WK.exit rfl ?_)
      refine WK.cond2 rfl (fun h5 => ?_) (fun h5 => ?_)
      · simp at h5
        have e : eqBy p l m = false := by unfold eqBy; rw [all_range_false (p := fun i => p (nth l i) (nth m i)) h2 h5]; simp
        repeat (first | refine WK.seq ?_ | refine WK.block ?_ | refine WK.inBlock ?_ | refine WK.skip ?_ | refine WK.label ?_ | refine WK.scope ?_ | refine WK.inScope ?_ | refine WK.exit rfl ?_)
        first | refine WK.reg 900 Tryz.ntmps68 (by kernel_rfl) ?_ | refine WK.regD 900 clsOf (by kernel_rfl) Tryz.ntmps68 (by kernel_rfl) (by kernel_rfl) ?_
        intro A hA Q hQ
        simp
        refine hQ _ _ ?_
        clear hQ hA
        repeat (first | refine WK.seq ?_ | refine WK.block ?_ | refine WK.inBlock ?_ | refine WK.skip ?_ | refine WK.label ?_ | refine WK.scope ?_ | refine WK.inScope ?_ | refine WK.exit rfl ?_)
        refine WK.ret Tryz.func68 (by simp (maxDischargeDepth := 120) [Tryz.results68, e]) (by simp [e])
      · simp at h5
        repeat (first | refine WK.seq ?_ | refine WK.block ?_ | refine WK.inBlock ?_ | refine WK.skip ?_ | refine WK.label ?_ | refine WK.scope ?_ | refine WK.inScope ?_ | refine WK.exit rfl ?_)
        first | refine WK.reg 1000 Tryz.ntmps68 (by kernel_rfl) ?_ | refine WK.regD 1000 clsOf (by kernel_rfl) Tryz.ntmps68 (by kernel_rfl) (by kernel_rfl) ?_
        intro A hA Q hQ
        simp [h6]
        refine hQ _ _ ?_
        clear hQ hA
        repeat (first | refine WK.seq ?_ | refine WK.block ?_ | refine WK.inBlock ?_ | refine WK.skip ?_ | refine WK.label ?_ | refine WK.scope ?_ | refine WK.inScope ?_ | refine WK.exit rfl ?_)
        refine WK.next (fun n => n) (IH (i + 1) (⟨by omega, fun j hj => by by_cases h7 : j = i; (subst h7; exact h5); exact hi.2 j (by omega)⟩) (by first | omega | (dsimp only; omega))) (by repeat (first | exact TmW.nil | refine TmW.upd ?_ (by simp (maxDischargeDepth := 120) [hcl]))) (by repeat (first | exact BxW.nil | refine BxW.upd ?_ (by simp (maxDischargeDepth := 120) [hcl]))) (by first | exact InjW.id | exact InjW.nil | exact InjW.one | exact InjW.two (by simp) | exact InjW.three (by simp) (by simp) (by simp))
    · simp at h1
      have e : eqBy p l m = true := by unfold eqBy; rw [all_range_true (p := fun i => p (nth l i) (nth m i)) (fun j hj => hi.2 j (by omega))]; simp [hlm]
      repeat (first | refine WK.seq ?_ | refine WK.block ?_ | refine WK.inBlock ?_ | refine WK.skip ?_ | refine WK.label ?_ | refine WK.scope ?_ | refine WK.inScope ?_ | refine WK.exit rfl ?_)
      first | refine WK.reg 1100 Tryz.ntmps68 (by kernel_rfl) ?_ | refine WK.regD 1100 clsOf (by kernel_rfl) Tryz.ntmps68 (by kernel_rfl) (by kernel_rfl) ?_
      intro A hA Q hQ
      simp
      refine hQ _ _ ?_
      clear hQ hA
      repeat (first | refine WK.seq ?_ | refine WK.block ?_ | refine WK.inBlock ?_ | refine WK.skip ?_ | refine WK.label ?_ | refine WK.scope ?_ | refine WK.inScope ?_ | refine WK.exit rfl ?_)
      refine WK.ret Tryz.func68 (by simp (maxDischargeDepth := 120) [Tryz.results68, e]) (by simp [e])
theorem eqf_inst (fid : Nat) (caps : List AV) (p : Inst → Inst → Bool) (l m : List Inst) (hcl : ClL caps = true) (hl : l.length ≤ 1000000)
    (hf : ∀ x, x ∈ l → ∀ y, y ∈ m → FnP Tryz.prog fid (.agg x.enc :: .agg y.enc :: caps) (.bool (p x y))) :
    FnP Tryz.prog 70 [instS l, instS m, .fn fid caps] (.bool (eqBy p l m)) := by
  unfold instS
  refine FnP.intro Tryz.func70 rfl rfl fun G w => ?_
  repeat (first | refine WK.seq ?_ | refine WK.block ?_ | refine WK.inBlock ?_ | refine WK.skip ?_ | refine WK.label ?_ | refine WK.scope ?_ | refine WK.inScope ?_ | refine WK.exit rfl ?_)
  first | refine WK.reg 100 Tryz.ntmps70 (by kernel_rfl) ?_ | refine WK.regD 100 clsOf (by kernel_rfl) Tryz.ntmps70 (by kernel_rfl) (by kernel_rfl) ?_
  intro A hA Q hQ
  simp
  refine hQ _ _ ?_
  clear hQ hA
  repeat (first | refine WK.seq ?_ | refine WK.block ?_ | refine WK.inBlock ?_ | refine WK.skip ?_ | refine WK.label ?_ | refine WK.scope ?_ | refine WK.inScope ?_ | refine WK.exit rfl ?_)
  first | refine WK.reg 200 Tryz.ntmps70 (by kernel_rfl) ?_ | refine WK.regD 200 clsOf (by kernel_rfl) Tryz.ntmps70 (by kernel_rfl) (by kernel_rfl) ?_
  intro A hA Q hQ
  simp
  refine hQ _ _ ?_
  clear hQ hA
  repeat (first | refine WK.seq ?_ | refine WK.block ?_ | refine WK.inBlock ?_ | refine WK.skip ?_ | refine WK.label ?_ | refine WK.scope ?_ | refine WK.inScope ?_ | refine WK.exit rfl ?_)
  refine WK.cond2 rfl (fun h => ?_) (fun h => ?_)
  · simp at h
    have e : eqBy p l m = false := by unfold eqBy; simp; intro e; omega
    repeat (first | refine WK.seq ?_ | refine WK.block ?_ | refine WK.inBlock ?_ | refine WK.skip ?_ | refine WK.label ?_ | refine WK.scope ?_ | refine WK.inScope ?_ | refine WK.exit rfl ?_)
    first | refine WK.reg 300 Tryz.ntmps70 (by kernel_rfl) ?_ | refine WK.regD 300 clsOf (by kernel_rfl) Tryz.ntmps70 (by kernel_rfl) (by kernel_rfl) ?_
    intro A hA Q hQ
    simp
    refine hQ _ _ ?_
    clear hQ hA
    repeat (first | refine WK.seq ?_ | refine WK.block ?_ | refine WK.inBlock ?_ | refine WK.skip ?_ | refine WK.label ?_ | refine WK.scope ?_ | refine WK.inScope ?_ | refine WK.exit rfl ?_)
    refine WK.ret Tryz.func70 (by simp (maxDischargeDepth := 120) [Tryz.results70, e]) (by simp [e])
  · simp at h
    have hlm : l.length = m.length := by omega
    repeat (first | refine WK.seq ?_ | refine WK.block ?_ | refine WK.inBlock ?_ | refine WK.skip ?_ | refine WK.label ?_ | refine WK.scope ?_ | refine WK.inScope ?_ | refine WK.exit rfl ?_)
    first | refine WK.reg 400 Tryz.ntmps70 (by kernel_rfl) ?_ | refine WK.regD 400 clsOf (by kernel_rfl) Tryz.ntmps70 (by kernel_rfl) (by kernel_rfl) ?_
    intro A hA Q hQ
    simp
    refine hQ _ _ ?_
    clear hQ hA
    repeat (first | refine WK.seq ?_ | refine WK.block ?_ | refine WK.inBlock ?_ | refine WK.skip ?_ | refine WK.label ?_ | refine WK.scope ?_ | refine WK.inScope ?_ | refine WK.exit rfl ?_)
    refine WK.loopI (fun n => n) (fun i : Nat => (⟨(upd (upd (upd (upd (upd (upd J 0 (.sl false l.length (instL l))) 1 (.sl false m.length (instL m))) 2 (.fn fid caps)) 15 (.sl false l.length (instL l))) 16 (.int .i64 l.length)) 17 (.int .i64 i)), B0, 0⟩ : St)) (fun i => i ≤ l.length ∧ ∀ j, j < i → p (nth l j) (nth m j) = true) (fun i => l.length - i) (0) (by repeat (first | exact TmW.nil | refine TmW.upd ?_ (by simp (maxDischargeDepth := 120) [hcl]))) (by repeat (first | exact BxW.nil | refine BxW.upd ?_ (by simp (maxDischargeDepth := 120) [hcl]))) (by first | exact InjW.id | exact InjW.nil | exact InjW.one | exact InjW.two (by simp) | exact InjW.three (by simp) (by simp) (by simp)) (⟨by omega, by simp⟩) (fun i hi IH => ?_)
    repeat (first | refine WK.seq ?_ | refine WK.block ?_ | refine WK.inBlock ?_ | refine WK.skip ?_ | refine WK.label ?_ | refine WK.scope ?_ | refine WK.inScope ?_ | refine WK.exit rfl ?_)
    first | refine WK.reg 500 Tryz.ntmps70 (by kernel_rfl) ?_ | refine WK.regD 500 clsOf (by kernel_rfl) Tryz.ntmps70 (by kernel_rfl) (by kernel_rfl) ?_
    intro A hA Q hQ
    simp
    refine hQ _ _ ?_
    clear hQ hA
    repeat (first | refine WK.seq ?_ | refine WK.block ?_ | refine WK.inBlock ?_ | refine WK.skip ?_ | refine WK.label ?_ | refine WK.scope ?_ | refine WK.inScope ?_ | refine WK.exit rfl ?_)
    refine WK.cond2 rfl (fun h1 => ?_) (fun h1 => ?_)
    · simp at h1
      have h2 : i < l.length := by omega
      have h2' : i < m.length := by omega
      have h3 : 7 ≤ l.length * 7 - i * 7 := by omega
      have h3' : 7 ≤ m.length * 7 - i * 7 := by omega
      have h4 := inst_sub l i h2
      have h4' := inst_sub m i h2'
      have h6 : IntKind.i64.wrap ((i : Int) + 1) = i + 1 := wrap_i64 (by omega) (by omega)
      repeat (first | refine WK.seq ?_ | refine WK.block ?_ | refine WK.inBlock ?_ | refine WK.skip ?_ | refine WK.label ?_ | refine WK.scope ?_ | refine WK.inScope ?_ | refine WK.exit rfl ?_)
      first | refine WK.reg 600 Tryz.ntmps70 (by kernel_rfl) ?_ | refine WK.regD 600 clsOf (by kernel_rfl) Tryz.ntmps70 (by kernel_rfl) (by kernel_rfl) ?_
      intro A hA Q hQ
      simp [h2, h3, h4]
      refine hQ _ _ ?_
      clear hQ hA
      repeat (first | refine WK.seq ?_ | refine WK.block ?_ | refine WK.inBlock ?_ | refine WK.skip ?_ | refine WK.label ?_ | refine WK.scope ?_ | refine WK.inScope ?_ | refine WK.exit rfl ?_)
      first | refine WK.reg 700 Tryz.ntmps70 (by kernel_rfl) ?_ | refine WK.regD 700 clsOf (by kernel_rfl) Tryz.ntmps70 (by kernel_rfl) (by kernel_rfl) ?_
      intro A hA Q hQ
      simp [h2', h3', h4']
      refine hQ _ _ ?_
      clear hQ hA
      repeat (first | refine WK.seq ?_ | refine WK.block ?_ | refine WK.inBlock ?_ | refine WK.skip ?_ | refine WK.label ?_ | refine WK.scope ?_ | refine WK.inScope ?_ | refine WK.exit rfl ?_)
      first | refine WK.reg 800 Tryz.ntmps70 (by kernel_rfl) ?_ | refine WK.regD 800 clsOf (by kernel_rfl) Tryz.ntmps70 (by kernel_rfl) (by kernel_rfl) ?_
      intro A hA Q hQ
      simp
      refine RunQ.call rfl rfl rfl rfl (by rfl) (by simp (maxDischargeDepth := 120) [hcl]) (hf (nth l i) (nth_mem h2) (nth m i) (nth_mem h2')) (by simp [hcl]) ?_
      refine RunQ.eval ?_
      simp [hcl]
      refine hQ _ _ ?_
      clear hQ hA
      repeat (first | refine WK.seq ?_ | refine WK.block ?_ | refine WK.inBlock ?_ | refine WK.skip ?_ | refine WK.label ?_ | refine WK.scope ?_ | refine WK.inScope ?_ | refine WK.exit rfl ?_)
      refine WK.cond2 rfl (fun h5 => ?_) (fun h5 => ?_)
      · simp at h5
        have e : eqBy p l m = false := by unfold eqBy; rw [all_range_false (p := fun i => p (nth l i) (nth m i)) h2 h5]; simp
        repeat (first | refine WK.seq ?_ | refine WK.block ?_ | refine WK.inBlock ?_ | refine WK.skip ?_ | refine WK.label ?_ | refine WK.scope ?_ | refine WK.inScope ?_ | refine WK.exit rfl ?_)
        first | refine WK.reg 900 Tryz.ntmps70 (by kernel_rfl) ?_ | refine WK.regD 900 clsOf (by kernel_rfl) Tryz.ntmps70 (by kernel_rfl) (by kernel_rfl) ?_
        intro A hA Q hQ
        simp
        refine hQ _ _ ?_
        clear hQ hA
        repeat (first | refine WK.seq ?_ | refine WK.block ?_ | refine WK.inBlock ?_ | refine WK.skip ?_ | refine WK.label ?_ | refine WK.scope ?_ | refine WK.inScope ?_ | refine WK.exit rfl ?_)
        refine WK.ret Tryz.func70 (by simp (maxDischargeDepth := 120) [Tryz.results70, e]) (by simp [e])
      · simp at h5
        repeat (first | refine WK.seq ?_ | refine WK.block ?_ | refine WK.inBlock ?_ | refine WK.skip ?_ | refine WK.label ?_ | refine WK.scope ?_ | refine WK.inScope ?_ | refine WK.exit rfl ?_)
        first | refine WK.reg 1000 Tryz.ntmps70 (by kernel_rfl) ?_ | refine WK.regD 1000 clsOf (by kernel_rfl) Tryz.ntmps70 (by kernel_rfl) (by kernel_rfl) ?_
        intro A hA Q hQ
        simp [h6]
        refine hQ _ _ ?_
        clear hQ hA
        repeat (first | refine WK.seq ?_ | refine WK.block ?_ | refine WK.inBlock ?_ | refine WK.skip ?_ | refine WK.label ?_ | refine WK.scope ?_ | refine WK.inScope ?_ | refine WK.exit rfl ?_)
        refine WK.next (fun n => n) (IH (i + 1) (⟨by omega, fun j hj => by by_cases h7 : j = i; (subst h7; exact h5); exact hi.2 j (by omega)⟩) (by first | omega | (dsimp only; omega))) (by repeat (first | exact TmW.nil | refine TmW.upd ?_ (by simp (maxDischargeDepth := 120) [hcl]))) (by repeat (first | exact BxW.nil | refine BxW.upd ?_ (by simp (maxDischargeDepth := 120) [hcl]))) (by first | exact InjW.id | exact InjW.nil | exact InjW.one | exact InjW.two (by simp) | exact InjW.three (by simp) (by simp) (by simp))
    · simp at h1
      have e : eqBy p l m = true := by unfold eqBy; rw [all_range_true (p := fun i => p (nth l i) (nth m i)) (fun j hj => hi.2 j (by omega))]; simp [hlm]
      repeat (first | refine WK.seq ?_ | refine WK.block ?_ | refine WK.inBlock ?_ | refine WK.skip ?_ | refine WK.label ?_ | refine WK.scope ?_ | refine WK.inScope ?_ | refine WK.exit rfl ?_)
      first | refine WK.reg 1100 Tryz.ntmps70 (by kernel_rfl) ?_ | refine WK.regD 1100 clsOf (by kernel_rfl) Tryz.ntmps70 (by kernel_rfl) (by kernel_rfl) ?_
      intro A hA Q hQ
      simp
      refine hQ _ _ ?_
      clear hQ hA
      repeat (first | refine WK.seq ?_ | refine WK.block ?_ | refine WK.inBlock ?_ | refine WK.skip ?_ | refine WK.label ?_ | refine WK.scope ?_ | refine WK.inScope ?_ | refine WK.exit rfl ?_)
      refine WK.ret Tryz.func70 (by simp (maxDischargeDepth := 120) [Tryz.results70, e]) (by simp [e])
theorem eqf_act (fid : Nat) (caps : List AV) (p : Action → Action → Bool) (l m : List Action) (hcl : ClL caps = true) (hl : l.length ≤ 1000000)
    (hf : ∀ x, x ∈ l → ∀ y, y ∈ m → FnP Tryz.prog fid (.agg x.enc :: .agg y.enc :: caps) (.bool (p x y))) :
    FnP Tryz.prog 121 [actS l, actS m, .fn fid caps] (.bool (eqBy p l m)) := by
  unfold actS
  refine FnP.intro Tryz.func121 rfl rfl fun G w => ?_
  repeat (first | refine WK.seq ?_ | refine WK.block ?_ | refine WK.inBlock ?_ | refine WK.skip ?_ | refine WK.label ?_ | refine WK.scope ?_ | refine WK.inScope ?_ | refine WK.exit rfl ?_)
  first | refine WK.reg 100 Tryz.ntmps121 (by kernel_rfl) ?_ | refine WK.regD 100 clsOf (by kernel_rfl) Tryz.ntmps121 (by kernel_rfl) (by kernel_rfl) ?_
  intro A hA Q hQ
  simp
  refine hQ _ _ ?_
  clear hQ hA
  repeat (first | refine WK.seq ?_ | refine WK.block ?_ | refine WK.inBlock ?_ | refine WK.skip ?_ | refine WK.label ?_ | refine WK.scope ?_ | refine WK.inScope ?_ | refine WK.exit rfl ?_)
  first | refine WK.reg 200 Tryz.ntmps121 (by kernel_rfl) ?_ | refine WK.regD 200 clsOf (by kernel_rfl) Tryz.ntmps121 (by kernel_rfl) (by kernel_rfl) ?_
  intro A hA Q hQ
  simp
  refine hQ _ _ ?_
  clear hQ hA
  repeat (first | refine WK.seq ?_ | refine WK.block ?_ | refine WK.inBlock ?_ | refine WK.skip ?_ | refine WK.label ?_ | refine WK.scope ?_ | refine WK.inScope ?_ | refine WK.exit rfl ?_)
  refine WK.cond2 rfl (fun h => ?_) (fun h => ?_)
  · simp at h
    have e : eqBy p l m = false := by unfold eqBy; simp; intro e; omega
    repeat (first | refine WK.seq ?_ | refine WK.block ?_ | refine WK.inBlock ?_ | refine WK.skip ?_ | refine WK.label ?_ | refine WK.scope ?_ | refine WK.inScope ?_ | refine WK.exit rfl ?_)
    first | refine WK.reg 300 Tryz.ntmps121 (by kernel_rfl) ?_ | refine WK.regD 300 clsOf (by kernel_rfl) Tryz.ntmps121 (by kernel_rfl) (by kernel_rfl) ?_
    intro A hA Q hQ
    simp
    refine hQ _ _ ?_
    clear hQ hA
    repeat (first | refine WK.seq ?_ | refine WK.block ?_ | refine WK.inBlock ?_ | refine WK.skip ?_ | refine WK.label ?_ | refine WK.scope ?_ | refine WK.inScope ?_ | refine WK.exit rfl ?_)
    refine WK.ret Tryz.func121 (by simp (maxDischargeDepth := 120) [Tryz.results121, e]) (by simp [e])
  · simp at h
    have hlm : l.length = m.length := by omega
    repeat (first | refine WK.seq ?_ | refine WK.block ?_ | refine WK.inBlock ?_ | refine WK.skip ?_ | refine WK.label ?_ | refine WK.scope ?_ | refine WK.inScope ?_ | refine WK.exit rfl ?_)
    first | refine WK.reg 400 Tryz.ntmps121 (by kernel_rfl) ?_ | refine WK.regD 400 clsOf (by kernel_rfl) Tryz.ntmps121 (by kernel_rfl) (by kernel_rfl) ?_
    intro A hA Q hQ
    simp
    refine hQ _ _ ?_
    clear hQ hA
    repeat (first | refine WK.seq ?_ | refine WK.block ?_ | refine WK.inBlock ?_ | refine WK.skip ?_ | refine WK.label ?_ | refine WK.scope ?_ | refine WK.inScope ?_ | refine WK.exit rfl ?_)
    refine WK.loopI (fun n => n) (fun i : Nat => (⟨(upd (upd (upd (upd (upd (upd J 0 (.sl false l.length (actL l))) 1 (.sl false m.length (actL m))) 2 (.fn fid caps)) 15 (.sl false l.length (actL l))) 16 (.int .i64 l.length)) 17 (.int .i64 i)), B0, 0⟩ : St)) (fun i => i ≤ l.length ∧ ∀ j, j < i → p (nth l j) (nth m j) = true) (fun i => l.length - i) (0) (by repeat (first | exact TmW.nil | refine TmW.upd ?_ (by simp (maxDischargeDepth := 120) [hcl]))) (by repeat (first | exact BxW.nil | refine BxW.upd ?_ (by simp (maxDischargeDepth := 120) [hcl]))) (by first | exact InjW.id | exact InjW.nil | exact InjW.one | exact InjW.two (by simp) | exact InjW.three (by simp) (by simp) (by simp)) (⟨by omega, by simp⟩) (fun i hi IH => ?_)
    repeat (first | refine WK.seq ?_ | refine WK.block ?_ | refine WK.inBlock ?_ | refine WK.skip ?_ | refine WK.label ?_ | refine WK.scope ?_ | refine WK.inScope ?_ | refine WK.exit rfl ?_)
    first | refine WK.reg 500 Tryz.ntmps121 (by kernel_rfl) ?_ | refine WK.regD 500 clsOf (by kernel_rfl) Tryz.ntmps121 (by kernel_rfl) (by kernel_rfl) ?_
    intro A hA Q hQ
    simp
    refine hQ _ _ ?_
    clear hQ hA
    repeat (first | refine WK.seq ?_ | refine WK.block ?_ | refine WK.inBlock ?_ | refine WK.skip ?_ | refine WK.label ?_ | refine WK.scope ?_ | refine WK.inScope ?_ | refine WK.exit rfl ?_)
    refine WK.cond2 rfl (fun h1 => ?_) (fun h1 => ?_)
    · simp at h1
      have h2 : i < l.length := by omega
      have h2' : i < m.length := by omega
      have h3 : 11 ≤ l.length * 11 - i * 11 := by omega
      have h3' : 11 ≤ m.length * 11 - i * 11 := by omega
      have h4 := act_sub l i h2
      have h4' := act_sub m i h2'
      have h6 : IntKind.i64.wrap ((i : Int) + 1) = i + 1 := wrap_i64 (by omega) (by omega)
      repeat (first | refine WK.seq ?_ | refine WK.block ?_ | refine WK.inBlock ?_ | refine WK.skip ?_ | refine WK.label ?_ | refine WK.scope ?_ | refine WK.inScope ?_ | refine WK.exit rfl ?_)
      first | refine WK.reg 600 Tryz.ntmps121 (by kernel_rfl) ?_ | refine WK.regD 600 clsOf (by kernel_rfl) Tryz.ntmps121 (by kernel_rfl) (by kernel_rfl) ?_
      intro A hA Q hQ
      simp [h2, h3, h4]
      refine hQ _ _ ?_
      clear hQ hA
      repeat (first | refine WK.seq ?_ | refine WK.block ?_ | refine WK.inBlock ?_ | refine WK.skip ?_ | refine WK.label ?_ | refine WK.scope ?_ | refine WK.inScope ?_ | refine WK.exit rfl ?_)
      first | refine WK.reg 700 Tryz.ntmps121 (by kernel_rfl) ?_ | refine WK.regD 700 clsOf (by kernel_rfl) Tryz.ntmps121 (by kernel_rfl) (by kernel_rfl) ?_
      intro A hA Q hQ
      simp [h2', h3', h4']
      refine hQ _ _ ?_
      clear hQ hA
      repeat (first | refine WK.seq ?_ | refine WK.block ?_ | refine WK.inBlock ?_ | refine WK.skip ?_ | refine WK.label ?_ | refine WK.scope ?_ | refine WK.inScope ?_ | refine WK.exit rfl ?_)
      first | refine WK.reg 800 Tryz.ntmps121 (by kernel_rfl) ?_ | refine WK.regD 800 clsOf (by kernel_rfl) Tryz.ntmps121 (by kernel_rfl) (by kernel_rfl) ?_
      intro A hA Q hQ
      simp
      refine RunQ.call rfl rfl rfl rfl (by rfl) (by simp (maxDischargeDepth := 120) [hcl]) (hf (nth l i) (nth_mem h2) (nth m i) (nth_mem h2')) (by simp [hcl]) ?_
      refine RunQ.eval ?_
      simp [hcl]
      refine hQ _ _ ?_
      clear hQ hA
      repeat (first | refine WK.seq ?_ | refine WK.block ?_ | refine WK.inBlock ?_ | refine WK.skip ?_ | refine WK.label ?_ | refine WK.scope ?_ | refine WK.inScope ?_ | refine WK.exit rfl ?_)
      refine WK.cond2 rfl (fun h5 => ?_) (fun h5 => ?_)
      · simp at h5
        have e : eqBy p l m = false := by unfold eqBy; rw [all_range_false (p := fun i => p (nth l i) (nth m i)) h2 h5]; simp
        repeat (first | refine WK.seq ?_ | refine WK.block ?_ | refine WK.inBlock ?_ | refine WK.skip ?_ | refine WK.label ?_ | refine WK.scope ?_ | refine WK.inScope ?_ | refine WK.exit rfl ?_)
        first | refine WK.reg 900 Tryz.ntmps121 (by kernel_rfl) ?_ | refine WK.regD 900 clsOf (by kernel_rfl) Tryz.ntmps121 (by kernel_rfl) (by kernel_rfl) ?_
        intro A hA Q hQ
        simp
        refine hQ _ _ ?_
        clear hQ hA
        repeat (first | refine WK.seq ?_ | refine WK.block ?_ | refine WK.inBlock ?_ | refine WK.skip ?_ | refine WK.label ?_ | refine WK.scope ?_ | refine WK.inScope ?_ | refine WK.exit rfl ?_)
        refine WK.ret Tryz.func121 (by simp (maxDischargeDepth := 120) [Tryz.results121, e]) (by simp [e])
      · simp at h5
        repeat (first | refine WK.seq ?_ | refine WK.block ?_ | refine WK.inBlock ?_ | refine WK.skip ?_ | refine WK.label ?_ | refine WK.scope ?_ | refine WK.inScope ?_ | refine WK.exit rfl ?_)
        first | refine WK.reg 1000 Tryz.ntmps121 (by kernel_rfl) ?_ | refine WK.regD 1000 clsOf (by kernel_rfl) Tryz.ntmps121 (by kernel_rfl) (by kernel_rfl) ?_
        intro A hA Q hQ
        simp [h6]
        refine hQ _ _ ?_
        clear hQ hA
        repeat (first | refine WK.seq ?_ | refine WK.block ?_ | refine WK.inBlock ?_ | refine WK.skip ?_ | refine WK.label ?_ | refine WK.scope ?_ | refine WK.inScope ?_ | refine WK.exit rfl ?_)
        refine WK.next (fun n => n) (IH (i + 1) (⟨by omega, fun j hj => by by_cases h7 : j = i; (subst h7; exact h5); exact hi.2 j (by omega)⟩) (by first | omega | (dsimp only; omega))) (by repeat (first | exact TmW.nil | refine TmW.upd ?_ (by simp (maxDischargeDepth := 120) [hcl]))) (by repeat (first | exact BxW.nil | refine BxW.upd ?_ (by simp (maxDischargeDepth := 120) [hcl]))) (by first | exact InjW.id | exact InjW.nil | exact InjW.one | exact InjW.two (by simp) | exact InjW.three (by simp) (by simp) (by simp))
    · simp at h1
      have e : eqBy p l m = true := by unfold eqBy; rw [all_range_true (p := fun i => p (nth l i) (nth m i)) (fun j hj => hi.2 j (by omega))]; simp [hlm]
      repeat (first | refine WK.seq ?_ | refine WK.block ?_ | refine WK.inBlock ?_ | refine WK.skip ?_ | refine WK.label ?_ | refine WK.scope ?_ | refine WK.inScope ?_ | refine WK.exit rfl ?_)
      first | refine WK.reg 1100 Tryz.ntmps121 (by kernel_rfl) ?_ | refine WK.regD 1100 clsOf (by kernel_rfl) Tryz.ntmps121 (by kernel_rfl) (by kernel_rfl) ?_
      intro A hA Q hQ
      simp
      refine hQ _ _ ?_
      clear hQ hA
      repeat (first | refine WK.seq ?_ | refine WK.block ?_ | refine WK.inBlock ?_ | refine WK.skip ?_ | refine WK.label ?_ | refine WK.scope ?_ | refine WK.inScope ?_ | refine WK.exit rfl ?_)
      refine WK.ret Tryz.func121 (by simp (maxDischargeDepth := 120) [Tryz.results121, e]) (by simp [e])

theorem osame_c (a b : Oxm) : FnP Tryz.prog 69 [.agg a.enc, .agg b.enc] (.bool (a == b)) := by
  refine FnP.intro Tryz.func69 rfl rfl fun G w => ?_
  repeat (first | refine WK.seq ?_ | refine WK.block ?_ | refine WK.inBlock ?_ | refine WK.skip ?_ | refine WK.label ?_ | refine WK.scope ?_ | refine WK.inScope ?_ | refine WK.exit rfl ?_)
  first | refine WK.reg 100 Tryz.ntmps69 (by kernel_rfl) ?_ | refine WK.regD 100 clsOf (by kernel_rfl) Tryz.ntmps69 (by kernel_rfl) (by kernel_rfl) ?_
  intro A hA Q hQ
  simp
  refine hQ _ _ ?_
  clear hQ hA
  repeat (first | refine WK.seq ?_ | refine WK.block ?_ | refine WK.inBlock ?_ | refine WK.skip ?_ | refine WK.label ?_ | refine WK.scope ?_ | refine WK.inScope ?_ | refine WK.exit rfl ?_)
  first | refine WK.reg 200 Tryz.ntmps69 (by kernel_rfl) ?_ | refine WK.regD 200 clsOf (by kernel_rfl) Tryz.ntmps69 (by kernel_rfl) (by kernel_rfl) ?_
  intro A hA Q hQ
  simp
  refine hQ _ _ ?_
  clear hQ hA
  repeat (first | refine WK.seq ?_ | refine WK.block ?_ | refine WK.inBlock ?_ | refine WK.skip ?_ | refine WK.label ?_ | refine WK.scope ?_ | refine WK.inScope ?_ | refine WK.exit rfl ?_)
  refine WK.ret Tryz.func69 (by simp (maxDischargeDepth := 120) [Tryz.results69]) (by simp)
theorem asame_c (a b : Action) : FnP Tryz.prog 122 [.agg a.enc, .agg b.enc] (.bool (a == b)) := by
  refine FnP.intro Tryz.func122 rfl rfl fun G w => ?_
  repeat (first | refine WK.seq ?_ | refine WK.block ?_ | refine WK.inBlock ?_ | refine WK.skip ?_ | refine WK.label ?_ | refine WK.scope ?_ | refine WK.inScope ?_ | refine WK.exit rfl ?_)
  first | refine WK.reg 100 Tryz.ntmps122 (by kernel_rfl) ?_ | refine WK.regD 100 clsOf (by kernel_rfl) Tryz.ntmps122 (by kernel_rfl) (by kernel_rfl) ?_
  intro A hA Q hQ
  simp
  refine hQ _ _ ?_
  clear hQ hA
  repeat (first | refine WK.seq ?_ | refine WK.block ?_ | refine WK.inBlock ?_ | refine WK.skip ?_ | refine WK.label ?_ | refine WK.scope ?_ | refine WK.inScope ?_ | refine WK.exit rfl ?_)
  first | refine WK.reg 200 Tryz.ntmps122 (by kernel_rfl) ?_ | refine WK.regD 200 clsOf (by kernel_rfl) Tryz.ntmps122 (by kernel_rfl) (by kernel_rfl) ?_
  intro A hA Q hQ
  simp
  refine hQ _ _ ?_
  clear hQ hA
  repeat (first | refine WK.seq ?_ | refine WK.block ?_ | refine WK.inBlock ?_ | refine WK.skip ?_ | refine WK.label ?_ | refine WK.scope ?_ | refine WK.inScope ?_ | refine WK.exit rfl ?_)
  refine WK.ret Tryz.func122 (by simp (maxDischargeDepth := 120) [Tryz.results122]) (by simp)
theorem msame_c (l m : List Oxm) (hl : l.length ≤ 1000000) : FnP Tryz.prog 45 [oxmS l, oxmS m] (.bool (eqBy (· == ·) l m)) := by
  refine FnP.intro Tryz.func45 rfl rfl fun G w => ?_
  repeat (first | refine WK.seq ?_ | refine WK.block ?_ | refine WK.inBlock ?_ | refine WK.skip ?_ | refine WK.label ?_ | refine WK.scope ?_ | refine WK.inScope ?_ | refine WK.exit rfl ?_)
  first | refine WK.reg 100 Tryz.ntmps45 (by kernel_rfl) ?_ | refine WK.regD 100 clsOf (by kernel_rfl) Tryz.ntmps45 (by kernel_rfl) (by kernel_rfl) ?_
  intro A hA Q hQ
  simp
  refine hQ _ _ ?_
  clear hQ hA
  repeat (first | refine WK.seq ?_ | refine WK.block ?_ | refine WK.inBlock ?_ | refine WK.skip ?_ | refine WK.label ?_ | refine WK.scope ?_ | refine WK.inScope ?_ | refine WK.exit rfl ?_)
  first | refine WK.reg 200 Tryz.ntmps45 (by kernel_rfl) ?_ | refine WK.regD 200 clsOf (by kernel_rfl) Tryz.ntmps45 (by kernel_rfl) (by kernel_rfl) ?_
  intro A hA Q hQ
  simp
  refine RunQ.call rfl rfl rfl rfl (by rfl) (by simp (maxDischargeDepth := 120) [oxmS]) (eqf_oxm 69 [] (· == ·) l m rfl hl (fun x _ y _ => osame_c x y)) (by simp [oxmS]) ?_
  refine RunQ.eval ?_
  simp [oxmS]
  refine hQ _ _ ?_
  clear hQ hA
  repeat (first | refine WK.seq ?_ | refine WK.block ?_ | refine WK.inBlock ?_ | refine WK.skip ?_ | refine WK.label ?_ | refine WK.scope ?_ | refine WK.inScope ?_ | refine WK.exit rfl ?_)
  refine WK.ret Tryz.func45 (by simp (maxDischargeDepth := 120) [Tryz.results45]) (by simp)
theorem acsame_c (l m : List Action) (hl : l.length ≤ 1000000) : FnP Tryz.prog 90 [actS l, actS m] (.bool (eqBy (· == ·) l m)) := by
  refine FnP.intro Tryz.func90 rfl rfl fun G w => ?_
  repeat (first | refine WK.seq ?_ | refine WK.block ?_ | refine WK.inBlock ?_ | refine WK.skip ?_ | refine WK.label ?_ | refine WK.scope ?_ | refine WK.inScope ?_ | refine WK.exit rfl ?_)
  first | refine WK.reg 100 Tryz.ntmps90 (by kernel_rfl) ?_ | refine WK.regD 100 clsOf (by kernel_rfl) Tryz.ntmps90 (by kernel_rfl) (by kernel_rfl) ?_
  intro A hA Q hQ
  simp
  refine hQ _ _ ?_
  clear hQ hA
  repeat (first | refine WK.seq ?_ | refine WK.block ?_ | refine WK.inBlock ?_ | refine WK.skip ?_ | refine WK.label ?_ | refine WK.scope ?_ | refine WK.inScope ?_ | refine WK.exit rfl ?_)
  first | refine WK.reg 200 Tryz.ntmps90 (by kernel_rfl) ?_ | refine WK.regD 200 clsOf (by kernel_rfl) Tryz.ntmps90 (by kernel_rfl) (by kernel_rfl) ?_
  intro A hA Q hQ
  simp
  refine RunQ.call rfl rfl rfl rfl (by rfl) (by simp (maxDischargeDepth := 120) [actS]) (eqf_act 122 [] (· == ·) l m rfl hl (fun x _ y _ => asame_c x y)) (by simp [actS]) ?_
  refine RunQ.eval ?_
  simp [actS]
  refine hQ _ _ ?_
  clear hQ hA
  repeat (first | refine WK.seq ?_ | refine WK.block ?_ | refine WK.inBlock ?_ | refine WK.skip ?_ | refine WK.label ?_ | refine WK.scope ?_ | refine WK.inScope ?_ | refine WK.exit rfl ?_)
  refine WK.ret Tryz.func90 (by simp (maxDischargeDepth := 120) [Tryz.results90]) (by simp)
def Inst.same (a b : Inst) : Bool := a.kind == b.kind && a.table == b.table && a.value == b.value && a.mask == b.mask && eqBy (· == ·) a.acts b.acts
theorem isame_c (a b : Inst) (hl : a.acts.length ≤ 1000000) : FnP Tryz.prog 71 [.agg a.enc, .agg b.enc] (.bool (Inst.same a b)) := by
  have w1 := Wide.beq a.value b.value
  have w2 := Wide.beq a.mask b.mask
  cases k1 : a.kind == b.kind
  · refine FnP.intro Tryz.func71 rfl rfl fun G w => ?_
    repeat (first | refine WK.seq ?_ | refine WK.block ?_ | refine WK.inBlock ?_ | refine WK.skip ?_ | refine WK.label ?_ | refine WK.scope ?_ | refine WK.inScope ?_ | refine WK.exit rfl ?_)
    first | refine WK.reg 100 Tryz.ntmps71 (by kernel_rfl) ?_ | refine WK.regD 100 clsOf (by kernel_rfl) Tryz.ntmps71 (by kernel_rfl) (by kernel_rfl) ?_
    intro A hA Q hQ
    simp
    refine hQ _ _ ?_
    clear hQ hA
    repeat (first | refine WK.seq ?_ | refine WK.block ?_ | refine WK.inBlock ?_ | refine WK.skip ?_ | refine WK.label ?_ | refine WK.scope ?_ | refine WK.inScope ?_ | refine WK.exit rfl ?_)
    first | refine WK.reg 200 Tryz.ntmps71 (by kernel_rfl) ?_ | refine WK.regD 200 clsOf (by kernel_rfl) Tryz.ntmps71 (by kernel_rfl) (by kernel_rfl) ?_
    intro A hA Q hQ
    have hg5 : (A[5]?).bind (·.dst) = some 10 := by rw [hA]; rfl
    have hg12 : (A[12]?).bind (·.dst) = some 17 := by rw [hA]; rfl
    have hg19 : (A[19]?).bind (·.dst) = some 24 := by rw [hA]; rfl
    have hg26 : (A[26]?).bind (·.dst) = some 31 := by rw [hA]; rfl
    simp [Inst.enc, k1, hg5, hg12, hg19, hg26]
    refine hQ _ _ ?_
    clear hQ hA
    repeat (first | refine WK.seq ?_ | refine WK.block ?_ | refine WK.inBlock ?_ | refine WK.skip ?_ | refine WK.label ?_ | refine WK.scope ?_ | refine WK.inScope ?_ | refine WK.exit rfl ?_)
    refine WK.ret Tryz.func71 (by simp (maxDischargeDepth := 120) [Tryz.results71, Inst.same, k1]) (by simp [Inst.same, k1])
  cases k2 : a.table == b.table
  · refine FnP.intro Tryz.func71 rfl rfl fun G w => ?_
    repeat (first | refine WK.seq ?_ | refine WK.block ?_ | refine WK.inBlock ?_ | refine WK.skip ?_ | refine WK.label ?_ | refine WK.scope ?_ | refine WK.inScope ?_ | refine WK.exit rfl ?_)
    first | refine WK.reg 100 Tryz.ntmps71 (by kernel_rfl) ?_ | refine WK.regD 100 clsOf (by kernel_rfl) Tryz.ntmps71 (by kernel_rfl) (by kernel_rfl) ?_
    intro A hA Q hQ
    simp
    refine hQ _ _ ?_
    clear hQ hA
    repeat (first | refine WK.seq ?_ | refine WK.block ?_ | refine WK.inBlock ?_ | refine WK.skip ?_ | refine WK.label ?_ | refine WK.scope ?_ | refine WK.inScope ?_ | refine WK.exit rfl ?_)
    first | refine WK.reg 200 Tryz.ntmps71 (by kernel_rfl) ?_ | refine WK.regD 200 clsOf (by kernel_rfl) Tryz.ntmps71 (by kernel_rfl) (by kernel_rfl) ?_
    intro A hA Q hQ
    have hg5 : (A[5]?).bind (·.dst) = some 10 := by rw [hA]; rfl
    have hg12 : (A[12]?).bind (·.dst) = some 17 := by rw [hA]; rfl
    have hg19 : (A[19]?).bind (·.dst) = some 24 := by rw [hA]; rfl
    have hg26 : (A[26]?).bind (·.dst) = some 31 := by rw [hA]; rfl
    simp [Inst.enc, k1, k2, hg5, hg12, hg19, hg26]
    refine hQ _ _ ?_
    clear hQ hA
    repeat (first | refine WK.seq ?_ | refine WK.block ?_ | refine WK.inBlock ?_ | refine WK.skip ?_ | refine WK.label ?_ | refine WK.scope ?_ | refine WK.inScope ?_ | refine WK.exit rfl ?_)
    refine WK.ret Tryz.func71 (by simp (maxDischargeDepth := 120) [Tryz.results71, Inst.same, k1, k2]) (by simp [Inst.same, k1, k2])
  cases k3 : a.value == b.value
  · rw [k3] at w1
    refine FnP.intro Tryz.func71 rfl rfl fun G w => ?_
    repeat (first | refine WK.seq ?_ | refine WK.block ?_ | refine WK.inBlock ?_ | refine WK.skip ?_ | refine WK.label ?_ | refine WK.scope ?_ | refine WK.inScope ?_ | refine WK.exit rfl ?_)
    first | refine WK.reg 100 Tryz.ntmps71 (by kernel_rfl) ?_ | refine WK.regD 100 clsOf (by kernel_rfl) Tryz.ntmps71 (by kernel_rfl) (by kernel_rfl) ?_
    intro A hA Q hQ
    simp
    refine hQ _ _ ?_
    clear hQ hA
    repeat (first | refine WK.seq ?_ | refine WK.block ?_ | refine WK.inBlock ?_ | refine WK.skip ?_ | refine WK.label ?_ | refine WK.scope ?_ | refine WK.inScope ?_ | refine WK.exit rfl ?_)
    first | refine WK.reg 200 Tryz.ntmps71 (by kernel_rfl) ?_ | refine WK.regD 200 clsOf (by kernel_rfl) Tryz.ntmps71 (by kernel_rfl) (by kernel_rfl) ?_
    intro A hA Q hQ
    have hg5 : (A[5]?).bind (·.dst) = some 10 := by rw [hA]; rfl
    have hg12 : (A[12]?).bind (·.dst) = some 17 := by rw [hA]; rfl
    have hg19 : (A[19]?).bind (·.dst) = some 24 := by rw [hA]; rfl
    have hg26 : (A[26]?).bind (·.dst) = some 31 := by rw [hA]; rfl
    simp [Inst.enc, k1, k2, ← w1, hg5, hg12, hg19, hg26]
    refine hQ _ _ ?_
    clear hQ hA
    repeat (first | refine WK.seq ?_ | refine WK.block ?_ | refine WK.inBlock ?_ | refine WK.skip ?_ | refine WK.label ?_ | refine WK.scope ?_ | refine WK.inScope ?_ | refine WK.exit rfl ?_)
    refine WK.ret Tryz.func71 (by simp (maxDischargeDepth := 120) [Tryz.results71, Inst.same, k1, k2, k3]) (by simp [Inst.same, k1, k2, k3])
  rw [k3] at w1
  cases k4 : a.mask == b.mask
  · rw [k4] at w2
    refine FnP.intro Tryz.func71 rfl rfl fun G w => ?_
    repeat (first | refine WK.seq ?_ | refine WK.block ?_ | refine WK.inBlock ?_ | refine WK.skip ?_ | refine WK.label ?_ | refine WK.scope ?_ | refine WK.inScope ?_ | refine WK.exit rfl ?_)
    first | refine WK.reg 100 Tryz.ntmps71 (by kernel_rfl) ?_ | refine WK.regD 100 clsOf (by kernel_rfl) Tryz.ntmps71 (by kernel_rfl) (by kernel_rfl) ?_
    intro A hA Q hQ
    simp
    refine hQ _ _ ?_
    clear hQ hA
    repeat (first | refine WK.seq ?_ | refine WK.block ?_ | refine WK.inBlock ?_ | refine WK.skip ?_ | refine WK.label ?_ | refine WK.scope ?_ | refine WK.inScope ?_ | refine WK.exit rfl ?_)
    first | refine WK.reg 200 Tryz.ntmps71 (by kernel_rfl) ?_ | refine WK.regD 200 clsOf (by kernel_rfl) Tryz.ntmps71 (by kernel_rfl) (by kernel_rfl) ?_
    intro A hA Q hQ
    have hg5 : (A[5]?).bind (·.dst) = some 10 := by rw [hA]; rfl
    have hg12 : (A[12]?).bind (·.dst) = some 17 := by rw [hA]; rfl
    have hg19 : (A[19]?).bind (·.dst) = some 24 := by rw [hA]; rfl
    have hg26 : (A[26]?).bind (·.dst) = some 31 := by rw [hA]; rfl
    simp [Inst.enc, k1, k2, ← w1, ← w2, hg5, hg12, hg19, hg26]
    refine hQ _ _ ?_
    clear hQ hA
    repeat (first | refine WK.seq ?_ | refine WK.block ?_ | refine WK.inBlock ?_ | refine WK.skip ?_ | refine WK.label ?_ | refine WK.scope ?_ | refine WK.inScope ?_ | refine WK.exit rfl ?_)
    refine WK.ret Tryz.func71 (by simp (maxDischargeDepth := 120) [Tryz.results71, Inst.same, k1, k2, k3, k4]) (by simp [Inst.same, k1, k2, k3, k4])
  rw [k4] at w2
  refine FnP.intro Tryz.func71 rfl rfl fun G w => ?_
  repeat (first | refine WK.seq ?_ | refine WK.block ?_ | refine WK.inBlock ?_ | refine WK.skip ?_ | refine WK.label ?_ | refine WK.scope ?_ | refine WK.inScope ?_ | refine WK.exit rfl ?_)
  first | refine WK.reg 100 Tryz.ntmps71 (by kernel_rfl) ?_ | refine WK.regD 100 clsOf (by kernel_rfl) Tryz.ntmps71 (by kernel_rfl) (by kernel_rfl) ?_
  intro A hA Q hQ
  simp
  refine hQ _ _ ?_
  clear hQ hA
  repeat (first | refine WK.seq ?_ | refine WK.block ?_ | refine WK.inBlock ?_ | refine WK.skip ?_ | refine WK.label ?_ | refine WK.scope ?_ | refine WK.inScope ?_ | refine WK.exit rfl ?_)
  first | refine WK.reg 200 Tryz.ntmps71 (by kernel_rfl) ?_ | refine WK.regD 200 clsOf (by kernel_rfl) Tryz.ntmps71 (by kernel_rfl) (by kernel_rfl) ?_
  intro A hA Q hQ
  have hg5 : (A[5]?).bind (·.dst) = some 10 := by rw [hA]; rfl
  have hg12 : (A[12]?).bind (·.dst) = some 17 := by rw [hA]; rfl
  have hg19 : (A[19]?).bind (·.dst) = some 24 := by rw [hA]; rfl
  have hg26 : (A[26]?).bind (·.dst) = some 31 := by rw [hA]; rfl
  simp [Inst.enc, k1, k2, ← w1, ← w2, hg5, hg12, hg19, hg26]
  refine RunQ.callG rfl rfl (by simp [hg26, actS]) rfl (by rfl) (by simp (maxDischargeDepth := 120) [hg26, actS]) (acsame_c a.acts b.acts hl) (by simp [hg26, actS]) ?_
  refine RunQ.eval ?_
  simp [hg26, actS]
  refine hQ _ _ ?_
  clear hQ hA
  repeat (first | refine WK.seq ?_ | refine WK.block ?_ | refine WK.inBlock ?_ | refine WK.skip ?_ | refine WK.label ?_ | refine WK.scope ?_ | refine WK.inScope ?_ | refine WK.exit rfl ?_)
  refine WK.ret Tryz.func71 (by simp (maxDischargeDepth := 120) [Tryz.results71, Inst.same, k1, k2, k3, k4]) (by simp [Inst.same, k1, k2, k3, k4])
theorem insame_c (l m : List Inst) (hl : l.length ≤ 1000000) (ha : ∀ x, x ∈ l → x.acts.length ≤ 1000000) : FnP Tryz.prog 46 [instS l, instS m] (.bool (eqBy Inst.same l m)) := by
  refine FnP.intro Tryz.func46 rfl rfl fun G w => ?_
  repeat (first | refine WK.seq ?_ | refine WK.block ?_ | refine WK.inBlock ?_ | refine WK.skip ?_ | refine WK.label ?_ | refine WK.scope ?_ | refine WK.inScope ?_ | refine WK.exit rfl ?_)
  first | refine WK.reg 100 Tryz.ntmps46 (by kernel_rfl) ?_ | refine WK.regD 100 clsOf (by kernel_rfl) Tryz.ntmps46 (by kernel_rfl) (by kernel_rfl) ?_
  intro A hA Q hQ
  simp
  refine hQ _ _ ?_
  clear hQ hA
  repeat (first | refine WK.seq ?_ | refine WK.block ?_ | refine WK.inBlock ?_ | refine WK.skip ?_ | refine WK.label ?_ | refine WK.scope ?_ | refine WK.inScope ?_ | refine WK.exit rfl ?_)
  first | refine WK.reg 200 Tryz.ntmps46 (by kernel_rfl) ?_ | refine WK.regD 200 clsOf (by kernel_rfl) Tryz.ntmps46 (by kernel_rfl) (by kernel_rfl) ?_
  intro A hA Q hQ
  simp
  refine RunQ.call rfl rfl rfl rfl (by rfl) (by simp (maxDischargeDepth := 120) [instS]) (eqf_inst 71 [] Inst.same l m rfl hl (fun x hx y _ => isame_c x y (ha x hx))) (by simp [instS]) ?_
  refine RunQ.eval ?_
  simp [instS]
  refine hQ _ _ ?_
  clear hQ hA
  repeat (first | refine WK.seq ?_ | refine WK.block ?_ | refine WK.inBlock ?_ | refine WK.skip ?_ | refine WK.label ?_ | refine WK.scope ?_ | refine WK.inScope ?_ | refine WK.exit rfl ?_)
  refine WK.ret Tryz.func46 (by simp (maxDischargeDepth := 120) [Tryz.results46]) (by simp)
end Go.Proofs.YtbncoeoamjcjjaaGreat
