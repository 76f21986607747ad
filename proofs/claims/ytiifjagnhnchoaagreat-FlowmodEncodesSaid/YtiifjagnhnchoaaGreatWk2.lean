/- Lists that are the same. -/
import Derived.Test.YtiifjagnhnchoaaGreatWk1
set_option linter.all false
set_option linter.unnecessarySimpa false
section
set_option linter.unusedVariables false
set_option linter.unusedSimpArgs false
namespace Go.Proofs.YtiifjagnhnchoaaGreat
open Go Go.AI Go.Proofs

def eqBy {α : Type} [Inhabited α] (p : α → α → Bool) (l m : List α) : Bool := l.length == m.length && (List.range l.length).all fun i => p (nth l i) (nth m i)

theorem eqf_oxm (fid : Nat) (caps : List AV) (p : Oxm → Oxm → Bool) (l m : List Oxm) (hcl : ClL caps = true) (hl : l.length ≤ 1000000)
    (hf : ∀ x, x ∈ l → ∀ y, y ∈ m → FnP Tryz.prog fid (.agg x.enc :: .agg y.enc :: caps) (.bool (p x y))) :
    FnP Tryz.prog 82 [oxmS l, oxmS m, .fn fid caps] (.bool (eqBy p l m)) := by
  unfold oxmS
  refine FnP.intro Tryz.func82 rfl rfl fun G w => ?_
  repeat (first | refine WK.seq ?_ | refine WK.block ?_ | refine WK.inBlock ?_ | refine WK.skip ?_ | refine WK.label ?_ | refine WK.scope ?_ | refine WK.inScope ?_ | refine WK.exit rfl ?_)
  first | refine WK.reg 100 Tryz.ntmps82 (by kernel_rfl) ?_ | refine WK.regD 100 clsOf (by kernel_rfl) Tryz.ntmps82 (by kernel_rfl) (by kernel_rfl) ?_
  intro A hA Q hQ
  simp
  refine hQ _ _ ?_
  clear hQ hA
  repeat (first | refine WK.seq ?_ | refine WK.block ?_ | refine WK.inBlock ?_ | refine WK.skip ?_ | refine WK.label ?_ | refine WK.scope ?_ | refine WK.inScope ?_ | refine WK.exit rfl ?_)
  first | refine WK.reg 200 Tryz.ntmps82 (by kernel_rfl) ?_ | refine WK.regD 200 clsOf (by kernel_rfl) Tryz.ntmps82 (by kernel_rfl) (by kernel_rfl) ?_
  intro A hA Q hQ
  simp
  refine hQ _ _ ?_
  clear hQ hA
  repeat (first | refine WK.seq ?_ | refine WK.block ?_ | refine WK.inBlock ?_ | refine WK.skip ?_ | refine WK.label ?_ | refine WK.scope ?_ | refine WK.inScope ?_ | refine WK.exit rfl ?_)
  refine WK.cond2 rfl (fun h => ?_) (fun h => ?_)
  · simp at h
    have e : eqBy p l m = false := by unfold eqBy; simp; intro e; omega
    repeat (first | refine WK.seq ?_ | refine WK.block ?_ | refine WK.inBlock ?_ | refine WK.skip ?_ | refine WK.label ?_ | refine WK.scope ?_ | refine WK.inScope ?_ | refine WK.exit rfl ?_)
    first | refine WK.reg 300 Tryz.ntmps82 (by kernel_rfl) ?_ | refine WK.regD 300 clsOf (by kernel_rfl) Tryz.ntmps82 (by kernel_rfl) (by kernel_rfl) ?_
    intro A hA Q hQ
    simp
    refine hQ _ _ ?_
    clear hQ hA
    repeat (first | refine WK.seq ?_ | refine WK.block ?_ | refine WK.inBlock ?_ | refine WK.skip ?_ | refine WK.label ?_ | refine WK.scope ?_ | refine WK.inScope ?_ | refine WK.exit rfl ?_)
    refine WK.ret Tryz.func82 (by simp (maxDischargeDepth := 120) [Tryz.results82, e]) (by simp [e])
  · simp at h
    have hlm : l.length = m.length := by omega
    repeat (first | refine WK.seq ?_ | refine WK.block ?_ | refine WK.inBlock ?_ | refine WK.skip ?_ | refine WK.label ?_ | refine WK.scope ?_ | refine WK.inScope ?_ | refine WK.exit rfl ?_)
    first | refine WK.reg 400 Tryz.ntmps82 (by kernel_rfl) ?_ | refine WK.regD 400 clsOf (by kernel_rfl) Tryz.ntmps82 (by kernel_rfl) (by kernel_rfl) ?_
    intro A hA Q hQ
    simp
    refine hQ _ _ ?_
    clear hQ hA
    repeat (first | refine WK.seq ?_ | refine WK.block ?_ | refine WK.inBlock ?_ | refine WK.skip ?_ | refine WK.label ?_ | refine WK.scope ?_ | refine WK.inScope ?_ | refine WK.exit rfl ?_)
    refine WK.loopI (fun n => n) (fun i : Nat => (⟨(upd (upd (upd (upd (upd (upd J 0 (.sl false l.length (oxmL l))) 1 (.sl false m.length (oxmL m))) 2 (.fn fid caps)) 15 (.sl false l.length (oxmL l))) 16 (.int .i64 l.length)) 17 (.int .i64 i)), B0, 0⟩ : St)) (fun i => i ≤ l.length ∧ ∀ j, j < i → p (nth l j) (nth m j) = true) (fun i => l.length - i) (0) (by repeat (first | exact TmW.nil | refine TmW.upd ?_ (by simp (maxDischargeDepth := 120) [hcl]))) (by repeat (first | exact BxW.nil | refine BxW.upd ?_ (by simp (maxDischargeDepth := 120) [hcl]))) (by first | exact InjW.id | exact InjW.nil | exact InjW.one | exact InjW.two (by simp) | exact InjW.three (by simp) (by simp) (by simp)) (⟨by omega, by simp⟩) (fun i hi IH => ?_)
    repeat (first | refine WK.seq ?_ | refine WK.block ?_ | refine WK.inBlock ?_ | refine WK.skip ?_ | refine WK.label ?_ | refine WK.scope ?_ | refine WK.inScope ?_ | refine WK.exit rfl ?_)
    first | refine WK.reg 500 Tryz.ntmps82 (by kernel_rfl) ?_ | refine WK.regD 500 clsOf (by kernel_rfl) Tryz.ntmps82 (by kernel_rfl) (by kernel_rfl) ?_
    intro A hA Q hQ
    simp
    refine hQ _ _ ?_
    clear hQ hA
    repeat (first | refine WK.seq ?_ | refine WK.block ?_ | refine WK.inBlock ?_ | refine WK.skip ?_ | refine WK.label ?_ | refine WK.scope ?_ | refine WK.inScope ?_ | refine WK.exit rfl ?_)
    refine WK.cond2 rfl (fun h1 => ?_) (fun h1 => ?_)
    · simp at h1
      have h2 : i < l.length := by omega
      have h2' : i < m.length := by omega
      have h3 : 6 ≤ l.length * 6 - i * 6 := by omega
      have h3' : 6 ≤ m.length * 6 - i * 6 := by omega
      have h4 := oxm_sub l i h2
      have h4' := oxm_sub m i h2'
      have h6 : IntKind.i64.wrap ((i : Int) + 1) = i + 1 := wrap_i64 (by omega) (by omega)
      repeat (first | refine WK.seq ?_ | refine WK.block ?_ | refine WK.inBlock ?_ | refine WK.skip ?_ | refine WK.label ?_ | refine WK.scope ?_ | refine WK.inScope ?_ | refine WK.exit rfl ?_)
      first | refine WK.reg 600 Tryz.ntmps82 (by kernel_rfl) ?_ | refine WK.regD 600 clsOf (by kernel_rfl) Tryz.ntmps82 (by kernel_rfl) (by kernel_rfl) ?_
      intro A hA Q hQ
      simp [h2, h3, h4]
      refine hQ _ _ ?_
      clear hQ hA
      repeat (first | refine WK.seq ?_ | refine WK.block ?_ | refine WK.inBlock ?_ | refine WK.skip ?_ | refine WK.label ?_ | refine WK.scope ?_ | refine WK.inScope ?_ | refine WK.exit rfl ?_)
      first | refine WK.reg 700 Tryz.ntmps82 (by kernel_rfl) ?_ | refine WK.regD 700 clsOf (by kernel_rfl) Tryz.ntmps82 (by kernel_rfl) (by kernel_rfl) ?_
      intro A hA Q hQ
      simp [h2', h3', h4']
      refine hQ _ _ ?_
      clear hQ hA
      repeat (first | refine WK.seq ?_ | refine WK.block ?_ | refine WK.inBlock ?_ | refine WK.skip ?_ | refine WK.label ?_ | refine WK.scope ?_ | refine WK.inScope ?_ | refine WK.exit rfl ?_)
      first | refine WK.reg 800 Tryz.ntmps82 (by kernel_rfl) ?_ | refine WK.regD 800 clsOf (by kernel_rfl) Tryz.ntmps82 (by kernel_rfl) (by kernel_rfl) ?_
      intro A hA Q hQ
      simp
      refine RunQ.call rfl rfl rfl rfl (by rfl) (by simp (maxDischargeDepth := 120) [hcl]) (hf (nth l i) (nth_mem h2) (nth m i) (nth_mem h2')) (by simp [hcl]) ?_
      refine RunQ.eval ?_
      simp [hcl]
      refine hQ _ _ ?_
      clear hQ hA
      repeat (first | refine WK.seq ?_ | refine WK.block ?_ | refine WK.inBlock ?_ | refine WK.skip ?_ | refine WK.label ?_ | refine WK.scope ?_ | refine WK.inScope ?_ | refine WK.exit rfl ?_)
      refine WK.cond2 rfl (fun h5 => ?_) (fun h5 => ?_)
      · simp at h5
        have e : eqBy p l m = false := by unfold eqBy; rw [all_range_false (p := fun i => p (nth l i) (nth m i)) h2 h5]; simp
        repeat (first | refine WK.seq ?_ | refine WK.block ?_ | refine WK.inBlock ?_ | refine WK.skip ?_ | refine WK.label ?_ | refine WK.scope ?_ | refine WK.inScope ?_ | refine WK.exit rfl ?_)
        first | refine WK.reg 900 Tryz.ntmps82 (by kernel_rfl) ?_ | refine WK.regD 900 clsOf (by kernel_rfl) Tryz.ntmps82 (by kernel_rfl) (by kernel_rfl) ?_
        intro A hA Q hQ
        simp
        refine hQ _ _ ?_
        clear hQ hA
        repeat (first | refine WK.seq ?_ | refine WK.block ?_ | refine WK.inBlock ?_ | refine WK.skip ?_ | refine WK.label ?_ | refine WK.scope ?_ | refine WK.inScope ?_ | refine WK.exit rfl ?_)
        refine WK.ret Tryz.func82 (by simp (maxDischargeDepth := 120) [Tryz.results82, e]) (by simp [e])
      · simp at h5
        repeat (first | refine WK.seq ?_ | refine WK.block ?_ | refine WK.inBlock ?_ | refine WK.skip ?_ | refine WK.label ?_ | refine WK.scope ?_ | refine WK.inScope ?_ | refine WK.exit rfl ?_)
        first | refine WK.reg 1000 Tryz.ntmps82 (by kernel_rfl) ?_ | refine WK.regD 1000 clsOf (by kernel_rfl) Tryz.ntmps82 (by kernel_rfl) (by kernel_rfl) ?_
        intro A hA Q hQ
        simp [h6]
        refine hQ _ _ ?_
        clear hQ hA
        repeat (first | refine WK.seq ?_ | refine WK.block ?_ | refine WK.inBlock ?_ | refine WK.skip ?_ | refine WK.label ?_ | refine WK.scope ?_ | refine WK.inScope ?_ | refine WK.exit rfl ?_)
        refine WK.next (fun n => n) (IH (i + 1) (⟨by omega, fun j hj => by by_cases h7 : j = i; (subst h7; exact h5); exact hi.2 j (by omega)⟩) (by first | omega | (dsimp only; omega))) (by repeat (first | exact TmW.nil | refine TmW.upd ?_ (by simp (maxDischargeDepth := 120) [hcl]))) (by repeat (first | exact BxW.nil | refine BxW.upd ?_ (by simp (maxDischargeDepth := 120) [hcl]))) (by first | exact InjW.id | exact InjW.nil | exact InjW.one | exact InjW.two (by simp) | exact InjW.three (by simp) (by simp) (by simp))
    · simp at h1
      have e : eqBy p l m = true := by unfold eqBy; rw [all_range_true (p := fun i => p (nth l i) (nth m i)) (fun j hj => hi.2 j (by omega))]; simp [hlm]
      repeat (first | refine WK.seq ?_ | refine WK.block ?_ | refine WK.inBlock ?_ | refine WK.skip ?_ | refine WK.label ?_ | refine WK.scope ?_ | refine WK.inScope ?_ | refine WK.exit rfl ?_)
      first | refine WK.reg 1100 Tryz.ntmps82 (by kernel_rfl) ?_ | refine WK.regD 1100 clsOf (by kernel_rfl) Tryz.ntmps82 (by kernel_rfl) (by kernel_rfl) ?_
      intro A hA Q hQ
      simp
      refine hQ _ _ ?_
      clear hQ hA
      repeat (first | refine WK.seq ?_ | refine WK.block ?_ | refine WK.inBlock ?_ | refine WK.skip ?_ | refine WK.label ?_ | refine WK.scope ?_ | refine WK.inScope ?_ | refine WK.exit rfl ?_)
      refine WK.ret Tryz.func82 (by simp (maxDischargeDepth := 120) [Tryz.results82, e]) (by simp [e])
theorem eqf_inst (fid : Nat) (caps : List AV) (p : Inst → Inst → Bool) (l m : List Inst) (hcl : ClL caps = true) (hl : l.length ≤ 1000000)
    (hf : ∀ x, x ∈ l → ∀ y, y ∈ m → FnP Tryz.prog fid (.agg x.enc :: .agg y.enc :: caps) (.bool (p x y))) :
    FnP Tryz.prog 84 [instS l, instS m, .fn fid caps] (.bool (eqBy p l m)) := by
  unfold instS
  refine FnP.intro Tryz.func84 rfl rfl fun G w => ?_
  repeat (refine WK.seq ?_)
  refine WK.reg 100 Tryz.ntmps84 (by kernel_rfl) ?_
  intro A hA Q hQ
  simp
  refine hQ _ _ ?_
  clear hQ hA
  repeat (refine WK.seq ?_)
  refine WK.reg 200 Tryz.ntmps84 (by kernel_rfl) ?_
  intro A hA Q hQ
  simp
  refine hQ _ _ ?_
  clear hQ hA
  refine WK.cond2 rfl (fun h => ?_) (fun h => ?_)
  · simp at h
    have e : eqBy p l m = false := by unfold eqBy; simp; intro e; omega
    repeat (refine WK.seq ?_)
    refine WK.reg 300 Tryz.ntmps84 (by kernel_rfl) ?_
    intro A hA Q hQ
    simp
    refine hQ _ _ ?_
    clear hQ hA
    refine WK.ret Tryz.func84 (by simp (maxDischargeDepth := 120) [Tryz.results84, e]) (by simp [e])
  · simp at h
    have hlm : l.length = m.length := by omega
    repeat (first | refine WK.seq ?_ | refine WK.skip ?_)
    refine WK.reg 400 Tryz.ntmps84 (by kernel_rfl) ?_
    intro A hA Q hQ
    simp
    refine hQ _ _ ?_
    clear hQ hA
    repeat (refine WK.block ?_)
    refine WK.loopI (fun n => n) (fun i : Nat => (⟨(upd (upd (upd (upd (upd (upd J 0 (.sl false l.length (instL l))) 1 (.sl false m.length (instL m))) 2 (.fn fid caps)) 15 (.sl false l.length (instL l))) 16 (.int .i64 l.length)) 17 (.int .i64 i)), B0, 0⟩ : St)) (fun i => i ≤ l.length ∧ ∀ j, j < i → p (nth l j) (nth m j) = true) (fun i => l.length - i) (0) (by repeat (first | exact TmW.nil | refine TmW.upd ?_ (by simp (maxDischargeDepth := 120) [hcl]))) (by repeat (first | exact BxW.nil | refine BxW.upd ?_ (by simp (maxDischargeDepth := 120) [hcl]))) (by first | exact InjW.id | exact InjW.nil | exact InjW.one | exact InjW.two (by simp) | exact InjW.three (by simp) (by simp) (by simp)) (⟨by omega, by simp⟩) (fun i hi IH => ?_)
    repeat (refine WK.seq ?_)
    refine WK.reg 500 Tryz.ntmps84 (by kernel_rfl) ?_
    intro A hA Q hQ
    simp
    refine hQ _ _ ?_
    clear hQ hA
    repeat (refine WK.seq ?_)
    refine WK.cond2 rfl (fun h1 => ?_) (fun h1 => ?_)
    · simp at h1
      have h2 : i < l.length := by omega
      have h2' : i < m.length := by omega
      have h3 : 7 ≤ l.length * 7 - i * 7 := by omega
      have h3' : 7 ≤ m.length * 7 - i * 7 := by omega
      have h4 := inst_sub l i h2
      have h4' := inst_sub m i h2'
      have h6 : IntKind.i64.wrap ((i : Int) + 1) = i + 1 := wrap_i64 (by omega) (by omega)
      repeat (first | refine WK.seq ?_ | refine WK.block ?_ | refine WK.skip ?_)
      refine WK.reg 600 Tryz.ntmps84 (by kernel_rfl) ?_
      intro A hA Q hQ
      simp [h2, h3, h4]
      refine hQ _ _ ?_
      clear hQ hA
      repeat (refine WK.seq ?_)
      refine WK.reg 700 Tryz.ntmps84 (by kernel_rfl) ?_
      intro A hA Q hQ
      simp [h2', h3', h4']
      refine hQ _ _ ?_
      clear hQ hA
      repeat (refine WK.seq ?_)
      refine WK.reg 800 Tryz.ntmps84 (by kernel_rfl) ?_
      intro A hA Q hQ
      simp
      refine RunQ.call rfl rfl rfl rfl (by rfl) (by simp (maxDischargeDepth := 120) [hcl]) (hf (nth l i) (nth_mem h2) (nth m i) (nth_mem h2')) (by simp [hcl]) ?_
      refine RunQ.eval ?_
      simp [hcl]
      refine hQ _ _ ?_
      clear hQ hA
      refine WK.cond2 rfl (fun h5 => ?_) (fun h5 => ?_)
      · simp at h5
        have e : eqBy p l m = false := by unfold eqBy; rw [all_range_false (p := fun i => p (nth l i) (nth m i)) h2 h5]; simp
        repeat (refine WK.seq ?_)
        refine WK.reg 900 Tryz.ntmps84 (by kernel_rfl) ?_
        intro A hA Q hQ
        simp
        refine hQ _ _ ?_
        clear hQ hA
        refine WK.ret Tryz.func84 (by simp (maxDischargeDepth := 120) [Tryz.results84, e]) (by simp [e])
      · simp at h5
        repeat (first | refine WK.inBlock ?_ | refine WK.skip ?_)
        refine WK.reg 1000 Tryz.ntmps84 (by kernel_rfl) ?_
        intro A hA Q hQ
        simp [h6]
        refine hQ _ _ ?_
        clear hQ hA
        refine WK.next (fun n => n) (IH (i + 1) (⟨by omega, fun j hj => by by_cases h7 : j = i; (subst h7; exact h5); exact hi.2 j (by omega)⟩) (by first | omega | (dsimp only; omega))) (by repeat (first | exact TmW.nil | refine TmW.upd ?_ (by simp (maxDischargeDepth := 120) [hcl]))) (by repeat (first | exact BxW.nil | refine BxW.upd ?_ (by simp (maxDischargeDepth := 120) [hcl]))) (by first | exact InjW.id | exact InjW.nil | exact InjW.one | exact InjW.two (by simp) | exact InjW.three (by simp) (by simp) (by simp))
    · simp at h1
      have e : eqBy p l m = true := by unfold eqBy; rw [all_range_true (p := fun i => p (nth l i) (nth m i)) (fun j hj => hi.2 j (by omega))]; simp [hlm]
      repeat (first | refine WK.seq ?_ | refine WK.exit rfl ?_)
      refine WK.reg 1100 Tryz.ntmps84 (by kernel_rfl) ?_
      intro A hA Q hQ
      simp
      refine hQ _ _ ?_
      clear hQ hA
      refine WK.ret Tryz.func84 (by simp (maxDischargeDepth := 120) [Tryz.results84, e]) (by simp [e])
theorem eqf_act (fid : Nat) (caps : List AV) (p : Action → Action → Bool) (l m : List Action) (hcl : ClL caps = true) (hl : l.length ≤ 1000000)
    (hf : ∀ x, x ∈ l → ∀ y, y ∈ m → FnP Tryz.prog fid (.agg x.enc :: .agg y.enc :: caps) (.bool (p x y))) :
    FnP Tryz.prog 143 [actS l, actS m, .fn fid caps] (.bool (eqBy p l m)) := by
  unfold actS
  refine FnP.intro Tryz.func143 rfl rfl fun G w => ?_
  repeat (refine WK.seq ?_)
  refine WK.reg 100 Tryz.ntmps143 (by kernel_rfl) ?_
  intro A hA Q hQ
  simp
  refine hQ _ _ ?_
  clear hQ hA
  repeat (refine WK.seq ?_)
  refine WK.reg 200 Tryz.ntmps143 (by kernel_rfl) ?_
  intro A hA Q hQ
  simp
  refine hQ _ _ ?_
  clear hQ hA
  refine WK.cond2 rfl (fun h => ?_) (fun h => ?_)
  · simp at h
    have e : eqBy p l m = false := by unfold eqBy; simp; intro e; omega
    repeat (refine WK.seq ?_)
    refine WK.reg 300 Tryz.ntmps143 (by kernel_rfl) ?_
    intro A hA Q hQ
    simp
    refine hQ _ _ ?_
    clear hQ hA
    refine WK.ret Tryz.func143 (by simp (maxDischargeDepth := 120) [Tryz.results143, e]) (by simp [e])
  · simp at h
    have hlm : l.length = m.length := by omega
    repeat (first | refine WK.seq ?_ | refine WK.skip ?_)
    refine WK.reg 400 Tryz.ntmps143 (by kernel_rfl) ?_
    intro A hA Q hQ
    simp
    refine hQ _ _ ?_
    clear hQ hA
    repeat (refine WK.block ?_)
    refine WK.loopI (fun n => n) (fun i : Nat => (⟨(upd (upd (upd (upd (upd (upd J 0 (.sl false l.length (actL l))) 1 (.sl false m.length (actL m))) 2 (.fn fid caps)) 15 (.sl false l.length (actL l))) 16 (.int .i64 l.length)) 17 (.int .i64 i)), B0, 0⟩ : St)) (fun i => i ≤ l.length ∧ ∀ j, j < i → p (nth l j) (nth m j) = true) (fun i => l.length - i) (0) (by repeat (first | exact TmW.nil | refine TmW.upd ?_ (by simp (maxDischargeDepth := 120) [hcl]))) (by repeat (first | exact BxW.nil | refine BxW.upd ?_ (by simp (maxDischargeDepth := 120) [hcl]))) (by first | exact InjW.id | exact InjW.nil | exact InjW.one | exact InjW.two (by simp) | exact InjW.three (by simp) (by simp) (by simp)) (⟨by omega, by simp⟩) (fun i hi IH => ?_)
    repeat (refine WK.seq ?_)
    refine WK.reg 500 Tryz.ntmps143 (by kernel_rfl) ?_
    intro A hA Q hQ
    simp
    refine hQ _ _ ?_
    clear hQ hA
    repeat (refine WK.seq ?_)
    refine WK.cond2 rfl (fun h1 => ?_) (fun h1 => ?_)
    · simp at h1
      have h2 : i < l.length := by omega
      have h2' : i < m.length := by omega
      have h3 : 11 ≤ l.length * 11 - i * 11 := by omega
      have h3' : 11 ≤ m.length * 11 - i * 11 := by omega
      have h4 := act_sub l i h2
      have h4' := act_sub m i h2'
      have h6 : IntKind.i64.wrap ((i : Int) + 1) = i + 1 := wrap_i64 (by omega) (by omega)
      repeat (first | refine WK.seq ?_ | refine WK.block ?_ | refine WK.skip ?_)
      refine WK.reg 600 Tryz.ntmps143 (by kernel_rfl) ?_
      intro A hA Q hQ
      simp [h2, h3, h4]
      refine hQ _ _ ?_
      clear hQ hA
      repeat (refine WK.seq ?_)
      refine WK.reg 700 Tryz.ntmps143 (by kernel_rfl) ?_
      intro A hA Q hQ
      simp [h2', h3', h4']
      refine hQ _ _ ?_
      clear hQ hA
      repeat (refine WK.seq ?_)
      refine WK.reg 800 Tryz.ntmps143 (by kernel_rfl) ?_
      intro A hA Q hQ
      simp
      refine RunQ.call rfl rfl rfl rfl (by rfl) (by simp (maxDischargeDepth := 120) [hcl]) (hf (nth l i) (nth_mem h2) (nth m i) (nth_mem h2')) (by simp [hcl]) ?_
      refine RunQ.eval ?_
      simp [hcl]
      refine hQ _ _ ?_
      clear hQ hA
      refine WK.cond2 rfl (fun h5 => ?_) (fun h5 => ?_)
      · simp at h5
        have e : eqBy p l m = false := by unfold eqBy; rw [all_range_false (p := fun i => p (nth l i) (nth m i)) h2 h5]; simp
        repeat (refine WK.seq ?_)
        refine WK.reg 900 Tryz.ntmps143 (by kernel_rfl) ?_
        intro A hA Q hQ
        simp
        refine hQ _ _ ?_
        clear hQ hA
        refine WK.ret Tryz.func143 (by simp (maxDischargeDepth := 120) [Tryz.results143, e]) (by simp [e])
      · simp at h5
        repeat (first | refine WK.inBlock ?_ | refine WK.skip ?_)
        refine WK.reg 1000 Tryz.ntmps143 (by kernel_rfl) ?_
        intro A hA Q hQ
        simp [h6]
        refine hQ _ _ ?_
        clear hQ hA
        refine WK.next (fun n => n) (IH (i + 1) (⟨by omega, fun j hj => by by_cases h7 : j = i; (subst h7; exact h5); exact hi.2 j (by omega)⟩) (by first | omega | (dsimp only; omega))) (by repeat (first | exact TmW.nil | refine TmW.upd ?_ (by simp (maxDischargeDepth := 120) [hcl]))) (by repeat (first | exact BxW.nil | refine BxW.upd ?_ (by simp (maxDischargeDepth := 120) [hcl]))) (by first | exact InjW.id | exact InjW.nil | exact InjW.one | exact InjW.two (by simp) | exact InjW.three (by simp) (by simp) (by simp))
    · simp at h1
      have e : eqBy p l m = true := by unfold eqBy; rw [all_range_true (p := fun i => p (nth l i) (nth m i)) (fun j hj => hi.2 j (by omega))]; simp [hlm]
      repeat (first | refine WK.seq ?_ | refine WK.exit rfl ?_)
      refine WK.reg 1100 Tryz.ntmps143 (by kernel_rfl) ?_
      intro A hA Q hQ
      simp
      refine hQ _ _ ?_
      clear hQ hA
      refine WK.ret Tryz.func143 (by simp (maxDischargeDepth := 120) [Tryz.results143, e]) (by simp [e])

theorem osame_c (a b : Oxm) : FnP Tryz.prog 83 [.agg a.enc, .agg b.enc] (.bool (a == b)) := by
  refine FnP.intro Tryz.func83 rfl rfl fun G w => ?_
  repeat (first | refine WK.seq ?_ | refine WK.block ?_ | refine WK.inBlock ?_ | refine WK.skip ?_ | refine WK.label ?_ | refine WK.scope ?_ | refine WK.inScope ?_ | refine WK.exit rfl ?_)
  first | refine WK.reg 100 Tryz.ntmps83 (by kernel_rfl) ?_ | refine WK.regD 100 clsOf (by kernel_rfl) Tryz.ntmps83 (by kernel_rfl) (by kernel_rfl) ?_
  intro A hA Q hQ
  simp
  refine hQ _ _ ?_
  clear hQ hA
  repeat (first | refine WK.seq ?_ | refine WK.block ?_ | refine WK.inBlock ?_ | refine WK.skip ?_ | refine WK.label ?_ | refine WK.scope ?_ | refine WK.inScope ?_ | refine WK.exit rfl ?_)
  first | refine WK.reg 200 Tryz.ntmps83 (by kernel_rfl) ?_ | refine WK.regD 200 clsOf (by kernel_rfl) Tryz.ntmps83 (by kernel_rfl) (by kernel_rfl) ?_
  intro A hA Q hQ
  simp
  refine hQ _ _ ?_
  clear hQ hA
  repeat (first | refine WK.seq ?_ | refine WK.block ?_ | refine WK.inBlock ?_ | refine WK.skip ?_ | refine WK.label ?_ | refine WK.scope ?_ | refine WK.inScope ?_ | refine WK.exit rfl ?_)
  refine WK.ret Tryz.func83 (by simp (maxDischargeDepth := 120) [Tryz.results83]) (by simp)
theorem asame_c (a b : Action) : FnP Tryz.prog 144 [.agg a.enc, .agg b.enc] (.bool (a == b)) := by
  refine FnP.intro Tryz.func144 rfl rfl fun G w => ?_
  repeat (refine WK.seq ?_)
  refine WK.reg 100 Tryz.ntmps144 (by kernel_rfl) ?_
  intro A hA Q hQ
  simp
  refine hQ _ _ ?_
  clear hQ hA
  repeat (refine WK.seq ?_)
  refine WK.reg 200 Tryz.ntmps144 (by kernel_rfl) ?_
  intro A hA Q hQ
  simp
  refine hQ _ _ ?_
  clear hQ hA
  refine WK.ret Tryz.func144 (by simp (maxDischargeDepth := 120) [Tryz.results144]) (by simp)
theorem msame_c (l m : List Oxm) (hl : l.length ≤ 1000000) : FnP Tryz.prog 46 [oxmS l, oxmS m] (.bool (eqBy (· == ·) l m)) := by
  refine FnP.intro Tryz.func46 rfl rfl fun G w => ?_
  repeat (first | refine WK.seq ?_ | refine WK.block ?_ | refine WK.inBlock ?_ | refine WK.skip ?_ | refine WK.label ?_ | refine WK.scope ?_ | refine WK.inScope ?_ | refine WK.exit rfl ?_)
  first | refine WK.reg 100 Tryz.ntmps46 (by kernel_rfl) ?_ | refine WK.regD 100 clsOf (by kernel_rfl) Tryz.ntmps46 (by kernel_rfl) (by kernel_rfl) ?_
  intro A hA Q hQ
  simp
  refine hQ _ _ ?_
  clear hQ hA
  repeat (first | refine WK.seq ?_ | refine WK.block ?_ | refine WK.inBlock ?_ | refine WK.skip ?_ | refine WK.label ?_ | refine WK.scope ?_ | refine WK.inScope ?_ | refine WK.exit rfl ?_)
  first | refine WK.reg 200 Tryz.ntmps46 (by kernel_rfl) ?_ | refine WK.regD 200 clsOf (by kernel_rfl) Tryz.ntmps46 (by kernel_rfl) (by kernel_rfl) ?_
  intro A hA Q hQ
  simp
  refine RunQ.call rfl rfl rfl rfl (by rfl) (by simp (maxDischargeDepth := 120) [oxmS]) (eqf_oxm 83 [] (· == ·) l m rfl hl (fun x _ y _ => osame_c x y)) (by simp [oxmS]) ?_
  refine RunQ.eval ?_
  simp [oxmS]
  refine hQ _ _ ?_
  clear hQ hA
  repeat (first | refine WK.seq ?_ | refine WK.block ?_ | refine WK.inBlock ?_ | refine WK.skip ?_ | refine WK.label ?_ | refine WK.scope ?_ | refine WK.inScope ?_ | refine WK.exit rfl ?_)
  refine WK.ret Tryz.func46 (by simp (maxDischargeDepth := 120) [Tryz.results46]) (by simp)
theorem acsame_c (l m : List Action) (hl : l.length ≤ 1000000) : FnP Tryz.prog 119 [actS l, actS m] (.bool (eqBy (· == ·) l m)) := by
  refine FnP.intro Tryz.func119 rfl rfl fun G w => ?_
  repeat (refine WK.seq ?_)
  refine WK.reg 100 Tryz.ntmps119 (by kernel_rfl) ?_
  intro A hA Q hQ
  simp
  refine hQ _ _ ?_
  clear hQ hA
  repeat (refine WK.seq ?_)
  refine WK.reg 200 Tryz.ntmps119 (by kernel_rfl) ?_
  intro A hA Q hQ
  simp
  refine RunQ.call rfl rfl rfl rfl (by rfl) (by simp (maxDischargeDepth := 120) [actS]) (eqf_act 144 [] (· == ·) l m rfl hl (fun x _ y _ => asame_c x y)) (by simp [actS]) ?_
  refine RunQ.eval ?_
  simp [actS]
  refine hQ _ _ ?_
  clear hQ hA
  refine WK.ret Tryz.func119 (by simp (maxDischargeDepth := 120) [Tryz.results119]) (by simp)
def Inst.same (a b : Inst) : Bool := a.kind == b.kind && a.table == b.table && a.value == b.value && a.mask == b.mask && eqBy (· == ·) a.acts b.acts
theorem isame_c (a b : Inst) (hl : a.acts.length ≤ 1000000) : FnP Tryz.prog 85 [.agg a.enc, .agg b.enc] (.bool (Inst.same a b)) := by
  have w1 := Wide.beq a.value b.value
  have w2 := Wide.beq a.mask b.mask
  cases k1 : a.kind == b.kind
  · refine FnP.intro Tryz.func85 rfl rfl fun G w => ?_
    repeat (refine WK.seq ?_)
    refine WK.reg 100 Tryz.ntmps85 (by kernel_rfl) ?_
    intro A hA Q hQ
    simp
    refine hQ _ _ ?_
    clear hQ hA
    repeat (refine WK.seq ?_)
    refine WK.reg 200 Tryz.ntmps85 (by kernel_rfl) ?_
    intro A hA Q hQ
    have hg5 : (A[5]?).bind (·.dst) = some 10 := by rw [hA]; rfl
    have hg12 : (A[12]?).bind (·.dst) = some 17 := by rw [hA]; rfl
    have hg19 : (A[19]?).bind (·.dst) = some 24 := by rw [hA]; rfl
    have hg26 : (A[26]?).bind (·.dst) = some 31 := by rw [hA]; rfl
    simp [Inst.enc, k1, hg5, hg12, hg19, hg26]
    refine hQ _ _ ?_
    clear hQ hA
    refine WK.ret Tryz.func85 (by simp (maxDischargeDepth := 120) [Tryz.results85, Inst.same, k1]) (by simp [Inst.same, k1])
  cases k2 : a.table == b.table
  · refine FnP.intro Tryz.func85 rfl rfl fun G w => ?_
    repeat (refine WK.seq ?_)
    refine WK.reg 100 Tryz.ntmps85 (by kernel_rfl) ?_
    intro A hA Q hQ
    simp
    refine hQ _ _ ?_
    clear hQ hA
    repeat (refine WK.seq ?_)
    refine WK.reg 200 Tryz.ntmps85 (by kernel_rfl) ?_
    intro A hA Q hQ
    have hg5 : (A[5]?).bind (·.dst) = some 10 := by rw [hA]; rfl
    have hg12 : (A[12]?).bind (·.dst) = some 17 := by rw [hA]; rfl
    have hg19 : (A[19]?).bind (·.dst) = some 24 := by rw [hA]; rfl
    have hg26 : (A[26]?).bind (·.dst) = some 31 := by rw [hA]; rfl
    simp [Inst.enc, k1, k2, hg5, hg12, hg19, hg26]
    refine hQ _ _ ?_
    clear hQ hA
    refine WK.ret Tryz.func85 (by simp (maxDischargeDepth := 120) [Tryz.results85, Inst.same, k1, k2]) (by simp [Inst.same, k1, k2])
  cases k3 : a.value == b.value
  · rw [k3] at w1
    refine FnP.intro Tryz.func85 rfl rfl fun G w => ?_
    repeat (refine WK.seq ?_)
    refine WK.reg 100 Tryz.ntmps85 (by kernel_rfl) ?_
    intro A hA Q hQ
    simp
    refine hQ _ _ ?_
    clear hQ hA
    repeat (refine WK.seq ?_)
    refine WK.reg 200 Tryz.ntmps85 (by kernel_rfl) ?_
    intro A hA Q hQ
    have hg5 : (A[5]?).bind (·.dst) = some 10 := by rw [hA]; rfl
    have hg12 : (A[12]?).bind (·.dst) = some 17 := by rw [hA]; rfl
    have hg19 : (A[19]?).bind (·.dst) = some 24 := by rw [hA]; rfl
    have hg26 : (A[26]?).bind (·.dst) = some 31 := by rw [hA]; rfl
    simp [Inst.enc, k1, k2, ← w1, hg5, hg12, hg19, hg26]
    refine hQ _ _ ?_
    clear hQ hA
    refine WK.ret Tryz.func85 (by simp (maxDischargeDepth := 120) [Tryz.results85, Inst.same, k1, k2, k3]) (by simp [Inst.same, k1, k2, k3])
  rw [k3] at w1
  cases k4 : a.mask == b.mask
  · rw [k4] at w2
    refine FnP.intro Tryz.func85 rfl rfl fun G w => ?_
    repeat (refine WK.seq ?_)
    refine WK.reg 100 Tryz.ntmps85 (by kernel_rfl) ?_
    intro A hA Q hQ
    simp
    refine hQ _ _ ?_
    clear hQ hA
    repeat (refine WK.seq ?_)
    refine WK.reg 200 Tryz.ntmps85 (by kernel_rfl) ?_
    intro A hA Q hQ
    have hg5 : (A[5]?).bind (·.dst) = some 10 := by rw [hA]; rfl
    have hg12 : (A[12]?).bind (·.dst) = some 17 := by rw [hA]; rfl
    have hg19 : (A[19]?).bind (·.dst) = some 24 := by rw [hA]; rfl
    have hg26 : (A[26]?).bind (·.dst) = some 31 := by rw [hA]; rfl
    simp [Inst.enc, k1, k2, ← w1, ← w2, hg5, hg12, hg19, hg26]
    refine hQ _ _ ?_
    clear hQ hA
    refine WK.ret Tryz.func85 (by simp (maxDischargeDepth := 120) [Tryz.results85, Inst.same, k1, k2, k3, k4]) (by simp [Inst.same, k1, k2, k3, k4])
  rw [k4] at w2
  refine FnP.intro Tryz.func85 rfl rfl fun G w => ?_
  repeat (refine WK.seq ?_)
  refine WK.reg 100 Tryz.ntmps85 (by kernel_rfl) ?_
  intro A hA Q hQ
  simp
  refine hQ _ _ ?_
  clear hQ hA
  repeat (refine WK.seq ?_)
  refine WK.reg 200 Tryz.ntmps85 (by kernel_rfl) ?_
  intro A hA Q hQ
  have hg5 : (A[5]?).bind (·.dst) = some 10 := by rw [hA]; rfl
  have hg12 : (A[12]?).bind (·.dst) = some 17 := by rw [hA]; rfl
  have hg19 : (A[19]?).bind (·.dst) = some 24 := by rw [hA]; rfl
  have hg26 : (A[26]?).bind (·.dst) = some 31 := by rw [hA]; rfl
  simp [Inst.enc, k1, k2, ← w1, ← w2, hg5, hg12, hg19, hg26]
  refine RunQ.callG rfl rfl (by simp [hg26, actS]) rfl (by rfl) (by simp (maxDischargeDepth := 120) [hg26, actS]) (acsame_c a.acts b.acts hl) (by simp [hg26, actS]) ?_
  refine RunQ.eval ?_
  simp [hg26, actS]
  refine hQ _ _ ?_
  clear hQ hA
  refine WK.ret Tryz.func85 (by simp (maxDischargeDepth := 120) [Tryz.results85, Inst.same, k1, k2, k3, k4]) (by simp [Inst.same, k1, k2, k3, k4])
theorem insame_c (l m : List Inst) (hl : l.length ≤ 1000000) (ha : ∀ x, x ∈ l → x.acts.length ≤ 1000000) : FnP Tryz.prog 47 [instS l, instS m] (.bool (eqBy Inst.same l m)) := by
  refine FnP.intro Tryz.func47 rfl rfl fun G w => ?_
  repeat (refine WK.seq ?_)
  refine WK.reg 100 Tryz.ntmps47 (by kernel_rfl) ?_
  intro A hA Q hQ
  simp
  refine hQ _ _ ?_
  clear hQ hA
  repeat (refine WK.seq ?_)
  refine WK.reg 200 Tryz.ntmps47 (by kernel_rfl) ?_
  intro A hA Q hQ
  simp
  refine RunQ.call rfl rfl rfl rfl (by rfl) (by simp (maxDischargeDepth := 120) [instS]) (eqf_inst 85 [] Inst.same l m rfl hl (fun x hx y _ => isame_c x y (ha x hx))) (by simp [instS]) ?_
  refine RunQ.eval ?_
  simp [instS]
  refine hQ _ _ ?_
  clear hQ hA
  refine WK.ret Tryz.func47 (by simp (maxDischargeDepth := 120) [Tryz.results47]) (by simp)
end Go.Proofs.YtiifjagnhnchoaaGreat
end

section
set_option linter.unusedVariables false
set_option linter.unusedSimpArgs false
namespace Go.Proofs.YtiifjagnhnchoaaGreat
open Go Go.AI Go.Proofs

theorem rosame_c (a b : Oxm) : FnP Tryz.prog 67 [.agg a.enc, .agg b.enc] (.bool (a == b)) := by
  have w1 := Wide.beq a.value b.value
  have w2 := Wide.beq a.mask b.mask
  have e : (a == b) = (a.field == b.field && (a.masked == b.masked && (a.value == b.value && a.mask == b.mask))) := by
    rw [Oxm.beq, w1, w2]; simp [Bool.and_assoc]
  rw [e]
  cases k1 : a.field == b.field
  · refine FnP.intro Tryz.func67 rfl rfl fun G w => ?_
    repeat (refine WK.seq ?_)
    refine WK.reg 100 Tryz.ntmps67 (by kernel_rfl) ?_
    intro A hA Q hQ
    simp
    refine hQ _ _ ?_
    clear hQ hA
    repeat (refine WK.seq ?_)
    refine WK.reg 200 Tryz.ntmps67 (by kernel_rfl) ?_
    intro A hA Q hQ
    have hg5 : (A[5]?).bind (·.dst) = some 10 := by rw [hA]; rfl
    have hg12 : (A[12]?).bind (·.dst) = some 17 := by rw [hA]; rfl
    have hg19 : (A[19]?).bind (·.dst) = some 24 := by rw [hA]; rfl
    simp [Oxm.enc, k1, hg5, hg12, hg19]
    refine hQ _ _ ?_
    clear hQ hA
    refine WK.ret Tryz.func67 (by simp (maxDischargeDepth := 120) [Tryz.results67, k1]) (by simp [k1])
  cases k2 : a.masked == b.masked
  · refine FnP.intro Tryz.func67 rfl rfl fun G w => ?_
    repeat (refine WK.seq ?_)
    refine WK.reg 100 Tryz.ntmps67 (by kernel_rfl) ?_
    intro A hA Q hQ
    simp
    refine hQ _ _ ?_
    clear hQ hA
    repeat (refine WK.seq ?_)
    refine WK.reg 200 Tryz.ntmps67 (by kernel_rfl) ?_
    intro A hA Q hQ
    have hg5 : (A[5]?).bind (·.dst) = some 10 := by rw [hA]; rfl
    have hg12 : (A[12]?).bind (·.dst) = some 17 := by rw [hA]; rfl
    have hg19 : (A[19]?).bind (·.dst) = some 24 := by rw [hA]; rfl
    simp [Oxm.enc, k1, k2, hg5, hg12, hg19]
    refine hQ _ _ ?_
    clear hQ hA
    refine WK.ret Tryz.func67 (by simp (maxDischargeDepth := 120) [Tryz.results67, k1, k2]) (by simp [k1, k2])
  cases k3 : a.value == b.value
  · rw [k3] at w1
    refine FnP.intro Tryz.func67 rfl rfl fun G w => ?_
    repeat (refine WK.seq ?_)
    refine WK.reg 100 Tryz.ntmps67 (by kernel_rfl) ?_
    intro A hA Q hQ
    simp
    refine hQ _ _ ?_
    clear hQ hA
    repeat (refine WK.seq ?_)
    refine WK.reg 200 Tryz.ntmps67 (by kernel_rfl) ?_
    intro A hA Q hQ
    have hg5 : (A[5]?).bind (·.dst) = some 10 := by rw [hA]; rfl
    have hg12 : (A[12]?).bind (·.dst) = some 17 := by rw [hA]; rfl
    have hg19 : (A[19]?).bind (·.dst) = some 24 := by rw [hA]; rfl
    simp [Oxm.enc, k1, k2, ← w1, hg5, hg12, hg19]
    refine hQ _ _ ?_
    clear hQ hA
    refine WK.ret Tryz.func67 (by simp (maxDischargeDepth := 120) [Tryz.results67, k1, k2, k3]) (by simp [k1, k2, k3])
  rw [k3] at w1
  refine FnP.intro Tryz.func67 rfl rfl fun G w => ?_
  repeat (refine WK.seq ?_)
  refine WK.reg 100 Tryz.ntmps67 (by kernel_rfl) ?_
  intro A hA Q hQ
  simp
  refine hQ _ _ ?_
  clear hQ hA
  repeat (refine WK.seq ?_)
  refine WK.reg 200 Tryz.ntmps67 (by kernel_rfl) ?_
  intro A hA Q hQ
  have hg5 : (A[5]?).bind (·.dst) = some 10 := by rw [hA]; rfl
  have hg12 : (A[12]?).bind (·.dst) = some 17 := by rw [hA]; rfl
  have hg19 : (A[19]?).bind (·.dst) = some 24 := by rw [hA]; rfl
  simp [Oxm.enc, k1, k2, ← w1, ← w2, hg5, hg12, hg19]
  refine hQ _ _ ?_
  clear hQ hA
  refine WK.ret Tryz.func67 (by simp (maxDischargeDepth := 120) [Tryz.results67, k1, k2, k3]) (by simp [k1, k2, k3])
theorem rasame_c (a b : Action) : FnP Tryz.prog 135 [.agg a.enc, .agg b.enc] (.bool (a == b)) := by
  rw [Action.beq]
  cases k1 : a.kind == b.kind
  · refine FnP.intro Tryz.func135 rfl rfl fun G w => ?_
    repeat (refine WK.seq ?_)
    refine WK.reg 100 Tryz.ntmps135 (by kernel_rfl) ?_
    intro A hA Q hQ
    simp
    refine hQ _ _ ?_
    clear hQ hA
    repeat (refine WK.seq ?_)
    refine WK.reg 200 Tryz.ntmps135 (by kernel_rfl) ?_
    intro A hA Q hQ
    have hg5 : (A[5]?).bind (·.dst) = some 10 := by rw [hA]; rfl
    have hg12 : (A[12]?).bind (·.dst) = some 17 := by rw [hA]; rfl
    have hg19 : (A[19]?).bind (·.dst) = some 24 := by rw [hA]; rfl
    have hg26 : (A[26]?).bind (·.dst) = some 31 := by rw [hA]; rfl
    have hg33 : (A[33]?).bind (·.dst) = some 38 := by rw [hA]; rfl
    simp [Action.enc, k1, hg5, hg12, hg19, hg26, hg33]
    refine hQ _ _ ?_
    clear hQ hA
    refine WK.ret Tryz.func135 (by simp (maxDischargeDepth := 120) [Tryz.results135, k1]) (by simp [k1])
  cases k2 : a.port == b.port
  · refine FnP.intro Tryz.func135 rfl rfl fun G w => ?_
    repeat (refine WK.seq ?_)
    refine WK.reg 100 Tryz.ntmps135 (by kernel_rfl) ?_
    intro A hA Q hQ
    simp
    refine hQ _ _ ?_
    clear hQ hA
    repeat (refine WK.seq ?_)
    refine WK.reg 200 Tryz.ntmps135 (by kernel_rfl) ?_
    intro A hA Q hQ
    have hg5 : (A[5]?).bind (·.dst) = some 10 := by rw [hA]; rfl
    have hg12 : (A[12]?).bind (·.dst) = some 17 := by rw [hA]; rfl
    have hg19 : (A[19]?).bind (·.dst) = some 24 := by rw [hA]; rfl
    have hg26 : (A[26]?).bind (·.dst) = some 31 := by rw [hA]; rfl
    have hg33 : (A[33]?).bind (·.dst) = some 38 := by rw [hA]; rfl
    simp [Action.enc, k1, k2, hg5, hg12, hg19, hg26, hg33]
    refine hQ _ _ ?_
    clear hQ hA
    refine WK.ret Tryz.func135 (by simp (maxDischargeDepth := 120) [Tryz.results135, k1, k2]) (by simp [k1, k2])
  cases k3 : a.max == b.max
  · refine FnP.intro Tryz.func135 rfl rfl fun G w => ?_
    repeat (refine WK.seq ?_)
    refine WK.reg 100 Tryz.ntmps135 (by kernel_rfl) ?_
    intro A hA Q hQ
    simp
    refine hQ _ _ ?_
    clear hQ hA
    repeat (refine WK.seq ?_)
    refine WK.reg 200 Tryz.ntmps135 (by kernel_rfl) ?_
    intro A hA Q hQ
    have hg5 : (A[5]?).bind (·.dst) = some 10 := by rw [hA]; rfl
    have hg12 : (A[12]?).bind (·.dst) = some 17 := by rw [hA]; rfl
    have hg19 : (A[19]?).bind (·.dst) = some 24 := by rw [hA]; rfl
    have hg26 : (A[26]?).bind (·.dst) = some 31 := by rw [hA]; rfl
    have hg33 : (A[33]?).bind (·.dst) = some 38 := by rw [hA]; rfl
    simp [Action.enc, k1, k2, k3, hg5, hg12, hg19, hg26, hg33]
    refine hQ _ _ ?_
    clear hQ hA
    refine WK.ret Tryz.func135 (by simp (maxDischargeDepth := 120) [Tryz.results135, k1, k2, k3]) (by simp [k1, k2, k3])
  cases k4 : a.group == b.group
  · refine FnP.intro Tryz.func135 rfl rfl fun G w => ?_
    repeat (refine WK.seq ?_)
    refine WK.reg 100 Tryz.ntmps135 (by kernel_rfl) ?_
    intro A hA Q hQ
    simp
    refine hQ _ _ ?_
    clear hQ hA
    repeat (refine WK.seq ?_)
    refine WK.reg 200 Tryz.ntmps135 (by kernel_rfl) ?_
    intro A hA Q hQ
    have hg5 : (A[5]?).bind (·.dst) = some 10 := by rw [hA]; rfl
    have hg12 : (A[12]?).bind (·.dst) = some 17 := by rw [hA]; rfl
    have hg19 : (A[19]?).bind (·.dst) = some 24 := by rw [hA]; rfl
    have hg26 : (A[26]?).bind (·.dst) = some 31 := by rw [hA]; rfl
    have hg33 : (A[33]?).bind (·.dst) = some 38 := by rw [hA]; rfl
    simp [Action.enc, k1, k2, k3, k4, hg5, hg12, hg19, hg26, hg33]
    refine hQ _ _ ?_
    clear hQ hA
    refine WK.ret Tryz.func135 (by simp (maxDischargeDepth := 120) [Tryz.results135, k1, k2, k3, k4]) (by simp [k1, k2, k3, k4])
  cases k5 : a.ether == b.ether
  · refine FnP.intro Tryz.func135 rfl rfl fun G w => ?_
    repeat (refine WK.seq ?_)
    refine WK.reg 100 Tryz.ntmps135 (by kernel_rfl) ?_
    intro A hA Q hQ
    simp
    refine hQ _ _ ?_
    clear hQ hA
    repeat (refine WK.seq ?_)
    refine WK.reg 200 Tryz.ntmps135 (by kernel_rfl) ?_
    intro A hA Q hQ
    have hg5 : (A[5]?).bind (·.dst) = some 10 := by rw [hA]; rfl
    have hg12 : (A[12]?).bind (·.dst) = some 17 := by rw [hA]; rfl
    have hg19 : (A[19]?).bind (·.dst) = some 24 := by rw [hA]; rfl
    have hg26 : (A[26]?).bind (·.dst) = some 31 := by rw [hA]; rfl
    have hg33 : (A[33]?).bind (·.dst) = some 38 := by rw [hA]; rfl
    simp [Action.enc, k1, k2, k3, k4, k5, hg5, hg12, hg19, hg26, hg33]
    refine hQ _ _ ?_
    clear hQ hA
    refine WK.ret Tryz.func135 (by simp (maxDischargeDepth := 120) [Tryz.results135, k1, k2, k3, k4, k5]) (by simp [k1, k2, k3, k4, k5])
  refine FnP.intro Tryz.func135 rfl rfl fun G w => ?_
  repeat (refine WK.seq ?_)
  refine WK.reg 100 Tryz.ntmps135 (by kernel_rfl) ?_
  intro A hA Q hQ
  simp
  refine hQ _ _ ?_
  clear hQ hA
  repeat (refine WK.seq ?_)
  refine WK.reg 200 Tryz.ntmps135 (by kernel_rfl) ?_
  intro A hA Q hQ
  have hg5 : (A[5]?).bind (·.dst) = some 10 := by rw [hA]; rfl
  have hg12 : (A[12]?).bind (·.dst) = some 17 := by rw [hA]; rfl
  have hg19 : (A[19]?).bind (·.dst) = some 24 := by rw [hA]; rfl
  have hg26 : (A[26]?).bind (·.dst) = some 31 := by rw [hA]; rfl
  have hg33 : (A[33]?).bind (·.dst) = some 38 := by rw [hA]; rfl
  simp [Action.enc, k1, k2, k3, k4, k5, hg5, hg12, hg19, hg26, hg33]
  refine RunQ.callG rfl rfl (by simp [hg33, Oxm.enc]) rfl (by rfl) (by simp (maxDischargeDepth := 120) [hg33, Oxm.enc]) (rosame_c a.oxm b.oxm) (by simp [hg33, Oxm.enc]) ?_
  refine RunQ.eval ?_
  simp [hg33, Oxm.enc]
  refine hQ _ _ ?_
  clear hQ hA
  refine WK.ret Tryz.func135 (by simp (maxDischargeDepth := 120) [Tryz.results135, k1, k2, k3, k4, k5]) (by simp [k1, k2, k3, k4, k5])
theorem rsame_oxm (l m : List Oxm) (hl : l.length ≤ 1000000) : FnP Tryz.prog 29 [oxmS l, oxmS m] (.bool (eqBy (fun x y => x == y) l m)) := by
  unfold oxmS
  refine FnP.intro Tryz.func29 rfl rfl fun G w => ?_
  repeat (first | refine WK.seq ?_ | refine WK.block ?_ | refine WK.inBlock ?_ | refine WK.skip ?_ | refine WK.label ?_ | refine WK.scope ?_ | refine WK.inScope ?_ | refine WK.exit rfl ?_)
  first | refine WK.reg 100 Tryz.ntmps29 (by kernel_rfl) ?_ | refine WK.regD 100 clsOf (by kernel_rfl) Tryz.ntmps29 (by kernel_rfl) (by kernel_rfl) ?_
  intro A hA Q hQ
  simp
  refine hQ _ _ ?_
  clear hQ hA
  repeat (first | refine WK.seq ?_ | refine WK.block ?_ | refine WK.inBlock ?_ | refine WK.skip ?_ | refine WK.label ?_ | refine WK.scope ?_ | refine WK.inScope ?_ | refine WK.exit rfl ?_)
  first | refine WK.reg 200 Tryz.ntmps29 (by kernel_rfl) ?_ | refine WK.regD 200 clsOf (by kernel_rfl) Tryz.ntmps29 (by kernel_rfl) (by kernel_rfl) ?_
  intro A hA Q hQ
  simp
  refine hQ _ _ ?_
  clear hQ hA
  repeat (first | refine WK.seq ?_ | refine WK.block ?_ | refine WK.inBlock ?_ | refine WK.skip ?_ | refine WK.label ?_ | refine WK.scope ?_ | refine WK.inScope ?_ | refine WK.exit rfl ?_)
  refine WK.cond2 rfl (fun h => ?_) (fun h => ?_)
  · simp at h
    have e : eqBy (fun x y => x == y) l m = false := by unfold eqBy; simp; intro e; omega
    repeat (first | refine WK.seq ?_ | refine WK.block ?_ | refine WK.inBlock ?_ | refine WK.skip ?_ | refine WK.label ?_ | refine WK.scope ?_ | refine WK.inScope ?_ | refine WK.exit rfl ?_)
    first | refine WK.reg 300 Tryz.ntmps29 (by kernel_rfl) ?_ | refine WK.regD 300 clsOf (by kernel_rfl) Tryz.ntmps29 (by kernel_rfl) (by kernel_rfl) ?_
    intro A hA Q hQ
    simp
    refine hQ _ _ ?_
    clear hQ hA
    repeat (first | refine WK.seq ?_ | refine WK.block ?_ | refine WK.inBlock ?_ | refine WK.skip ?_ | refine WK.label ?_ | refine WK.scope ?_ | refine WK.inScope ?_ | refine WK.exit rfl ?_)
    refine WK.ret Tryz.func29 (by simp (maxDischargeDepth := 120) [Tryz.results29, e]) (by simp [e])
  · simp at h
    have hlm : l.length = m.length := by omega
    repeat (first | refine WK.seq ?_ | refine WK.block ?_ | refine WK.inBlock ?_ | refine WK.skip ?_ | refine WK.label ?_ | refine WK.scope ?_ | refine WK.inScope ?_ | refine WK.exit rfl ?_)
    first | refine WK.reg 400 Tryz.ntmps29 (by kernel_rfl) ?_ | refine WK.regD 400 clsOf (by kernel_rfl) Tryz.ntmps29 (by kernel_rfl) (by kernel_rfl) ?_
    intro A hA Q hQ
    simp
    refine hQ _ _ ?_
    clear hQ hA
    repeat (first | refine WK.seq ?_ | refine WK.block ?_ | refine WK.inBlock ?_ | refine WK.skip ?_ | refine WK.label ?_ | refine WK.scope ?_ | refine WK.inScope ?_ | refine WK.exit rfl ?_)
    refine WK.loopI (fun n => n) (fun i : Nat => (⟨(upd (upd (upd J 0 (.sl false l.length (oxmL l))) 1 (.sl false m.length (oxmL m))) 5 (.int .i64 i)), B0, 0⟩ : St)) (fun i => i ≤ l.length ∧ ∀ j, j < i → (nth l j == nth m j) = true) (fun i => l.length - i) (0) (by repeat (first | exact TmW.nil | refine TmW.upd ?_ (by simp (maxDischargeDepth := 120)))) (by repeat (first | exact BxW.nil | refine BxW.upd ?_ (by simp (maxDischargeDepth := 120)))) (by first | exact InjW.id | exact InjW.nil | exact InjW.one | exact InjW.two (by simp) | exact InjW.three (by simp) (by simp) (by simp)) (⟨by omega, by simp⟩) (fun i hi IH => ?_)
    repeat (first | refine WK.seq ?_ | refine WK.block ?_ | refine WK.inBlock ?_ | refine WK.skip ?_ | refine WK.label ?_ | refine WK.scope ?_ | refine WK.inScope ?_ | refine WK.exit rfl ?_)
    first | refine WK.reg 500 Tryz.ntmps29 (by kernel_rfl) ?_ | refine WK.regD 500 clsOf (by kernel_rfl) Tryz.ntmps29 (by kernel_rfl) (by kernel_rfl) ?_
    intro A hA Q hQ
    simp
    refine hQ _ _ ?_
    clear hQ hA
    repeat (first | refine WK.seq ?_ | refine WK.block ?_ | refine WK.inBlock ?_ | refine WK.skip ?_ | refine WK.label ?_ | refine WK.scope ?_ | refine WK.inScope ?_ | refine WK.exit rfl ?_)
    refine WK.cond2 rfl (fun h1 => ?_) (fun h1 => ?_)
    · simp at h1
      have h2 : i < l.length := by omega
      have h2' : i < m.length := by omega
      have h3 : 6 ≤ l.length * 6 - i * 6 := by omega
      have h3' : 6 ≤ m.length * 6 - i * 6 := by omega
      have h4 := oxm_sub l i h2
      have h4' := oxm_sub m i h2'
      have h6 : IntKind.i64.wrap ((i : Int) + 1) = i + 1 := wrap_i64 (by omega) (by omega)
      repeat (first | refine WK.seq ?_ | refine WK.block ?_ | refine WK.inBlock ?_ | refine WK.skip ?_ | refine WK.label ?_ | refine WK.scope ?_ | refine WK.inScope ?_ | refine WK.exit rfl ?_)
      first | refine WK.reg 600 Tryz.ntmps29 (by kernel_rfl) ?_ | refine WK.regD 600 clsOf (by kernel_rfl) Tryz.ntmps29 (by kernel_rfl) (by kernel_rfl) ?_
      intro A hA Q hQ
      simp [h2, h2', h3, h3', h4, h4']
      refine RunQ.call rfl rfl rfl rfl (by rfl) (by simp (maxDischargeDepth := 120)) (rosame_c (nth l i) (nth m i)) (by simp) ?_
      refine RunQ.eval ?_
      simp
      refine hQ _ _ ?_
      clear hQ hA
      repeat (first | refine WK.seq ?_ | refine WK.block ?_ | refine WK.inBlock ?_ | refine WK.skip ?_ | refine WK.label ?_ | refine WK.scope ?_ | refine WK.inScope ?_ | refine WK.exit rfl ?_)
      refine WK.cond2 rfl (fun h5 => ?_) (fun h5 => ?_)
      · simp at h5
        have e : eqBy (fun x y => x == y) l m = false := by unfold eqBy; rw [all_range_false (p := fun i => (nth l i == nth m i)) h2 (by simpa using h5)]; simp
        repeat (first | refine WK.seq ?_ | refine WK.block ?_ | refine WK.inBlock ?_ | refine WK.skip ?_ | refine WK.label ?_ | refine WK.scope ?_ | refine WK.inScope ?_ | refine WK.exit rfl ?_)
        first | refine WK.reg 700 Tryz.ntmps29 (by kernel_rfl) ?_ | refine WK.regD 700 clsOf (by kernel_rfl) Tryz.ntmps29 (by kernel_rfl) (by kernel_rfl) ?_
        intro A hA Q hQ
        simp
        refine hQ _ _ ?_
        clear hQ hA
        repeat (first | refine WK.seq ?_ | refine WK.block ?_ | refine WK.inBlock ?_ | refine WK.skip ?_ | refine WK.label ?_ | refine WK.scope ?_ | refine WK.inScope ?_ | refine WK.exit rfl ?_)
        refine WK.ret Tryz.func29 (by simp (maxDischargeDepth := 120) [Tryz.results29, e]) (by simp [e])
      · simp at h5
        repeat (first | refine WK.seq ?_ | refine WK.block ?_ | refine WK.inBlock ?_ | refine WK.skip ?_ | refine WK.label ?_ | refine WK.scope ?_ | refine WK.inScope ?_ | refine WK.exit rfl ?_)
        first | refine WK.reg 800 Tryz.ntmps29 (by kernel_rfl) ?_ | refine WK.regD 800 clsOf (by kernel_rfl) Tryz.ntmps29 (by kernel_rfl) (by kernel_rfl) ?_
        intro A hA Q hQ
        simp [h6]
        refine hQ _ _ ?_
        clear hQ hA
        repeat (first | refine WK.seq ?_ | refine WK.block ?_ | refine WK.inBlock ?_ | refine WK.skip ?_ | refine WK.label ?_ | refine WK.scope ?_ | refine WK.inScope ?_ | refine WK.exit rfl ?_)
        refine WK.next (fun n => n) (IH (i + 1) (⟨by omega, fun j hj => by by_cases h7 : j = i; (subst h7; simpa using h5); exact hi.2 j (by omega)⟩) (by first | omega | (dsimp only; omega))) (by repeat (first | exact TmW.nil | refine TmW.upd ?_ (by simp (maxDischargeDepth := 120)))) (by repeat (first | exact BxW.nil | refine BxW.upd ?_ (by simp (maxDischargeDepth := 120)))) (by first | exact InjW.id | exact InjW.nil | exact InjW.one | exact InjW.two (by simp) | exact InjW.three (by simp) (by simp) (by simp))
    · simp at h1
      have e : eqBy (fun x y => x == y) l m = true := by unfold eqBy; rw [all_range_true (p := fun i => (nth l i == nth m i)) (fun j hj => hi.2 j (by omega))]; simp [hlm]
      repeat (first | refine WK.seq ?_ | refine WK.block ?_ | refine WK.inBlock ?_ | refine WK.skip ?_ | refine WK.label ?_ | refine WK.scope ?_ | refine WK.inScope ?_ | refine WK.exit rfl ?_)
      first | refine WK.reg 900 Tryz.ntmps29 (by kernel_rfl) ?_ | refine WK.regD 900 clsOf (by kernel_rfl) Tryz.ntmps29 (by kernel_rfl) (by kernel_rfl) ?_
      intro A hA Q hQ
      simp
      refine hQ _ _ ?_
      clear hQ hA
      repeat (first | refine WK.seq ?_ | refine WK.block ?_ | refine WK.inBlock ?_ | refine WK.skip ?_ | refine WK.label ?_ | refine WK.scope ?_ | refine WK.inScope ?_ | refine WK.exit rfl ?_)
      refine WK.ret Tryz.func29 (by simp (maxDischargeDepth := 120) [Tryz.results29, e]) (by simp [e])
theorem rsame_act (l m : List Action) (hl : l.length ≤ 1000000) : FnP Tryz.prog 107 [actS l, actS m] (.bool (eqBy (fun x y => x == y) l m)) := by
  unfold actS
  refine FnP.intro Tryz.func107 rfl rfl fun G w => ?_
  repeat (refine WK.seq ?_)
  refine WK.reg 100 Tryz.ntmps107 (by kernel_rfl) ?_
  intro A hA Q hQ
  simp
  refine hQ _ _ ?_
  clear hQ hA
  repeat (refine WK.seq ?_)
  refine WK.reg 200 Tryz.ntmps107 (by kernel_rfl) ?_
  intro A hA Q hQ
  simp
  refine hQ _ _ ?_
  clear hQ hA
  refine WK.cond2 rfl (fun h => ?_) (fun h => ?_)
  · simp at h
    have e : eqBy (fun x y => x == y) l m = false := by unfold eqBy; simp; intro e; omega
    repeat (refine WK.seq ?_)
    refine WK.reg 300 Tryz.ntmps107 (by kernel_rfl) ?_
    intro A hA Q hQ
    simp
    refine hQ _ _ ?_
    clear hQ hA
    refine WK.ret Tryz.func107 (by simp (maxDischargeDepth := 120) [Tryz.results107, e]) (by simp [e])
  · simp at h
    have hlm : l.length = m.length := by omega
    repeat (first | refine WK.seq ?_ | refine WK.skip ?_)
    refine WK.reg 400 Tryz.ntmps107 (by kernel_rfl) ?_
    intro A hA Q hQ
    simp
    refine hQ _ _ ?_
    clear hQ hA
    repeat (refine WK.block ?_)
    refine WK.loopI (fun n => n) (fun i : Nat => (⟨(upd (upd (upd J 0 (.sl false l.length (actL l))) 1 (.sl false m.length (actL m))) 5 (.int .i64 i)), B0, 0⟩ : St)) (fun i => i ≤ l.length ∧ ∀ j, j < i → (nth l j == nth m j) = true) (fun i => l.length - i) (0) (by repeat (first | exact TmW.nil | refine TmW.upd ?_ (by simp (maxDischargeDepth := 120)))) (by repeat (first | exact BxW.nil | refine BxW.upd ?_ (by simp (maxDischargeDepth := 120)))) (by first | exact InjW.id | exact InjW.nil | exact InjW.one | exact InjW.two (by simp) | exact InjW.three (by simp) (by simp) (by simp)) (⟨by omega, by simp⟩) (fun i hi IH => ?_)
    repeat (refine WK.seq ?_)
    refine WK.reg 500 Tryz.ntmps107 (by kernel_rfl) ?_
    intro A hA Q hQ
    simp
    refine hQ _ _ ?_
    clear hQ hA
    refine WK.cond2 rfl (fun h1 => ?_) (fun h1 => ?_)
    · simp at h1
      have h2 : i < l.length := by omega
      have h2' : i < m.length := by omega
      have h3 : 11 ≤ l.length * 11 - i * 11 := by omega
      have h3' : 11 ≤ m.length * 11 - i * 11 := by omega
      have h4 := act_sub l i h2
      have h4' := act_sub m i h2'
      have h6 : IntKind.i64.wrap ((i : Int) + 1) = i + 1 := wrap_i64 (by omega) (by omega)
      repeat (first | refine WK.seq ?_ | refine WK.block ?_ | refine WK.skip ?_)
      refine WK.regD 600 clsOf (by kernel_rfl) Tryz.ntmps107 (by kernel_rfl) (by kernel_rfl) ?_
      intro A hA Q hQ
      simp [h2, h2', h3, h3', h4, h4']
      refine RunQ.call rfl rfl rfl rfl (by rfl) (by simp (maxDischargeDepth := 120)) (rasame_c (nth l i) (nth m i)) (by simp) ?_
      refine RunQ.eval ?_
      simp
      refine hQ _ _ ?_
      clear hQ hA
      refine WK.cond2 rfl (fun h5 => ?_) (fun h5 => ?_)
      · simp at h5
        have e : eqBy (fun x y => x == y) l m = false := by unfold eqBy; rw [all_range_false (p := fun i => (nth l i == nth m i)) h2 (by simpa using h5)]; simp
        repeat (refine WK.seq ?_)
        refine WK.reg 700 Tryz.ntmps107 (by kernel_rfl) ?_
        intro A hA Q hQ
        simp
        refine hQ _ _ ?_
        clear hQ hA
        refine WK.ret Tryz.func107 (by simp (maxDischargeDepth := 120) [Tryz.results107, e]) (by simp [e])
      · simp at h5
        repeat (first | refine WK.inBlock ?_ | refine WK.skip ?_)
        refine WK.reg 800 Tryz.ntmps107 (by kernel_rfl) ?_
        intro A hA Q hQ
        simp [h6]
        refine hQ _ _ ?_
        clear hQ hA
        refine WK.next (fun n => n) (IH (i + 1) (⟨by omega, fun j hj => by by_cases h7 : j = i; (subst h7; simpa using h5); exact hi.2 j (by omega)⟩) (by first | omega | (dsimp only; omega))) (by repeat (first | exact TmW.nil | refine TmW.upd ?_ (by simp (maxDischargeDepth := 120)))) (by repeat (first | exact BxW.nil | refine BxW.upd ?_ (by simp (maxDischargeDepth := 120)))) (by first | exact InjW.id | exact InjW.nil | exact InjW.one | exact InjW.two (by simp) | exact InjW.three (by simp) (by simp) (by simp))
    · simp at h1
      have e : eqBy (fun x y => x == y) l m = true := by unfold eqBy; rw [all_range_true (p := fun i => (nth l i == nth m i)) (fun j hj => hi.2 j (by omega))]; simp [hlm]
      repeat (first | refine WK.seq ?_ | refine WK.exit rfl ?_)
      refine WK.reg 900 Tryz.ntmps107 (by kernel_rfl) ?_
      intro A hA Q hQ
      simp
      refine hQ _ _ ?_
      clear hQ hA
      refine WK.ret Tryz.func107 (by simp (maxDischargeDepth := 120) [Tryz.results107, e]) (by simp [e])
theorem risame_c (a b : Inst) (hl : a.acts.length ≤ 1000000) : FnP Tryz.prog 68 [.agg a.enc, .agg b.enc] (.bool (Inst.same a b)) := by
  have w1 := Wide.beq a.value b.value
  have w2 := Wide.beq a.mask b.mask
  cases k1 : a.kind == b.kind
  · refine FnP.intro Tryz.func68 rfl rfl fun G w => ?_
    repeat (refine WK.seq ?_)
    refine WK.reg 100 Tryz.ntmps68 (by kernel_rfl) ?_
    intro A hA Q hQ
    simp
    refine hQ _ _ ?_
    clear hQ hA
    repeat (refine WK.seq ?_)
    refine WK.reg 200 Tryz.ntmps68 (by kernel_rfl) ?_
    intro A hA Q hQ
    have hg5 : (A[5]?).bind (·.dst) = some 10 := by rw [hA]; rfl
    have hg12 : (A[12]?).bind (·.dst) = some 17 := by rw [hA]; rfl
    have hg19 : (A[19]?).bind (·.dst) = some 24 := by rw [hA]; rfl
    have hg26 : (A[26]?).bind (·.dst) = some 31 := by rw [hA]; rfl
    simp [Inst.enc, k1, hg5, hg12, hg19, hg26]
    refine hQ _ _ ?_
    clear hQ hA
    refine WK.ret Tryz.func68 (by simp (maxDischargeDepth := 120) [Tryz.results68, Inst.same, k1]) (by simp [Inst.same, k1])
  cases k2 : a.table == b.table
  · refine FnP.intro Tryz.func68 rfl rfl fun G w => ?_
    repeat (refine WK.seq ?_)
    refine WK.reg 100 Tryz.ntmps68 (by kernel_rfl) ?_
    intro A hA Q hQ
    simp
    refine hQ _ _ ?_
    clear hQ hA
    repeat (refine WK.seq ?_)
    refine WK.reg 200 Tryz.ntmps68 (by kernel_rfl) ?_
    intro A hA Q hQ
    have hg5 : (A[5]?).bind (·.dst) = some 10 := by rw [hA]; rfl
    have hg12 : (A[12]?).bind (·.dst) = some 17 := by rw [hA]; rfl
    have hg19 : (A[19]?).bind (·.dst) = some 24 := by rw [hA]; rfl
    have hg26 : (A[26]?).bind (·.dst) = some 31 := by rw [hA]; rfl
    simp [Inst.enc, k1, k2, hg5, hg12, hg19, hg26]
    refine hQ _ _ ?_
    clear hQ hA
    refine WK.ret Tryz.func68 (by simp (maxDischargeDepth := 120) [Tryz.results68, Inst.same, k1, k2]) (by simp [Inst.same, k1, k2])
  cases k3 : a.value == b.value
  · rw [k3] at w1
    refine FnP.intro Tryz.func68 rfl rfl fun G w => ?_
    repeat (refine WK.seq ?_)
    refine WK.reg 100 Tryz.ntmps68 (by kernel_rfl) ?_
    intro A hA Q hQ
    simp
    refine hQ _ _ ?_
    clear hQ hA
    repeat (refine WK.seq ?_)
    refine WK.reg 200 Tryz.ntmps68 (by kernel_rfl) ?_
    intro A hA Q hQ
    have hg5 : (A[5]?).bind (·.dst) = some 10 := by rw [hA]; rfl
    have hg12 : (A[12]?).bind (·.dst) = some 17 := by rw [hA]; rfl
    have hg19 : (A[19]?).bind (·.dst) = some 24 := by rw [hA]; rfl
    have hg26 : (A[26]?).bind (·.dst) = some 31 := by rw [hA]; rfl
    simp [Inst.enc, k1, k2, ← w1, hg5, hg12, hg19, hg26]
    refine hQ _ _ ?_
    clear hQ hA
    refine WK.ret Tryz.func68 (by simp (maxDischargeDepth := 120) [Tryz.results68, Inst.same, k1, k2, k3]) (by simp [Inst.same, k1, k2, k3])
  rw [k3] at w1
  cases k4 : a.mask == b.mask
  · rw [k4] at w2
    refine FnP.intro Tryz.func68 rfl rfl fun G w => ?_
    repeat (refine WK.seq ?_)
    refine WK.reg 100 Tryz.ntmps68 (by kernel_rfl) ?_
    intro A hA Q hQ
    simp
    refine hQ _ _ ?_
    clear hQ hA
    repeat (refine WK.seq ?_)
    refine WK.reg 200 Tryz.ntmps68 (by kernel_rfl) ?_
    intro A hA Q hQ
    have hg5 : (A[5]?).bind (·.dst) = some 10 := by rw [hA]; rfl
    have hg12 : (A[12]?).bind (·.dst) = some 17 := by rw [hA]; rfl
    have hg19 : (A[19]?).bind (·.dst) = some 24 := by rw [hA]; rfl
    have hg26 : (A[26]?).bind (·.dst) = some 31 := by rw [hA]; rfl
    simp [Inst.enc, k1, k2, ← w1, ← w2, hg5, hg12, hg19, hg26]
    refine hQ _ _ ?_
    clear hQ hA
    refine WK.ret Tryz.func68 (by simp (maxDischargeDepth := 120) [Tryz.results68, Inst.same, k1, k2, k3, k4]) (by simp [Inst.same, k1, k2, k3, k4])
  rw [k4] at w2
  refine FnP.intro Tryz.func68 rfl rfl fun G w => ?_
  repeat (refine WK.seq ?_)
  refine WK.reg 100 Tryz.ntmps68 (by kernel_rfl) ?_
  intro A hA Q hQ
  simp
  refine hQ _ _ ?_
  clear hQ hA
  repeat (refine WK.seq ?_)
  refine WK.reg 200 Tryz.ntmps68 (by kernel_rfl) ?_
  intro A hA Q hQ
  have hg5 : (A[5]?).bind (·.dst) = some 10 := by rw [hA]; rfl
  have hg12 : (A[12]?).bind (·.dst) = some 17 := by rw [hA]; rfl
  have hg19 : (A[19]?).bind (·.dst) = some 24 := by rw [hA]; rfl
  have hg26 : (A[26]?).bind (·.dst) = some 31 := by rw [hA]; rfl
  simp [Inst.enc, k1, k2, ← w1, ← w2, hg5, hg12, hg19, hg26]
  refine RunQ.callG rfl rfl (by simp [hg26, actS]) rfl (by rfl) (by simp (maxDischargeDepth := 120) [hg26, actS]) (rsame_act a.acts b.acts hl) (by simp [hg26, actS]) ?_
  refine RunQ.eval ?_
  simp [hg26, actS]
  refine hQ _ _ ?_
  clear hQ hA
  refine WK.ret Tryz.func68 (by simp (maxDischargeDepth := 120) [Tryz.results68, Inst.same, k1, k2, k3, k4]) (by simp [Inst.same, k1, k2, k3, k4])
theorem rsame_inst (l m : List Inst) (hl : l.length ≤ 1000000) (ha : ∀ x, x ∈ l → x.acts.length ≤ 1000000) : FnP Tryz.prog 30 [instS l, instS m] (.bool (eqBy Inst.same l m)) := by
  unfold instS
  refine FnP.intro Tryz.func30 rfl rfl fun G w => ?_
  repeat (refine WK.seq ?_)
  refine WK.reg 100 Tryz.ntmps30 (by kernel_rfl) ?_
  intro A hA Q hQ
  simp
  refine hQ _ _ ?_
  clear hQ hA
  repeat (refine WK.seq ?_)
  refine WK.reg 200 Tryz.ntmps30 (by kernel_rfl) ?_
  intro A hA Q hQ
  simp
  refine hQ _ _ ?_
  clear hQ hA
  refine WK.cond2 rfl (fun h => ?_) (fun h => ?_)
  · simp at h
    have e : eqBy Inst.same l m = false := by unfold eqBy; simp; intro e; omega
    repeat (refine WK.seq ?_)
    refine WK.reg 300 Tryz.ntmps30 (by kernel_rfl) ?_
    intro A hA Q hQ
    simp
    refine hQ _ _ ?_
    clear hQ hA
    refine WK.ret Tryz.func30 (by simp (maxDischargeDepth := 120) [Tryz.results30, e]) (by simp [e])
  · simp at h
    have hlm : l.length = m.length := by omega
    repeat (first | refine WK.seq ?_ | refine WK.skip ?_)
    refine WK.reg 400 Tryz.ntmps30 (by kernel_rfl) ?_
    intro A hA Q hQ
    simp
    refine hQ _ _ ?_
    clear hQ hA
    repeat (refine WK.block ?_)
    refine WK.loopI (fun n => n) (fun i : Nat => (⟨(upd (upd (upd J 0 (.sl false l.length (instL l))) 1 (.sl false m.length (instL m))) 5 (.int .i64 i)), B0, 0⟩ : St)) (fun i => i ≤ l.length ∧ ∀ j, j < i → Inst.same (nth l j) (nth m j) = true) (fun i => l.length - i) (0) (by repeat (first | exact TmW.nil | refine TmW.upd ?_ (by simp (maxDischargeDepth := 120)))) (by repeat (first | exact BxW.nil | refine BxW.upd ?_ (by simp (maxDischargeDepth := 120)))) (by first | exact InjW.id | exact InjW.nil | exact InjW.one | exact InjW.two (by simp) | exact InjW.three (by simp) (by simp) (by simp)) (⟨by omega, by simp⟩) (fun i hi IH => ?_)
    repeat (refine WK.seq ?_)
    refine WK.reg 500 Tryz.ntmps30 (by kernel_rfl) ?_
    intro A hA Q hQ
    simp
    refine hQ _ _ ?_
    clear hQ hA
    refine WK.cond2 rfl (fun h1 => ?_) (fun h1 => ?_)
    · simp at h1
      have h2 : i < l.length := by omega
      have h2' : i < m.length := by omega
      have h3 : 7 ≤ l.length * 7 - i * 7 := by omega
      have h3' : 7 ≤ m.length * 7 - i * 7 := by omega
      have h4 := inst_sub l i h2
      have h4' := inst_sub m i h2'
      have h6 : IntKind.i64.wrap ((i : Int) + 1) = i + 1 := wrap_i64 (by omega) (by omega)
      repeat (first | refine WK.seq ?_ | refine WK.block ?_ | refine WK.skip ?_)
      refine WK.regD 600 clsOf (by kernel_rfl) Tryz.ntmps30 (by kernel_rfl) (by kernel_rfl) ?_
      intro A hA Q hQ
      simp [h2, h2', h3, h3', h4, h4']
      refine RunQ.call rfl rfl rfl rfl (by rfl) (by simp (maxDischargeDepth := 120)) (risame_c (nth l i) (nth m i) (ha _ (nth_mem h2))) (by simp) ?_
      refine RunQ.eval ?_
      simp
      refine hQ _ _ ?_
      clear hQ hA
      refine WK.cond2 rfl (fun h5 => ?_) (fun h5 => ?_)
      · simp at h5
        have e : eqBy Inst.same l m = false := by unfold eqBy; rw [all_range_false (p := fun i => Inst.same (nth l i) (nth m i)) h2 h5]; simp
        repeat (refine WK.seq ?_)
        refine WK.reg 700 Tryz.ntmps30 (by kernel_rfl) ?_
        intro A hA Q hQ
        simp
        refine hQ _ _ ?_
        clear hQ hA
        refine WK.ret Tryz.func30 (by simp (maxDischargeDepth := 120) [Tryz.results30, e]) (by simp [e])
      · simp at h5
        repeat (first | refine WK.inBlock ?_ | refine WK.skip ?_)
        refine WK.reg 800 Tryz.ntmps30 (by kernel_rfl) ?_
        intro A hA Q hQ
        simp [h6]
        refine hQ _ _ ?_
        clear hQ hA
        refine WK.next (fun n => n) (IH (i + 1) (⟨by omega, fun j hj => by by_cases h7 : j = i; (subst h7; exact h5); exact hi.2 j (by omega)⟩) (by first | omega | (dsimp only; omega))) (by repeat (first | exact TmW.nil | refine TmW.upd ?_ (by simp (maxDischargeDepth := 120)))) (by repeat (first | exact BxW.nil | refine BxW.upd ?_ (by simp (maxDischargeDepth := 120)))) (by first | exact InjW.id | exact InjW.nil | exact InjW.one | exact InjW.two (by simp) | exact InjW.three (by simp) (by simp) (by simp))
    · simp at h1
      have e : eqBy Inst.same l m = true := by unfold eqBy; rw [all_range_true (p := fun i => Inst.same (nth l i) (nth m i)) (fun j hj => hi.2 j (by omega))]; simp [hlm]
      repeat (first | refine WK.seq ?_ | refine WK.exit rfl ?_)
      refine WK.reg 900 Tryz.ntmps30 (by kernel_rfl) ?_
      intro A hA Q hQ
      simp
      refine hQ _ _ ?_
      clear hQ hA
      refine WK.ret Tryz.func30 (by simp (maxDischargeDepth := 120) [Tryz.results30, e]) (by simp [e])
end Go.Proofs.YtiifjagnhnchoaaGreat
end

section
set_option linter.unusedVariables false
set_option linter.unusedSimpArgs false
namespace Go.Proofs.YtiifjagnhnchoaaGreat
open Go Go.AI Go.Proofs

/-- the first place of a thing that is asked for, or -1 -/
def idxI {α : Type} (p : α → Bool) (l : List α) : Int := match l.findIdx? p with | some i => i | none => -1
theorem idxI_some {α : Type} [Inhabited α] {p : α → Bool} {l : List α} {i : Nat} (h : i < l.length) (hp : p (nth l i) = true) (hn : ∀ j, j < i → p (nth l j) = false) : idxI p l = i := by
  unfold idxI
  have : l.findIdx? p = some i := by
    rw [List.findIdx?_eq_some_iff_getElem]
    refine ⟨h, by rw [← nth_eq h]; exact hp, fun j hj => ?_⟩
    rw [← nth_eq (by omega)]; simp [hn j hj]
  rw [this]
theorem idxI_none {α : Type} [Inhabited α] {p : α → Bool} {l : List α} (hn : ∀ j, j < l.length → p (nth l j) = false) : idxI p l = -1 := by
  unfold idxI
  have : l.findIdx? p = none := by
    rw [List.findIdx?_eq_none_iff]
    intro x hx
    obtain ⟨i, hi, rfl⟩ := mem_nth hx
    exact hn i hi
  rw [this]
theorem idxI_ge {α : Type} (p : α → Bool) (l : List α) : decide (idxI p l ≥ 0) = l.any p := by
  unfold idxI
  cases h : l.findIdx? p with
  | none =>
    rw [List.findIdx?_eq_none_iff] at h
    have : l.any p = false := by rw [List.any_eq_false]; intro x hx; simp [h x hx]
    simp [this]
  | some i =>
    rw [List.findIdx?_eq_some_iff_getElem] at h
    obtain ⟨hi, hp, _⟩ := h
    have : l.any p = true := List.any_eq_true.2 ⟨_, List.getElem_mem hi, hp⟩
    simp [this]
theorem indexf_inst (fid : Nat) (caps : List AV) (p : Inst → Bool) (l : List Inst) (hcl : ClL caps = true) (hl : l.length ≤ 1000000)
    (hf : ∀ x, x ∈ l → FnP Tryz.prog fid (.agg x.enc :: caps) (.bool (p x))) :
    FnP Tryz.prog 108 [instS l, .fn fid caps] (.int .i64 (idxI p l)) := by
  unfold instS
  refine FnP.intro Tryz.func108 rfl rfl fun G w => ?_
  repeat (refine WK.seq ?_)
  refine WK.reg 100 Tryz.ntmps108 (by kernel_rfl) ?_
  intro A hA Q hQ
  simp
  refine hQ _ _ ?_
  clear hQ hA
  repeat (refine WK.seq ?_)
  refine WK.reg 200 Tryz.ntmps108 (by kernel_rfl) ?_
  intro A hA Q hQ
  simp
  refine hQ _ _ ?_
  clear hQ hA
  repeat (refine WK.block ?_)
  refine WK.loopI (fun n => n) (fun i : Nat => (⟨(upd (upd (upd (upd J 0 (.sl false l.length (instL l))) 1 (.fn fid caps)) 7 (.int .i64 l.length)) 8 (.int .i64 i)), B0, 0⟩ : St)) (fun i => i ≤ l.length ∧ ∀ j, j < i → p (nth l j) = false) (fun i => l.length - i) (0) (by repeat (first | exact TmW.nil | refine TmW.upd ?_ (by simp (maxDischargeDepth := 120) [hcl]))) (by repeat (first | exact BxW.nil | refine BxW.upd ?_ (by simp (maxDischargeDepth := 120) [hcl]))) (by first | exact InjW.id | exact InjW.nil | exact InjW.one | exact InjW.two (by simp) | exact InjW.three (by simp) (by simp) (by simp)) (⟨by omega, by simp⟩) (fun i hi IH => ?_)
  repeat (refine WK.seq ?_)
  refine WK.reg 300 Tryz.ntmps108 (by kernel_rfl) ?_
  intro A hA Q hQ
  simp
  refine hQ _ _ ?_
  clear hQ hA
  repeat (refine WK.seq ?_)
  refine WK.cond2 rfl (fun h1 => ?_) (fun h1 => ?_)
  · simp at h1
    have h2 : i < l.length := by omega
    have h3 : 7 ≤ l.length * 7 - i * 7 := by omega
    have h4 := inst_sub l i h2
    have h6 : IntKind.i64.wrap ((i : Int) + 1) = i + 1 := wrap_i64 (by omega) (by omega)
    repeat (first | refine WK.seq ?_ | refine WK.block ?_ | refine WK.skip ?_)
    refine WK.reg 400 Tryz.ntmps108 (by kernel_rfl) ?_
    intro A hA Q hQ
    simp
    refine hQ _ _ ?_
    clear hQ hA
    repeat (refine WK.seq ?_)
    refine WK.reg 500 Tryz.ntmps108 (by kernel_rfl) ?_
    intro A hA Q hQ
    simp [h2, h3, h4]
    refine RunQ.call rfl rfl rfl rfl (by rfl) (by simp (maxDischargeDepth := 120) [hcl]) (hf (nth l i) (nth_mem h2)) (by simp [hcl]) ?_
    refine RunQ.eval ?_
    simp [hcl]
    refine hQ _ _ ?_
    clear hQ hA
    refine WK.cond2 rfl (fun h5 => ?_) (fun h5 => ?_)
    · have e := idxI_some h2 h5 hi.2
      repeat (refine WK.seq ?_)
      refine WK.reg 600 Tryz.ntmps108 (by kernel_rfl) ?_
      intro A hA Q hQ
      simp
      refine hQ _ _ ?_
      clear hQ hA
      refine WK.ret Tryz.func108 (by simp (maxDischargeDepth := 120) [Tryz.results108, e]) (by simp [e])
    · repeat (first | refine WK.inBlock ?_ | refine WK.skip ?_)
      refine WK.reg 700 Tryz.ntmps108 (by kernel_rfl) ?_
      intro A hA Q hQ
      simp [h6]
      refine hQ _ _ ?_
      clear hQ hA
      refine WK.next (fun n => n) (IH (i + 1) (⟨by omega, fun j hj => by by_cases h7 : j = i; (subst h7; exact h5); exact hi.2 j (by omega)⟩) (by first | omega | (dsimp only; omega))) (by repeat (first | exact TmW.nil | refine TmW.upd ?_ (by simp (maxDischargeDepth := 120) [hcl]))) (by repeat (first | exact BxW.nil | refine BxW.upd ?_ (by simp (maxDischargeDepth := 120) [hcl]))) (by first | exact InjW.id | exact InjW.nil | exact InjW.one | exact InjW.two (by simp) | exact InjW.three (by simp) (by simp) (by simp))
  · simp at h1
    have e := idxI_none (p := p) (l := l) (fun j hj => hi.2 j (by omega))
    repeat (first | refine WK.seq ?_ | refine WK.exit rfl ?_)
    refine WK.reg 800 Tryz.ntmps108 (by kernel_rfl) ?_
    intro A hA Q hQ
    simp
    refine hQ _ _ ?_
    clear hQ hA
    refine WK.ret Tryz.func108 (by simp (maxDischargeDepth := 120) [Tryz.results108, e]) (by simp [e])
theorem containsf_inst (fid : Nat) (caps : List AV) (p : Inst → Bool) (l : List Inst) (hcl : ClL caps = true) (hl : l.length ≤ 1000000)
    (hf : ∀ x, x ∈ l → FnP Tryz.prog fid (.agg x.enc :: caps) (.bool (p x))) :
    FnP Tryz.prog 69 [instS l, .fn fid caps] (.bool (l.any p)) := by
  have e := idxI_ge p l
  simp only [ge_iff_le] at e
  refine FnP.intro Tryz.func69 rfl rfl fun G w => ?_
  repeat (refine WK.seq ?_)
  refine WK.reg 100 Tryz.ntmps69 (by kernel_rfl) ?_
  intro A hA Q hQ
  simp
  refine hQ _ _ ?_
  clear hQ hA
  repeat (refine WK.seq ?_)
  refine WK.reg 200 Tryz.ntmps69 (by kernel_rfl) ?_
  intro A hA Q hQ
  simp
  refine RunQ.call rfl rfl rfl rfl (by rfl) (by simp (maxDischargeDepth := 120) [hcl]) (indexf_inst fid caps p l hcl hl hf) (by simp [hcl]) ?_
  refine RunQ.eval ?_
  simp [hcl]
  refine hQ _ _ ?_
  clear hQ hA
  refine WK.ret Tryz.func69 (by simp (maxDischargeDepth := 120) [Tryz.results69, e]) (by simp [e])
def actsPlain (l : List Action) : Bool := decide (l.length ≤ 12)
def instsPlain (l : List Inst) : Bool := decide (l.length ≤ 8) && l.all fun i => actsPlain i.acts
def Flow.plain (f : Flow) : Bool := decide (f.mat.length ≤ 30) && instsPlain f.insts
def FlowMod.plain (m : FlowMod) : Bool := decide (m.mat.length ≤ 30) && instsPlain m.insts
theorem pacts_c (l : List Action) : FnP Tryz.prog 71 [actS l] (.bool (actsPlain l)) := by
  unfold actS
  refine FnP.intro Tryz.func71 rfl rfl fun G w => ?_
  repeat (refine WK.seq ?_)
  refine WK.reg 100 Tryz.ntmps71 (by kernel_rfl) ?_
  intro A hA Q hQ
  simp
  refine hQ _ _ ?_
  clear hQ hA
  repeat (refine WK.seq ?_)
  refine WK.reg 200 Tryz.ntmps71 (by kernel_rfl) ?_
  intro A hA Q hQ
  simp
  refine hQ _ _ ?_
  clear hQ hA
  have e : decide ((l.length : Int) ≤ 12) = decide (l.length ≤ 12) := decide_eq_decide.2 (by omega)
  refine WK.ret Tryz.func71 (by simp (maxDischargeDepth := 120) [Tryz.results71, actsPlain, e]) (by simp [actsPlain, e])
theorem pinst1_c (i : Inst) : FnP Tryz.prog 70 [.agg i.enc] (.bool (!actsPlain i.acts)) := by
  refine FnP.intro Tryz.func70 rfl rfl fun G w => ?_
  repeat (refine WK.seq ?_)
  refine WK.reg 100 Tryz.ntmps70 (by kernel_rfl) ?_
  intro A hA Q hQ
  simp
  refine hQ _ _ ?_
  clear hQ hA
  repeat (refine WK.seq ?_)
  refine WK.reg 200 Tryz.ntmps70 (by kernel_rfl) ?_
  intro A hA Q hQ
  simp [Inst.enc]
  refine RunQ.call rfl rfl rfl rfl (by rfl) (by simp (maxDischargeDepth := 120) [actS]) (pacts_c i.acts) (by simp [actS]) ?_
  refine RunQ.eval ?_
  simp [actS]
  refine hQ _ _ ?_
  clear hQ hA
  refine WK.ret Tryz.func70 (by simp (maxDischargeDepth := 120) [Tryz.results70]) (by simp)
theorem pinsts_c (l : List Inst) : FnP Tryz.prog 31 [instS l] (.bool (instsPlain l)) := by
  unfold instsPlain
  cases h : decide (l.length ≤ 8)
  · have h2 : ¬ ((l.length : Int) ≤ 8) := by simp at h; omega
    refine FnP.intro Tryz.func31 rfl rfl fun G w => ?_
    repeat (refine WK.seq ?_)
    refine WK.reg 100 Tryz.ntmps31 (by kernel_rfl) ?_
    intro A hA Q hQ
    simp
    refine hQ _ _ ?_
    clear hQ hA
    repeat (refine WK.seq ?_)
    refine WK.reg 200 Tryz.ntmps31 (by kernel_rfl) ?_
    intro A hA Q hQ
    have hg3 : (A[3]?).bind (·.dst) = some 6 := by rw [hA]; rfl
    simp [instS, h2, hg3]
    refine hQ _ _ ?_
    clear hQ hA
    refine WK.ret Tryz.func31 (by simp (maxDischargeDepth := 120) [Tryz.results31, h]) (by simp [h])
  · have h2 : ((l.length : Int) ≤ 8) := by simp at h; omega
    have e : (!(l.any fun i => !actsPlain i.acts)) = l.all fun i => actsPlain i.acts := by rw [← List.not_all_eq_any_not, Bool.not_not]
    refine FnP.intro Tryz.func31 rfl rfl fun G w => ?_
    repeat (refine WK.seq ?_)
    refine WK.reg 100 Tryz.ntmps31 (by kernel_rfl) ?_
    intro A hA Q hQ
    simp
    refine hQ _ _ ?_
    clear hQ hA
    repeat (refine WK.seq ?_)
    refine WK.reg 200 Tryz.ntmps31 (by kernel_rfl) ?_
    intro A hA Q hQ
    have hg3 : (A[3]?).bind (·.dst) = some 6 := by rw [hA]; rfl
    simp [instS, h2, hg3]
    refine RunQ.callG rfl rfl (by simp [hg3, instS]) rfl (by rfl) (by simp (maxDischargeDepth := 120) [hg3, instS]) (containsf_inst 70 [] (fun i => !actsPlain i.acts) l rfl (by omega) (fun x _ => pinst1_c x)) (by simp [hg3, instS]) ?_
    refine RunQ.eval ?_
    simp [hg3, instS]
    refine hQ _ _ ?_
    clear hQ hA
    refine WK.ret Tryz.func31 (by simp (maxDischargeDepth := 120) [Tryz.results31, e]) (by simp [e])
theorem pMod_c (m : FlowMod) : FnP Tryz.prog 9 [.agg m.enc] (.bool (FlowMod.plain m)) := by
  unfold FlowMod.plain
  cases h : decide (m.mat.length ≤ 30)
  · have h2 : ¬ ((m.mat.length : Int) ≤ 30) := by simp at h; omega
    refine FnP.intro Tryz.func9 rfl rfl fun G w => ?_
    repeat (first | refine WK.seq ?_ | refine WK.block ?_ | refine WK.inBlock ?_ | refine WK.skip ?_ | refine WK.label ?_ | refine WK.scope ?_ | refine WK.inScope ?_ | refine WK.exit rfl ?_)
    first | refine WK.reg 100 Tryz.ntmps9 (by kernel_rfl) ?_ | refine WK.regD 100 clsOf (by kernel_rfl) Tryz.ntmps9 (by kernel_rfl) (by kernel_rfl) ?_
    intro A hA Q hQ
    simp
    refine hQ _ _ ?_
    clear hQ hA
    repeat (first | refine WK.seq ?_ | refine WK.block ?_ | refine WK.inBlock ?_ | refine WK.skip ?_ | refine WK.label ?_ | refine WK.scope ?_ | refine WK.inScope ?_ | refine WK.exit rfl ?_)
    first | refine WK.reg 200 Tryz.ntmps9 (by kernel_rfl) ?_ | refine WK.regD 200 clsOf (by kernel_rfl) Tryz.ntmps9 (by kernel_rfl) (by kernel_rfl) ?_
    intro A hA Q hQ
    have hg4 : (A[4]?).bind (·.dst) = some 7 := by rw [hA]; rfl
    simp [FlowMod.enc, h2, hg4]
    refine hQ _ _ ?_
    clear hQ hA
    repeat (first | refine WK.seq ?_ | refine WK.block ?_ | refine WK.inBlock ?_ | refine WK.skip ?_ | refine WK.label ?_ | refine WK.scope ?_ | refine WK.inScope ?_ | refine WK.exit rfl ?_)
    refine WK.ret Tryz.func9 (by simp (maxDischargeDepth := 120) [Tryz.results9, h]) (by simp [h])
  · have h2 : ((m.mat.length : Int) ≤ 30) := by simp at h; omega
    refine FnP.intro Tryz.func9 rfl rfl fun G w => ?_
    repeat (first | refine WK.seq ?_ | refine WK.block ?_ | refine WK.inBlock ?_ | refine WK.skip ?_ | refine WK.label ?_ | refine WK.scope ?_ | refine WK.inScope ?_ | refine WK.exit rfl ?_)
    first | refine WK.reg 100 Tryz.ntmps9 (by kernel_rfl) ?_ | refine WK.regD 100 clsOf (by kernel_rfl) Tryz.ntmps9 (by kernel_rfl) (by kernel_rfl) ?_
    intro A hA Q hQ
    simp
    refine hQ _ _ ?_
    clear hQ hA
    repeat (first | refine WK.seq ?_ | refine WK.block ?_ | refine WK.inBlock ?_ | refine WK.skip ?_ | refine WK.label ?_ | refine WK.scope ?_ | refine WK.inScope ?_ | refine WK.exit rfl ?_)
    first | refine WK.reg 200 Tryz.ntmps9 (by kernel_rfl) ?_ | refine WK.regD 200 clsOf (by kernel_rfl) Tryz.ntmps9 (by kernel_rfl) (by kernel_rfl) ?_
    intro A hA Q hQ
    have hg4 : (A[4]?).bind (·.dst) = some 7 := by rw [hA]; rfl
    simp [FlowMod.enc, h2, hg4]
    refine RunQ.callG rfl rfl (by simp [hg4, instS]) rfl (by rfl) (by simp (maxDischargeDepth := 120) [hg4, instS]) (pinsts_c m.insts) (by simp [hg4, instS]) ?_
    refine RunQ.eval ?_
    simp [hg4, instS]
    refine hQ _ _ ?_
    clear hQ hA
    repeat (first | refine WK.seq ?_ | refine WK.block ?_ | refine WK.inBlock ?_ | refine WK.skip ?_ | refine WK.label ?_ | refine WK.scope ?_ | refine WK.inScope ?_ | refine WK.exit rfl ?_)
    refine WK.ret Tryz.func9 (by simp (maxDischargeDepth := 120) [Tryz.results9]) (by simp)
end Go.Proofs.YtiifjagnhnchoaaGreat
end

section
set_option linter.unusedVariables false
set_option linter.unusedSimpArgs false
namespace Go.Proofs.YtiifjagnhnchoaaGreat
open Go Go.AI Go.Proofs

theorem appAct : AppOk Tryz.prog 45 73 11 88 := ⟨by simp, by simp, by simp, by simp, by simp, by simp, by omega, by omega⟩
end Go.Proofs.YtiifjagnhnchoaaGreat
end

section
set_option linter.unusedVariables false
set_option linter.unusedSimpArgs false
namespace Go.Proofs.YtiifjagnhnchoaaGreat
open Go Go.AI Go.Proofs

def Inst.goes (i : Inst) : Bool := i.kind == 3 || i.kind == 4
/-- what the instructions with actions are asked for, one behind the other -/
def allI {α : Type} (g : List Action → List α) (l : List Inst) : List α := (l.filter Inst.goes).flatMap fun i => g i.acts
end Go.Proofs.YtiifjagnhnchoaaGreat
end

section
set_option linter.unusedVariables false
set_option linter.unusedSimpArgs false
namespace Go.Proofs.YtiifjagnhnchoaaGreat
open Go Go.AI Go.Proofs

theorem appInst : AppOk Tryz.prog 26 47 7 72 := ⟨by simp, by simp, by simp, by simp, by simp, by simp, by omega, by omega⟩
end Go.Proofs.YtiifjagnhnchoaaGreat
end

section
set_option linter.unusedVariables false
set_option linter.unusedSimpArgs false
namespace Go.Proofs.YtiifjagnhnchoaaGreat
open Go Go.AI Go.Proofs

structure IOk (l : List Inst) : Prop where
  len : l.length ≤ 1000
  acts : ∀ x, x ∈ l → x.acts.length ≤ 1000000
structure FOk (f : Flow) : Prop where
  mat : f.mat.length ≤ 1000000
  insts : IOk f.insts
def Flow.same (a b : Flow) : Bool := a.cookie == b.cookie && ((a.prio == b.prio && (a.idle == b.idle && (a.hard == b.hard && a.flags == b.flags))) && (eqBy (fun x y => x == y) a.mat b.mat && eqBy Inst.same a.insts b.insts))
end Go.Proofs.YtiifjagnhnchoaaGreat
end

section
set_option linter.unusedVariables false
set_option linter.unusedSimpArgs false
namespace Go.Proofs.YtiifjagnhnchoaaGreat
open Go Go.AI Go.Proofs

def FlowMod.flow (m : FlowMod) : Flow := ⟨m.cookie, m.prio, m.idle, m.hard, m.flags, m.mat, m.insts⟩
end Go.Proofs.YtiifjagnhnchoaaGreat
end

section
set_option linter.unusedVariables false
set_option linter.unusedSimpArgs false
namespace Go.Proofs.YtiifjagnhnchoaaGreat
open Go Go.AI Go.Proofs

structure FPl (f : Flow) : Prop where
  ok : FOk f
  acts : (allI id f.insts).length ≤ 1000000
end Go.Proofs.YtiifjagnhnchoaaGreat
end
