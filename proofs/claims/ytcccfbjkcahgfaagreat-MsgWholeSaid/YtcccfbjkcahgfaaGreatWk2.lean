/- Lists that are the same. -/
import Derived.Test.YtcccfbjkcahgfaaGreatWk1
import Derived.Test.YtcccfbjkcahgfaaGreatAf
import Derived.Test.YtcccfbjkcahgfaaGreatDa
set_option linter.all false
set_option linter.unnecessarySimpa false
section
set_option linter.unusedVariables false
set_option linter.unusedSimpArgs false
namespace Go.Proofs.YtcccfbjkcahgfaaGreat
open Go Go.AI Go.Proofs

def eqBy {α : Type} [Inhabited α] (p : α → α → Bool) (l m : List α) : Bool := l.length == m.length && (List.range l.length).all fun i => p (nth l i) (nth m i)

theorem eqf_oxm (fid : Nat) (caps : List AV) (p : Oxm → Oxm → Bool) (l m : List Oxm) (hcl : ClL caps = true) (hl : l.length ≤ 1000000)
    (hf : ∀ x, x ∈ l → ∀ y, y ∈ m → FnP Tryz.prog fid (.agg x.enc :: .agg y.enc :: caps) (.bool (p x y))) :
    FnP Tryz.prog 92 [oxmS l, oxmS m, .fn fid caps] (.bool (eqBy p l m)) := by
  unfold oxmS
  refine FnP.intro Tryz.func92 rfl rfl fun G w => ?_
  repeat (first | refine WK.seq ?_ | refine WK.block ?_ | refine WK.inBlock ?_ | refine WK.skip ?_ | refine WK.label ?_ | refine WK.scope ?_ | refine WK.inScope ?_ | refine WK.exit rfl ?_)
  first | refine WK.reg 100 Tryz.ntmps92 (by kernel_rfl) ?_ | refine WK.regD 100 clsOf (by kernel_rfl) Tryz.ntmps92 (by kernel_rfl) (by kernel_rfl) ?_
  intro A hA Q hQ
  simp
  refine hQ _ _ ?_
  clear hQ hA
  repeat (first | refine WK.seq ?_ | refine WK.block ?_ | refine WK.inBlock ?_ | refine WK.skip ?_ | refine WK.label ?_ | refine WK.scope ?_ | refine WK.inScope ?_ | refine WK.exit rfl ?_)
  first | refine WK.reg 200 Tryz.ntmps92 (by kernel_rfl) ?_ | refine WK.regD 200 clsOf (by kernel_rfl) Tryz.ntmps92 (by kernel_rfl) (by kernel_rfl) ?_
  intro A hA Q hQ
  simp
  refine hQ _ _ ?_
  clear hQ hA
  repeat (first | refine WK.seq ?_ | refine WK.block ?_ | refine WK.inBlock ?_ | refine WK.skip ?_ | refine WK.label ?_ | refine WK.scope ?_ | refine WK.inScope ?_ | refine WK.exit rfl ?_)
  refine WK.cond2 rfl (fun h => ?_) (fun h => ?_)
  · simp at h
    have e : eqBy p l m = false := by unfold eqBy; simp; intro e; omega
    repeat (first | refine WK.seq ?_ | refine WK.block ?_ | refine WK.inBlock ?_ | refine WK.skip ?_ | refine WK.label ?_ | refine WK.scope ?_ | refine WK.inScope ?_ | refine WK.exit rfl ?_)
    first | refine WK.reg 300 Tryz.ntmps92 (by kernel_rfl) ?_ | refine WK.regD 300 clsOf (by kernel_rfl) Tryz.ntmps92 (by kernel_rfl) (by kernel_rfl) ?_
    intro A hA Q hQ
    simp
    refine hQ _ _ ?_
    clear hQ hA
    repeat (first | refine WK.seq ?_ | refine WK.block ?_ | refine WK.inBlock ?_ | refine WK.skip ?_ | refine WK.label ?_ | refine WK.scope ?_ | refine WK.inScope ?_ | refine WK.exit rfl ?_)
    refine WK.ret Tryz.func92 (by simp (maxDischargeDepth := 120) [Tryz.results92, e]) (by simp [e])
  · simp at h
    have hlm : l.length = m.length := by omega
    repeat (first | refine WK.seq ?_ | refine WK.block ?_ | refine WK.inBlock ?_ | refine WK.skip ?_ | refine WK.label ?_ | refine WK.scope ?_ | refine WK.inScope ?_ | refine WK.exit rfl ?_)
    first | refine WK.reg 400 Tryz.ntmps92 (by kernel_rfl) ?_ | refine WK.regD 400 clsOf (by kernel_rfl) Tryz.ntmps92 (by kernel_rfl) (by kernel_rfl) ?_
    intro A hA Q hQ
    simp
    refine hQ _ _ ?_
    clear hQ hA
    repeat (first | refine WK.seq ?_ | refine WK.block ?_ | refine WK.inBlock ?_ | refine WK.skip ?_ | refine WK.label ?_ | refine WK.scope ?_ | refine WK.inScope ?_ | refine WK.exit rfl ?_)
    refine WK.loopI (fun n => n) (fun i : Nat => (⟨(upd (upd (upd (upd (upd (upd J 0 (.sl false l.length (oxmL l))) 1 (.sl false m.length (oxmL m))) 2 (.fn fid caps)) 15 (.sl false l.length (oxmL l))) 16 (.int .i64 l.length)) 17 (.int .i64 i)), B0, 0⟩ : St)) (fun i => i ≤ l.length ∧ ∀ j, j < i → p (nth l j) (nth m j) = true) (fun i => l.length - i) (0) (by repeat (first | exact TmW.nil | refine TmW.upd ?_ (by simp (maxDischargeDepth := 120) [hcl]))) (by repeat (first | exact BxW.nil | refine BxW.upd ?_ (by simp (maxDischargeDepth := 120) [hcl]))) (by first | exact InjW.id | exact InjW.nil | exact InjW.one | exact InjW.two (by simp) | exact InjW.three (by simp) (by simp) (by simp)) (⟨by omega, by simp⟩) (fun i hi IH => ?_)
    repeat (first | refine WK.seq ?_ | refine WK.block ?_ | refine WK.inBlock ?_ | refine WK.skip ?_ | refine WK.label ?_ | refine WK.scope ?_ | refine WK.inScope ?_ | refine WK.exit rfl ?_)
    first | refine WK.reg 500 Tryz.ntmps92 (by kernel_rfl) ?_ | refine WK.regD 500 clsOf (by kernel_rfl) Tryz.ntmps92 (by kernel_rfl) (by kernel_rfl) ?_
    intro A hA Q hQ
    simp
    refine hQ _ _ ?_
    clear hQ hA
    repeat (first | refine WK.seq ?_ | refine WK.block ?_ | refine WK.inBlock ?_ | refine WK.skip ?_ | refine WK.label ?_ | refine WK.scope ?_ | refine WK.inScope ?_ | refine WK.exit rfl ?_)
    refine WK.cond2 rfl (fun h1 => ?_) (fun h1 => ?_)
    · simp at h1
      have h2 : i < l.length := by omega
      have h2' : i < m.length := by omega
      have h3 : 6 ≤ l.length * 6 - i * 6 := by omega
      have h3' : 6 ≤ m.length * 6 - i * 6 := by omega
      have h4 := oxm_sub l i h2
      have h4' := oxm_sub m i h2'
      have h6 : IntKind.i64.wrap ((i : Int) + 1) = i + 1 := wrap_i64 (by omega) (by omega)
      repeat (first | refine WK.seq ?_ | refine WK.block ?_ | refine WK.inBlock ?_ | refine WK.skip ?_ | refine WK.label ?_ | refine WK.scope ?_ | refine WK.inScope ?_ | refine WK.exit rfl ?_)
      first | refine WK.reg 600 Tryz.ntmps92 (by kernel_rfl) ?_ | refine WK.regD 600 clsOf (by kernel_rfl) Tryz.ntmps92 (by kernel_rfl) (by kernel_rfl) ?_
      intro A hA Q hQ
      simp [h2, h3, h4]
      refine hQ _ _ ?_
      clear hQ hA
      repeat (first | refine WK.seq ?_ | refine WK.block ?_ | refine WK.inBlock ?_ | refine WK.skip ?_ | refine WK.label ?_ | refine WK.scope ?_ | refine WK.inScope ?_ | refine WK.exit rfl ?_)
      first | refine WK.reg 700 Tryz.ntmps92 (by kernel_rfl) ?_ | refine WK.regD 700 clsOf (by kernel_rfl) Tryz.ntmps92 (by kernel_rfl) (by kernel_rfl) ?_
      intro A hA Q hQ
      simp [h2', h3', h4']
      refine hQ _ _ ?_
      clear hQ hA
      repeat (first | refine WK.seq ?_ | refine WK.block ?_ | refine WK.inBlock ?_ | refine WK.skip ?_ | refine WK.label ?_ | refine WK.scope ?_ | refine WK.inScope ?_ | refine WK.exit rfl ?_)
      first | refine WK.reg 800 Tryz.ntmps92 (by kernel_rfl) ?_ | refine WK.regD 800 clsOf (by kernel_rfl) Tryz.ntmps92 (by kernel_rfl) (by kernel_rfl) ?_
      intro A hA Q hQ
      simp
      refine RunQ.call rfl rfl rfl rfl (by rfl) (by simp (maxDischargeDepth := 120) [hcl]) (hf (nth l i) (nth_mem h2) (nth m i) (nth_mem h2')) (by simp [hcl]) ?_
      refine RunQ.eval ?_
      simp [hcl]
      refine hQ _ _ ?_
      clear hQ hA
      repeat (first | refine WK.seq ?_ | refine WK.block ?_ | refine WK.inBlock ?_ | refine WK.skip ?_ | refine WK.label ?_ | refine WK.scope ?_ | refine WK.inScope ?_ | refine WK.exit rfl ?_)
      refine WK.cond2 rfl (fun h5 => ?_) (fun h5 => ?_)
      · simp at h5
        have e : eqBy p l m = false := by unfold eqBy; rw [all_range_false (p := fun i => p (nth l i) (nth m i)) h2 h5]; simp
        repeat (first | refine WK.seq ?_ | refine WK.block ?_ | refine WK.inBlock ?_ | refine WK.skip ?_ | refine WK.label ?_ | refine WK.scope ?_ | refine WK.inScope ?_ | refine WK.exit rfl ?_)
        first | refine WK.reg 900 Tryz.ntmps92 (by kernel_rfl) ?_ | refine WK.regD 900 clsOf (by kernel_rfl) Tryz.ntmps92 (by kernel_rfl) (by kernel_rfl) ?_
        intro A hA Q hQ
        simp
        refine hQ _ _ ?_
        clear hQ hA
        repeat (first | refine WK.seq ?_ | refine WK.block ?_ | refine WK.inBlock ?_ | refine WK.skip ?_ | refine WK.label ?_ | refine WK.scope ?_ | refine WK.inScope ?_ | refine WK.exit rfl ?_)
        refine WK.ret Tryz.func92 (by simp (maxDischargeDepth := 120) [Tryz.results92, e]) (by simp [e])
      · simp at h5
        repeat (first | refine WK.seq ?_ | refine WK.block ?_ | refine WK.inBlock ?_ | refine WK.skip ?_ | refine WK.label ?_ | refine WK.scope ?_ | refine WK.inScope ?_ | refine WK.exit rfl ?_)
        first | refine WK.reg 1000 Tryz.ntmps92 (by kernel_rfl) ?_ | refine WK.regD 1000 clsOf (by kernel_rfl) Tryz.ntmps92 (by kernel_rfl) (by kernel_rfl) ?_
        intro A hA Q hQ
        simp [h6]
        refine hQ _ _ ?_
        clear hQ hA
        repeat (first | refine WK.seq ?_ | refine WK.block ?_ | refine WK.inBlock ?_ | refine WK.skip ?_ | refine WK.label ?_ | refine WK.scope ?_ | refine WK.inScope ?_ | refine WK.exit rfl ?_)
        refine WK.next (fun n => n) (IH (i + 1) (⟨by omega, fun j hj => by by_cases h7 : j = i; (subst h7; exact h5); exact hi.2 j (by omega)⟩) (by first | omega | (dsimp only; omega))) (by repeat (first | exact TmW.nil | refine TmW.upd ?_ (by simp (maxDischargeDepth := 120) [hcl]))) (by repeat (first | exact BxW.nil | refine BxW.upd ?_ (by simp (maxDischargeDepth := 120) [hcl]))) (by first | exact InjW.id | exact InjW.nil | exact InjW.one | exact InjW.two (by simp) | exact InjW.three (by simp) (by simp) (by simp))
    · simp at h1
      have e : eqBy p l m = true := by unfold eqBy; rw [all_range_true (p := fun i => p (nth l i) (nth m i)) (fun j hj => hi.2 j (by omega))]; simp [hlm]
      repeat (first | refine WK.seq ?_ | refine WK.block ?_ | refine WK.inBlock ?_ | refine WK.skip ?_ | refine WK.label ?_ | refine WK.scope ?_ | refine WK.inScope ?_ | refine WK.exit rfl ?_)
      first | refine WK.reg 1100 Tryz.ntmps92 (by kernel_rfl) ?_ | refine WK.regD 1100 clsOf (by kernel_rfl) Tryz.ntmps92 (by kernel_rfl) (by kernel_rfl) ?_
      intro A hA Q hQ
      simp
      refine hQ _ _ ?_
      clear hQ hA
      repeat (first | refine WK.seq ?_ | refine WK.block ?_ | refine WK.inBlock ?_ | refine WK.skip ?_ | refine WK.label ?_ | refine WK.scope ?_ | refine WK.inScope ?_ | refine WK.exit rfl ?_)
      refine WK.ret Tryz.func92 (by simp (maxDischargeDepth := 120) [Tryz.results92, e]) (by simp [e])
theorem eqf_inst (fid : Nat) (caps : List AV) (p : Inst → Inst → Bool) (l m : List Inst) (hcl : ClL caps = true) (hl : l.length ≤ 1000000)
    (hf : ∀ x, x ∈ l → ∀ y, y ∈ m → FnP Tryz.prog fid (.agg x.enc :: .agg y.enc :: caps) (.bool (p x y))) :
    FnP Tryz.prog 94 [instS l, instS m, .fn fid caps] (.bool (eqBy p l m)) := by
  unfold instS
  refine FnP.intro Tryz.func94 rfl rfl fun G w => ?_
  repeat (refine WK.seq ?_)
  refine WK.reg 100 Tryz.ntmps94 (by kernel_rfl) ?_
  intro A hA Q hQ
  simp
  refine hQ _ _ ?_
  clear hQ hA
  repeat (refine WK.seq ?_)
  refine WK.reg 200 Tryz.ntmps94 (by kernel_rfl) ?_
  intro A hA Q hQ
  simp
  refine hQ _ _ ?_
  clear hQ hA
  refine WK.cond2 rfl (fun h => ?_) (fun h => ?_)
  · simp at h
    have e : eqBy p l m = false := by unfold eqBy; simp; intro e; omega
    repeat (refine WK.seq ?_)
    refine WK.reg 300 Tryz.ntmps94 (by kernel_rfl) ?_
    intro A hA Q hQ
    simp
    refine hQ _ _ ?_
    clear hQ hA
    refine WK.ret Tryz.func94 (by simp (maxDischargeDepth := 120) [Tryz.results94, e]) (by simp [e])
  · simp at h
    have hlm : l.length = m.length := by omega
    repeat (first | refine WK.seq ?_ | refine WK.skip ?_)
    refine WK.reg 400 Tryz.ntmps94 (by kernel_rfl) ?_
    intro A hA Q hQ
    simp
    refine hQ _ _ ?_
    clear hQ hA
    repeat (refine WK.block ?_)
    refine WK.loopI (fun n => n) (fun i : Nat => (⟨(upd (upd (upd (upd (upd (upd J 0 (.sl false l.length (instL l))) 1 (.sl false m.length (instL m))) 2 (.fn fid caps)) 15 (.sl false l.length (instL l))) 16 (.int .i64 l.length)) 17 (.int .i64 i)), B0, 0⟩ : St)) (fun i => i ≤ l.length ∧ ∀ j, j < i → p (nth l j) (nth m j) = true) (fun i => l.length - i) (0) (by repeat (first | exact TmW.nil | refine TmW.upd ?_ (by simp (maxDischargeDepth := 120) [hcl]))) (by repeat (first | exact BxW.nil | refine BxW.upd ?_ (by simp (maxDischargeDepth := 120) [hcl]))) (by first | exact InjW.id | exact InjW.nil | exact InjW.one | exact InjW.two (by simp) | exact InjW.three (by simp) (by simp) (by simp)) (⟨by omega, by simp⟩) (fun i hi IH => ?_)
    repeat (refine WK.seq ?_)
    refine WK.reg 500 Tryz.ntmps94 (by kernel_rfl) ?_
    intro A hA Q hQ
    simp
    refine hQ _ _ ?_
    clear hQ hA
    repeat (refine WK.seq ?_)
    refine WK.cond2 rfl (fun h1 => ?_) (fun h1 => ?_)
    · simp at h1
      have h2 : i < l.length := by omega
      have h2' : i < m.length := by omega
      have h3 : 7 ≤ l.length * 7 - i * 7 := by omega
      have h3' : 7 ≤ m.length * 7 - i * 7 := by omega
      have h4 := inst_sub l i h2
      have h4' := inst_sub m i h2'
      have h6 : IntKind.i64.wrap ((i : Int) + 1) = i + 1 := wrap_i64 (by omega) (by omega)
      repeat (first | refine WK.seq ?_ | refine WK.block ?_ | refine WK.skip ?_)
      refine WK.reg 600 Tryz.ntmps94 (by kernel_rfl) ?_
      intro A hA Q hQ
      simp [h2, h3, h4]
      refine hQ _ _ ?_
      clear hQ hA
      repeat (refine WK.seq ?_)
      refine WK.reg 700 Tryz.ntmps94 (by kernel_rfl) ?_
      intro A hA Q hQ
      simp [h2', h3', h4']
      refine hQ _ _ ?_
      clear hQ hA
      repeat (refine WK.seq ?_)
      refine WK.reg 800 Tryz.ntmps94 (by kernel_rfl) ?_
      intro A hA Q hQ
      simp
      refine RunQ.call rfl rfl rfl rfl (by rfl) (by simp (maxDischargeDepth := 120) [hcl]) (hf (nth l i) (nth_mem h2) (nth m i) (nth_mem h2')) (by simp [hcl]) ?_
      refine RunQ.eval ?_
      simp [hcl]
      refine hQ _ _ ?_
      clear hQ hA
      refine WK.cond2 rfl (fun h5 => ?_) (fun h5 => ?_)
      · simp at h5
        have e : eqBy p l m = false := by unfold eqBy; rw [all_range_false (p := fun i => p (nth l i) (nth m i)) h2 h5]; simp
        repeat (refine WK.seq ?_)
        refine WK.reg 900 Tryz.ntmps94 (by kernel_rfl) ?_
        intro A hA Q hQ
        simp
        refine hQ _ _ ?_
        clear hQ hA
        refine WK.ret Tryz.func94 (by simp (maxDischargeDepth := 120) [Tryz.results94, e]) (by simp [e])
      · simp at h5
        repeat (first | refine WK.inBlock ?_ | refine WK.skip ?_)
        refine WK.reg 1000 Tryz.ntmps94 (by kernel_rfl) ?_
        intro A hA Q hQ
        simp [h6]
        refine hQ _ _ ?_
        clear hQ hA
        refine WK.next (fun n => n) (IH (i + 1) (⟨by omega, fun j hj => by by_cases h7 : j = i; (subst h7; exact h5); exact hi.2 j (by omega)⟩) (by first | omega | (dsimp only; omega))) (by repeat (first | exact TmW.nil | refine TmW.upd ?_ (by simp (maxDischargeDepth := 120) [hcl]))) (by repeat (first | exact BxW.nil | refine BxW.upd ?_ (by simp (maxDischargeDepth := 120) [hcl]))) (by first | exact InjW.id | exact InjW.nil | exact InjW.one | exact InjW.two (by simp) | exact InjW.three (by simp) (by simp) (by simp))
    · simp at h1
      have e : eqBy p l m = true := by unfold eqBy; rw [all_range_true (p := fun i => p (nth l i) (nth m i)) (fun j hj => hi.2 j (by omega))]; simp [hlm]
      repeat (first | refine WK.seq ?_ | refine WK.exit rfl ?_)
      refine WK.reg 1100 Tryz.ntmps94 (by kernel_rfl) ?_
      intro A hA Q hQ
      simp
      refine hQ _ _ ?_
      clear hQ hA
      refine WK.ret Tryz.func94 (by simp (maxDischargeDepth := 120) [Tryz.results94, e]) (by simp [e])
theorem eqf_act (fid : Nat) (caps : List AV) (p : Action → Action → Bool) (l m : List Action) (hcl : ClL caps = true) (hl : l.length ≤ 1000000)
    (hf : ∀ x, x ∈ l → ∀ y, y ∈ m → FnP Tryz.prog fid (.agg x.enc :: .agg y.enc :: caps) (.bool (p x y))) :
    FnP Tryz.prog 156 [actS l, actS m, .fn fid caps] (.bool (eqBy p l m)) := by
  unfold actS
  refine FnP.intro Tryz.func156 rfl rfl fun G w => ?_
  repeat (refine WK.seq ?_)
  refine WK.reg 100 Tryz.ntmps156 (by kernel_rfl) ?_
  intro A hA Q hQ
  simp
  refine hQ _ _ ?_
  clear hQ hA
  repeat (refine WK.seq ?_)
  refine WK.reg 200 Tryz.ntmps156 (by kernel_rfl) ?_
  intro A hA Q hQ
  simp
  refine hQ _ _ ?_
  clear hQ hA
  refine WK.cond2 rfl (fun h => ?_) (fun h => ?_)
  · simp at h
    have e : eqBy p l m = false := by unfold eqBy; simp; intro e; omega
    repeat (refine WK.seq ?_)
    refine WK.reg 300 Tryz.ntmps156 (by kernel_rfl) ?_
    intro A hA Q hQ
    simp
    refine hQ _ _ ?_
    clear hQ hA
    refine WK.ret Tryz.func156 (by simp (maxDischargeDepth := 120) [Tryz.results156, e]) (by simp [e])
  · simp at h
    have hlm : l.length = m.length := by omega
    repeat (first | refine WK.seq ?_ | refine WK.skip ?_)
    refine WK.reg 400 Tryz.ntmps156 (by kernel_rfl) ?_
    intro A hA Q hQ
    simp
    refine hQ _ _ ?_
    clear hQ hA
    repeat (refine WK.block ?_)
    refine WK.loopI (fun n => n) (fun i : Nat => (⟨(upd (upd (upd (upd (upd (upd J 0 (.sl false l.length (actL l))) 1 (.sl false m.length (actL m))) 2 (.fn fid caps)) 15 (.sl false l.length (actL l))) 16 (.int .i64 l.length)) 17 (.int .i64 i)), B0, 0⟩ : St)) (fun i => i ≤ l.length ∧ ∀ j, j < i → p (nth l j) (nth m j) = true) (fun i => l.length - i) (0) (by repeat (first | exact TmW.nil | refine TmW.upd ?_ (by simp (maxDischargeDepth := 120) [hcl]))) (by repeat (first | exact BxW.nil | refine BxW.upd ?_ (by simp (maxDischargeDepth := 120) [hcl]))) (by first | exact InjW.id | exact InjW.nil | exact InjW.one | exact InjW.two (by simp) | exact InjW.three (by simp) (by simp) (by simp)) (⟨by omega, by simp⟩) (fun i hi IH => ?_)
    repeat (refine WK.seq ?_)
    refine WK.reg 500 Tryz.ntmps156 (by kernel_rfl) ?_
    intro A hA Q hQ
    simp
    refine hQ _ _ ?_
    clear hQ hA
    repeat (refine WK.seq ?_)
    refine WK.cond2 rfl (fun h1 => ?_) (fun h1 => ?_)
    · simp at h1
      have h2 : i < l.length := by omega
      have h2' : i < m.length := by omega
      have h3 : 11 ≤ l.length * 11 - i * 11 := by omega
      have h3' : 11 ≤ m.length * 11 - i * 11 := by omega
      have h4 := act_sub l i h2
      have h4' := act_sub m i h2'
      have h6 : IntKind.i64.wrap ((i : Int) + 1) = i + 1 := wrap_i64 (by omega) (by omega)
      repeat (first | refine WK.seq ?_ | refine WK.block ?_ | refine WK.skip ?_)
      refine WK.reg 600 Tryz.ntmps156 (by kernel_rfl) ?_
      intro A hA Q hQ
      simp [h2, h3, h4]
      refine hQ _ _ ?_
      clear hQ hA
      repeat (refine WK.seq ?_)
      refine WK.reg 700 Tryz.ntmps156 (by kernel_rfl) ?_
      intro A hA Q hQ
      simp [h2', h3', h4']
      refine hQ _ _ ?_
      clear hQ hA
      repeat (refine WK.seq ?_)
      refine WK.reg 800 Tryz.ntmps156 (by kernel_rfl) ?_
      intro A hA Q hQ
      simp
      refine RunQ.call rfl rfl rfl rfl (by rfl) (by simp (maxDischargeDepth := 120) [hcl]) (hf (nth l i) (nth_mem h2) (nth m i) (nth_mem h2')) (by simp [hcl]) ?_
      refine RunQ.eval ?_
      simp [hcl]
      refine hQ _ _ ?_
      clear hQ hA
      refine WK.cond2 rfl (fun h5 => ?_) (fun h5 => ?_)
      · simp at h5
        have e : eqBy p l m = false := by unfold eqBy; rw [all_range_false (p := fun i => p (nth l i) (nth m i)) h2 h5]; simp
        repeat (refine WK.seq ?_)
        refine WK.reg 900 Tryz.ntmps156 (by kernel_rfl) ?_
        intro A hA Q hQ
        simp
        refine hQ _ _ ?_
        clear hQ hA
        refine WK.ret Tryz.func156 (by simp (maxDischargeDepth := 120) [Tryz.results156, e]) (by simp [e])
      · simp at h5
        repeat (first | refine WK.inBlock ?_ | refine WK.skip ?_)
        refine WK.reg 1000 Tryz.ntmps156 (by kernel_rfl) ?_
        intro A hA Q hQ
        simp [h6]
        refine hQ _ _ ?_
        clear hQ hA
        refine WK.next (fun n => n) (IH (i + 1) (⟨by omega, fun j hj => by by_cases h7 : j = i; (subst h7; exact h5); exact hi.2 j (by omega)⟩) (by first | omega | (dsimp only; omega))) (by repeat (first | exact TmW.nil | refine TmW.upd ?_ (by simp (maxDischargeDepth := 120) [hcl]))) (by repeat (first | exact BxW.nil | refine BxW.upd ?_ (by simp (maxDischargeDepth := 120) [hcl]))) (by first | exact InjW.id | exact InjW.nil | exact InjW.one | exact InjW.two (by simp) | exact InjW.three (by simp) (by simp) (by simp))
    · simp at h1
      have e : eqBy p l m = true := by unfold eqBy; rw [all_range_true (p := fun i => p (nth l i) (nth m i)) (fun j hj => hi.2 j (by omega))]; simp [hlm]
      repeat (first | refine WK.seq ?_ | refine WK.exit rfl ?_)
      refine WK.reg 1100 Tryz.ntmps156 (by kernel_rfl) ?_
      intro A hA Q hQ
      simp
      refine hQ _ _ ?_
      clear hQ hA
      refine WK.ret Tryz.func156 (by simp (maxDischargeDepth := 120) [Tryz.results156, e]) (by simp [e])

theorem osame_c (a b : Oxm) : FnP Tryz.prog 93 [.agg a.enc, .agg b.enc] (.bool (a == b)) := by
  refine FnP.intro Tryz.func93 rfl rfl fun G w => ?_
  repeat (first | refine WK.seq ?_ | refine WK.block ?_ | refine WK.inBlock ?_ | refine WK.skip ?_ | refine WK.label ?_ | refine WK.scope ?_ | refine WK.inScope ?_ | refine WK.exit rfl ?_)
  first | refine WK.reg 100 Tryz.ntmps93 (by kernel_rfl) ?_ | refine WK.regD 100 clsOf (by kernel_rfl) Tryz.ntmps93 (by kernel_rfl) (by kernel_rfl) ?_
  intro A hA Q hQ
  simp
  refine hQ _ _ ?_
  clear hQ hA
  repeat (first | refine WK.seq ?_ | refine WK.block ?_ | refine WK.inBlock ?_ | refine WK.skip ?_ | refine WK.label ?_ | refine WK.scope ?_ | refine WK.inScope ?_ | refine WK.exit rfl ?_)
  first | refine WK.reg 200 Tryz.ntmps93 (by kernel_rfl) ?_ | refine WK.regD 200 clsOf (by kernel_rfl) Tryz.ntmps93 (by kernel_rfl) (by kernel_rfl) ?_
  intro A hA Q hQ
  simp
  refine hQ _ _ ?_
  clear hQ hA
  repeat (first | refine WK.seq ?_ | refine WK.block ?_ | refine WK.inBlock ?_ | refine WK.skip ?_ | refine WK.label ?_ | refine WK.scope ?_ | refine WK.inScope ?_ | refine WK.exit rfl ?_)
  refine WK.ret Tryz.func93 (by simp (maxDischargeDepth := 120) [Tryz.results93]) (by simp)
theorem asame_c (a b : Action) : FnP Tryz.prog 157 [.agg a.enc, .agg b.enc] (.bool (a == b)) := by
  refine FnP.intro Tryz.func157 rfl rfl fun G w => ?_
  repeat (refine WK.seq ?_)
  refine WK.reg 100 Tryz.ntmps157 (by kernel_rfl) ?_
  intro A hA Q hQ
  simp
  refine hQ _ _ ?_
  clear hQ hA
  repeat (refine WK.seq ?_)
  refine WK.reg 200 Tryz.ntmps157 (by kernel_rfl) ?_
  intro A hA Q hQ
  simp
  refine hQ _ _ ?_
  clear hQ hA
  refine WK.ret Tryz.func157 (by simp (maxDischargeDepth := 120) [Tryz.results157]) (by simp)
theorem msame_c (l m : List Oxm) (hl : l.length ≤ 1000000) : FnP Tryz.prog 60 [oxmS l, oxmS m] (.bool (eqBy (· == ·) l m)) := by
  refine FnP.intro Tryz.func60 rfl rfl fun G w => ?_
  repeat (first | refine WK.seq ?_ | refine WK.block ?_ | refine WK.inBlock ?_ | refine WK.skip ?_ | refine WK.label ?_ | refine WK.scope ?_ | refine WK.inScope ?_ | refine WK.exit rfl ?_)
  first | refine WK.reg 100 Tryz.ntmps60 (by kernel_rfl) ?_ | refine WK.regD 100 clsOf (by kernel_rfl) Tryz.ntmps60 (by kernel_rfl) (by kernel_rfl) ?_
  intro A hA Q hQ
  simp
  refine hQ _ _ ?_
  clear hQ hA
  repeat (first | refine WK.seq ?_ | refine WK.block ?_ | refine WK.inBlock ?_ | refine WK.skip ?_ | refine WK.label ?_ | refine WK.scope ?_ | refine WK.inScope ?_ | refine WK.exit rfl ?_)
  first | refine WK.reg 200 Tryz.ntmps60 (by kernel_rfl) ?_ | refine WK.regD 200 clsOf (by kernel_rfl) Tryz.ntmps60 (by kernel_rfl) (by kernel_rfl) ?_
  intro A hA Q hQ
  simp
  refine RunQ.call rfl rfl rfl rfl (by rfl) (by simp (maxDischargeDepth := 120) [oxmS]) (eqf_oxm 93 [] (· == ·) l m rfl hl (fun x _ y _ => osame_c x y)) (by simp [oxmS]) ?_
  refine RunQ.eval ?_
  simp [oxmS]
  refine hQ _ _ ?_
  clear hQ hA
  repeat (first | refine WK.seq ?_ | refine WK.block ?_ | refine WK.inBlock ?_ | refine WK.skip ?_ | refine WK.label ?_ | refine WK.scope ?_ | refine WK.inScope ?_ | refine WK.exit rfl ?_)
  refine WK.ret Tryz.func60 (by simp (maxDischargeDepth := 120) [Tryz.results60]) (by simp)
theorem acsame_c (l m : List Action) (hl : l.length ≤ 1000000) : FnP Tryz.prog 126 [actS l, actS m] (.bool (eqBy (· == ·) l m)) := by
  refine FnP.intro Tryz.func126 rfl rfl fun G w => ?_
  repeat (refine WK.seq ?_)
  refine WK.reg 100 Tryz.ntmps126 (by kernel_rfl) ?_
  intro A hA Q hQ
  simp
  refine hQ _ _ ?_
  clear hQ hA
  repeat (refine WK.seq ?_)
  refine WK.reg 200 Tryz.ntmps126 (by kernel_rfl) ?_
  intro A hA Q hQ
  simp
  refine RunQ.call rfl rfl rfl rfl (by rfl) (by simp (maxDischargeDepth := 120) [actS]) (eqf_act 157 [] (· == ·) l m rfl hl (fun x _ y _ => asame_c x y)) (by simp [actS]) ?_
  refine RunQ.eval ?_
  simp [actS]
  refine hQ _ _ ?_
  clear hQ hA
  refine WK.ret Tryz.func126 (by simp (maxDischargeDepth := 120) [Tryz.results126]) (by simp)
def Inst.same (a b : Inst) : Bool := a.kind == b.kind && a.table == b.table && a.value == b.value && a.mask == b.mask && eqBy (· == ·) a.acts b.acts
theorem isame_c (a b : Inst) (hl : a.acts.length ≤ 1000000) : FnP Tryz.prog 95 [.agg a.enc, .agg b.enc] (.bool (Inst.same a b)) := by
  have w1 := Wide.beq a.value b.value
  have w2 := Wide.beq a.mask b.mask
  cases k1 : a.kind == b.kind
  · refine FnP.intro Tryz.func95 rfl rfl fun G w => ?_
    repeat (refine WK.seq ?_)
    refine WK.reg 100 Tryz.ntmps95 (by kernel_rfl) ?_
    intro A hA Q hQ
    simp
    refine hQ _ _ ?_
    clear hQ hA
    repeat (refine WK.seq ?_)
    refine WK.reg 200 Tryz.ntmps95 (by kernel_rfl) ?_
    intro A hA Q hQ
    have hg5 : (A[5]?).bind (·.dst) = some 10 := by rw [hA]; rfl
    have hg12 : (A[12]?).bind (·.dst) = some 17 := by rw [hA]; rfl
    have hg19 : (A[19]?).bind (·.dst) = some 24 := by rw [hA]; rfl
    have hg26 : (A[26]?).bind (·.dst) = some 31 := by rw [hA]; rfl
    simp [Inst.enc, k1, hg5, hg12, hg19, hg26]
    refine hQ _ _ ?_
    clear hQ hA
    refine WK.ret Tryz.func95 (by simp (maxDischargeDepth := 120) [Tryz.results95, Inst.same, k1]) (by simp [Inst.same, k1])
  cases k2 : a.table == b.table
  · refine FnP.intro Tryz.func95 rfl rfl fun G w => ?_
    repeat (refine WK.seq ?_)
    refine WK.reg 100 Tryz.ntmps95 (by kernel_rfl) ?_
    intro A hA Q hQ
    simp
    refine hQ _ _ ?_
    clear hQ hA
    repeat (refine WK.seq ?_)
    refine WK.reg 200 Tryz.ntmps95 (by kernel_rfl) ?_
    intro A hA Q hQ
    have hg5 : (A[5]?).bind (·.dst) = some 10 := by rw [hA]; rfl
    have hg12 : (A[12]?).bind (·.dst) = some 17 := by rw [hA]; rfl
    have hg19 : (A[19]?).bind (·.dst) = some 24 := by rw [hA]; rfl
    have hg26 : (A[26]?).bind (·.dst) = some 31 := by rw [hA]; rfl
    simp [Inst.enc, k1, k2, hg5, hg12, hg19, hg26]
    refine hQ _ _ ?_
    clear hQ hA
    refine WK.ret Tryz.func95 (by simp (maxDischargeDepth := 120) [Tryz.results95, Inst.same, k1, k2]) (by simp [Inst.same, k1, k2])
  cases k3 : a.value == b.value
  · rw [k3] at w1
    refine FnP.intro Tryz.func95 rfl rfl fun G w => ?_
    repeat (refine WK.seq ?_)
    refine WK.reg 100 Tryz.ntmps95 (by kernel_rfl) ?_
    intro A hA Q hQ
    simp
    refine hQ _ _ ?_
    clear hQ hA
    repeat (refine WK.seq ?_)
    refine WK.reg 200 Tryz.ntmps95 (by kernel_rfl) ?_
    intro A hA Q hQ
    have hg5 : (A[5]?).bind (·.dst) = some 10 := by rw [hA]; rfl
    have hg12 : (A[12]?).bind (·.dst) = some 17 := by rw [hA]; rfl
    have hg19 : (A[19]?).bind (·.dst) = some 24 := by rw [hA]; rfl
    have hg26 : (A[26]?).bind (·.dst) = some 31 := by rw [hA]; rfl
    simp [Inst.enc, k1, k2, ← w1, hg5, hg12, hg19, hg26]
    refine hQ _ _ ?_
    clear hQ hA
    refine WK.ret Tryz.func95 (by simp (maxDischargeDepth := 120) [Tryz.results95, Inst.same, k1, k2, k3]) (by simp [Inst.same, k1, k2, k3])
  rw [k3] at w1
  cases k4 : a.mask == b.mask
  · rw [k4] at w2
    refine FnP.intro Tryz.func95 rfl rfl fun G w => ?_
    repeat (refine WK.seq ?_)
    refine WK.reg 100 Tryz.ntmps95 (by kernel_rfl) ?_
    intro A hA Q hQ
    simp
    refine hQ _ _ ?_
    clear hQ hA
    repeat (refine WK.seq ?_)
    refine WK.reg 200 Tryz.ntmps95 (by kernel_rfl) ?_
    intro A hA Q hQ
    have hg5 : (A[5]?).bind (·.dst) = some 10 := by rw [hA]; rfl
    have hg12 : (A[12]?).bind (·.dst) = some 17 := by rw [hA]; rfl
    have hg19 : (A[19]?).bind (·.dst) = some 24 := by rw [hA]; rfl
    have hg26 : (A[26]?).bind (·.dst) = some 31 := by rw [hA]; rfl
    simp [Inst.enc, k1, k2, ← w1, ← w2, hg5, hg12, hg19, hg26]
    refine hQ _ _ ?_
    clear hQ hA
    refine WK.ret Tryz.func95 (by simp (maxDischargeDepth := 120) [Tryz.results95, Inst.same, k1, k2, k3, k4]) (by simp [Inst.same, k1, k2, k3, k4])
  rw [k4] at w2
  refine FnP.intro Tryz.func95 rfl rfl fun G w => ?_
  repeat (refine WK.seq ?_)
  refine WK.reg 100 Tryz.ntmps95 (by kernel_rfl) ?_
  intro A hA Q hQ
  simp
  refine hQ _ _ ?_
  clear hQ hA
  repeat (refine WK.seq ?_)
  refine WK.reg 200 Tryz.ntmps95 (by kernel_rfl) ?_
  intro A hA Q hQ
  have hg5 : (A[5]?).bind (·.dst) = some 10 := by rw [hA]; rfl
  have hg12 : (A[12]?).bind (·.dst) = some 17 := by rw [hA]; rfl
  have hg19 : (A[19]?).bind (·.dst) = some 24 := by rw [hA]; rfl
  have hg26 : (A[26]?).bind (·.dst) = some 31 := by rw [hA]; rfl
  simp [Inst.enc, k1, k2, ← w1, ← w2, hg5, hg12, hg19, hg26]
  refine RunQ.callG rfl rfl (by simp [hg26, actS]) rfl (by rfl) (by simp (maxDischargeDepth := 120) [hg26, actS]) (acsame_c a.acts b.acts hl) (by simp [hg26, actS]) ?_
  refine RunQ.eval ?_
  simp [hg26, actS]
  refine hQ _ _ ?_
  clear hQ hA
  refine WK.ret Tryz.func95 (by simp (maxDischargeDepth := 120) [Tryz.results95, Inst.same, k1, k2, k3, k4]) (by simp [Inst.same, k1, k2, k3, k4])
theorem insame_c (l m : List Inst) (hl : l.length ≤ 1000000) (ha : ∀ x, x ∈ l → x.acts.length ≤ 1000000) : FnP Tryz.prog 61 [instS l, instS m] (.bool (eqBy Inst.same l m)) := by
  refine FnP.intro Tryz.func61 rfl rfl fun G w => ?_
  repeat (refine WK.seq ?_)
  refine WK.reg 100 Tryz.ntmps61 (by kernel_rfl) ?_
  intro A hA Q hQ
  simp
  refine hQ _ _ ?_
  clear hQ hA
  repeat (refine WK.seq ?_)
  refine WK.reg 200 Tryz.ntmps61 (by kernel_rfl) ?_
  intro A hA Q hQ
  simp
  refine RunQ.call rfl rfl rfl rfl (by rfl) (by simp (maxDischargeDepth := 120) [instS]) (eqf_inst 95 [] Inst.same l m rfl hl (fun x hx y _ => isame_c x y (ha x hx))) (by simp [instS]) ?_
  refine RunQ.eval ?_
  simp [instS]
  refine hQ _ _ ?_
  clear hQ hA
  refine WK.ret Tryz.func61 (by simp (maxDischargeDepth := 120) [Tryz.results61]) (by simp)
end Go.Proofs.YtcccfbjkcahgfaaGreat
end

section
set_option linter.unusedVariables false
set_option linter.unusedSimpArgs false
namespace Go.Proofs.YtcccfbjkcahgfaaGreat
open Go Go.AI Go.Proofs

/-- the first place of a thing that is asked for, or -1 -/
def idxI {α : Type} (p : α → Bool) (l : List α) : Int := match l.findIdx? p with | some i => i | none => -1
theorem idxI_some {α : Type} [Inhabited α] {p : α → Bool} {l : List α} {i : Nat} (h : i < l.length) (hp : p (nth l i) = true) (hn : ∀ j, j < i → p (nth l j) = false) : idxI p l = i := by
  unfold idxI
  have : l.findIdx? p = some i := by
    rw [List.findIdx?_eq_some_iff_getElem]
    refine ⟨h, by rw [← nth_eq h]; exact hp, fun j hj => ?_⟩
    rw [← nth_eq (by omega)]; simp [hn j hj]
  rw [this]
theorem idxI_none {α : Type} [Inhabited α] {p : α → Bool} {l : List α} (hn : ∀ j, j < l.length → p (nth l j) = false) : idxI p l = -1 := by
  unfold idxI
  have : l.findIdx? p = none := by
    rw [List.findIdx?_eq_none_iff]
    intro x hx
    obtain ⟨i, hi, rfl⟩ := mem_nth hx
    exact hn i hi
  rw [this]
theorem idxI_ge {α : Type} (p : α → Bool) (l : List α) : decide (idxI p l ≥ 0) = l.any p := by
  unfold idxI
  cases h : l.findIdx? p with
  | none =>
    rw [List.findIdx?_eq_none_iff] at h
    have : l.any p = false := by rw [List.any_eq_false]; intro x hx; simp [h x hx]
    simp [this]
  | some i =>
    rw [List.findIdx?_eq_some_iff_getElem] at h
    obtain ⟨hi, hp, _⟩ := h
    have : l.any p = true := List.any_eq_true.2 ⟨_, List.getElem_mem hi, hp⟩
    simp [this]
theorem indexf_inst (fid : Nat) (caps : List AV) (p : Inst → Bool) (l : List Inst) (hcl : ClL caps = true) (hl : l.length ≤ 1000000)
    (hf : ∀ x, x ∈ l → FnP Tryz.prog fid (.agg x.enc :: caps) (.bool (p x))) :
    FnP Tryz.prog 118 [instS l, .fn fid caps] (.int .i64 (idxI p l)) := by
  unfold instS
  refine FnP.intro Tryz.func118 rfl rfl fun G w => ?_
  repeat (refine WK.seq ?_)
  refine WK.reg 100 Tryz.ntmps118 (by kernel_rfl) ?_
  intro A hA Q hQ
  simp
  refine hQ _ _ ?_
  clear hQ hA
  repeat (refine WK.seq ?_)
  refine WK.reg 200 Tryz.ntmps118 (by kernel_rfl) ?_
  intro A hA Q hQ
  simp
  refine hQ _ _ ?_
  clear hQ hA
  repeat (refine WK.block ?_)
  refine WK.loopI (fun n => n) (fun i : Nat => (⟨(upd (upd (upd (upd J 0 (.sl false l.length (instL l))) 1 (.fn fid caps)) 7 (.int .i64 l.length)) 8 (.int .i64 i)), B0, 0⟩ : St)) (fun i => i ≤ l.length ∧ ∀ j, j < i → p (nth l j) = false) (fun i => l.length - i) (0) (by repeat (first | exact TmW.nil | refine TmW.upd ?_ (by simp (maxDischargeDepth := 120) [hcl]))) (by repeat (first | exact BxW.nil | refine BxW.upd ?_ (by simp (maxDischargeDepth := 120) [hcl]))) (by first | exact InjW.id | exact InjW.nil | exact InjW.one | exact InjW.two (by simp) | exact InjW.three (by simp) (by simp) (by simp)) (⟨by omega, by simp⟩) (fun i hi IH => ?_)
  repeat (refine WK.seq ?_)
  refine WK.reg 300 Tryz.ntmps118 (by kernel_rfl) ?_
  intro A hA Q hQ
  simp
  refine hQ _ _ ?_
  clear hQ hA
  repeat (refine WK.seq ?_)
  refine WK.cond2 rfl (fun h1 => ?_) (fun h1 => ?_)
  · simp at h1
    have h2 : i < l.length := by omega
    have h3 : 7 ≤ l.length * 7 - i * 7 := by omega
    have h4 := inst_sub l i h2
    have h6 : IntKind.i64.wrap ((i : Int) + 1) = i + 1 := wrap_i64 (by omega) (by omega)
    repeat (first | refine WK.seq ?_ | refine WK.block ?_ | refine WK.skip ?_)
    refine WK.reg 400 Tryz.ntmps118 (by kernel_rfl) ?_
    intro A hA Q hQ
    simp
    refine hQ _ _ ?_
    clear hQ hA
    repeat (refine WK.seq ?_)
    refine WK.reg 500 Tryz.ntmps118 (by kernel_rfl) ?_
    intro A hA Q hQ
    simp [h2, h3, h4]
    refine RunQ.call rfl rfl rfl rfl (by rfl) (by simp (maxDischargeDepth := 120) [hcl]) (hf (nth l i) (nth_mem h2)) (by simp [hcl]) ?_
    refine RunQ.eval ?_
    simp [hcl]
    refine hQ _ _ ?_
    clear hQ hA
    refine WK.cond2 rfl (fun h5 => ?_) (fun h5 => ?_)
    · have e := idxI_some h2 h5 hi.2
      repeat (refine WK.seq ?_)
      refine WK.reg 600 Tryz.ntmps118 (by kernel_rfl) ?_
      intro A hA Q hQ
      simp
      refine hQ _ _ ?_
      clear hQ hA
      refine WK.ret Tryz.func118 (by simp (maxDischargeDepth := 120) [Tryz.results118, e]) (by simp [e])
    · repeat (first | refine WK.inBlock ?_ | refine WK.skip ?_)
      refine WK.reg 700 Tryz.ntmps118 (by kernel_rfl) ?_
      intro A hA Q hQ
      simp [h6]
      refine hQ _ _ ?_
      clear hQ hA
      refine WK.next (fun n => n) (IH (i + 1) (⟨by omega, fun j hj => by by_cases h7 : j = i; (subst h7; exact h5); exact hi.2 j (by omega)⟩) (by first | omega | (dsimp only; omega))) (by repeat (first | exact TmW.nil | refine TmW.upd ?_ (by simp (maxDischargeDepth := 120) [hcl]))) (by repeat (first | exact BxW.nil | refine BxW.upd ?_ (by simp (maxDischargeDepth := 120) [hcl]))) (by first | exact InjW.id | exact InjW.nil | exact InjW.one | exact InjW.two (by simp) | exact InjW.three (by simp) (by simp) (by simp))
  · simp at h1
    have e := idxI_none (p := p) (l := l) (fun j hj => hi.2 j (by omega))
    repeat (first | refine WK.seq ?_ | refine WK.exit rfl ?_)
    refine WK.reg 800 Tryz.ntmps118 (by kernel_rfl) ?_
    intro A hA Q hQ
    simp
    refine hQ _ _ ?_
    clear hQ hA
    refine WK.ret Tryz.func118 (by simp (maxDischargeDepth := 120) [Tryz.results118, e]) (by simp [e])
theorem containsf_inst (fid : Nat) (caps : List AV) (p : Inst → Bool) (l : List Inst) (hcl : ClL caps = true) (hl : l.length ≤ 1000000)
    (hf : ∀ x, x ∈ l → FnP Tryz.prog fid (.agg x.enc :: caps) (.bool (p x))) :
    FnP Tryz.prog 81 [instS l, .fn fid caps] (.bool (l.any p)) := by
  have e := idxI_ge p l
  simp only [ge_iff_le] at e
  refine FnP.intro Tryz.func81 rfl rfl fun G w => ?_
  repeat (refine WK.seq ?_)
  refine WK.reg 100 Tryz.ntmps81 (by kernel_rfl) ?_
  intro A hA Q hQ
  simp
  refine hQ _ _ ?_
  clear hQ hA
  repeat (refine WK.seq ?_)
  refine WK.reg 200 Tryz.ntmps81 (by kernel_rfl) ?_
  intro A hA Q hQ
  simp
  refine RunQ.call rfl rfl rfl rfl (by rfl) (by simp (maxDischargeDepth := 120) [hcl]) (indexf_inst fid caps p l hcl hl hf) (by simp [hcl]) ?_
  refine RunQ.eval ?_
  simp [hcl]
  refine hQ _ _ ?_
  clear hQ hA
  refine WK.ret Tryz.func81 (by simp (maxDischargeDepth := 120) [Tryz.results81, e]) (by simp [e])
def actsPlain (l : List Action) : Bool := decide (l.length ≤ 12)
def instsPlain (l : List Inst) : Bool := decide (l.length ≤ 8) && l.all fun i => actsPlain i.acts
def Flow.plain (f : Flow) : Bool := decide (f.mat.length ≤ 30) && instsPlain f.insts
def FlowMod.plain (m : FlowMod) : Bool := decide (m.mat.length ≤ 30) && instsPlain m.insts
theorem pacts_c (l : List Action) : FnP Tryz.prog 51 [actS l] (.bool (actsPlain l)) := by
  unfold actS
  refine FnP.intro Tryz.func51 rfl rfl fun G w => ?_
  repeat (refine WK.seq ?_)
  refine WK.reg 100 Tryz.ntmps51 (by kernel_rfl) ?_
  intro A hA Q hQ
  simp
  refine hQ _ _ ?_
  clear hQ hA
  repeat (refine WK.seq ?_)
  refine WK.reg 200 Tryz.ntmps51 (by kernel_rfl) ?_
  intro A hA Q hQ
  simp
  refine hQ _ _ ?_
  clear hQ hA
  have e : decide ((l.length : Int) ≤ 12) = decide (l.length ≤ 12) := decide_eq_decide.2 (by omega)
  refine WK.ret Tryz.func51 (by simp (maxDischargeDepth := 120) [Tryz.results51, actsPlain, e]) (by simp [actsPlain, e])
theorem pinst1_c (i : Inst) : FnP Tryz.prog 82 [.agg i.enc] (.bool (!actsPlain i.acts)) := by
  refine FnP.intro Tryz.func82 rfl rfl fun G w => ?_
  repeat (refine WK.seq ?_)
  refine WK.reg 100 Tryz.ntmps82 (by kernel_rfl) ?_
  intro A hA Q hQ
  simp
  refine hQ _ _ ?_
  clear hQ hA
  repeat (refine WK.seq ?_)
  refine WK.reg 200 Tryz.ntmps82 (by kernel_rfl) ?_
  intro A hA Q hQ
  simp [Inst.enc]
  refine RunQ.call rfl rfl rfl rfl (by rfl) (by simp (maxDischargeDepth := 120) [actS]) (pacts_c i.acts) (by simp [actS]) ?_
  refine RunQ.eval ?_
  simp [actS]
  refine hQ _ _ ?_
  clear hQ hA
  refine WK.ret Tryz.func82 (by simp (maxDischargeDepth := 120) [Tryz.results82]) (by simp)
theorem pinsts_c (l : List Inst) : FnP Tryz.prog 48 [instS l] (.bool (instsPlain l)) := by
  unfold instsPlain
  cases h : decide (l.length ≤ 8)
  · have h2 : ¬ ((l.length : Int) ≤ 8) := by simp at h; omega
    refine FnP.intro Tryz.func48 rfl rfl fun G w => ?_
    repeat (refine WK.seq ?_)
    refine WK.reg 100 Tryz.ntmps48 (by kernel_rfl) ?_
    intro A hA Q hQ
    simp
    refine hQ _ _ ?_
    clear hQ hA
    repeat (refine WK.seq ?_)
    refine WK.reg 200 Tryz.ntmps48 (by kernel_rfl) ?_
    intro A hA Q hQ
    have hg3 : (A[3]?).bind (·.dst) = some 6 := by rw [hA]; rfl
    simp [instS, h2, hg3]
    refine hQ _ _ ?_
    clear hQ hA
    refine WK.ret Tryz.func48 (by simp (maxDischargeDepth := 120) [Tryz.results48, h]) (by simp [h])
  · have h2 : ((l.length : Int) ≤ 8) := by simp at h; omega
    have e : (!(l.any fun i => !actsPlain i.acts)) = l.all fun i => actsPlain i.acts := by rw [← List.not_all_eq_any_not, Bool.not_not]
    refine FnP.intro Tryz.func48 rfl rfl fun G w => ?_
    repeat (refine WK.seq ?_)
    refine WK.reg 100 Tryz.ntmps48 (by kernel_rfl) ?_
    intro A hA Q hQ
    simp
    refine hQ _ _ ?_
    clear hQ hA
    repeat (refine WK.seq ?_)
    refine WK.reg 200 Tryz.ntmps48 (by kernel_rfl) ?_
    intro A hA Q hQ
    have hg3 : (A[3]?).bind (·.dst) = some 6 := by rw [hA]; rfl
    simp [instS, h2, hg3]
    refine RunQ.callG rfl rfl (by simp [hg3, instS]) rfl (by rfl) (by simp (maxDischargeDepth := 120) [hg3, instS]) (containsf_inst 82 [] (fun i => !actsPlain i.acts) l rfl (by omega) (fun x _ => pinst1_c x)) (by simp [hg3, instS]) ?_
    refine RunQ.eval ?_
    simp [hg3, instS]
    refine hQ _ _ ?_
    clear hQ hA
    refine WK.ret Tryz.func48 (by simp (maxDischargeDepth := 120) [Tryz.results48, e]) (by simp [e])
theorem pMod_c (m : FlowMod) : FnP Tryz.prog 20 [.agg m.enc] (.bool (FlowMod.plain m)) := by
  unfold FlowMod.plain
  cases h : decide (m.mat.length ≤ 30)
  · have h2 : ¬ ((m.mat.length : Int) ≤ 30) := by simp at h; omega
    refine FnP.intro Tryz.func20 rfl rfl fun G w => ?_
    repeat (first | refine WK.seq ?_ | refine WK.block ?_ | refine WK.inBlock ?_ | refine WK.skip ?_ | refine WK.label ?_ | refine WK.scope ?_ | refine WK.inScope ?_ | refine WK.exit rfl ?_)
    first | refine WK.reg 100 Tryz.ntmps20 (by kernel_rfl) ?_ | refine WK.regD 100 clsOf (by kernel_rfl) Tryz.ntmps20 (by kernel_rfl) (by kernel_rfl) ?_
    intro A hA Q hQ
    simp
    refine hQ _ _ ?_
    clear hQ hA
    repeat (first | refine WK.seq ?_ | refine WK.block ?_ | refine WK.inBlock ?_ | refine WK.skip ?_ | refine WK.label ?_ | refine WK.scope ?_ | refine WK.inScope ?_ | refine WK.exit rfl ?_)
    first | refine WK.reg 200 Tryz.ntmps20 (by kernel_rfl) ?_ | refine WK.regD 200 clsOf (by kernel_rfl) Tryz.ntmps20 (by kernel_rfl) (by kernel_rfl) ?_
    intro A hA Q hQ
    have hg4 : (A[4]?).bind (·.dst) = some 7 := by rw [hA]; rfl
    simp [FlowMod.enc, h2, hg4]
    refine hQ _ _ ?_
    clear hQ hA
    repeat (first | refine WK.seq ?_ | refine WK.block ?_ | refine WK.inBlock ?_ | refine WK.skip ?_ | refine WK.label ?_ | refine WK.scope ?_ | refine WK.inScope ?_ | refine WK.exit rfl ?_)
    refine WK.ret Tryz.func20 (by simp (maxDischargeDepth := 120) [Tryz.results20, h]) (by simp [h])
  · have h2 : ((m.mat.length : Int) ≤ 30) := by simp at h; omega
    refine FnP.intro Tryz.func20 rfl rfl fun G w => ?_
    repeat (first | refine WK.seq ?_ | refine WK.block ?_ | refine WK.inBlock ?_ | refine WK.skip ?_ | refine WK.label ?_ | refine WK.scope ?_ | refine WK.inScope ?_ | refine WK.exit rfl ?_)
    first | refine WK.reg 100 Tryz.ntmps20 (by kernel_rfl) ?_ | refine WK.regD 100 clsOf (by kernel_rfl) Tryz.ntmps20 (by kernel_rfl) (by kernel_rfl) ?_
    intro A hA Q hQ
    simp
    refine hQ _ _ ?_
    clear hQ hA
    repeat (first | refine WK.seq ?_ | refine WK.block ?_ | refine WK.inBlock ?_ | refine WK.skip ?_ | refine WK.label ?_ | refine WK.scope ?_ | refine WK.inScope ?_ | refine WK.exit rfl ?_)
    first | refine WK.reg 200 Tryz.ntmps20 (by kernel_rfl) ?_ | refine WK.regD 200 clsOf (by kernel_rfl) Tryz.ntmps20 (by kernel_rfl) (by kernel_rfl) ?_
    intro A hA Q hQ
    have hg4 : (A[4]?).bind (·.dst) = some 7 := by rw [hA]; rfl
    simp [FlowMod.enc, h2, hg4]
    refine RunQ.callG rfl rfl (by simp [hg4, instS]) rfl (by rfl) (by simp (maxDischargeDepth := 120) [hg4, instS]) (pinsts_c m.insts) (by simp [hg4, instS]) ?_
    refine RunQ.eval ?_
    simp [hg4, instS]
    refine hQ _ _ ?_
    clear hQ hA
    repeat (first | refine WK.seq ?_ | refine WK.block ?_ | refine WK.inBlock ?_ | refine WK.skip ?_ | refine WK.label ?_ | refine WK.scope ?_ | refine WK.inScope ?_ | refine WK.exit rfl ?_)
    refine WK.ret Tryz.func20 (by simp (maxDischargeDepth := 120) [Tryz.results20]) (by simp)
end Go.Proofs.YtcccfbjkcahgfaaGreat
end

section
set_option linter.unusedVariables false
set_option linter.unusedSimpArgs false
namespace Go.Proofs.YtcccfbjkcahgfaaGreat
open Go Go.AI Go.Proofs

theorem appAct : AppOk Tryz.prog 81 143 11 88 := ⟨by simp, by simp, by simp, by simp, by simp, by simp, by omega, by omega⟩
end Go.Proofs.YtcccfbjkcahgfaaGreat
end

section
set_option linter.unusedVariables false
set_option linter.unusedSimpArgs false
namespace Go.Proofs.YtcccfbjkcahgfaaGreat
open Go Go.AI Go.Proofs

def Inst.goes (i : Inst) : Bool := i.kind == 3 || i.kind == 4
/-- what the instructions with actions are asked for, one behind the other -/
def allI {α : Type} (g : List Action → List α) (l : List Inst) : List α := (l.filter Inst.goes).flatMap fun i => g i.acts
end Go.Proofs.YtcccfbjkcahgfaaGreat
end

section
set_option linter.unusedVariables false
set_option linter.unusedSimpArgs false
namespace Go.Proofs.YtcccfbjkcahgfaaGreat
open Go Go.AI Go.Proofs

theorem appInst : AppOk Tryz.prog 24 130 7 72 := ⟨by simp, by simp, by simp, by simp, by simp, by simp, by omega, by omega⟩
end Go.Proofs.YtcccfbjkcahgfaaGreat
end

section
set_option linter.unusedVariables false
set_option linter.unusedSimpArgs false
namespace Go.Proofs.YtcccfbjkcahgfaaGreat
open Go Go.AI Go.Proofs

structure IOk (l : List Inst) : Prop where
  len : l.length ≤ 1000
  acts : ∀ x, x ∈ l → x.acts.length ≤ 1000000
structure FOk (f : Flow) : Prop where
  mat : f.mat.length ≤ 1000000
  insts : IOk f.insts
def Flow.same (a b : Flow) : Bool := a.cookie == b.cookie && ((a.prio == b.prio && (a.idle == b.idle && (a.hard == b.hard && a.flags == b.flags))) && (eqBy (fun x y => x == y) a.mat b.mat && eqBy Inst.same a.insts b.insts))
end Go.Proofs.YtcccfbjkcahgfaaGreat
end

section
set_option linter.unusedVariables false
set_option linter.unusedSimpArgs false
namespace Go.Proofs.YtcccfbjkcahgfaaGreat
open Go Go.AI Go.Proofs

def FlowMod.flow (m : FlowMod) : Flow := ⟨m.cookie, m.prio, m.idle, m.hard, m.flags, m.mat, m.insts⟩
end Go.Proofs.YtcccfbjkcahgfaaGreat
end

section
set_option linter.unusedVariables false
set_option linter.unusedSimpArgs false
namespace Go.Proofs.YtcccfbjkcahgfaaGreat
open Go Go.AI Go.Proofs

structure FPl (f : Flow) : Prop where
  ok : FOk f
  acts : (allI id f.insts).length ≤ 1000000
end Go.Proofs.YtcccfbjkcahgfaaGreat
end

section
set_option linter.unusedVariables false
set_option linter.unusedSimpArgs false
namespace Go.Proofs.YtcccfbjkcahgfaaGreat
open Go Go.AI Go.Proofs

def bI (b : BitVec 8) : Int := b.toNat
def byE (b : BitVec 8) : List AV := [.int .u8 (bI b)]
def byL (l : List (BitVec 8)) : List AV := l.map fun b => .int .u8 (bI b)
def byS (l : List (BitVec 8)) : AV := .sl false l.length (byL l)
@[simp] theorem byL_len (l : List (BitVec 8)) : (byL l).length = l.length := by simp [byL]
@[simp] theorem byL_cl (l : List (BitVec 8)) : ClL (byL l) = true := by
  induction l with
  | nil => rfl
  | cons x l ih => simp only [byL, List.map_cons, ClL, Cl, Bool.true_and]; exact ih
@[simp] theorem byS_cl (l : List (BitVec 8)) : Cl (byS l) = true := by simp [byS, Cl]
theorem byL_app (a b : List (BitVec 8)) : byL (a ++ b) = byL a ++ byL b := by simp [byL]
theorem byL_nil : byL [] = [] := rfl
theorem byL_drop (l : List (BitVec 8)) (n : Nat) : (byL l).drop n = byL (l.drop n) := by simp [byL]
theorem byL_take (l : List (BitVec 8)) (n : Nat) : (byL l).take n = byL (l.take n) := by simp [byL]
theorem by_full (l : List (BitVec 8)) (n : Nat) (h : n = l.length) : (byL l).take n = byL l := List.take_of_length_le (by simp [h])
theorem appByte : AppOk Tryz.prog 32 5 1 1 := ⟨by simp, by simp, by simp, by simp, by simp, by simp, by omega, by omega⟩
theorem bI_lt (b : BitVec 8) : 0 ≤ bI b ∧ bI b < 256 := by unfold bI; have := b.isLt; omega
theorem bI_of (x : Int) : bI (BitVec.ofInt 8 x) = x % 256 := by
  unfold bI
  rw [BitVec.toNat_ofInt]
  have : 0 ≤ x % 256 := Int.emod_nonneg _ (by decide)
  omega
theorem wrap_u8 (x : Int) : IntKind.wrap .u8 x = bI (BitVec.ofInt 8 x) := by
  rw [bI_of]
  unfold IntKind.wrap
  show (if (false && decide (x % 256 ≥ 128)) = true then x % 256 - 256 else x % 256) = x % 256
  rw [Bool.false_and, if_neg Bool.false_ne_true]
/-- whether a number has so many bytes -/
def numOk (n : Int) (s : Nat) : Bool := decide (0 ≤ n) && decide (n < 256 ^ s)
def Sz (s : Nat) : Prop := s = 1 ∨ s = 2 ∨ s = 4
theorem sized_c (s : Nat) (hs : Sz s) : FnP Tryz.prog 57 [.int .i64 s] (.bool true) := by
  rcases hs with rfl | rfl | rfl <;>
  · refine FnP.intro Tryz.func57 rfl rfl fun G w => ?_
    repeat (refine WK.seq ?_)
    refine WK.reg 100 Tryz.ntmps57 (by kernel_rfl) ?_
    intro A hA Q hQ
    simp
    refine hQ _ _ ?_
    clear hQ hA
    repeat (refine WK.seq ?_)
    refine WK.reg 200 Tryz.ntmps57 (by kernel_rfl) ?_
    intro A hA Q hQ
    have hg2 : (A[2]?).bind (·.dst) = some 5 := by rw [hA]; rfl
    have hg6 : (A[6]?).bind (·.dst) = some 9 := by rw [hA]; rfl
    simp [hg2, hg6]
    refine hQ _ _ ?_
    clear hQ hA
    refine WK.ret Tryz.func57 (by simp (maxDischargeDepth := 120) [Tryz.results57]) (by simp)
theorem shr_i64 (n : Int) (k : Nat) (hk : k ≤ 64) : bShr .i64 n k = n / 2 ^ k := by
  unfold bShr
  have : min (Int.toNat (k : Int)) (IntKind.bits .i64) = k := by show min (Int.toNat (k : Int)) 64 = k; omega
  rw [this, Int.fdiv_eq_ediv_of_nonneg _ (by exact Int.le_of_lt (Int.pow_pos (by decide)))]
theorem shr_zero (n : Int) (s : Nat) (h0 : 0 ≤ n) : (n / 2 ^ (8 * s) == 0) = decide (n < 256 ^ s) := by
  have hp : (2 : Int) ^ (8 * s) = 256 ^ s := by rw [Int.pow_mul]; rfl
  rw [hp]
  have hpos : (0 : Int) < 256 ^ s := Int.pow_pos (by decide)
  rw [Bool.eq_iff_iff, beq_iff_eq, decide_eq_true_eq]
  constructor
  · intro h
    have := Int.lt_ediv_add_one_mul_self n hpos
    rw [h] at this; omega
  · intro h; exact Int.ediv_eq_zero_of_lt h0 h
theorem nright_c (n : Int) (s : Nat) (hs : Sz s) : FnP Tryz.prog 28 [.int .i64 n, .int .i64 s] (.bool (numOk n s)) := by
  have hsz := sized_c s hs
  have hs4 : s ≤ 4 := by rcases hs with rfl | rfl | rfl <;> omega
  have w8 : IntKind.i64.wrap (8 * (s : Int)) = 8 * (s : Int) := by
    rcases hs with rfl | rfl | rfl <;> rfl
  have hsh : bShr .i64 n (8 * (s : Int)) = n / 2 ^ (8 * s) := by
    have := shr_i64 n (8 * s) (by omega)
    rw [← this]; congr 1
  have hnn : ¬ (8 * (s : Int) < 0) := by omega
  cases k : decide (0 ≤ n)
  · refine FnP.intro Tryz.func28 rfl rfl fun G w => ?_
    repeat (refine WK.seq ?_)
    refine WK.reg 100 Tryz.ntmps28 (by kernel_rfl) ?_
    intro A hA Q hQ
    simp
    refine hQ _ _ ?_
    clear hQ hA
    repeat (refine WK.seq ?_)
    refine WK.reg 200 Tryz.ntmps28 (by kernel_rfl) ?_
    intro A hA Q hQ
    have hg2 : (A[2]?).bind (·.dst) = some 7 := by rw [hA]; rfl
    have hg6 : (A[6]?).bind (·.dst) = some 11 := by rw [hA]; rfl
    simp [hg2, hg6]
    refine RunQ.call rfl rfl rfl rfl (by rfl) (by simp (maxDischargeDepth := 120) [hg2, hg6, k]) (hsz) (by simp [hg2, hg6, k]) ?_
    refine RunQ.eval ?_
    simp [hg2, hg6, k]
    refine hQ _ _ ?_
    clear hQ hA
    refine WK.ret Tryz.func28 (by simp (maxDischargeDepth := 120) [Tryz.results28, numOk, k]) (by simp [numOk, k])
  · have h0 := shr_zero n s (of_decide_eq_true k)
    refine FnP.intro Tryz.func28 rfl rfl fun G w => ?_
    repeat (refine WK.seq ?_)
    refine WK.reg 100 Tryz.ntmps28 (by kernel_rfl) ?_
    intro A hA Q hQ
    simp
    refine hQ _ _ ?_
    clear hQ hA
    repeat (refine WK.seq ?_)
    refine WK.reg 200 Tryz.ntmps28 (by kernel_rfl) ?_
    intro A hA Q hQ
    have hg2 : (A[2]?).bind (·.dst) = some 7 := by rw [hA]; rfl
    have hg6 : (A[6]?).bind (·.dst) = some 11 := by rw [hA]; rfl
    simp [hg2, hg6]
    refine RunQ.call rfl rfl rfl rfl (by rfl) (by simp (maxDischargeDepth := 120) [hg2, hg6, k, w8, hsh, h0, hnn]) (hsz) (by simp [hg2, hg6, k, w8, hsh, h0, hnn]) ?_
    refine RunQ.eval ?_
    simp [hg2, hg6, k, w8, hsh, h0, hnn]
    refine hQ _ _ ?_
    clear hQ hA
    refine WK.ret Tryz.func28 (by simp (maxDischargeDepth := 120) [Tryz.results28, numOk, k]) (by simp [numOk, k])
/-- the last `s` bytes of a number, the first one highest -/
def beN (n : Int) (s : Nat) : List (BitVec 8) := (List.range s).map fun i => BitVec.ofInt 8 (n / 2 ^ (8 * (s - 1 - i)))
theorem beN_len (n : Int) (s : Nat) : (beN n s).length = s := by simp [beN]
def putN (b : List (BitVec 8)) (n : Int) (s : Nat) : List (BitVec 8) := if numOk n s then b ++ beN n s else b
/-- four bytes, of which the first `i` are set -/
def fourAt (n : Int) (i : Nat) : List (BitVec 8) := (List.range 4).map fun j => if j < i then BitVec.ofInt 8 (n / 2 ^ (24 - 8 * j)) else 0#8
theorem fourAt_zero (n : Int) : byL (fourAt n 0) = [.int .u8 0, .int .u8 0, .int .u8 0, .int .u8 0] := rfl
theorem fourAt_set (n : Int) (i : Nat) (h : i < 4) : (byL (fourAt n i)).take i ++ .int .u8 (bI (BitVec.ofInt 8 (n / 2 ^ (24 - 8 * i)))) :: (byL (fourAt n i)).drop (i + 1) = byL (fourAt n (i + 1)) := by
  match i, h with
  | 0, _ => rfl
  | 1, _ => rfl
  | 2, _ => rfl
  | 3, _ => rfl
theorem fourAt_len (n : Int) (i : Nat) : (fourAt n i).length = 4 := by simp [fourAt]
theorem four_drop (n : Int) (s : Nat) (hs : Sz s) : (fourAt n 4).drop (4 - s) = beN n s := by
  rcases hs with rfl | rfl | rfl <;> rfl
set_option maxHeartbeats 2000000 in
theorem nput_c (b : List (BitVec 8)) (n : Int) (s : Nat) (hs : Sz s) (hb : b.length ≤ 1000000) : FnO Tryz.prog 52 [byS b, .int .i64 n, .int .i64 s] (putN b n s).length 1 (byL (putN b n s)) := by
  have hr := nright_c n s hs
  have hs4 : s ≤ 4 := by rcases hs with rfl | rfl | rfl <;> omega
  have hs1 : 1 ≤ s := by rcases hs with rfl | rfl | rfl <;> omega
  have hf := by_full b b.length rfl
  unfold byS
  cases k : numOk n s
  · have e : putN b n s = b := by unfold putN; rw [k]; rfl
    have hbd : b.length ≤ 140737488355328 := by omega
    rw [e]
    refine FnO.intro Tryz.func52 rfl rfl fun G w => ?_
    repeat (refine WK.seq ?_)
    refine WK.reg 100 Tryz.ntmps52 (by kernel_rfl) ?_
    intro A hA Q hQ
    simp
    refine hQ _ _ ?_
    clear hQ hA
    repeat (refine WK.seq ?_)
    refine WK.reg 200 Tryz.ntmps52 (by kernel_rfl) ?_
    intro A hA Q hQ
    simp
    refine RunQ.call rfl rfl rfl rfl (by rfl) (by simp (maxDischargeDepth := 120) [k]) (hr) (by simp [k]) ?_
    refine RunQ.eval ?_
    simp [k]
    refine hQ _ _ ?_
    clear hQ hA
    refine WK.cond2 rfl (fun h => ?_) (fun h => ?_)
    · repeat (refine WK.seq ?_)
      refine WK.reg 300 Tryz.ntmps52 (by kernel_rfl) ?_
      intro A hA Q hQ
      simp
      refine RunQ.append0 900 901 appByte rfl rfl rfl rfl rfl rfl rfl (by simp [hbd]) (by simp [hbd]) (by simp [hbd]) (by simp [hbd]) (by simp [hbd]) (by simp [hbd]) (by simp) ?_
      refine RunQ.eval ?_
      simp [hbd]
      refine hQ _ _ ?_
      clear hQ hA
      refine WK.retO Tryz.func52 (by rfl) (by rfl) (by simp (maxDischargeDepth := 120) [hf]) (by simp [hf])
    · cases h
  · have e : putN b n s = b ++ beN n s := by unfold putN; rw [k]; rfl
    rw [e]
    refine FnO.intro Tryz.func52 rfl rfl fun G w => ?_
    repeat (refine WK.seq ?_)
    refine WK.reg 100 Tryz.ntmps52 (by kernel_rfl) ?_
    intro A hA Q hQ
    simp
    refine hQ _ _ ?_
    clear hQ hA
    repeat (refine WK.seq ?_)
    refine WK.reg 200 Tryz.ntmps52 (by kernel_rfl) ?_
    intro A hA Q hQ
    simp
    refine RunQ.call rfl rfl rfl rfl (by rfl) (by simp (maxDischargeDepth := 120) [k]) (hr) (by simp [k]) ?_
    refine RunQ.eval ?_
    simp [k]
    refine hQ _ _ ?_
    clear hQ hA
    refine WK.cond2 rfl (fun h => ?_) (fun h => ?_)
    · cases h
    repeat (first | refine WK.seq ?_ | refine WK.skip ?_)
    refine WK.reg 300 Tryz.ntmps52 (by kernel_rfl) ?_
    intro A hA Q hQ
    simp
    refine hQ _ _ ?_
    clear hQ hA
    repeat (refine WK.seq ?_)
    refine WK.reg 400 Tryz.ntmps52 (by kernel_rfl) ?_
    intro A hA Q hQ
    simp
    refine hQ _ _ ?_
    clear hQ hA
    repeat (refine WK.block ?_)
    refine WK.loopI (fun _ => 200) (fun i : Nat => (⟨(upd (upd (upd (upd (upd J 0 (.sl false b.length (byL b))) 1 (.int .i64 n)) 2 (.int .i64 s)) 7 (.ptr 1 0)) 15 (.int .i64 i)), (upd B0 1 (.var (byL (fourAt n i)))), 0⟩ : St)) (fun i => i ≤ 4) (fun i => 4 - i) (0) (by repeat (first | exact TmW.nil | refine TmW.upd ?_ (by simp (maxDischargeDepth := 120) [fourAt_zero]))) (by repeat (first | exact BxW.nil | refine BxW.upd ?_ (by simp (maxDischargeDepth := 120) [fourAt_zero]))) (by first | exact InjW.id | exact InjW.nil | exact InjW.one | exact InjW.two (by simp) | exact InjW.three (by simp) (by simp) (by simp)) (by omega) (fun i hi IH => ?_)
    repeat (refine WK.seq ?_)
    refine WK.reg 500 Tryz.ntmps52 (by kernel_rfl) ?_
    intro A hA Q hQ
    simp
    refine hQ _ _ ?_
    clear hQ hA
    repeat (refine WK.seq ?_)
    refine WK.cond2 rfl (fun h1 => ?_) (fun h1 => ?_)
    · simp at h1
      have h2 : i < 4 := by omega
      have h6 : IntKind.i64.wrap ((i : Int) + 1) = i + 1 := wrap_i64 (by omega) (by omega)
      have m1 : IntKind.i64.wrap (8 * (i : Int)) = 8 * (i : Int) := wrap_i64 (by omega) (by omega)
      have m2 : IntKind.i64.wrap (24 - 8 * (i : Int)) = ((24 - 8 * i : Nat) : Int) := by rw [wrap_i64 (by omega) (by omega)]; omega
      have m3 := shr_i64 n (24 - 8 * i) (by omega)
      have m4 : ¬ ((24 - 8 * i : Nat) : Int) < 0 := by omega
      have m5 := wrap_u8 (n / 2 ^ (24 - 8 * i))
      have hset := fourAt_set n i h2
      have hfl := fourAt_len n i
      have b1 : (i : Int) < 4 := by omega
      have b2 : i + 1 ≤ 4 := by omega
      repeat (first | refine WK.seq ?_ | refine WK.block ?_ | refine WK.skip ?_)
      refine WK.reg 600 Tryz.ntmps52 (by kernel_rfl) ?_
      intro A hA Q hQ
      simp
      refine hQ _ _ ?_
      clear hQ hA
      obtain ⟨q, hq⟩ : ∃ q, q = 24 - 8 * i := ⟨_, rfl⟩
      rw [← hq] at m2 m3 m4 m5 hset
      refine WK.reg 700 Tryz.ntmps52 (by kernel_rfl) ?_
      intro A hA Q hQ
      simp [m1, m2, m3, m4, m5, h2, hset, hfl, b1, b2]
      refine hQ _ _ ?_
      clear hQ hA
      repeat (refine WK.inBlock ?_)
      refine WK.reg 800 Tryz.ntmps52 (by kernel_rfl) ?_
      intro A hA Q hQ
      simp [h6]
      refine hQ _ _ ?_
      clear hQ hA
      refine WK.next (fun n => n) (IH (i + 1) (by omega) (by first | omega | (dsimp only; omega))) (by repeat (first | exact TmW.nil | refine TmW.upd ?_ (by simp (maxDischargeDepth := 120) [h6]))) (by repeat (first | exact BxW.nil | refine BxW.upd ?_ (by simp (maxDischargeDepth := 120) [h6]))) (by first | exact InjW.id | exact InjW.nil | exact InjW.one | exact InjW.two (by simp) | exact InjW.three (by simp) (by simp) (by simp))
    · simp at h1
      have hi4 : i = 4 := by omega
      subst hi4
      repeat (first | refine WK.seq ?_ | refine WK.exit rfl ?_)
      refine WK.ghost (Ghost.frzVar 7 rfl rfl) ?_
      have m1 : IntKind.i64.wrap (4 - (s : Int)) = ((4 - s : Nat) : Int) := by rw [wrap_i64 (by omega) (by omega)]; omega
      have m2 : (4 - s : Nat) ≤ 4 := by omega
      have m3 : 4 - (4 - s) = s := by omega
      have m4 := four_drop n s hs
      have m5 : (byL (fourAt n 4)).drop (4 - s) = byL (beN n s) := by rw [byL_drop, m4]
      have m6 : (byL (beN n s)).take s = byL (beN n s) := by_full _ _ (beN_len n s).symm
      obtain ⟨q, hq⟩ : ∃ q, q = 4 - s := ⟨_, rfl⟩
      rw [← hq] at m1 m2 m3 m5
      have hl1 : (beN n s).length = s := beN_len n s
      have hs63 : s ≤ 140737488355328 := by omega
      have c1 : (q : Int) ≤ 4 := by omega
      have hbd : (b.length + s) * 1 ≤ 140737488355328 := by omega
      by_cases hb0 : b = []
      · subst hb0
        rw [List.nil_append, hl1]
        refine WK.regD 900 clsOf (by kernel_rfl) Tryz.ntmps52 (by kernel_rfl) (by kernel_rfl) ?_
        intro A hA Q hQ
        simp [m1, m2, m3, m5, m6, c1, byL_nil]
        refine RunQ.append0 900 901 appByte rfl rfl rfl rfl rfl rfl rfl (by simp [hs63, hl1, m6]) (by simp [hs63, hl1, m6]) (by simp [hs63, hl1, m6]) (by simp [hs63, hl1, m6]) (by simp [hs63, hl1, m6]) (by simp [hs63, hl1, m6]) (by simp) ?_
        refine RunQ.eval ?_
        simp [hs63, hl1, m6]
        refine hQ _ _ ?_
        clear hQ hA
        refine WK.retO Tryz.func52 (by rfl) (by rfl) (by simp (maxDischargeDepth := 120) [m6]) (by simp [m6])
      · have hbp : 0 < b.length := List.length_pos_iff.2 hb0
        rw [List.length_append, hl1]
        refine WK.regD 1000 clsOf (by kernel_rfl) Tryz.ntmps52 (by kernel_rfl) (by kernel_rfl) ?_
        intro A hA Q hQ
        simp [m1, m2, m3, m5, m6, c1, hf]
        refine RunQ.appendF 901 appByte rfl rfl rfl rfl rfl rfl (by simp [hbd, hl1, m6, hf]) rfl (by first | omega | simp [hbd, hl1, m6, hf]) (by first | omega | simp [hbd, hl1, m6, hf]) (by simp [hbd, hl1, m6, hf]) (by simp [hbd, hl1, m6, hf]) (by first | omega | simp [hbd, hl1, m6, hf]) (by simp) ?_
        refine RunQ.eval ?_
        simp [hbd, hl1, m6, hf]
        refine hQ _ _ ?_
        clear hQ hA
        refine WK.retO Tryz.func52 (by rfl) (by rfl) (by simp (maxDischargeDepth := 120) [byL_app, hf, m6, hl1]) (by simp [byL_app, hf, m6, hl1])
end Go.Proofs.YtcccfbjkcahgfaaGreat
end

section
set_option linter.unusedVariables false
set_option linter.unusedSimpArgs false
namespace Go.Proofs.YtcccfbjkcahgfaaGreat
open Go Go.AI Go.Proofs Go.Proofs.YtcccfbjkcahgfaaGreat
theorem byL_flat (l : List (BitVec 8)) : l.flatMap byE = byL l := by
  induction l with
  | nil => rfl
  | cons x l ih => rw [List.flatMap_cons, ih]; rfl
theorem rdByte {w : World} {H : Type} {enc : TypeId × Value → H} {sp : Nat → Bool} {held : Bool} : Rd enc Tryz.prog w sp held 5 byE := fun fuel cs x h => by
  obtain ⟨b, rfl⟩ := rd_u8 Tryz.underlying5 h
  exact ⟨b, RelL.cons (by simp [Rel, bI]) RelL.nil, fun v hv => by simp at hv; subst hv; rfl⟩
theorem allP1 {p : AV → Prop} {xs : List AV} (h : AllP [p] xs) : ∃ x, xs = [x] ∧ p x := by
  match xs, h with
  | [x], ⟨h0, _⟩ => exact ⟨x, rfl, h0⟩
end Go.Proofs.YtcccfbjkcahgfaaGreat
end

section
set_option linter.unusedVariables false
set_option linter.unusedSimpArgs false
namespace Go.Proofs.YtcccfbjkcahgfaaGreat
open Go Go.AI Go.Proofs

def valN (l : List (BitVec 8)) : Nat := l.foldl (fun n x => n * 256 + x.toNat) 0
theorem valN_snoc (l : List (BitVec 8)) (x : BitVec 8) : valN (l ++ [x]) = valN l * 256 + x.toNat := by simp [valN]
theorem valN_lt : ∀ (k : Nat) (l : List (BitVec 8)), l.length = k → valN l < 256 ^ k
  | 0, l, h => by rw [List.eq_nil_of_length_eq_zero h]; decide
  | k + 1, l, h => by
    have hne : l ≠ [] := by intro e; subst e; simp at h
    rw [← List.dropLast_concat_getLast hne, valN_snoc]
    have := valN_lt k l.dropLast (by rw [List.length_dropLast]; omega)
    have := (l.getLast hne).isLt
    rw [Nat.pow_succ]
    omega
/-- what is got: the number and what is wrong -/
def getN (b : List (BitVec 8)) (p s : Nat) : Int × Int := if p + s ≤ b.length then (valN ((b.drop p).take s), 0) else (0, 3)
theorem valN_le {b : List (BitVec 8)} {p s i : Nat} (hs : s ≤ 4) (hi : i ≤ s) (h : p + s ≤ b.length) : (valN (((b.drop p).take s).take i) : Int) < 4294967296 := by
  have hl : (((b.drop p).take s).take i).length = i := by simp only [List.length_take, List.length_drop]; omega
  have h1 := valN_lt i _ hl
  have h2 : 256 ^ i ≤ 256 ^ 4 := Nat.pow_le_pow_right (by decide) (by omega)
  have h3 : (256 : Nat) ^ 4 = 4294967296 := rfl
  omega
theorem by_get (b : List (BitVec 8)) (i : Nat) (h : i < b.length) (h' : i < (byL b).length) : (byL b)[i] = .int .u8 (bI (nth b i)) := by
  rw [nth_eq h]; simp [byL]
theorem or_byte (n : Nat) (x : BitVec 8) (h : n < 4294967296) : bOr .i64 ((n : Int) * 256) (bI x) = ((n * 256 + x.toNat : Nat) : Int) := by
  have hx := x.isLt
  unfold bOr bI
  show IntKind.wrap .i64 (((BitVec.ofInt 64 ((n : Int) * 256) ||| BitVec.ofInt 64 (x.toNat : Int)).toNat : Nat) : Int) = _
  have e1 : BitVec.ofInt 64 ((n : Int) * 256) = BitVec.ofNat 64 (n * 256) := by
    rw [← BitVec.ofInt_natCast]; congr 1
  have e2 : BitVec.ofInt 64 (x.toNat : Int) = BitVec.ofNat 64 x.toNat := by rw [← BitVec.ofInt_natCast]
  rw [e1, e2, BitVec.toNat_or, BitVec.toNat_ofNat, BitVec.toNat_ofNat, Nat.mod_eq_of_lt (by omega), Nat.mod_eq_of_lt (by omega)]
  have e3 : n * 256 ||| x.toNat = n * 256 + x.toNat := by
    have := Nat.two_pow_add_eq_or_of_lt (i := 8) (b := x.toNat) hx n
    rw [show (2 : Nat) ^ 8 = 256 from rfl, Nat.mul_comm] at this
    exact this.symm
  rw [e3, wrap_i64 (by omega) (by omega)]
theorem shl_byte (n : Nat) (h : n < 4294967296) : bShl .i64 (n : Int) 8 = (n : Int) * 256 := by
  unfold bShl
  show IntKind.wrap .i64 ((n : Int) * 2 ^ 8) = _
  rw [show (2 : Int) ^ 8 = 256 from rfl, wrap_i64 (by omega) (by omega)]
set_option maxHeartbeats 2000000 in
theorem nget_c (b : List (BitVec 8)) (p s : Nat) (hs : Sz s) (hb : b.length ≤ 9223372036854775807) (hp : p ≤ 1000000) :
    FnP Tryz.prog 38 [byS b, .int .i64 p, .int .i64 s] (.tup [.int .i64 (getN b p s).1, .int .i64 (getN b p s).2]) := by
  have hz := sized_c s hs
  have hs4 : s ≤ 4 := by rcases hs with rfl | rfl | rfl <;> omega
  have w1 : IntKind.i64.wrap ((b.length : Int) - p) = (b.length : Int) - p := wrap_i64 (by omega) (by omega)
  have w2 : IntKind.i64.wrap ((p : Int) + s) = ((p + s : Nat) : Int) := by rw [wrap_i64 (by omega) (by omega)]; omega
  unfold byS
  by_cases hle : p + s ≤ b.length
  case neg =>
    have e : getN b p s = (0, 3) := by unfold getN; rw [if_neg hle]
    have d : decide ((b.length : Int) - p < s) = true := decide_eq_true (by omega)
    refine FnP.intro Tryz.func38 rfl rfl fun G w => ?_
    repeat (refine WK.seq ?_)
    refine WK.reg 100 Tryz.ntmps38 (by kernel_rfl) ?_
    intro A hA Q hQ
    simp
    refine hQ _ _ ?_
    clear hQ hA
    repeat (refine WK.seq ?_)
    refine WK.reg 200 Tryz.ntmps38 (by kernel_rfl) ?_
    intro A hA Q hQ
    have hg3 : (A[3]?).bind (·.dst) = some 14 := by rw [hA]; rfl
    simp [hg3]
    refine RunQ.call rfl rfl rfl rfl (by rfl) (by simp (maxDischargeDepth := 120) [hg3]) (hz) (by simp [hg3]) ?_
    refine RunQ.eval ?_
    simp [hg3]
    refine hQ _ _ ?_
    clear hQ hA
    refine WK.cond2 rfl (fun h => ?_) (fun h => ?_)
    · cases h
    repeat (first | refine WK.seq ?_ | refine WK.skip ?_)
    refine WK.reg 300 Tryz.ntmps38 (by kernel_rfl) ?_
    intro A hA Q hQ
    simp [w1, d]
    refine hQ _ _ ?_
    clear hQ hA
    refine WK.cond2 rfl (fun h => ?_) (fun h => ?_)
    · repeat (refine WK.seq ?_)
      refine WK.reg 400 Tryz.ntmps38 (by kernel_rfl) ?_
      intro A hA Q hQ
      simp
      refine hQ _ _ ?_
      clear hQ hA
      refine WK.ret Tryz.func38 (by simp (maxDischargeDepth := 120) [Tryz.results38, e]) (by simp [e])
    · simp at h
  have e : getN b p s = ((valN ((b.drop p).take s) : Int), 0) := by unfold getN; rw [if_pos hle]
  have d : decide ((b.length : Int) - p < s) = false := decide_eq_false (by omega)
  have c1 : (p : Int) ≤ (p : Int) + s := by omega
  have c2 : (p : Int) + s ≤ b.length := by omega
  have c3 : ((p : Int) + s).toNat = p + s := by omega
  have c4 : p + s - p = s := by omega
  have c5 : (0 : Int) ≤ (p : Int) + s := by omega
  obtain ⟨l, hl⟩ : ∃ l, l = (b.drop p).take s := ⟨_, rfl⟩
  have hll : l.length = s := by rw [hl]; simp only [List.length_take, List.length_drop]; omega
  have hsl : ((byL b).drop p).take s = byL l := by rw [byL_drop, byL_take, hl]
  have hv0 : valN [] = 0 := rfl
  rw [← hl] at e
  refine FnP.intro Tryz.func38 rfl rfl fun G w => ?_
  repeat (refine WK.seq ?_)
  refine WK.reg 100 Tryz.ntmps38 (by kernel_rfl) ?_
  intro A hA Q hQ
  simp
  refine hQ _ _ ?_
  clear hQ hA
  repeat (refine WK.seq ?_)
  refine WK.reg 200 Tryz.ntmps38 (by kernel_rfl) ?_
  intro A hA Q hQ
  have hg3 : (A[3]?).bind (·.dst) = some 14 := by rw [hA]; rfl
  simp [hg3]
  refine RunQ.call rfl rfl rfl rfl (by rfl) (by simp (maxDischargeDepth := 120) [hg3]) (hz) (by simp [hg3]) ?_
  refine RunQ.eval ?_
  simp [hg3]
  refine hQ _ _ ?_
  clear hQ hA
  refine WK.cond2 rfl (fun h => ?_) (fun h => ?_)
  · cases h
  repeat (first | refine WK.seq ?_ | refine WK.skip ?_)
  refine WK.reg 300 Tryz.ntmps38 (by kernel_rfl) ?_
  intro A hA Q hQ
  simp [w1, d]
  refine hQ _ _ ?_
  clear hQ hA
  refine WK.cond2 rfl (fun h => ?_) (fun h => ?_)
  · simp at h
  repeat (first | refine WK.seq ?_ | refine WK.skip ?_)
  refine WK.reg 400 Tryz.ntmps38 (by kernel_rfl) ?_
  intro A hA Q hQ
  simp
  refine hQ _ _ ?_
  clear hQ hA
  repeat (refine WK.seq ?_)
  refine WK.reg 500 Tryz.ntmps38 (by kernel_rfl) ?_
  intro A hA Q hQ
  simp [w2, c1, c2, c3, c4, c5, hsl]
  refine hQ _ _ ?_
  clear hQ hA
  repeat (refine WK.block ?_)
  refine WK.loopI (fun n => n) (fun i : Nat => (⟨(upd (upd (upd (upd J 8 (.int .i64 (valN (l.take i)))) 29 (.sl false s (byL l))) 30 (.int .i64 s)) 31 (.int .i64 i)), B0, 0⟩ : St)) (fun i => i ≤ s) (fun i => s - i) (0) (by repeat (first | exact TmW.nil | refine TmW.upd ?_ (by simp (maxDischargeDepth := 120) [hv0]))) (by repeat (first | exact BxW.nil | refine BxW.upd ?_ (by simp (maxDischargeDepth := 120) [hv0]))) (by first | exact InjW.id | exact InjW.nil | exact InjW.one | exact InjW.two (by simp) | exact InjW.three (by simp) (by simp) (by simp)) (Nat.zero_le _) (fun i hi IH => ?_)
  repeat (refine WK.seq ?_)
  refine WK.reg 600 Tryz.ntmps38 (by kernel_rfl) ?_
  intro A hA Q hQ
  simp
  refine hQ _ _ ?_
  clear hQ hA
  repeat (refine WK.seq ?_)
  refine WK.cond2 rfl (fun h1 => ?_) (fun h1 => ?_)
  · simp at h1
    have h2 : i < s := by omega
    have h2' : i < l.length := by omega
    have h6 : IntKind.i64.wrap ((i : Int) + 1) = i + 1 := wrap_i64 (by omega) (by omega)
    have hg := by_get l i h2'
    have hlt := valN_le (b := b) (p := p) hs4 (Nat.le_of_lt h2) hle
    rw [← hl] at hlt
    have hlt' : valN (l.take i) < 4294967296 := by omega
    have o1 := shl_byte _ hlt'
    have o2 := or_byte _ (nth l i) hlt'
    have o3 : valN (l.take (i + 1)) = valN (l.take i) * 256 + (nth l i).toNat := by rw [take_nth h2', valN_snoc]
    rw [← o3] at o2
    have o4 : IntKind.i64.wrap (bI (nth l i)) = bI (nth l i) := by have := bI_lt (nth l i); exact wrap_i64 (by omega) (by omega)
    repeat (first | refine WK.seq ?_ | refine WK.block ?_ | refine WK.skip ?_)
    refine WK.reg 700 Tryz.ntmps38 (by kernel_rfl) ?_
    intro A hA Q hQ
    simp [h2, h2', hll, hg]
    refine hQ _ _ ?_
    clear hQ hA
    refine WK.reg 800 Tryz.ntmps38 (by kernel_rfl) ?_
    intro A hA Q hQ
    simp [o1, o2, o4]
    refine hQ _ _ ?_
    clear hQ hA
    repeat (refine WK.inBlock ?_)
    refine WK.reg 900 Tryz.ntmps38 (by kernel_rfl) ?_
    intro A hA Q hQ
    simp [h6]
    refine hQ _ _ ?_
    clear hQ hA
    refine WK.next (fun n => n) (IH (i + 1) (by omega) (by first | omega | (dsimp only; omega))) (by repeat (first | exact TmW.nil | refine TmW.upd ?_ (by simp (maxDischargeDepth := 120) [h6]))) (by repeat (first | exact BxW.nil | refine BxW.upd ?_ (by simp (maxDischargeDepth := 120) [h6]))) (by first | exact InjW.id | exact InjW.nil | exact InjW.one | exact InjW.two (by simp) | exact InjW.three (by simp) (by simp) (by simp))
  · simp at h1
    have h2 : i = s := by omega
    have hT : l.take i = l := by rw [h2]; exact List.take_of_length_le (by omega)
    rw [hT]
    repeat (first | refine WK.seq ?_ | refine WK.exit rfl ?_)
    refine WK.reg 1000 Tryz.ntmps38 (by kernel_rfl) ?_
    intro A hA Q hQ
    simp
    refine hQ _ _ ?_
    clear hQ hA
    refine WK.ret Tryz.func38 (by simp (maxDischargeDepth := 120) [Tryz.results38, e]) (by simp [e])
end Go.Proofs.YtcccfbjkcahgfaaGreat
end

section
set_option linter.unusedVariables false
set_option linter.unusedSimpArgs false
namespace Go.Proofs.YtcccfbjkcahgfaaGreat
open Go Go.AI Go.Proofs

def fID (f : Int) : Int := (fRow f).1
def fMasks (f : Int) : Bool := (fRow f).2.2
def fSize (f : Int) : Nat := ((fBits f).toNat + 7) / 8
theorem fRow_ok (f : Int) : (-1 ≤ (fRow f).1 ∧ (fRow f).1 ≤ 34) ∧ 0 ≤ (fRow f).2.1 ∧ (fRow f).2.1 ≤ 128 := by
  unfold fRow
  split
  · have h : f.toNat < fRows.length := by show f.toNat < 24; omega
    have : ∀ r, r ∈ fRows → (-1 ≤ r.1 ∧ r.1 ≤ 34) ∧ 0 ≤ r.2.1 ∧ r.2.1 ≤ 128 := by decide
    exact this _ (nth_mem h)
  · decide
theorem fSize_le (f : Int) : fSize f ≤ 16 := by
  have := fRow_ok f
  unfold fSize fBits; omega
theorem fid_c (f : Int) : FnP Tryz.prog 241 [.int .i64 f] (.int .i64 (fID f)) := by
  refine FnP.intro Tryz.func241 rfl rfl fun G w => ?_
  repeat (refine WK.seq ?_)
  refine WK.reg 100 Tryz.ntmps241 (by kernel_rfl) ?_
  intro A hA Q hQ
  simp
  refine hQ _ _ ?_
  clear hQ hA
  repeat (refine WK.seq ?_)
  refine WK.reg 200 Tryz.ntmps241 (by kernel_rfl) ?_
  intro A hA Q hQ
  simp
  refine RunQ.call rfl rfl rfl rfl (by rfl) (by simp (maxDischargeDepth := 120) [rowEnc]) (fat_c f) (by simp [rowEnc]) ?_
  refine RunQ.eval ?_
  simp [rowEnc]
  refine hQ _ _ ?_
  clear hQ hA
  refine WK.ret Tryz.func241 (by simp (maxDischargeDepth := 120) [Tryz.results241, fID]) (by simp [fID])
theorem fmasks_c (f : Int) : FnP Tryz.prog 182 [.int .i64 f] (.bool (fMasks f)) := by
  refine FnP.intro Tryz.func182 rfl rfl fun G w => ?_
  repeat (refine WK.seq ?_)
  refine WK.reg 100 Tryz.ntmps182 (by kernel_rfl) ?_
  intro A hA Q hQ
  simp
  refine hQ _ _ ?_
  clear hQ hA
  repeat (refine WK.seq ?_)
  refine WK.reg 200 Tryz.ntmps182 (by kernel_rfl) ?_
  intro A hA Q hQ
  simp
  refine RunQ.call rfl rfl rfl rfl (by rfl) (by simp (maxDischargeDepth := 120) [rowEnc]) (fat_c f) (by simp [rowEnc]) ?_
  refine RunQ.eval ?_
  simp [rowEnc]
  refine hQ _ _ ?_
  clear hQ hA
  refine WK.ret Tryz.func182 (by simp (maxDischargeDepth := 120) [Tryz.results182, fMasks]) (by simp [fMasks])
theorem fsize_c (f : Int) : FnP Tryz.prog 160 [.int .i64 f] (.int .i64 (fSize f)) := by
  have h := (fRow_ok f).2
  have h1 : IntKind.i64.wrap ((fRow f).2.1 + 7) = (fRow f).2.1 + 7 := wrap_i64 (by omega) (by omega)
  have h2 : bShr .i64 ((fRow f).2.1 + 7) 3 = fSize f := by
    have := shr_i64 ((fRow f).2.1 + 7) 3 (by omega)
    rw [show ((3 : Nat) : Int) = 3 from rfl] at this
    rw [this, show (2 : Int) ^ 3 = 8 from rfl]
    unfold fSize fBits; omega
  refine FnP.intro Tryz.func160 rfl rfl fun G w => ?_
  repeat (refine WK.seq ?_)
  refine WK.reg 100 Tryz.ntmps160 (by kernel_rfl) ?_
  intro A hA Q hQ
  simp
  refine hQ _ _ ?_
  clear hQ hA
  repeat (refine WK.seq ?_)
  refine WK.reg 200 Tryz.ntmps160 (by kernel_rfl) ?_
  intro A hA Q hQ
  simp
  refine RunQ.call rfl rfl rfl rfl (by rfl) (by simp (maxDischargeDepth := 120) [rowEnc, h1, h2]) (fat_c f) (by simp [rowEnc, h1, h2]) ?_
  refine RunQ.eval ?_
  simp [rowEnc, h1, h2]
  refine hQ _ _ ?_
  clear hQ hA
  refine WK.ret Tryz.func160 (by simp (maxDischargeDepth := 120) [Tryz.results160]) (by simp)
/-- the first field of a number -/
def fIndexN (id : Int) (n : Nat) : Option Nat := (List.range n).find? fun f => (nth fRows f).1 == id
def fIndex (id : Int) : Int × Bool := match fIndexN id 24 with | some f => (f, true) | none => (0, false)
theorem fIndex_some {id : Int} {n : Nat} (hn : n < 24) (h : ∀ j, j < n → ((nth fRows j).1 == id) = false) (he : ((nth fRows n).1 == id) = true) : fIndex id = ((n : Int), true) := by
  unfold fIndex fIndexN
  have : (List.range 24).find? (fun f => (nth fRows f).1 == id) = some n := by
    rw [List.find?_range_eq_some]
    exact ⟨he, List.mem_range.2 hn, fun j hj => by rw [h j hj]; rfl⟩
  rw [this]
theorem fIndex_none {id : Int} (h : ∀ j, j < 24 → ((nth fRows j).1 == id) = false) : fIndex id = (0, false) := by
  unfold fIndex fIndexN
  have : (List.range 24).find? (fun f => (nth fRows f).1 == id) = none := by
    rw [List.find?_eq_none]; intro j hj; rw [h j (List.mem_range.1 hj)]; simp
  rw [this]
theorem fRow_nat (i : Nat) (h : i < 24) : fRow i = nth fRows i := by unfold fRow; rw [if_pos (by omega)]; rfl
theorem rowsC_cl : ClL rowsC = true := ClL_flatMap _ rowEnc_cl _
theorem findex_c (id : Int) : FnP Tryz.prog 181 [.int .i64 id] (.tup [.int .i64 (fIndex id).1, .bool (fIndex id).2]) := by
  refine FnP.intro Tryz.func181 rfl rfl fun G w => ?_
  repeat (refine WK.seq ?_)
  refine WK.reg 100 Tryz.ntmps181 (by kernel_rfl) ?_
  intro A hA Q hQ
  simp
  refine hQ _ _ ?_
  clear hQ hA
  repeat (refine WK.seq ?_)
  refine WK.reg 200 Tryz.ntmps181 (by kernel_rfl) ?_
  intro A hA Q hQ
  simp
  refine RunQ.call rfl rfl rfl rfl (by rfl) (by simp (maxDischargeDepth := 120)) (rows_c) (by simp) ?_
  refine RunQ.eval ?_
  simp
  refine hQ _ _ ?_
  clear hQ hA
  repeat (refine WK.block ?_)
  refine WK.loopI (fun n => n) (fun i : Nat => (⟨(upd (upd (upd J 0 (.int .i64 id)) 6 (.agg rowsC)) 7 (.int .i64 i)), B0, 0⟩ : St)) (fun i => i ≤ 24 ∧ ∀ j, j < i → ((nth fRows j).1 == id) = false) (fun i => 24 - i) (0) (by repeat (first | exact TmW.nil | refine TmW.upd ?_ (by simp (maxDischargeDepth := 120) [rowsC_cl]))) (by repeat (first | exact BxW.nil | refine BxW.upd ?_ (by simp (maxDischargeDepth := 120) [rowsC_cl]))) (by first | exact InjW.id | exact InjW.nil | exact InjW.one | exact InjW.two (by simp) | exact InjW.three (by simp) (by simp) (by simp)) (⟨by omega, by simp⟩) (fun i hi IH => ?_)
  repeat (refine WK.seq ?_)
  refine WK.reg 300 Tryz.ntmps181 (by kernel_rfl) ?_
  intro A hA Q hQ
  simp
  refine hQ _ _ ?_
  clear hQ hA
  repeat (refine WK.seq ?_)
  refine WK.cond2 rfl (fun h1 => ?_) (fun h1 => ?_)
  · simp at h1
    have h2 : i < 24 := by omega
    have h2' : (i : Int) < 24 := by omega
    have h3 : i * 4 + 4 ≤ 96 := by omega
    have h4 := row_sub i ⟨by omega, by omega⟩
    rw [Int.toNat_natCast, fRow_nat i h2] at h4
    have h6 : IntKind.i64.wrap ((i : Int) + 1) = i + 1 := wrap_i64 (by omega) (by omega)
    repeat (first | refine WK.seq ?_ | refine WK.block ?_ | refine WK.skip ?_)
    refine WK.reg 400 Tryz.ntmps181 (by kernel_rfl) ?_
    intro A hA Q hQ
    simp [h2, h2', h3, h4, rowEnc]
    refine hQ _ _ ?_
    clear hQ hA
    repeat (refine WK.seq ?_)
    refine WK.reg 500 Tryz.ntmps181 (by kernel_rfl) ?_
    intro A hA Q hQ
    simp
    refine hQ _ _ ?_
    clear hQ hA
    refine WK.cond2 rfl (fun h5 => ?_) (fun h5 => ?_)
    · have e := fIndex_some h2 hi.2 h5
      repeat (refine WK.seq ?_)
      refine WK.reg 600 Tryz.ntmps181 (by kernel_rfl) ?_
      intro A hA Q hQ
      simp
      refine hQ _ _ ?_
      clear hQ hA
      refine WK.ret Tryz.func181 (by simp (maxDischargeDepth := 120) [Tryz.results181, e]) (by simp [e])
    · repeat (first | refine WK.inBlock ?_ | refine WK.skip ?_)
      refine WK.reg 700 Tryz.ntmps181 (by kernel_rfl) ?_
      intro A hA Q hQ
      simp [h6]
      refine hQ _ _ ?_
      clear hQ hA
      refine WK.next (fun n => n) (IH (i + 1) (⟨by omega, fun j hj => by by_cases h7 : j = i; (subst h7; exact h5); exact hi.2 j (by omega)⟩) (by first | omega | (dsimp only; omega))) (by repeat (first | exact TmW.nil | refine TmW.upd ?_ (by simp (maxDischargeDepth := 120) [h6, rowsC_cl]))) (by repeat (first | exact BxW.nil | refine BxW.upd ?_ (by simp (maxDischargeDepth := 120) [h6, rowsC_cl]))) (by first | exact InjW.id | exact InjW.nil | exact InjW.one | exact InjW.two (by simp) | exact InjW.three (by simp) (by simp) (by simp))
  · simp at h1
    have e := fIndex_none (id := id) (fun j hj => hi.2 j (by omega))
    repeat (first | refine WK.seq ?_ | refine WK.exit rfl ?_)
    refine WK.reg 800 Tryz.ntmps181 (by kernel_rfl) ?_
    intro A hA Q hQ
    simp
    refine hQ _ _ ?_
    clear hQ hA
    refine WK.ret Tryz.func181 (by simp (maxDischargeDepth := 120) [Tryz.results181, e]) (by simp [e])
end Go.Proofs.YtcccfbjkcahgfaaGreat
end

section
set_option linter.unusedVariables false
set_option linter.unusedSimpArgs false
namespace Go.Proofs.YtcccfbjkcahgfaaGreat
open Go Go.AI Go.Proofs

/-- eight bits of a number -/
def hb (x : BitVec 64) (k : Nat) : BitVec 8 := (x >>> k).setWidth 8
theorem wrap_u8u (x : BitVec 64) : IntKind.wrap .u8 (uI x) = bI (x.setWidth 8) := by
  rw [wrap_u8, bI_of]; unfold bI uI; rw [BitVec.toNat_setWidth]; omega
theorem shr_uI (x : BitVec 64) (k : Nat) (hk : k ≤ 64) : bShr .u64 (uI x) k = uI (x >>> k) := by
  unfold bShr
  have : min (Int.toNat (k : Int)) (IntKind.bits .u64) = k := by show min (Int.toNat (k : Int)) 64 = k; omega
  rw [this, Int.fdiv_eq_ediv_of_nonneg _ (by exact Int.le_of_lt (Int.pow_pos (by decide)))]
  unfold uI
  rw [BitVec.toNat_ushiftRight, Nat.shiftRight_eq_div_pow]
  simp
theorem by_set (l : List (BitVec 8)) (i : Nat) (v : BitVec 8) (h : i < l.length) : (byL l).take i ++ .int .u8 (bI v) :: (byL l).drop (i + 1) = byL (l.set i v) := by
  unfold byL
  rw [List.map_set, List.set_eq_take_append_cons_drop]
  simp [h]
def wBytes (a : Wide) : List (BitVec 8) := (List.range 16).map fun j => if j < 8 then hb a.hi (56 - 8 * j) else hb a.lo (56 - 8 * (j - 8))
def wAt (a : Wide) (i : Nat) : List (BitVec 8) := (List.range 16).map fun j => if j < 8 then (if j < i then hb a.hi (56 - 8 * j) else 0#8) else (if j - 8 < i then hb a.lo (56 - 8 * (j - 8)) else 0#8)
theorem wAt_len (a : Wide) (i : Nat) : (wAt a i).length = 16 := by simp [wAt]
theorem wAt_zero (a : Wide) : byL (wAt a 0) = List.replicate 16 (.int .u8 0) := rfl
theorem wAt_eight (a : Wide) : wAt a 8 = wBytes a := rfl
theorem wAt_succ (a : Wide) (i : Nat) (h : i < 8) : ((wAt a i).set i (hb a.hi (56 - 8 * i))).set (8 + i) (hb a.lo (56 - 8 * i)) = wAt a (i + 1) := by
  match i, h with
  | 0, _ => rfl
  | 1, _ => rfl
  | 2, _ => rfl
  | 3, _ => rfl
  | 4, _ => rfl
  | 5, _ => rfl
  | 6, _ => rfl
  | 7, _ => rfl
def wPut (b : List (BitVec 8)) (a : Wide) (s : Nat) : List (BitVec 8) := b ++ (wBytes a).drop (16 - s)
theorem wBytes_len (a : Wide) : (wBytes a).length = 16 := by simp [wBytes]
theorem wPut_len (b : List (BitVec 8)) (a : Wide) (s : Nat) (h : s ≤ 16) : (wPut b a s).length = b.length + s := by simp [wPut, wBytes_len]; omega
set_option maxHeartbeats 4000000 in
theorem wput_c (b : List (BitVec 8)) (a : Wide) (s : Nat) (hs : s ≤ 16) (hb' : b.length ≤ 1000000) : FnO Tryz.prog 235 [byS b, .agg a.enc, .int .i64 s] (wPut b a s).length 1 (byL (wPut b a s)) := by
  have hf := by_full b b.length rfl
  have hbd : b.length ≤ 140737488355328 := by omega
  have hz := wAt_zero a
  rw [wPut_len b a s hs]
  unfold byS
  refine FnO.intro Tryz.func235 rfl rfl fun G w => ?_
  repeat (refine WK.seq ?_)
  refine WK.reg 100 Tryz.ntmps235 (by kernel_rfl) ?_
  intro A hA Q hQ
  simp
  refine hQ _ _ ?_
  clear hQ hA
  repeat (refine WK.seq ?_)
  refine WK.ghost (Ghost.frzVar 4 rfl rfl) ?_
  refine WK.reg 200 Tryz.ntmps235 (by kernel_rfl) ?_
  intro A hA Q hQ
  simp
  refine hQ _ _ ?_
  clear hQ hA
  repeat (refine WK.seq ?_)
  refine WK.reg 300 Tryz.ntmps235 (by kernel_rfl) ?_
  intro A hA Q hQ
  simp
  refine hQ _ _ ?_
  clear hQ hA
  repeat (refine WK.block ?_)
  refine WK.loopI (fun _ => 100) (fun i : Nat => (⟨(upd (upd (upd (upd (upd J 0 (.sl false b.length (byL b))) 2 (.int .i64 s)) 4 (.iptr a.enc)) 7 (.ptr 1 0)) 10 (.int .i64 i)), (upd B0 1 (.var (byL (wAt a i)))), 0⟩ : St)) (fun i => i ≤ 8) (fun i => 8 - i) (0) (by repeat (first | exact TmW.nil | refine TmW.upd ?_ (by simp (maxDischargeDepth := 120) [hz]))) (by repeat (first | exact BxW.nil | refine BxW.upd ?_ (by simp (maxDischargeDepth := 120) [hz]))) (by first | exact InjW.id | exact InjW.nil | exact InjW.one | exact InjW.two (by simp) | exact InjW.three (by simp) (by simp) (by simp)) (by omega) (fun i hi IH => ?_)
  repeat (refine WK.seq ?_)
  refine WK.reg 400 Tryz.ntmps235 (by kernel_rfl) ?_
  intro A hA Q hQ
  simp
  refine hQ _ _ ?_
  clear hQ hA
  repeat (refine WK.seq ?_)
  refine WK.cond2 rfl (fun h1 => ?_) (fun h1 => ?_)
  · simp at h1
    have h2 : i < 8 := by omega
    have h2' : (i : Int) < 16 := by omega
    have h6 : IntKind.i64.wrap ((i : Int) + 1) = i + 1 := wrap_i64 (by omega) (by omega)
    have m0 : IntKind.i64.wrap (8 + (i : Int)) = 8 + (i : Int) := wrap_i64 (by omega) (by omega)
    have m1 : IntKind.i64.wrap (8 * (i : Int)) = 8 * (i : Int) := wrap_i64 (by omega) (by omega)
    have m2 : IntKind.i64.wrap (56 - 8 * (i : Int)) = ((56 - 8 * i : Nat) : Int) := by rw [wrap_i64 (by omega) (by omega)]; omega
    have hsu := wAt_succ a i h2
    obtain ⟨q, hq⟩ : ∃ q, q = 56 - 8 * i := ⟨_, rfl⟩
    rw [← hq] at m2 hsu
    have m3 := shr_uI a.hi q (by omega)
    have m4 := shr_uI a.lo q (by omega)
    have m5 : IntKind.wrap .u8 (uI (a.hi >>> q)) = bI (hb a.hi q) := wrap_u8u _
    have m6 : IntKind.wrap .u8 (uI (a.lo >>> q)) = bI (hb a.lo q) := wrap_u8u _
    have hl := wAt_len a i
    have s1 := by_set (wAt a i) i (hb a.hi q) (by omega)
    have s2 := by_set ((wAt a i).set i (hb a.hi q)) (8 + i) (hb a.lo q) (by rw [List.length_set]; omega)
    rw [hsu] at s2
    have c1 : (8 : Int) + i < 16 := by omega
    have c2 : ((8 : Int) + i).toNat = 8 + i := by omega
    have c3 : (0 : Int) ≤ 8 + (i : Int) := by omega
    have m7 : ¬ (q : Int) < 0 := by omega
    have c4 : i + 1 ≤ 16 := by omega
    have c5 : 8 + i + 1 ≤ 16 := by omega
    repeat (first | refine WK.seq ?_ | refine WK.block ?_ | refine WK.skip ?_)
    refine WK.reg 500 Tryz.ntmps235 (by kernel_rfl) ?_
    intro A hA Q hQ
    simp
    refine hQ _ _ ?_
    clear hQ hA
    refine WK.regD 600 (clsM [(16, 77), (23, 77), (30, 1), (31, 1)]) (by kernel_rfl) Tryz.ntmps235 (by kernel_rfl) (by kernel_rfl) ?_
    intro A hA Q hQ
    simp [Wide.enc, m0, m1, m2, m3, m4, m5, m6, m7, h2, h2', hl, s1, s2, c1, c2, c3, c4, c5]
    refine hQ _ _ ?_
    clear hQ hA
    repeat (refine WK.inBlock ?_)
    refine WK.reg 700 Tryz.ntmps235 (by kernel_rfl) ?_
    intro A hA Q hQ
    simp [h6]
    refine hQ _ _ ?_
    clear hQ hA
    refine WK.next (fun n => n) (IH (i + 1) (by omega) (by first | omega | (dsimp only; omega))) (by repeat (first | exact TmW.nil | refine TmW.upd ?_ (by simp (maxDischargeDepth := 120) [h6, Wide.enc]))) (by repeat (first | exact BxW.nil | refine BxW.upd ?_ (by simp (maxDischargeDepth := 120) [h6, Wide.enc]))) (by first | exact InjW.id | exact InjW.nil | exact InjW.one | exact InjW.two (by simp) | exact InjW.three (by simp) (by simp) (by simp))
  · simp at h1
    have hi8 : i = 8 := by omega
    subst hi8
    rw [wAt_eight]
    repeat (first | refine WK.seq ?_ | refine WK.exit rfl ?_)
    refine WK.ghost (Ghost.frzVar 7 rfl rfl) ?_
    refine WK.reg 800 Tryz.ntmps235 (by kernel_rfl) ?_
    intro A hA Q hQ
    simp
    refine RunQ.append0 900 901 appByte rfl rfl rfl rfl rfl rfl rfl (by simp [hbd]) (by simp [hbd]) (by simp [hbd]) (by simp [hbd]) (by simp [hbd]) (by simp [hbd]) (by simp) ?_
    refine RunQ.eval ?_
    simp [hbd]
    refine hQ _ _ ?_
    clear hQ hA
    obtain ⟨q, hq⟩ : ∃ q, q = 16 - s := ⟨_, rfl⟩
    have mx : ¬ (s : Int) < 0 := by omega
    have mn : ¬ (16 : Int) < s := by omega
    have m1 : IntKind.i64.wrap (16 - (s : Int)) = (q : Int) := by rw [wrap_i64 (by omega) (by omega)]; omega
    have m2 : (q : Int) ≤ 16 := by omega
    have m3 : 16 - q = s := by omega
    have hwl := wBytes_len a
    have hdl : ((wBytes a).drop q).length = s := by rw [List.length_drop, hwl]; omega
    have m5 : (byL (wBytes a)).drop q = byL ((wBytes a).drop q) := byL_drop _ _
    have m6 : (byL ((wBytes a).drop q)).take s = byL ((wBytes a).drop q) := by_full _ _ hdl.symm
    have e : wPut b a s = b ++ (wBytes a).drop q := by unfold wPut; rw [hq]
    have hbd2 : b.length + s ≤ 140737488355328 := by omega
    rw [e, hf]
    repeat (refine WK.seq ?_)
    refine WK.reg 900 Tryz.ntmps235 (by kernel_rfl) ?_
    intro A hA Q hQ
    simp [mx, mn, m1, m2, m3, m5, m6]
    refine RunQ.append 902 appByte rfl rfl rfl rfl rfl rfl rfl (by simp [hbd2, hdl, m6]) rfl (by simp [hbd2, hdl, m6]) (by simp [hbd2, hdl, m6]) (by simp [hbd2, hdl, m6]) (by simp [hbd2, hdl, m6]) ?_
    refine RunQ.eval ?_
    simp [hbd2, hdl, m6]
    refine hQ _ _ ?_
    clear hQ hA
    refine WK.retO Tryz.func235 (by rfl) (by rfl) (by simp (maxDischargeDepth := 120) [byL_app, m6]) (by simp [byL_app, m6])
end Go.Proofs.YtcccfbjkcahgfaaGreat
end
