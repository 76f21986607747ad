/- Buckets: read and written by the program. -/
import Derived.Test.YteonfhnljphbpaaGreatWk9
import Derived.Test.YteonfhnljphbpaaGreatAf
set_option linter.all false
set_option linter.unnecessarySimpa false
section
set_option linter.unusedVariables false
set_option linter.unusedSimpArgs false
namespace Go.Proofs.YteonfhnljphbpaaGreat
open Go Go.AI Go.Proofs
attribute [local irreducible] FnP FnO FnB FnT FnSeq WK RunQ RunQW RunX RunXW

theorem app_buk : AppOk Tryz.prog 24 58 4 48 := ⟨by simp, by simp, by simp, by simp, by simp, by simp, by omega, by omega⟩
theorem eqf_buk (fid : Nat) (caps : List AV) (p : Bucket → Bucket → Bool) (l m : List Bucket) (hcl : ClL caps = true) (hl : l.length ≤ 1000000)
    (hf : ∀ x, x ∈ l → ∀ y, y ∈ m → FnP Tryz.prog fid (.agg x.enc :: .agg y.enc :: caps) (.bool (p x y))) :
    FnP Tryz.prog 81 [bukS l, bukS m, .fn fid caps] (.bool (eqBy p l m)) := by
  unfold bukS
  refine FnP.intro Tryz.func81 rfl rfl fun G w => ?_
  repeat (first | refine WK.seq ?_ | refine WK.block ?_ | refine WK.inBlock ?_ | refine WK.skip ?_ | refine WK.label ?_ | refine WK.scope ?_ | refine WK.inScope ?_ | refine WK.exit rfl ?_)
  first | refine WK.reg 100 Tryz.ntmps81 (by kernel_rfl) ?_ | refine WK.regD 100 clsOf (by kernel_rfl) Tryz.ntmps81 (by kernel_rfl) (by kernel_rfl) ?_
  intro A hA Q hQ
  simp
  refine hQ _ _ ?_
  clear hQ hA
  repeat (first | refine WK.seq ?_ | refine WK.block ?_ | refine WK.inBlock ?_ | refine WK.skip ?_ | refine WK.label ?_ | refine WK.scope ?_ | refine WK.inScope ?_ | refine WK.exit rfl ?_)
  first | refine WK.reg 200 Tryz.ntmps81 (by kernel_rfl) ?_ | refine WK.regD 200 clsOf (by kernel_rfl) Tryz.ntmps81 (by kernel_rfl) (by kernel_rfl) ?_
  intro A hA Q hQ
  simp
  refine hQ _ _ ?_
  clear hQ hA
  repeat (first | refine WK.seq ?_ | refine WK.block ?_ | refine WK.inBlock ?_ | refine WK.skip ?_ | refine WK.label ?_ | refine WK.scope ?_ | refine WK.inScope ?_ | refine WK.exit rfl ?_)
  refine WK.cond2 rfl (fun h => ?_) (fun h => ?_)
  · simp at h
    have e : eqBy p l m = false := by unfold eqBy; simp; intro e; omega
    repeat (first | refine WK.seq ?_ | refine WK.block ?_ | refine WK.inBlock ?_ | refine WK.skip ?_ | refine WK.label ?_ | refine WK.scope ?_ | refine WK.inScope ?_ | refine WK.exit rfl ?_)
    first | refine WK.reg 300 Tryz.ntmps81 (by kernel_rfl) ?_ | refine WK.regD 300 clsOf (by kernel_rfl) Tryz.ntmps81 (by kernel_rfl) (by kernel_rfl) ?_
    intro A hA Q hQ
    simp
    refine hQ _ _ ?_
    clear hQ hA
    repeat (first | refine WK.seq ?_ | refine WK.block ?_ | refine WK.inBlock ?_ | refine WK.skip ?_ | refine WK.label ?_ | refine WK.scope ?_ | refine WK.inScope ?_ | refine WK.exit rfl ?_)
    refine WK.ret Tryz.func81 (by simp (maxDischargeDepth := 120) [Tryz.results81, e]) (by simp [e])
  · simp at h
    have hlm : l.length = m.length := by omega
    repeat (first | refine WK.seq ?_ | refine WK.block ?_ | refine WK.inBlock ?_ | refine WK.skip ?_ | refine WK.label ?_ | refine WK.scope ?_ | refine WK.inScope ?_ | refine WK.exit rfl ?_)
    first | refine WK.reg 400 Tryz.ntmps81 (by kernel_rfl) ?_ | refine WK.regD 400 clsOf (by kernel_rfl) Tryz.ntmps81 (by kernel_rfl) (by kernel_rfl) ?_
    intro A hA Q hQ
    simp
    refine hQ _ _ ?_
    clear hQ hA
    repeat (first | refine WK.seq ?_ | refine WK.block ?_ | refine WK.inBlock ?_ | refine WK.skip ?_ | refine WK.label ?_ | refine WK.scope ?_ | refine WK.inScope ?_ | refine WK.exit rfl ?_)
    refine WK.loopI (fun n => n) (fun i : Nat => (⟨(upd (upd (upd (upd (upd (upd J 0 (.sl false l.length (bukL l))) 1 (.sl false m.length (bukL m))) 2 (.fn fid caps)) 15 (.sl false l.length (bukL l))) 16 (.int .i64 l.length)) 17 (.int .i64 i)), B0, 0⟩ : St)) (fun i => i ≤ l.length ∧ ∀ j, j < i → p (nth l j) (nth m j) = true) (fun i => l.length - i) (0) (by repeat (first | exact TmW.nil | refine TmW.upd ?_ (by simp (maxDischargeDepth := 120) [hcl]))) (by repeat (first | exact BxW.nil | refine BxW.upd ?_ (by simp (maxDischargeDepth := 120) [hcl]))) (by first | exact InjW.id | exact InjW.nil | exact InjW.one | exact InjW.two (by simp) | exact InjW.three (by simp) (by simp) (by simp)) (⟨by omega, by simp⟩) (fun i hi IH => ?_)
    repeat (first | refine WK.seq ?_ | refine WK.block ?_ | refine WK.inBlock ?_ | refine WK.skip ?_ | refine WK.label ?_ | refine WK.scope ?_ | refine WK.inScope ?_ | refine WK.exit rfl ?_)
    first | refine WK.reg 500 Tryz.ntmps81 (by kernel_rfl) ?_ | refine WK.regD 500 clsOf (by kernel_rfl) Tryz.ntmps81 (by kernel_rfl) (by kernel_rfl) ?_
    intro A hA Q hQ
    simp
    refine hQ _ _ ?_
    clear hQ hA
    repeat (first | refine WK.seq ?_ | refine WK.block ?_ | refine WK.inBlock ?_ | refine WK.skip ?_ | refine WK.label ?_ | refine WK.scope ?_ | refine WK.inScope ?_ | refine WK.exit rfl ?_)
    refine WK.cond2 rfl (fun h1 => ?_) (fun h1 => ?_)
    · simp at h1
      have h2 : i < l.length := by omega
      have h2' : i < m.length := by omega
      have h3 : 4 ≤ l.length * 4 - i * 4 := by omega
      have h3' : 4 ≤ m.length * 4 - i * 4 := by omega
      have h4 := buk_sub l i h2
      have h4' := buk_sub m i h2'
      have h6 : IntKind.i64.wrap ((i : Int) + 1) = i + 1 := wrap_i64 (by omega) (by omega)
      repeat (first | refine WK.seq ?_ | refine WK.block ?_ | refine WK.inBlock ?_ | refine WK.skip ?_ | refine WK.label ?_ | refine WK.scope ?_ | refine WK.inScope ?_ | refine WK.exit rfl ?_)
      first | refine WK.reg 600 Tryz.ntmps81 (by kernel_rfl) ?_ | refine WK.regD 600 clsOf (by kernel_rfl) Tryz.ntmps81 (by kernel_rfl) (by kernel_rfl) ?_
      intro A hA Q hQ
      simp [h2, h3, h4]
      refine hQ _ _ ?_
      clear hQ hA
      repeat (first | refine WK.seq ?_ | refine WK.block ?_ | refine WK.inBlock ?_ | refine WK.skip ?_ | refine WK.label ?_ | refine WK.scope ?_ | refine WK.inScope ?_ | refine WK.exit rfl ?_)
      first | refine WK.reg 700 Tryz.ntmps81 (by kernel_rfl) ?_ | refine WK.regD 700 clsOf (by kernel_rfl) Tryz.ntmps81 (by kernel_rfl) (by kernel_rfl) ?_
      intro A hA Q hQ
      simp [h2', h3', h4']
      refine hQ _ _ ?_
      clear hQ hA
      repeat (first | refine WK.seq ?_ | refine WK.block ?_ | refine WK.inBlock ?_ | refine WK.skip ?_ | refine WK.label ?_ | refine WK.scope ?_ | refine WK.inScope ?_ | refine WK.exit rfl ?_)
      first | refine WK.reg 800 Tryz.ntmps81 (by kernel_rfl) ?_ | refine WK.regD 800 clsOf (by kernel_rfl) Tryz.ntmps81 (by kernel_rfl) (by kernel_rfl) ?_
      intro A hA Q hQ
      simp
      refine RunQ.call rfl rfl rfl rfl (by rfl) (by simp (maxDischargeDepth := 120) [hcl]) (hf (nth l i) (nth_mem h2) (nth m i) (nth_mem h2')) (by simp [hcl]) ?_
      refine RunQ.eval ?_
      simp [hcl]
      refine hQ _ _ ?_
      clear hQ hA
      repeat (first | refine WK.seq ?_ | refine WK.block ?_ | refine WK.inBlock ?_ | refine WK.skip ?_ | refine WK.label ?_ | refine WK.scope ?_ | refine WK.inScope ?_ | refine WK.exit rfl ?_)
      refine WK.cond2 rfl (fun h5 => ?_) (fun h5 => ?_)
      · simp at h5
        have e : eqBy p l m = false := by unfold eqBy; rw [all_range_false (p := fun i => p (nth l i) (nth m i)) h2 h5]; simp
        repeat (first | refine WK.seq ?_ | refine WK.block ?_ | refine WK.inBlock ?_ | refine WK.skip ?_ | refine WK.label ?_ | refine WK.scope ?_ | refine WK.inScope ?_ | refine WK.exit rfl ?_)
        first | refine WK.reg 900 Tryz.ntmps81 (by kernel_rfl) ?_ | refine WK.regD 900 clsOf (by kernel_rfl) Tryz.ntmps81 (by kernel_rfl) (by kernel_rfl) ?_
        intro A hA Q hQ
        simp
        refine hQ _ _ ?_
        clear hQ hA
        repeat (first | refine WK.seq ?_ | refine WK.block ?_ | refine WK.inBlock ?_ | refine WK.skip ?_ | refine WK.label ?_ | refine WK.scope ?_ | refine WK.inScope ?_ | refine WK.exit rfl ?_)
        refine WK.ret Tryz.func81 (by simp (maxDischargeDepth := 120) [Tryz.results81, e]) (by simp [e])
      · simp at h5
        repeat (first | refine WK.seq ?_ | refine WK.block ?_ | refine WK.inBlock ?_ | refine WK.skip ?_ | refine WK.label ?_ | refine WK.scope ?_ | refine WK.inScope ?_ | refine WK.exit rfl ?_)
        first | refine WK.reg 1000 Tryz.ntmps81 (by kernel_rfl) ?_ | refine WK.regD 1000 clsOf (by kernel_rfl) Tryz.ntmps81 (by kernel_rfl) (by kernel_rfl) ?_
        intro A hA Q hQ
        simp [h6]
        refine hQ _ _ ?_
        clear hQ hA
        repeat (first | refine WK.seq ?_ | refine WK.block ?_ | refine WK.inBlock ?_ | refine WK.skip ?_ | refine WK.label ?_ | refine WK.scope ?_ | refine WK.inScope ?_ | refine WK.exit rfl ?_)
        refine WK.next (fun n => n) (IH (i + 1) (⟨by omega, fun j hj => by by_cases h7 : j = i; (subst h7; exact h5); exact hi.2 j (by omega)⟩) (by first | omega | (dsimp only; omega))) (by repeat (first | exact TmW.nil | refine TmW.upd ?_ (by simp (maxDischargeDepth := 120) [hcl]))) (by repeat (first | exact BxW.nil | refine BxW.upd ?_ (by simp (maxDischargeDepth := 120) [hcl]))) (by first | exact InjW.id | exact InjW.nil | exact InjW.one | exact InjW.two (by simp) | exact InjW.three (by simp) (by simp) (by simp))
    · simp at h1
      have e : eqBy p l m = true := by unfold eqBy; rw [all_range_true (p := fun i => p (nth l i) (nth m i)) (fun j hj => hi.2 j (by omega))]; simp [hlm]
      repeat (first | refine WK.seq ?_ | refine WK.block ?_ | refine WK.inBlock ?_ | refine WK.skip ?_ | refine WK.label ?_ | refine WK.scope ?_ | refine WK.inScope ?_ | refine WK.exit rfl ?_)
      first | refine WK.reg 1100 Tryz.ntmps81 (by kernel_rfl) ?_ | refine WK.regD 1100 clsOf (by kernel_rfl) Tryz.ntmps81 (by kernel_rfl) (by kernel_rfl) ?_
      intro A hA Q hQ
      simp
      refine hQ _ _ ?_
      clear hQ hA
      repeat (first | refine WK.seq ?_ | refine WK.block ?_ | refine WK.inBlock ?_ | refine WK.skip ?_ | refine WK.label ?_ | refine WK.scope ?_ | refine WK.inScope ?_ | refine WK.exit rfl ?_)
      refine WK.ret Tryz.func81 (by simp (maxDischargeDepth := 120) [Tryz.results81, e]) (by simp [e])
theorem indexf_buk (fid : Nat) (caps : List AV) (p : Bucket → Bool) (l : List Bucket) (hcl : ClL caps = true) (hl : l.length ≤ 1000000)
    (hf : ∀ x, x ∈ l → FnP Tryz.prog fid (.agg x.enc :: caps) (.bool (p x))) :
    FnP Tryz.prog 77 [bukS l, .fn fid caps] (.int .i64 (idxI p l)) := by
  unfold bukS
  refine FnP.intro Tryz.func77 rfl rfl fun G w => ?_
  repeat (first | refine WK.seq ?_ | refine WK.block ?_ | refine WK.inBlock ?_ | refine WK.skip ?_ | refine WK.label ?_ | refine WK.scope ?_ | refine WK.inScope ?_ | refine WK.exit rfl ?_)
  first | refine WK.reg 100 Tryz.ntmps77 (by kernel_rfl) ?_ | refine WK.regD 100 clsOf (by kernel_rfl) Tryz.ntmps77 (by kernel_rfl) (by kernel_rfl) ?_
  intro A hA Q hQ
  simp
  refine hQ _ _ ?_
  clear hQ hA
  repeat (first | refine WK.seq ?_ | refine WK.block ?_ | refine WK.inBlock ?_ | refine WK.skip ?_ | refine WK.label ?_ | refine WK.scope ?_ | refine WK.inScope ?_ | refine WK.exit rfl ?_)
  first | refine WK.reg 200 Tryz.ntmps77 (by kernel_rfl) ?_ | refine WK.regD 200 clsOf (by kernel_rfl) Tryz.ntmps77 (by kernel_rfl) (by kernel_rfl) ?_
  intro A hA Q hQ
  simp
  refine hQ _ _ ?_
  clear hQ hA
  repeat (first | refine WK.seq ?_ | refine WK.block ?_ | refine WK.inBlock ?_ | refine WK.skip ?_ | refine WK.label ?_ | refine WK.scope ?_ | refine WK.inScope ?_ | refine WK.exit rfl ?_)
  refine WK.loopI (fun n => n) (fun i : Nat => (⟨(upd (upd (upd (upd J 0 (.sl false l.length (bukL l))) 1 (.fn fid caps)) 7 (.int .i64 l.length)) 8 (.int .i64 i)), B0, 0⟩ : St)) (fun i => i ≤ l.length ∧ ∀ j, j < i → p (nth l j) = false) (fun i => l.length - i) (0) (by repeat (first | exact TmW.nil | refine TmW.upd ?_ (by simp (maxDischargeDepth := 120) [hcl]))) (by repeat (first | exact BxW.nil | refine BxW.upd ?_ (by simp (maxDischargeDepth := 120) [hcl]))) (by first | exact InjW.id | exact InjW.nil | exact InjW.one | exact InjW.two (by simp) | exact InjW.three (by simp) (by simp) (by simp)) (⟨by omega, by simp⟩) (fun i hi IH => ?_)
  repeat (first | refine WK.seq ?_ | refine WK.block ?_ | refine WK.inBlock ?_ | refine WK.skip ?_ | refine WK.label ?_ | refine WK.scope ?_ | refine WK.inScope ?_ | refine WK.exit rfl ?_)
  first | refine WK.reg 300 Tryz.ntmps77 (by kernel_rfl) ?_ | refine WK.regD 300 clsOf (by kernel_rfl) Tryz.ntmps77 (by kernel_rfl) (by kernel_rfl) ?_
  intro A hA Q hQ
  simp
  refine hQ _ _ ?_
  clear hQ hA
  repeat (first | refine WK.seq ?_ | refine WK.block ?_ | refine WK.inBlock ?_ | refine WK.skip ?_ | refine WK.label ?_ | refine WK.scope ?_ | refine WK.inScope ?_ | refine WK.exit rfl ?_)
  refine WK.cond2 rfl (fun h1 => ?_) (fun h1 => ?_)
  · simp at h1
    have h2 : i < l.length := by omega
    have h3 : 4 ≤ l.length * 4 - i * 4 := by omega
    have h4 := buk_sub l i h2
    have h6 : IntKind.i64.wrap ((i : Int) + 1) = i + 1 := wrap_i64 (by omega) (by omega)
    repeat (first | refine WK.seq ?_ | refine WK.block ?_ | refine WK.inBlock ?_ | refine WK.skip ?_ | refine WK.label ?_ | refine WK.scope ?_ | refine WK.inScope ?_ | refine WK.exit rfl ?_)
    first | refine WK.reg 400 Tryz.ntmps77 (by kernel_rfl) ?_ | refine WK.regD 400 clsOf (by kernel_rfl) Tryz.ntmps77 (by kernel_rfl) (by kernel_rfl) ?_
    intro A hA Q hQ
    simp
    refine hQ _ _ ?_
    clear hQ hA
    repeat (first | refine WK.seq ?_ | refine WK.block ?_ | refine WK.inBlock ?_ | refine WK.skip ?_ | refine WK.label ?_ | refine WK.scope ?_ | refine WK.inScope ?_ | refine WK.exit rfl ?_)
    first | refine WK.reg 500 Tryz.ntmps77 (by kernel_rfl) ?_ | refine WK.regD 500 clsOf (by kernel_rfl) Tryz.ntmps77 (by kernel_rfl) (by kernel_rfl) ?_
    intro A hA Q hQ
    simp [h2, h3, h4]
    refine RunQ.call rfl rfl rfl rfl (by rfl) (by simp (maxDischargeDepth := 120) [hcl]) (hf (nth l i) (nth_mem h2)) (by simp [hcl]) ?_
    refine RunQ.eval ?_
    simp [hcl]
    refine hQ _ _ ?_
    clear hQ hA
    repeat (first | refine WK.seq ?_ | refine WK.block ?_ | refine WK.inBlock ?_ | refine WK.skip ?_ | refine WK.label ?_ | refine WK.scope ?_ | refine WK.inScope ?_ | refine WK.exit rfl ?_)
    refine WK.cond2 rfl (fun h5 => ?_) (fun h5 => ?_)
    · have e := idxI_some h2 h5 hi.2
      repeat (first | refine WK.seq ?_ | refine WK.block ?_ | refine WK.inBlock ?_ | refine WK.skip ?_ | refine WK.label ?_ | refine WK.scope ?_ | refine WK.inScope ?_ | refine WK.exit rfl ?_)
      first | refine WK.reg 600 Tryz.ntmps77 (by kernel_rfl) ?_ | refine WK.regD 600 clsOf (by kernel_rfl) Tryz.ntmps77 (by kernel_rfl) (by kernel_rfl) ?_
      intro A hA Q hQ
      simp
      refine hQ _ _ ?_
      clear hQ hA
      repeat (first | refine WK.seq ?_ | refine WK.block ?_ | refine WK.inBlock ?_ | refine WK.skip ?_ | refine WK.label ?_ | refine WK.scope ?_ | refine WK.inScope ?_ | refine WK.exit rfl ?_)
      refine WK.ret Tryz.func77 (by simp (maxDischargeDepth := 120) [Tryz.results77, e]) (by simp [e])
    · repeat (first | refine WK.seq ?_ | refine WK.block ?_ | refine WK.inBlock ?_ | refine WK.skip ?_ | refine WK.label ?_ | refine WK.scope ?_ | refine WK.inScope ?_ | refine WK.exit rfl ?_)
      first | refine WK.reg 700 Tryz.ntmps77 (by kernel_rfl) ?_ | refine WK.regD 700 clsOf (by kernel_rfl) Tryz.ntmps77 (by kernel_rfl) (by kernel_rfl) ?_
      intro A hA Q hQ
      simp [h6]
      refine hQ _ _ ?_
      clear hQ hA
      repeat (first | refine WK.seq ?_ | refine WK.block ?_ | refine WK.inBlock ?_ | refine WK.skip ?_ | refine WK.label ?_ | refine WK.scope ?_ | refine WK.inScope ?_ | refine WK.exit rfl ?_)
      refine WK.next (fun n => n) (IH (i + 1) (⟨by omega, fun j hj => by by_cases h7 : j = i; (subst h7; exact h5); exact hi.2 j (by omega)⟩) (by first | omega | (dsimp only; omega))) (by repeat (first | exact TmW.nil | refine TmW.upd ?_ (by simp (maxDischargeDepth := 120) [hcl]))) (by repeat (first | exact BxW.nil | refine BxW.upd ?_ (by simp (maxDischargeDepth := 120) [hcl]))) (by first | exact InjW.id | exact InjW.nil | exact InjW.one | exact InjW.two (by simp) | exact InjW.three (by simp) (by simp) (by simp))
  · simp at h1
    have e := idxI_none (p := p) (l := l) (fun j hj => hi.2 j (by omega))
    repeat (first | refine WK.seq ?_ | refine WK.block ?_ | refine WK.inBlock ?_ | refine WK.skip ?_ | refine WK.label ?_ | refine WK.scope ?_ | refine WK.inScope ?_ | refine WK.exit rfl ?_)
    first | refine WK.reg 800 Tryz.ntmps77 (by kernel_rfl) ?_ | refine WK.regD 800 clsOf (by kernel_rfl) Tryz.ntmps77 (by kernel_rfl) (by kernel_rfl) ?_
    intro A hA Q hQ
    simp
    refine hQ _ _ ?_
    clear hQ hA
    repeat (first | refine WK.seq ?_ | refine WK.block ?_ | refine WK.inBlock ?_ | refine WK.skip ?_ | refine WK.label ?_ | refine WK.scope ?_ | refine WK.inScope ?_ | refine WK.exit rfl ?_)
    refine WK.ret Tryz.func77 (by simp (maxDischargeDepth := 120) [Tryz.results77, e]) (by simp [e])
theorem containsf_buk (fid : Nat) (caps : List AV) (p : Bucket → Bool) (l : List Bucket) (hcl : ClL caps = true) (hl : l.length ≤ 1000000)
    (hf : ∀ x, x ∈ l → FnP Tryz.prog fid (.agg x.enc :: caps) (.bool (p x))) :
    FnP Tryz.prog 41 [bukS l, .fn fid caps] (.bool (l.any p)) := by
  have e := idxI_ge p l
  simp only [ge_iff_le] at e
  refine FnP.intro Tryz.func41 rfl rfl fun G w => ?_
  repeat (first | refine WK.seq ?_ | refine WK.block ?_ | refine WK.inBlock ?_ | refine WK.skip ?_ | refine WK.label ?_ | refine WK.scope ?_ | refine WK.inScope ?_ | refine WK.exit rfl ?_)
  first | refine WK.reg 100 Tryz.ntmps41 (by kernel_rfl) ?_ | refine WK.regD 100 clsOf (by kernel_rfl) Tryz.ntmps41 (by kernel_rfl) (by kernel_rfl) ?_
  intro A hA Q hQ
  simp
  refine hQ _ _ ?_
  clear hQ hA
  repeat (first | refine WK.seq ?_ | refine WK.block ?_ | refine WK.inBlock ?_ | refine WK.skip ?_ | refine WK.label ?_ | refine WK.scope ?_ | refine WK.inScope ?_ | refine WK.exit rfl ?_)
  first | refine WK.reg 200 Tryz.ntmps41 (by kernel_rfl) ?_ | refine WK.regD 200 clsOf (by kernel_rfl) Tryz.ntmps41 (by kernel_rfl) (by kernel_rfl) ?_
  intro A hA Q hQ
  simp
  refine RunQ.call rfl rfl rfl rfl (by rfl) (by simp (maxDischargeDepth := 120) [hcl]) (indexf_buk fid caps p l hcl hl hf) (by simp [hcl]) ?_
  refine RunQ.eval ?_
  simp [hcl]
  refine hQ _ _ ?_
  clear hQ hA
  repeat (first | refine WK.seq ?_ | refine WK.block ?_ | refine WK.inBlock ?_ | refine WK.skip ?_ | refine WK.label ?_ | refine WK.scope ?_ | refine WK.inScope ?_ | refine WK.exit rfl ?_)
  refine WK.ret Tryz.func41 (by simp (maxDischargeDepth := 120) [Tryz.results41, e]) (by simp [e])
def gFault : Option (Int × Int) → List AV
  | none => [.bool false, .int .i64 0, .int .i64 0]
  | some x => [.bool true, .int .i64 x.1, .int .i64 x.2]
@[simp] theorem gFault_cl (c : Option (Int × Int)) : ClL (gFault c) = true := by cases c <;> rfl
theorem aFault_g (c : Option Int) : aFault c = gFault (c.map fun c => (2, c)) := by cases c <;> rfl
theorem bbad_c (c : Int) : FnP Tryz.prog 72 [.int .i64 c] (.agg (gFault (some (6, c)))) := by
  refine FnP.intro Tryz.func72 rfl rfl fun G w => ?_
  repeat' (first
   | refine WK.seq ?_
   | refine WK.block ?_
   | refine WK.inBlock ?_
   | refine WK.skip ?_
   | refine WK.label ?_
   | refine WK.scope ?_
   | refine WK.inScope ?_
   | refine WK.exit rfl ?_
   | refine WK.condT rfl ?_
   | refine WK.condF rfl ?_
   | (refine Hid.h hQ _ _ ?_; clear hQ hA)
   | refine WK.condAny rfl ?_ ?_
   | ((first | refine WK.cond2 rfl (fun h => ?_) (fun h => ?_)) <;> (first | (simp [*] at h; done) | (have h2 := h; simp at h2; exfalso; omega) | (have h2 := h; simp at h2; try simp only [Bool.not_eq_true', Bool.not_eq_false'] at h) | skip))
   | (refine WK.regH Tryz.ntmps72 (by kernel_rfl) ?_; intro A hA Q hQ; simp [*])
   | (refine WK.ret Tryz.func72 ?_ ?_ <;> simp (maxDischargeDepth := 120) [Tryz.results72, gFault, *])
   | fail)
theorem bone1_c (x : BitVec 8) : FnP Tryz.prog 98 [.int .u8 (bI x)] (.bool (!(x == 0#8))) := by
  have e := bI_zero x
  refine FnP.intro Tryz.func98 rfl rfl fun G w => ?_
  repeat' (first
   | refine WK.seq ?_
   | refine WK.block ?_
   | refine WK.inBlock ?_
   | refine WK.skip ?_
   | refine WK.label ?_
   | refine WK.scope ?_
   | refine WK.inScope ?_
   | refine WK.exit rfl ?_
   | refine WK.condT rfl ?_
   | refine WK.condF rfl ?_
   | (refine Hid.h hQ _ _ ?_; clear hQ hA)
   | refine WK.condAny rfl ?_ ?_
   | ((first | refine WK.cond2 rfl (fun h => ?_) (fun h => ?_)) <;> (first | (simp [*] at h; done) | (have h2 := h; simp at h2; exfalso; omega) | (have h2 := h; simp at h2; try simp only [Bool.not_eq_true', Bool.not_eq_false'] at h) | skip))
   | (refine WK.regH Tryz.ntmps98 (by kernel_rfl) ?_; intro A hA Q hQ; simp [bne, *])
   | (refine WK.ret Tryz.func98 ?_ ?_ <;> simp (maxDischargeDepth := 120) [Tryz.results98, bne, *])
   | fail)
theorem any_allZ (l : List (BitVec 8)) : (l.any fun x => !(x == 0#8)) = !allZ l := by unfold allZ; rw [List.any_eq_not_all_not]; simp
set_option maxHeartbeats 4000000 in
theorem bone_c (b : List (BitVec 8)) (hb : b.length ≤ 1000000) : FnP Tryz.prog 73 [byS b] (.tup [.agg (bkRead b).1.enc, .int .i64 (bkRead b).2.1, .agg (gFault (bkRead b).2.2)]) := by
  have g0 := nget_c b 0 2 Sz2 (by omega) (by omega)
  have bb := bbad_c 12
  have hz := containsf_by 98 [] (fun x => !(x == 0#8)) ((b.drop 12).take 4) rfl (by rw [List.length_take, List.length_drop]; omega) (fun x _ => bone1_c x)
  rw [any_allZ] at hz
  by_cases c0 : b.length < 16
  · have e : bkRead b = (buk0, 0, some (6, 12)) := by unfold bkRead; rw [if_pos (.inl c0)]
    rw [e]
    have c0' : (b.length : Int) < 16 := by omega
    obtain ⟨q, hq⟩ : ∃ q, getN b 0 2 = q := ⟨_, rfl⟩
    rw [hq] at g0
    unfold byS at *
    clear hz hq
    refine FnP.intro Tryz.func73 rfl rfl fun G w => ?_
    repeat' (first
     | refine WK.seq ?_
     | refine WK.block ?_
     | refine WK.inBlock ?_
     | refine WK.skip ?_
     | refine WK.label ?_
     | refine WK.scope ?_
     | refine WK.inScope ?_
     | refine WK.exit rfl ?_
     | refine WK.condT rfl ?_
     | refine WK.condF rfl ?_
     | (refine Hid.h hQ _ _ ?_; clear hQ hA)
     | refine WK.condAny rfl ?_ ?_
     | ((first | refine WK.cond2 rfl (fun h => ?_) (fun h => ?_) | refine Fork.mk (fun h => ?_) (fun h => ?_)) <;> (first | (simp [*] at h; done) | (have h2 := h; simp at h2; exfalso; omega) | (have h2 := h; simp at h2; try simp only [Bool.not_eq_true', Bool.not_eq_false'] at h) | skip))
     | ((first | refine WK.regH Tryz.ntmps73 (by kernel_rfl) ?_ | refine WK.regX (by kernel_rfl) Tryz.ntmps73 (by kernel_rfl) ?_); intro A hA Q hQ; simp [gFault, buk0, Bucket.enc, *])
     | (refine Hid.h hQ _ _ _ (by decide +kernel) ?_; clear hQ hA)
     | ((first | refine RunQ.gd rfl (by rw [hA.h]; rfl) ?_ | refine RunX.gd rfl (by rw [hA.h]; rfl) ?_); simp [gFault, buk0, Bucket.enc, *])
     | ((first | ((first | refine RunQ.call rfl rfl rfl rfl rfl ?_ (g0) ?_ ?_ | refine RunQW.call rfl rfl rfl rfl ?_ (g0) ?_ ?_ | refine RunX.call rfl rfl rfl rfl ?_ (g0) ?_ ?_ | refine RunXW.call rfl rfl rfl ?_ (g0) ?_ ?_); (focus (simp (maxDischargeDepth := 120) [gFault, buk0, Bucket.enc, *]; done))) | ((first | refine RunQ.call rfl rfl rfl rfl rfl ?_ (bb) ?_ ?_ | refine RunQW.call rfl rfl rfl rfl ?_ (bb) ?_ ?_ | refine RunX.call rfl rfl rfl rfl ?_ (bb) ?_ ?_ | refine RunXW.call rfl rfl rfl ?_ (bb) ?_ ?_); (focus (simp (maxDischargeDepth := 120) [gFault, buk0, Bucket.enc, *]; done)))); (focus (simp [gFault, buk0, Bucket.enc, *]; done)); (first | refine RunQ.evalH ?_ | refine RunX.evalY ?_); simp [gFault, buk0, Bucket.enc, *])
     | (refine WK.ret Tryz.func73 ?_ ?_ <;> simp (maxDischargeDepth := 120) [Tryz.results73, gFault, buk0, Bucket.enc, *])
     | fail)
  have c0' : ¬ (b.length : Int) < 16 := by omega
  have hdef : bkRead b = if (getN b 0 2).1 < 16 ∨ ¬ (getN b 0 2).1 % 8 = 0 ∨ (b.length : Int) < (getN b 0 2).1 ∨ allZ ((b.drop 12).take 4) = false then (buk0, 0, some (6, 12))
    else (⟨(getN b 2 2).1, (getN b 4 4).1, (getN b 8 4).1, (acDec ((b.drop 16).take ((getN b 0 2).1.toNat - 16))).1⟩, (getN b 0 2).1, (acDec ((b.drop 16).take ((getN b 0 2).1.toNat - 16))).2.map fun c => (2, c)) := by
    unfold bkRead
    by_cases hh : (getN b 0 2).1 < 16 ∨ ¬ (getN b 0 2).1 % 8 = 0 ∨ (b.length : Int) < (getN b 0 2).1 ∨ allZ ((b.drop 12).take 4) = false
    · rw [if_pos hh, if_pos (.inr hh)]
    · rw [if_neg hh, if_neg fun h => hh (h.resolve_left c0)]
  have hlt : valN ((b.drop 0).take 2) < 65536 := valN_lt 2 _ (by simp; omega)
  rw [getN_val (by omega)] at g0 hdef
  obtain ⟨n, hn⟩ : ∃ n, valN ((b.drop 0).take 2) = n := ⟨_, rfl⟩
  rw [hn] at g0 hdef hlt
  simp only [Int.toNat_natCast] at hdef
  have m7 := bAnd7 n hlt
  have z7 : (((n % 8 : Nat) : Int) == 0) = (n % 8 == 0) := by rw [Bool.eq_iff_iff, beq_iff_eq, beq_iff_eq]; omega
  have hz4 : ((byL b).drop 12).take 4 = byL ((b.drop 12).take 4) := by rw [byL_drop, byL_take]
  have hl4 : ((b.drop 12).take 4).length = 4 := by rw [List.length_take, List.length_drop]; omega
  obtain ⟨Z, hZ⟩ : ∃ Z, (b.drop 12).take 4 = Z := ⟨_, rfl⟩
  rw [hZ] at hz hz4 hdef hl4
  have c0b : (16 : Int) ≤ b.length := by omega
  have c0c : (12 : Int) ≤ b.length := by omega
  clear hn hZ
  obtain ⟨z, hz0⟩ : ∃ z, allZ Z = z := ⟨_, rfl⟩
  rw [hz0] at hz hdef
  clear hz0
  by_cases c1 : n < 16
  · have e : bkRead b = (buk0, 0, some (6, 12)) := by rw [hdef, if_pos (.inl (by omega))]
    have d1 : (n : Int) < 16 := by omega
    rw [e]
    unfold byS at *
    clear hdef hz
    refine FnP.intro Tryz.func73 rfl rfl fun G w => ?_
    repeat' (first
     | refine WK.seq ?_
     | refine WK.block ?_
     | refine WK.inBlock ?_
     | refine WK.skip ?_
     | refine WK.label ?_
     | refine WK.scope ?_
     | refine WK.inScope ?_
     | refine WK.exit rfl ?_
     | refine WK.condT rfl ?_
     | refine WK.condF rfl ?_
     | (refine Hid.h hQ _ _ ?_; clear hQ hA)
     | refine WK.condAny rfl ?_ ?_
     | ((first | refine WK.cond2 rfl (fun h => ?_) (fun h => ?_) | refine Fork.mk (fun h => ?_) (fun h => ?_)) <;> (first | (simp [*] at h; done) | (have h2 := h; simp at h2; exfalso; omega) | (have h2 := h; simp at h2; try simp only [Bool.not_eq_true', Bool.not_eq_false'] at h) | skip))
     | ((first | refine WK.regH Tryz.ntmps73 (by kernel_rfl) ?_ | refine WK.regX (by kernel_rfl) Tryz.ntmps73 (by kernel_rfl) ?_); intro A hA Q hQ; simp [gFault, buk0, Bucket.enc, *])
     | (refine Hid.h hQ _ _ _ (by decide +kernel) ?_; clear hQ hA)
     | ((first | refine RunQ.gd rfl (by rw [hA.h]; rfl) ?_ | refine RunX.gd rfl (by rw [hA.h]; rfl) ?_); simp [gFault, buk0, Bucket.enc, *])
     | ((first | ((first | refine RunQ.call rfl rfl rfl rfl rfl ?_ (g0) ?_ ?_ | refine RunQW.call rfl rfl rfl rfl ?_ (g0) ?_ ?_ | refine RunX.call rfl rfl rfl rfl ?_ (g0) ?_ ?_ | refine RunXW.call rfl rfl rfl ?_ (g0) ?_ ?_); (focus (simp (maxDischargeDepth := 120) [gFault, buk0, Bucket.enc, *]; done))) | ((first | refine RunQ.call rfl rfl rfl rfl rfl ?_ (bb) ?_ ?_ | refine RunQW.call rfl rfl rfl rfl ?_ (bb) ?_ ?_ | refine RunX.call rfl rfl rfl rfl ?_ (bb) ?_ ?_ | refine RunXW.call rfl rfl rfl ?_ (bb) ?_ ?_); (focus (simp (maxDischargeDepth := 120) [gFault, buk0, Bucket.enc, *]; done)))); (focus (simp [gFault, buk0, Bucket.enc, *]; done)); (first | refine RunQ.evalH ?_ | refine RunX.evalY ?_); simp [gFault, buk0, Bucket.enc, *])
     | (refine WK.ret Tryz.func73 ?_ ?_ <;> simp (maxDischargeDepth := 120) [Tryz.results73, gFault, buk0, Bucket.enc, *])
     | fail)
  have d1 : ¬ (n : Int) < 16 := by omega
  by_cases c2 : n % 8 = 0
  case neg =>
    have e : bkRead b = (buk0, 0, some (6, 12)) := by rw [hdef, if_pos (.inr (.inl (by omega)))]
    have d2 : (n % 8 == 0) = false := by simpa using c2
    rw [d2] at z7
    rw [e]
    unfold byS at *
    obtain ⟨r, hr⟩ : ∃ r, n % 8 = r := ⟨_, rfl⟩
    rw [hr] at m7 z7
    clear hdef hz hr c2 d2
    refine FnP.intro Tryz.func73 rfl rfl fun G w => ?_
    repeat' (first
     | refine WK.seq ?_
     | refine WK.block ?_
     | refine WK.inBlock ?_
     | refine WK.skip ?_
     | refine WK.label ?_
     | refine WK.scope ?_
     | refine WK.inScope ?_
     | refine WK.exit rfl ?_
     | refine WK.condT rfl ?_
     | refine WK.condF rfl ?_
     | (refine Hid.h hQ _ _ ?_; clear hQ hA)
     | refine WK.condAny rfl ?_ ?_
     | ((first | refine WK.cond2 rfl (fun h => ?_) (fun h => ?_) | refine Fork.mk (fun h => ?_) (fun h => ?_)) <;> (first | (simp [*] at h; done) | (have h2 := h; simp at h2; exfalso; omega) | (have h2 := h; simp at h2; try simp only [Bool.not_eq_true', Bool.not_eq_false'] at h) | skip))
     | ((first | refine WK.regH Tryz.ntmps73 (by kernel_rfl) ?_ | refine WK.regX (by kernel_rfl) Tryz.ntmps73 (by kernel_rfl) ?_); intro A hA Q hQ; simp [gFault, buk0, Bucket.enc, bne, *])
     | (refine Hid.h hQ _ _ _ (by decide +kernel) ?_; clear hQ hA)
     | ((first | refine RunQ.gd rfl (by rw [hA.h]; rfl) ?_ | refine RunX.gd rfl (by rw [hA.h]; rfl) ?_); simp [gFault, buk0, Bucket.enc, bne, *])
     | ((first | ((first | refine RunQ.call rfl rfl rfl rfl rfl ?_ (g0) ?_ ?_ | refine RunQW.call rfl rfl rfl rfl ?_ (g0) ?_ ?_ | refine RunX.call rfl rfl rfl rfl ?_ (g0) ?_ ?_ | refine RunXW.call rfl rfl rfl ?_ (g0) ?_ ?_); (focus (simp (maxDischargeDepth := 120) [gFault, buk0, Bucket.enc, bne, *]; done))) | ((first | refine RunQ.call rfl rfl rfl rfl rfl ?_ (bb) ?_ ?_ | refine RunQW.call rfl rfl rfl rfl ?_ (bb) ?_ ?_ | refine RunX.call rfl rfl rfl rfl ?_ (bb) ?_ ?_ | refine RunXW.call rfl rfl rfl ?_ (bb) ?_ ?_); (focus (simp (maxDischargeDepth := 120) [gFault, buk0, Bucket.enc, bne, *]; done)))); (focus (simp [gFault, buk0, Bucket.enc, bne, *]; done)); (first | refine RunQ.evalH ?_ | refine RunX.evalY ?_); simp [gFault, buk0, Bucket.enc, bne, *])
     | (refine WK.ret Tryz.func73 ?_ ?_ <;> simp (maxDischargeDepth := 120) [Tryz.results73, gFault, buk0, Bucket.enc, bne, *])
     | fail)
  have d2 : (n % 8 == 0) = true := by simpa using c2
  rw [d2] at z7
  by_cases c3 : b.length < n
  · have e : bkRead b = (buk0, 0, some (6, 12)) := by rw [hdef, if_pos (.inr (.inr (.inl (by omega))))]
    have d3 : (b.length : Int) < n := by omega
    rw [e]
    unfold byS at *
    obtain ⟨r, hr⟩ : ∃ r, n % 8 = r := ⟨_, rfl⟩
    rw [hr] at m7 z7
    clear hdef hz hr c2 d2
    refine FnP.intro Tryz.func73 rfl rfl fun G w => ?_
    repeat' (first
     | refine WK.seq ?_
     | refine WK.block ?_
     | refine WK.inBlock ?_
     | refine WK.skip ?_
     | refine WK.label ?_
     | refine WK.scope ?_
     | refine WK.inScope ?_
     | refine WK.exit rfl ?_
     | refine WK.condT rfl ?_
     | refine WK.condF rfl ?_
     | (refine Hid.h hQ _ _ ?_; clear hQ hA)
     | refine WK.condAny rfl ?_ ?_
     | ((first | refine WK.cond2 rfl (fun h => ?_) (fun h => ?_) | refine Fork.mk (fun h => ?_) (fun h => ?_)) <;> (first | (simp [*] at h; done) | (have h2 := h; simp at h2; exfalso; omega) | (have h2 := h; simp at h2; try simp only [Bool.not_eq_true', Bool.not_eq_false'] at h) | skip))
     | ((first | refine WK.regH Tryz.ntmps73 (by kernel_rfl) ?_ | refine WK.regX (by kernel_rfl) Tryz.ntmps73 (by kernel_rfl) ?_); intro A hA Q hQ; simp [gFault, buk0, Bucket.enc, bne, *])
     | (refine Hid.h hQ _ _ _ (by decide +kernel) ?_; clear hQ hA)
     | ((first | refine RunQ.gd rfl (by rw [hA.h]; rfl) ?_ | refine RunX.gd rfl (by rw [hA.h]; rfl) ?_); simp [gFault, buk0, Bucket.enc, bne, *])
     | ((first | ((first | refine RunQ.call rfl rfl rfl rfl rfl ?_ (g0) ?_ ?_ | refine RunQW.call rfl rfl rfl rfl ?_ (g0) ?_ ?_ | refine RunX.call rfl rfl rfl rfl ?_ (g0) ?_ ?_ | refine RunXW.call rfl rfl rfl ?_ (g0) ?_ ?_); (focus (simp (maxDischargeDepth := 120) [gFault, buk0, Bucket.enc, bne, *]; done))) | ((first | refine RunQ.call rfl rfl rfl rfl rfl ?_ (bb) ?_ ?_ | refine RunQW.call rfl rfl rfl rfl ?_ (bb) ?_ ?_ | refine RunX.call rfl rfl rfl rfl ?_ (bb) ?_ ?_ | refine RunXW.call rfl rfl rfl ?_ (bb) ?_ ?_); (focus (simp (maxDischargeDepth := 120) [gFault, buk0, Bucket.enc, bne, *]; done)))); (focus (simp [gFault, buk0, Bucket.enc, bne, *]; done)); (first | refine RunQ.evalH ?_ | refine RunX.evalY ?_); simp [gFault, buk0, Bucket.enc, bne, *])
     | (refine WK.ret Tryz.func73 ?_ ?_ <;> simp (maxDischargeDepth := 120) [Tryz.results73, gFault, buk0, Bucket.enc, bne, *])
     | fail)
  have d3 : ¬ (b.length : Int) < n := by omega
  obtain ⟨r, hr⟩ : ∃ r, n % 8 = r := ⟨_, rfl⟩
  rw [hr] at m7 z7
  cases z
  · have e : bkRead b = (buk0, 0, some (6, 12)) := by rw [hdef, if_pos (.inr (.inr (.inr rfl)))]
    rw [e]
    unfold byS at *
    rw [hl4] at hz
    clear hdef hr c2 d2
    refine FnP.intro Tryz.func73 rfl rfl fun G w => ?_
    repeat' (first
     | refine WK.seq ?_
     | refine WK.block ?_
     | refine WK.inBlock ?_
     | refine WK.skip ?_
     | refine WK.label ?_
     | refine WK.scope ?_
     | refine WK.inScope ?_
     | refine WK.exit rfl ?_
     | refine WK.condT rfl ?_
     | refine WK.condF rfl ?_
     | (refine Hid.h hQ _ _ ?_; clear hQ hA)
     | refine WK.condAny rfl ?_ ?_
     | ((first | refine WK.cond2 rfl (fun h => ?_) (fun h => ?_) | refine Fork.mk (fun h => ?_) (fun h => ?_)) <;> (first | (simp [*] at h; done) | (have h2 := h; simp at h2; exfalso; omega) | (have h2 := h; simp at h2; try simp only [Bool.not_eq_true', Bool.not_eq_false'] at h) | skip))
     | ((first | refine WK.regH Tryz.ntmps73 (by kernel_rfl) ?_ | refine WK.regX (by kernel_rfl) Tryz.ntmps73 (by kernel_rfl) ?_); intro A hA Q hQ; simp [gFault, buk0, Bucket.enc, bne, *])
     | (refine Hid.h hQ _ _ _ (by decide +kernel) ?_; clear hQ hA)
     | ((first | refine RunQ.gd rfl (by rw [hA.h]; rfl) ?_ | refine RunX.gd rfl (by rw [hA.h]; rfl) ?_); simp [gFault, buk0, Bucket.enc, bne, *])
     | ((first | ((first | refine RunQ.call rfl rfl rfl rfl rfl ?_ (g0) ?_ ?_ | refine RunQW.call rfl rfl rfl rfl ?_ (g0) ?_ ?_ | refine RunX.call rfl rfl rfl rfl ?_ (g0) ?_ ?_ | refine RunXW.call rfl rfl rfl ?_ (g0) ?_ ?_); (focus (simp (maxDischargeDepth := 120) [gFault, buk0, Bucket.enc, bne, *]; done))) | ((first | refine RunQ.call rfl rfl rfl rfl rfl ?_ (bb) ?_ ?_ | refine RunQW.call rfl rfl rfl rfl ?_ (bb) ?_ ?_ | refine RunX.call rfl rfl rfl rfl ?_ (bb) ?_ ?_ | refine RunXW.call rfl rfl rfl ?_ (bb) ?_ ?_); (focus (simp (maxDischargeDepth := 120) [gFault, buk0, Bucket.enc, bne, *]; done))) | ((first | refine RunQ.call rfl rfl rfl rfl rfl ?_ (hz) ?_ ?_ | refine RunQW.call rfl rfl rfl rfl ?_ (hz) ?_ ?_ | refine RunX.call rfl rfl rfl rfl ?_ (hz) ?_ ?_ | refine RunXW.call rfl rfl rfl ?_ (hz) ?_ ?_); (focus (simp (maxDischargeDepth := 120) [gFault, buk0, Bucket.enc, bne, *]; done)))); (focus (simp [gFault, buk0, Bucket.enc, bne, *]; done)); (first | refine RunQ.evalH ?_ | refine RunX.evalY ?_); simp [gFault, buk0, Bucket.enc, bne, *])
     | (refine WK.ret Tryz.func73 ?_ ?_ <;> simp (maxDischargeDepth := 120) [Tryz.results73, gFault, buk0, Bucket.enc, bne, *])
     | fail)
  have g1 := nget_c b 2 2 Sz2 (by omega) (by omega)
  have g2 := nget_c b 4 4 Sz4 (by omega) (by omega)
  have g3 := nget_c b 8 4 Sz4 (by omega) (by omega)
  have hac := acdecP_c ((b.drop 16).take (n - 16)) (by rw [List.length_take, List.length_drop]; omega)
  rw [if_neg (by rintro (h | h | h | h); omega; omega; omega; cases h)] at hdef
  have hs : ((byL b).drop 16).take (n - 16) = byL ((b.drop 16).take (n - 16)) := by rw [byL_drop, byL_take]
  have hsl : ((b.drop 16).take (n - 16)).length = n - 16 := by rw [List.length_take, List.length_drop]; omega
  obtain ⟨S, hS⟩ : ∃ S, (b.drop 16).take (n - 16) = S := ⟨_, rfl⟩
  rw [hS] at hac hs hsl hdef
  obtain ⟨R, hR⟩ : ∃ R, acDec S = R := ⟨_, rfl⟩
  rw [hR] at hac hdef
  obtain ⟨l, f⟩ := R
  obtain ⟨q1, h1⟩ : ∃ q, getN b 2 2 = q := ⟨_, rfl⟩
  obtain ⟨q2, h2⟩ : ∃ q, getN b 4 4 = q := ⟨_, rfl⟩
  obtain ⟨q3, h3⟩ : ∃ q, getN b 8 4 = q := ⟨_, rfl⟩
  rw [h1] at g1 hdef
  rw [h2] at g2 hdef
  rw [h3] at g3 hdef
  rw [hdef]
  unfold byS actS at *
  rw [hl4] at hz
  rw [hsl] at hac
  rw [aFault_g] at hac
  have d4 : (n : Int) ≤ b.length := by omega
  have d5 : (16 : Int) ≤ n := by omega
  clear hdef hr c2 d2 hS hR h1 h2 h3
  refine FnP.intro Tryz.func73 rfl rfl fun G w => ?_
  cases f <;>
  · repeat' (first
     | refine WK.seq ?_
     | refine WK.block ?_
     | refine WK.inBlock ?_
     | refine WK.skip ?_
     | refine WK.label ?_
     | refine WK.scope ?_
     | refine WK.inScope ?_
     | refine WK.exit rfl ?_
     | refine WK.condT rfl ?_
     | refine WK.condF rfl ?_
     | (refine Hid.h hQ _ _ ?_; clear hQ hA)
     | refine WK.condAny rfl ?_ ?_
     | ((first | refine WK.cond2 rfl (fun h => ?_) (fun h => ?_) | refine Fork.mk (fun h => ?_) (fun h => ?_)) <;> (first | (simp [*] at h; done) | (have h2 := h; simp at h2; exfalso; omega) | (have h2 := h; simp at h2; try simp only [Bool.not_eq_true', Bool.not_eq_false'] at h) | skip))
     | ((first | refine WK.regH Tryz.ntmps73 (by kernel_rfl) ?_ | refine WK.regX (by kernel_rfl) Tryz.ntmps73 (by kernel_rfl) ?_); intro A hA Q hQ; simp [gFault, buk0, Bucket.enc, bne, *])
     | (refine Hid.h hQ _ _ _ (by decide +kernel) ?_; clear hQ hA)
     | ((first | refine RunQ.gd rfl (by rw [hA.h]; rfl) ?_ | refine RunX.gd rfl (by rw [hA.h]; rfl) ?_); simp [gFault, buk0, Bucket.enc, bne, *])
     | ((first | ((first | refine RunQ.call rfl rfl rfl rfl rfl ?_ (g0) ?_ ?_ | refine RunQW.call rfl rfl rfl rfl ?_ (g0) ?_ ?_ | refine RunX.call rfl rfl rfl rfl ?_ (g0) ?_ ?_ | refine RunXW.call rfl rfl rfl ?_ (g0) ?_ ?_); (focus (simp (maxDischargeDepth := 120) [gFault, buk0, Bucket.enc, bne, *]; done))) | ((first | refine RunQ.call rfl rfl rfl rfl rfl ?_ (hz) ?_ ?_ | refine RunQW.call rfl rfl rfl rfl ?_ (hz) ?_ ?_ | refine RunX.call rfl rfl rfl rfl ?_ (hz) ?_ ?_ | refine RunXW.call rfl rfl rfl ?_ (hz) ?_ ?_); (focus (simp (maxDischargeDepth := 120) [gFault, buk0, Bucket.enc, bne, *]; done))) | ((first | refine RunQ.call rfl rfl rfl rfl rfl ?_ (g1) ?_ ?_ | refine RunQW.call rfl rfl rfl rfl ?_ (g1) ?_ ?_ | refine RunX.call rfl rfl rfl rfl ?_ (g1) ?_ ?_ | refine RunXW.call rfl rfl rfl ?_ (g1) ?_ ?_); (focus (simp (maxDischargeDepth := 120) [gFault, buk0, Bucket.enc, bne, *]; done))) | ((first | refine RunQ.call rfl rfl rfl rfl rfl ?_ (g2) ?_ ?_ | refine RunQW.call rfl rfl rfl rfl ?_ (g2) ?_ ?_ | refine RunX.call rfl rfl rfl rfl ?_ (g2) ?_ ?_ | refine RunXW.call rfl rfl rfl ?_ (g2) ?_ ?_); (focus (simp (maxDischargeDepth := 120) [gFault, buk0, Bucket.enc, bne, *]; done))) | ((first | refine RunQ.call rfl rfl rfl rfl rfl ?_ (g3) ?_ ?_ | refine RunQW.call rfl rfl rfl rfl ?_ (g3) ?_ ?_ | refine RunX.call rfl rfl rfl rfl ?_ (g3) ?_ ?_ | refine RunXW.call rfl rfl rfl ?_ (g3) ?_ ?_); (focus (simp (maxDischargeDepth := 120) [gFault, buk0, Bucket.enc, bne, *]; done))) | ((first | refine RunQ.call rfl rfl rfl rfl rfl ?_ (hac) ?_ ?_ | refine RunQW.call rfl rfl rfl rfl ?_ (hac) ?_ ?_ | refine RunX.call rfl rfl rfl rfl ?_ (hac) ?_ ?_ | refine RunXW.call rfl rfl rfl ?_ (hac) ?_ ?_); (focus (simp (maxDischargeDepth := 120) [gFault, buk0, Bucket.enc, bne, *]; done)))); (focus (simp [gFault, buk0, Bucket.enc, bne, *]; done)); (first | refine RunQ.evalH ?_ | refine RunX.evalY ?_); simp [gFault, buk0, Bucket.enc, bne, *])
     | (refine WK.ret Tryz.func73 ?_ ?_ <;> simp (maxDischargeDepth := 120) [Tryz.results73, gFault, buk0, Bucket.enc, bne, *])
     | fail)
end Go.Proofs.YteonfhnljphbpaaGreat
end

section
set_option linter.unusedVariables false
set_option linter.unusedSimpArgs false
namespace Go.Proofs.YteonfhnljphbpaaGreat
open Go Go.AI Go.Proofs
attribute [local irreducible] FnP FnO FnB FnT FnSeq WK RunQ RunQW RunX RunXW

theorem bkDec_eq {b : List (BitVec 8)} (h : ¬ 60000 < b.length) : bkDec b = if (rwDec bkRead b).2 = none ∧ 100 < (rwDec bkRead b).1.length then ([], some (6, 4)) else rwDec bkRead b := by unfold bkDec; rw [if_neg h]
set_option maxHeartbeats 4000000 in
theorem bkdec_c (b : List (BitVec 8)) (hb : b.length ≤ 1000000) : FnT Tryz.prog 36 [byS b] (bkDec b).1.length 4 (bukL (bkDec b).1) [.agg (gFault (bkDec b).2)] := by
  have b12 := bbad_c 12
  have b4 := bbad_c 4
  unfold byS
  by_cases h6 : 60000 < b.length
  · have e : bkDec b = ([], some (6, 12)) := by unfold bkDec; rw [if_pos h6]
    have h6' : (60000 : Int) < b.length := by omega
    rw [e]
    refine FnT.intro Tryz.func36 rfl rfl fun G w => ?_
    repeat' (first
     | refine WK.seq ?_
     | refine WK.block ?_
     | refine WK.inBlock ?_
     | refine WK.skip ?_
     | refine WK.label ?_
     | refine WK.scope ?_
     | refine WK.inScope ?_
     | refine WK.exit rfl ?_
     | refine WK.condT rfl ?_
     | refine WK.condF rfl ?_
     | (refine Hid.h hQ _ _ ?_; clear hQ hA)
     | refine WK.condAny rfl ?_ ?_
     | ((first | refine WK.cond2 rfl (fun h => ?_) (fun h => ?_)) <;> (first | (simp [*] at h; done) | (have h2 := h; simp at h2; exfalso; omega) | (have h2 := h; simp at h2; try simp only [Bool.not_eq_true', Bool.not_eq_false'] at h) | skip))
     | ((first | refine WK.regH Tryz.ntmps36 (by kernel_rfl) ?_ | refine WK.regX (by kernel_rfl) Tryz.ntmps36 (by kernel_rfl) ?_); intro A hA Q hQ; simp [gFault, *])
     | (refine Hid.h hQ _ _ _ (by decide +kernel) ?_; clear hQ hA)
     | (((first | refine RunQ.call rfl rfl rfl rfl rfl ?_ (b12) ?_ ?_ | refine RunX.call rfl rfl rfl rfl ?_ (b12) ?_ ?_); (focus (simp (maxDischargeDepth := 120) [gFault, *]; done))); (focus (simp [gFault, *]; done)); (first | refine RunQ.evalH ?_ | refine RunX.evalY ?_); simp [gFault, *])
     | fail)
    repeat (first | refine WK.seq ?_ | refine WK.block ?_ | refine WK.inBlock ?_ | refine WK.skip ?_ | refine WK.label ?_ | refine WK.scope ?_ | refine WK.inScope ?_ | refine WK.exit rfl ?_)
    refine WK.ghost (Ghost.own 2 900 4 rfl rfl) ?_
    repeat (first | refine WK.seq ?_ | refine WK.block ?_ | refine WK.inBlock ?_ | refine WK.skip ?_ | refine WK.label ?_ | refine WK.scope ?_ | refine WK.inScope ?_ | refine WK.exit rfl ?_)
    refine WK.retT2 Tryz.func36 ?_ ?_ ?_ <;> simp (maxDischargeDepth := 120) [Tryz.results36, bukL_nil, gFault]
  have h6' : ¬ (60000 : Int) < b.length := by omega
  have hde := bkDec_eq h6
  refine FnT.intro Tryz.func36 rfl rfl fun G w => ?_
  repeat' (first
   | refine WK.seq ?_
   | refine WK.block ?_
   | refine WK.inBlock ?_
   | refine WK.skip ?_
   | refine WK.label ?_
   | refine WK.scope ?_
   | refine WK.inScope ?_
   | refine WK.exit rfl ?_
   | refine WK.condT rfl ?_
   | refine WK.condF rfl ?_
   | (refine Hid.h hQ _ _ ?_; clear hQ hA)
   | refine WK.condAny rfl ?_ ?_
   | ((first | refine WK.cond2 rfl (fun h => ?_) (fun h => ?_)) <;> (first | (simp [*] at h; done) | (have h2 := h; simp at h2; exfalso; omega) | (have h2 := h; simp at h2; try simp only [Bool.not_eq_true', Bool.not_eq_false'] at h) | skip))
   | ((first | refine WK.regH Tryz.ntmps36 (by kernel_rfl) ?_ | refine WK.regX (by kernel_rfl) Tryz.ntmps36 (by kernel_rfl) ?_); intro A hA Q hQ; simp [*])
   | (refine Hid.h hQ _ _ _ (by decide +kernel) ?_; clear hQ hA)
   | fail)
  repeat (first | refine WK.seq ?_ | refine WK.block ?_ | refine WK.inBlock ?_ | refine WK.skip ?_ | refine WK.label ?_ | refine WK.scope ?_ | refine WK.inScope ?_ | refine WK.exit rfl ?_)
  refine WK.ghost (Ghost.own 4 900 4 rfl rfl) ?_
  repeat (first | refine WK.seq ?_ | refine WK.block ?_ | refine WK.inBlock ?_ | refine WK.skip ?_ | refine WK.label ?_ | refine WK.scope ?_ | refine WK.inScope ?_ | refine WK.exit rfl ?_)
  refine WK.loopI (fun n => if n = 60 then 900 else n) (fun x : Nat × Nat × List Bucket => (⟨(upd (upd (upd (upd J 0 (.sl false (b.length - x.2.1) (byL (b.drop x.2.1)))) 2 (.sl true 0 [])) 3 (.ptr 1 0)) 4 (.msl 60 0 x.2.2.length)), (upd (upd B0 1 (.var (gFault none))) 60 (.buf 4 (bukL x.2.2))), 0⟩ : St)) (fun x => RwAt bkRead 16 b x) (fun x => b.length - x.2.1) ((b.length, 0, [])) (by repeat (first | exact TmW.nil | refine TmW.upd ?_ (by simp (maxDischargeDepth := 120) [gFault]))) (by repeat (first | exact BxW.nil | refine BxW.upd ?_ (by simp (maxDischargeDepth := 120) [gFault]))) (by first | exact InjW.id | exact InjW.nil | exact InjW.one | exact InjW.two (by simp) | exact InjW.three (by simp) (by simp) (by simp)) (RwAt.start bkRead 16 b) (fun i hi IH => ?_)
  obtain ⟨f, p, acc⟩ := i
  have hsm := hi.small
  have hle := hi.le
  simp only at hsm hle hi ⊢
  by_cases h1 : p < b.length
  · have hc := bone_c (b.drop p) (by rw [List.length_drop]; omega)
    obtain ⟨⟨y, n, c⟩, hd⟩ : ∃ R, bkRead (b.drop p) = R := ⟨_, rfl⟩
    rw [hd] at hc
    unfold byS at hc
    rw [List.length_drop] at hc
    have hpos : 0 < b.length - p := by omega
    have hpos' : (0 : Int) < ((b.length - p : Nat) : Int) := by omega
    obtain ⟨L, hL⟩ : ∃ L, b.length - p = L := ⟨_, rfl⟩
    cases c with
    | some c =>
      have e0 := RwAt.bad hi h1 hd
      have e : bkDec b = ([], some c) := by rw [hde, e0]; rfl
      rw [hL] at hc hpos hpos' ⊢
      rw [e]
      clear hL hde e0 b12 b4
      repeat' (first
       | refine WK.seq ?_
       | refine WK.block ?_
       | refine WK.inBlock ?_
       | refine WK.skip ?_
       | refine WK.label ?_
       | refine WK.scope ?_
       | refine WK.inScope ?_
       | refine WK.exit rfl ?_
       | refine WK.condT rfl ?_
       | refine WK.condF rfl ?_
       | (refine Hid.h hQ _ _ ?_; clear hQ hA)
       | refine WK.condAny rfl ?_ ?_
       | ((first | refine WK.cond2 rfl (fun h => ?_) (fun h => ?_)) <;> (first | (simp [*] at h; done) | (have h2 := h; simp at h2; exfalso; omega) | (have h2 := h; simp at h2; try simp only [Bool.not_eq_true', Bool.not_eq_false'] at h) | skip))
       | ((first | refine WK.regH Tryz.ntmps36 (by kernel_rfl) ?_ | refine WK.regX (by kernel_rfl) Tryz.ntmps36 (by kernel_rfl) ?_); intro A hA Q hQ; simp [gFault, Bucket.enc, *])
       | (refine Hid.h hQ _ _ _ (by decide +kernel) ?_; clear hQ hA)
       | (((first | refine RunQ.call rfl rfl rfl rfl rfl ?_ (hc) ?_ ?_ | refine RunX.call rfl rfl rfl rfl ?_ (hc) ?_ ?_); (focus (simp (maxDischargeDepth := 120) [gFault, Bucket.enc, *]; done))); (focus (simp [gFault, Bucket.enc, *]; done)); (first | refine RunQ.evalH ?_ | refine RunX.evalY ?_); simp [gFault, Bucket.enc, *])
       | fail)
      repeat (first | refine WK.seq ?_ | refine WK.block ?_ | refine WK.inBlock ?_ | refine WK.skip ?_ | refine WK.label ?_ | refine WK.scope ?_ | refine WK.inScope ?_ | refine WK.exit rfl ?_)
      refine WK.ghost (Ghost.own 2 901 4 rfl rfl) ?_
      repeat (first | refine WK.seq ?_ | refine WK.block ?_ | refine WK.inBlock ?_ | refine WK.skip ?_ | refine WK.label ?_ | refine WK.scope ?_ | refine WK.inScope ?_ | refine WK.exit rfl ?_)
      refine WK.retT2 Tryz.func36 ?_ ?_ ?_ <;> simp (maxDischargeDepth := 120) [Tryz.results36, bukL_nil, gFault]
    | none =>
      obtain ⟨k, rfl, hk1, hk2, hn⟩ := RwAt.next (by decide) bkKeeps hi h1 hd
      simp only at hk1 hn
      have hkL : (k : Int) ≤ ((b.length - p : Nat) : Int) := by omega
      have hdd : ((byL (b.drop p)).drop k).take (b.length - p - k) = byL (b.drop (p + k)) := by
        rw [byL_drop, List.drop_drop]; exact by_full _ _ (by rw [List.length_drop]; omega)
      have hll : b.length - (p + k) = b.length - p - k := by omega
      have hbd : (acc.length + 1) * 48 ≤ 140737488355328 := by omega
      have hsn := bukL_snoc acc y
      rw [hL] at hc hpos hpos' hkL hdd hll ⊢
      simp only [Bucket.enc] at hsn hc
      clear hL hd hde b12 b4
      repeat' (first
       | refine WK.seq ?_
       | refine WK.block ?_
       | refine WK.inBlock ?_
       | refine WK.skip ?_
       | refine WK.label ?_
       | refine WK.scope ?_
       | refine WK.inScope ?_
       | refine WK.exit rfl ?_
       | refine WK.condT rfl ?_
       | refine WK.condF rfl ?_
       | (refine Hid.h hQ _ _ ?_; clear hQ hA)
       | refine WK.condAny rfl ?_ ?_
       | ((first | refine WK.cond2 rfl (fun h => ?_) (fun h => ?_)) <;> (first | (simp [*] at h; done) | (have h2 := h; simp at h2; exfalso; omega) | (have h2 := h; simp at h2; try simp only [Bool.not_eq_true', Bool.not_eq_false'] at h) | skip))
       | ((first | refine WK.regH Tryz.ntmps36 (by kernel_rfl) ?_ | refine WK.regX (by kernel_rfl) Tryz.ntmps36 (by kernel_rfl) ?_); intro A hA Q hQ; simp [gFault, *])
       | (refine Hid.h hQ _ _ _ (by decide +kernel) ?_; clear hQ hA)
       | (refine RunQ.append 902 app_buk rfl rfl rfl rfl rfl rfl rfl rfl rfl ?_ ?_ ?_ ?_ ?_; (focus (first | omega | (simp [gFault, *]; done); done)); (focus (first | omega | (simp [gFault, *]; done); done)); (focus (first | omega | (simp [gFault, *]; done); done)); (focus (first | omega | (simp [gFault, *]; done); done)); refine RunQ.evalH ?_; simp [gFault, *])
       | (refine RunX.append 902 app_buk rfl rfl rfl rfl rfl rfl rfl rfl ?_ ?_ ?_ ?_ ?_; (focus (first | omega | (simp [gFault, *]; done); done)); (focus (first | omega | (simp [gFault, *]; done); done)); (focus (first | omega | (simp [gFault, *]; done); done)); (focus (first | omega | (simp [gFault, *]; done); done)); refine RunX.evalY ?_; simp [gFault, *])
       | (((first | refine RunQ.call rfl rfl rfl rfl rfl ?_ (hc) ?_ ?_ | refine RunX.call rfl rfl rfl rfl ?_ (hc) ?_ ?_); (focus (simp (maxDischargeDepth := 120) [gFault, *]; done))); (focus (simp [gFault, *]; done)); (first | refine RunQ.evalH ?_ | refine RunX.evalY ?_); simp [gFault, *])
       | fail)
      repeat (first | refine WK.seq ?_ | refine WK.block ?_ | refine WK.inBlock ?_ | refine WK.skip ?_ | refine WK.label ?_ | refine WK.scope ?_ | refine WK.inScope ?_ | refine WK.exit rfl ?_)
      refine WK.next (fun n => if n = 60 then 902 else n) (IH ((f - 1, p + k, acc ++ [y])) (hn) (by first | omega | (dsimp only; omega))) (by repeat (first | exact TmW.nil | refine TmW.upd ?_ (by simp (maxDischargeDepth := 120) [hsn, hll, gFault]))) (by repeat (first | exact BxW.nil | refine BxW.upd ?_ (by simp (maxDischargeDepth := 120) [hsn, hll, gFault]))) (by first | exact InjW.id | exact InjW.nil | exact InjW.one | exact InjW.two (by simp) | exact InjW.three (by simp) (by simp) (by simp))
  · have hstop := RwAt.stop hi h1
    simp only at hstop
    have hpos : ¬ 0 < b.length - p := by omega
    have hpos' : ¬ (0 : Int) < ((b.length - p : Nat) : Int) := by omega
    obtain ⟨L, hL⟩ : ∃ L, b.length - p = L := ⟨_, rfl⟩
    rw [hL] at hpos hpos' ⊢
    clear hL
    by_cases h100 : 100 < acc.length
    · have e : bkDec b = ([], some (6, 4)) := by rw [hde, hstop, if_pos ⟨rfl, h100⟩]
      have h100' : (100 : Int) < acc.length := by omega
      rw [e]
      repeat' (first
       | refine WK.seq ?_
       | refine WK.block ?_
       | refine WK.inBlock ?_
       | refine WK.skip ?_
       | refine WK.label ?_
       | refine WK.scope ?_
       | refine WK.inScope ?_
       | refine WK.exit rfl ?_
       | refine WK.condT rfl ?_
       | refine WK.condF rfl ?_
       | (refine Hid.h hQ _ _ ?_; clear hQ hA)
       | refine WK.condAny rfl ?_ ?_
       | ((first | refine WK.cond2 rfl (fun h => ?_) (fun h => ?_)) <;> (first | (simp [*] at h; done) | (have h2 := h; simp at h2; exfalso; omega) | (have h2 := h; simp at h2; try simp only [Bool.not_eq_true', Bool.not_eq_false'] at h) | skip))
       | ((first | refine WK.regH Tryz.ntmps36 (by kernel_rfl) ?_ | refine WK.regX (by kernel_rfl) Tryz.ntmps36 (by kernel_rfl) ?_); intro A hA Q hQ; simp [gFault, *])
       | (refine Hid.h hQ _ _ _ (by decide +kernel) ?_; clear hQ hA)
       | (((first | refine RunQ.call rfl rfl rfl rfl rfl ?_ (b4) ?_ ?_ | refine RunX.call rfl rfl rfl rfl ?_ (b4) ?_ ?_); (focus (simp (maxDischargeDepth := 120) [gFault, *]; done))); (focus (simp [gFault, *]; done)); (first | refine RunQ.evalH ?_ | refine RunX.evalY ?_); simp [gFault, *])
       | fail)
      repeat (first | refine WK.seq ?_ | refine WK.block ?_ | refine WK.inBlock ?_ | refine WK.skip ?_ | refine WK.label ?_ | refine WK.scope ?_ | refine WK.inScope ?_ | refine WK.exit rfl ?_)
      refine WK.ghost (Ghost.own 2 901 4 rfl rfl) ?_
      repeat (first | refine WK.seq ?_ | refine WK.block ?_ | refine WK.inBlock ?_ | refine WK.skip ?_ | refine WK.label ?_ | refine WK.scope ?_ | refine WK.inScope ?_ | refine WK.exit rfl ?_)
      refine WK.retT2 Tryz.func36 ?_ ?_ ?_ <;> simp (maxDischargeDepth := 120) [Tryz.results36, bukL_nil, gFault]
    · have e : bkDec b = (acc, none) := by rw [hde, hstop, if_neg (fun h => h100 h.2)]
      have h100' : ¬ (100 : Int) < acc.length := by omega
      rw [e]
      repeat' (first
       | refine WK.seq ?_
       | refine WK.block ?_
       | refine WK.inBlock ?_
       | refine WK.skip ?_
       | refine WK.label ?_
       | refine WK.scope ?_
       | refine WK.inScope ?_
       | refine WK.exit rfl ?_
       | refine WK.condT rfl ?_
       | refine WK.condF rfl ?_
       | (refine Hid.h hQ _ _ ?_; clear hQ hA)
       | refine WK.condAny rfl ?_ ?_
       | ((first | refine WK.cond2 rfl (fun h => ?_) (fun h => ?_)) <;> (first | (simp [*] at h; done) | (have h2 := h; simp at h2; exfalso; omega) | (have h2 := h; simp at h2; try simp only [Bool.not_eq_true', Bool.not_eq_false'] at h) | skip))
       | ((first | refine WK.regH Tryz.ntmps36 (by kernel_rfl) ?_ | refine WK.regX (by kernel_rfl) Tryz.ntmps36 (by kernel_rfl) ?_); intro A hA Q hQ; simp [gFault, *])
       | (refine Hid.h hQ _ _ _ (by decide +kernel) ?_; clear hQ hA)
       | (refine WK.retT2 Tryz.func36 ?_ ?_ ?_ <;> simp (maxDischargeDepth := 120) [Tryz.results36, gFault, *])
       | fail)
theorem and4_false {a b c d : Bool} (h : (a && (b && (c && d))) = false) : a = false ∨ (a = true ∧ b = false) ∨ (a = true ∧ b = true ∧ c = false) ∨ (a = true ∧ b = true ∧ c = true ∧ d = false) := by
  revert h; cases a <;> cases b <;> cases c <;> cases d <;> simp
theorem and4_true {a b c d : Bool} (h : (a && (b && (c && d))) = true) : a = true ∧ b = true ∧ c = true ∧ d = true := by
  revert h; cases a <;> cases b <;> cases c <;> cases d <;> simp
end Go.Proofs.YteonfhnljphbpaaGreat
end
