/- Parts of a match: whether one may be, by both sides. -/
import Derived.Test.YteonfhnljphbpaaGreatWk4
import Derived.Test.YteonfhnljphbpaaGreatAf
set_option linter.all false
set_option linter.unnecessarySimpa false
section
set_option linter.unusedVariables false
set_option linter.unusedSimpArgs false
namespace Go.Proofs.YteonfhnljphbpaaGreat
open Go Go.AI Go.Proofs

set_option maxHeartbeats 4000000 in
theorem oright_c (o : Oxm) : FnP Tryz.prog 129 [.agg o.enc] (.bool (Oxm.right o)) := by
  have hf := oform_c o
  have hm := zero_c o.mask
  simp only [Oxm.enc, Wide.enc] at hf hm
  cases k1 : fRight o.field
  · have e : Oxm.right o = false := by unfold Oxm.right; rw [k1]; rfl
    refine FnP.intro Tryz.func129 rfl rfl fun G w => ?_
    repeat (first | refine WK.seq ?_ | refine WK.block ?_ | refine WK.inBlock ?_ | refine WK.skip ?_ | refine WK.label ?_ | refine WK.scope ?_ | refine WK.inScope ?_ | refine WK.exit rfl ?_)
    first | refine WK.reg 100 Tryz.ntmps129 (by kernel_rfl) ?_ | refine WK.regD 100 clsOf (by kernel_rfl) Tryz.ntmps129 (by kernel_rfl) (by kernel_rfl) ?_
    intro A hA Q hQ
    simp [Oxm.enc]
    refine hQ _ _ ?_
    clear hQ hA
    repeat (first | refine WK.seq ?_ | refine WK.block ?_ | refine WK.inBlock ?_ | refine WK.skip ?_ | refine WK.label ?_ | refine WK.scope ?_ | refine WK.inScope ?_ | refine WK.exit rfl ?_)
    refine WK.ghost (Ghost.frzVar 1 rfl rfl) ?_
    repeat (first | refine WK.seq ?_ | refine WK.block ?_ | refine WK.inBlock ?_ | refine WK.skip ?_ | refine WK.label ?_ | refine WK.scope ?_ | refine WK.inScope ?_ | refine WK.exit rfl ?_)
    first | refine WK.reg 200 Tryz.ntmps129 (by kernel_rfl) ?_ | refine WK.regD 200 clsOf (by kernel_rfl) Tryz.ntmps129 (by kernel_rfl) (by kernel_rfl) ?_
    intro A hA Q hQ
    have hg4 : (A[4]?).bind (·.dst) = some 7 := by rw [hA]; rfl
    have hg7 : (A[7]?).bind (·.dst) = some 10 := by rw [hA]; rfl
    have hg14 : (A[14]?).bind (·.dst) = some 17 := by rw [hA]; rfl
    have hg18 : (A[18]?).bind (·.dst) = some 21 := by rw [hA]; rfl
    simp [hg4, hg7, hg14, hg18]
    refine RunQ.call rfl rfl rfl rfl (by rfl) (by simp (maxDischargeDepth := 120) [k1, hg4, hg7, hg14, hg18]) (fright_c o.field) (by simp [k1, hg4, hg7, hg14, hg18]) ?_
    refine RunQ.eval ?_
    simp [k1, hg4, hg7, hg14, hg18]
    refine hQ _ _ ?_
    clear hQ hA
    repeat (first | refine WK.seq ?_ | refine WK.block ?_ | refine WK.inBlock ?_ | refine WK.skip ?_ | refine WK.label ?_ | refine WK.scope ?_ | refine WK.inScope ?_ | refine WK.exit rfl ?_)
    refine WK.cond2 rfl (fun h => ?_) (fun h => ?_)
    · repeat (first | refine WK.seq ?_ | refine WK.block ?_ | refine WK.inBlock ?_ | refine WK.skip ?_ | refine WK.label ?_ | refine WK.scope ?_ | refine WK.inScope ?_ | refine WK.exit rfl ?_)
      first | refine WK.reg 300 Tryz.ntmps129 (by kernel_rfl) ?_ | refine WK.regD 300 clsOf (by kernel_rfl) Tryz.ntmps129 (by kernel_rfl) (by kernel_rfl) ?_
      intro A hA Q hQ
      simp
      refine hQ _ _ ?_
      clear hQ hA
      repeat (first | refine WK.seq ?_ | refine WK.block ?_ | refine WK.inBlock ?_ | refine WK.skip ?_ | refine WK.label ?_ | refine WK.scope ?_ | refine WK.inScope ?_ | refine WK.exit rfl ?_)
      refine WK.ret Tryz.func129 (by simp (maxDischargeDepth := 120) [Tryz.results129, e]) (by simp [e])
    · cases h
  cases k2 : o.masked
  · rw [k2] at hf
    cases k3 : o.mask.zero
    · have e : Oxm.right o = false := by unfold Oxm.right; rw [k1, k2, k3]; rfl
      rw [k3] at hm
      refine FnP.intro Tryz.func129 rfl rfl fun G w => ?_
      repeat (first | refine WK.seq ?_ | refine WK.block ?_ | refine WK.inBlock ?_ | refine WK.skip ?_ | refine WK.label ?_ | refine WK.scope ?_ | refine WK.inScope ?_ | refine WK.exit rfl ?_)
      first | refine WK.reg 100 Tryz.ntmps129 (by kernel_rfl) ?_ | refine WK.regD 100 clsOf (by kernel_rfl) Tryz.ntmps129 (by kernel_rfl) (by kernel_rfl) ?_
      intro A hA Q hQ
      simp [Oxm.enc, k2]
      refine hQ _ _ ?_
      clear hQ hA
      repeat (first | refine WK.seq ?_ | refine WK.block ?_ | refine WK.inBlock ?_ | refine WK.skip ?_ | refine WK.label ?_ | refine WK.scope ?_ | refine WK.inScope ?_ | refine WK.exit rfl ?_)
      refine WK.ghost (Ghost.frzVar 1 rfl rfl) ?_
      repeat (first | refine WK.seq ?_ | refine WK.block ?_ | refine WK.inBlock ?_ | refine WK.skip ?_ | refine WK.label ?_ | refine WK.scope ?_ | refine WK.inScope ?_ | refine WK.exit rfl ?_)
      first | refine WK.reg 200 Tryz.ntmps129 (by kernel_rfl) ?_ | refine WK.regD 200 clsOf (by kernel_rfl) Tryz.ntmps129 (by kernel_rfl) (by kernel_rfl) ?_
      intro A hA Q hQ
      have hg4 : (A[4]?).bind (·.dst) = some 7 := by rw [hA]; rfl
      have hg7 : (A[7]?).bind (·.dst) = some 10 := by rw [hA]; rfl
      have hg14 : (A[14]?).bind (·.dst) = some 17 := by rw [hA]; rfl
      have hg18 : (A[18]?).bind (·.dst) = some 21 := by rw [hA]; rfl
      simp [hg4, hg7, hg14, hg18]
      refine RunQ.call rfl rfl rfl rfl (by rfl) (by simp (maxDischargeDepth := 120) [k1, hg4, hg7, hg14, hg18]) (fright_c o.field) (by simp [k1, hg4, hg7, hg14, hg18]) ?_
      refine RunQ.eval ?_
      simp [k1, hg4, hg7, hg14, hg18]
      refine RunQ.callG rfl rfl (by simp [hg14, hg18]) rfl (by rfl) (by simp (maxDischargeDepth := 120) [hg14, hg18]) (hm) (by simp [hg14, hg18]) ?_
      refine RunQ.eval ?_
      simp [hg14, hg18]
      refine hQ _ _ ?_
      clear hQ hA
      repeat (first | refine WK.seq ?_ | refine WK.block ?_ | refine WK.inBlock ?_ | refine WK.skip ?_ | refine WK.label ?_ | refine WK.scope ?_ | refine WK.inScope ?_ | refine WK.exit rfl ?_)
      refine WK.cond2 rfl (fun h => ?_) (fun h => ?_)
      · repeat (first | refine WK.seq ?_ | refine WK.block ?_ | refine WK.inBlock ?_ | refine WK.skip ?_ | refine WK.label ?_ | refine WK.scope ?_ | refine WK.inScope ?_ | refine WK.exit rfl ?_)
        first | refine WK.reg 300 Tryz.ntmps129 (by kernel_rfl) ?_ | refine WK.regD 300 clsOf (by kernel_rfl) Tryz.ntmps129 (by kernel_rfl) (by kernel_rfl) ?_
        intro A hA Q hQ
        simp
        refine hQ _ _ ?_
        clear hQ hA
        repeat (first | refine WK.seq ?_ | refine WK.block ?_ | refine WK.inBlock ?_ | refine WK.skip ?_ | refine WK.label ?_ | refine WK.scope ?_ | refine WK.inScope ?_ | refine WK.exit rfl ?_)
        refine WK.ret Tryz.func129 (by simp (maxDischargeDepth := 120) [Tryz.results129, e]) (by simp [e])
      · cases h
    · have e : Oxm.right o = (Oxm.form o == 0) := by unfold Oxm.right; rw [k1, k2, k3]; rfl
      rw [k3] at hm
      refine FnP.intro Tryz.func129 rfl rfl fun G w => ?_
      repeat (first | refine WK.seq ?_ | refine WK.block ?_ | refine WK.inBlock ?_ | refine WK.skip ?_ | refine WK.label ?_ | refine WK.scope ?_ | refine WK.inScope ?_ | refine WK.exit rfl ?_)
      first | refine WK.reg 100 Tryz.ntmps129 (by kernel_rfl) ?_ | refine WK.regD 100 clsOf (by kernel_rfl) Tryz.ntmps129 (by kernel_rfl) (by kernel_rfl) ?_
      intro A hA Q hQ
      simp [Oxm.enc, k2]
      refine hQ _ _ ?_
      clear hQ hA
      repeat (first | refine WK.seq ?_ | refine WK.block ?_ | refine WK.inBlock ?_ | refine WK.skip ?_ | refine WK.label ?_ | refine WK.scope ?_ | refine WK.inScope ?_ | refine WK.exit rfl ?_)
      refine WK.ghost (Ghost.frzVar 1 rfl rfl) ?_
      repeat (first | refine WK.seq ?_ | refine WK.block ?_ | refine WK.inBlock ?_ | refine WK.skip ?_ | refine WK.label ?_ | refine WK.scope ?_ | refine WK.inScope ?_ | refine WK.exit rfl ?_)
      first | refine WK.reg 200 Tryz.ntmps129 (by kernel_rfl) ?_ | refine WK.regD 200 clsOf (by kernel_rfl) Tryz.ntmps129 (by kernel_rfl) (by kernel_rfl) ?_
      intro A hA Q hQ
      have hg4 : (A[4]?).bind (·.dst) = some 7 := by rw [hA]; rfl
      have hg7 : (A[7]?).bind (·.dst) = some 10 := by rw [hA]; rfl
      have hg14 : (A[14]?).bind (·.dst) = some 17 := by rw [hA]; rfl
      have hg18 : (A[18]?).bind (·.dst) = some 21 := by rw [hA]; rfl
      simp [hg4, hg7, hg14, hg18]
      refine RunQ.call rfl rfl rfl rfl (by rfl) (by simp (maxDischargeDepth := 120) [k1, hg4, hg7, hg14, hg18]) (fright_c o.field) (by simp [k1, hg4, hg7, hg14, hg18]) ?_
      refine RunQ.eval ?_
      simp [k1, hg4, hg7, hg14, hg18]
      refine RunQ.callG rfl rfl (by simp [hg14, hg18]) rfl (by rfl) (by simp (maxDischargeDepth := 120) [hg14, hg18]) (hm) (by simp [hg14, hg18]) ?_
      refine RunQ.eval ?_
      simp [hg14, hg18]
      refine hQ _ _ ?_
      clear hQ hA
      repeat (first | refine WK.seq ?_ | refine WK.block ?_ | refine WK.inBlock ?_ | refine WK.skip ?_ | refine WK.label ?_ | refine WK.scope ?_ | refine WK.inScope ?_ | refine WK.exit rfl ?_)
      refine WK.cond2 rfl (fun h => ?_) (fun h => ?_)
      · cases h
      repeat (first | refine WK.seq ?_ | refine WK.block ?_ | refine WK.inBlock ?_ | refine WK.skip ?_ | refine WK.label ?_ | refine WK.scope ?_ | refine WK.inScope ?_ | refine WK.exit rfl ?_)
      first | refine WK.reg 300 Tryz.ntmps129 (by kernel_rfl) ?_ | refine WK.regD 300 clsOf (by kernel_rfl) Tryz.ntmps129 (by kernel_rfl) (by kernel_rfl) ?_
      intro A hA Q hQ
      simp
      refine RunQ.call rfl rfl rfl rfl (by rfl) (by simp (maxDischargeDepth := 120)) (hf) (by simp) ?_
      refine RunQ.eval ?_
      simp
      refine hQ _ _ ?_
      clear hQ hA
      repeat (first | refine WK.seq ?_ | refine WK.block ?_ | refine WK.inBlock ?_ | refine WK.skip ?_ | refine WK.label ?_ | refine WK.scope ?_ | refine WK.inScope ?_ | refine WK.exit rfl ?_)
      refine WK.ret Tryz.func129 (by simp (maxDischargeDepth := 120) [Tryz.results129, e]) (by simp [e])
  · rw [k2] at hf
    cases k3 : fMasks o.field
    · have e : Oxm.right o = false := by unfold Oxm.right; rw [k1, k2, k3]; rfl
      refine FnP.intro Tryz.func129 rfl rfl fun G w => ?_
      repeat (first | refine WK.seq ?_ | refine WK.block ?_ | refine WK.inBlock ?_ | refine WK.skip ?_ | refine WK.label ?_ | refine WK.scope ?_ | refine WK.inScope ?_ | refine WK.exit rfl ?_)
      first | refine WK.reg 100 Tryz.ntmps129 (by kernel_rfl) ?_ | refine WK.regD 100 clsOf (by kernel_rfl) Tryz.ntmps129 (by kernel_rfl) (by kernel_rfl) ?_
      intro A hA Q hQ
      simp [Oxm.enc, k2]
      refine hQ _ _ ?_
      clear hQ hA
      repeat (first | refine WK.seq ?_ | refine WK.block ?_ | refine WK.inBlock ?_ | refine WK.skip ?_ | refine WK.label ?_ | refine WK.scope ?_ | refine WK.inScope ?_ | refine WK.exit rfl ?_)
      refine WK.ghost (Ghost.frzVar 1 rfl rfl) ?_
      repeat (first | refine WK.seq ?_ | refine WK.block ?_ | refine WK.inBlock ?_ | refine WK.skip ?_ | refine WK.label ?_ | refine WK.scope ?_ | refine WK.inScope ?_ | refine WK.exit rfl ?_)
      first | refine WK.reg 200 Tryz.ntmps129 (by kernel_rfl) ?_ | refine WK.regD 200 clsOf (by kernel_rfl) Tryz.ntmps129 (by kernel_rfl) (by kernel_rfl) ?_
      intro A hA Q hQ
      have hg4 : (A[4]?).bind (·.dst) = some 7 := by rw [hA]; rfl
      have hg7 : (A[7]?).bind (·.dst) = some 10 := by rw [hA]; rfl
      have hg14 : (A[14]?).bind (·.dst) = some 17 := by rw [hA]; rfl
      have hg18 : (A[18]?).bind (·.dst) = some 21 := by rw [hA]; rfl
      simp [hg4, hg7, hg14, hg18]
      refine RunQ.call rfl rfl rfl rfl (by rfl) (by simp (maxDischargeDepth := 120) [k1, hg4, hg7, hg14, hg18]) (fright_c o.field) (by simp [k1, hg4, hg7, hg14, hg18]) ?_
      refine RunQ.eval ?_
      simp [k1, hg4, hg7, hg14, hg18]
      refine RunQ.callG rfl rfl (by simp [k3, hg4, hg7, hg14, hg18]) rfl (by rfl) (by simp (maxDischargeDepth := 120) [k3, hg4, hg7, hg14, hg18]) (fmasks_c o.field) (by simp [k3, hg4, hg7, hg14, hg18]) ?_
      refine RunQ.eval ?_
      simp [k3, hg4, hg7, hg14, hg18]
      refine hQ _ _ ?_
      clear hQ hA
      repeat (first | refine WK.seq ?_ | refine WK.block ?_ | refine WK.inBlock ?_ | refine WK.skip ?_ | refine WK.label ?_ | refine WK.scope ?_ | refine WK.inScope ?_ | refine WK.exit rfl ?_)
      refine WK.cond2 rfl (fun h => ?_) (fun h => ?_)
      · repeat (first | refine WK.seq ?_ | refine WK.block ?_ | refine WK.inBlock ?_ | refine WK.skip ?_ | refine WK.label ?_ | refine WK.scope ?_ | refine WK.inScope ?_ | refine WK.exit rfl ?_)
        first | refine WK.reg 300 Tryz.ntmps129 (by kernel_rfl) ?_ | refine WK.regD 300 clsOf (by kernel_rfl) Tryz.ntmps129 (by kernel_rfl) (by kernel_rfl) ?_
        intro A hA Q hQ
        simp
        refine hQ _ _ ?_
        clear hQ hA
        repeat (first | refine WK.seq ?_ | refine WK.block ?_ | refine WK.inBlock ?_ | refine WK.skip ?_ | refine WK.label ?_ | refine WK.scope ?_ | refine WK.inScope ?_ | refine WK.exit rfl ?_)
        refine WK.ret Tryz.func129 (by simp (maxDischargeDepth := 120) [Tryz.results129, e]) (by simp [e])
      · cases h
    · have e : Oxm.right o = (Oxm.form o == 0) := by unfold Oxm.right; rw [k1, k2, k3]; rfl
      refine FnP.intro Tryz.func129 rfl rfl fun G w => ?_
      repeat (first | refine WK.seq ?_ | refine WK.block ?_ | refine WK.inBlock ?_ | refine WK.skip ?_ | refine WK.label ?_ | refine WK.scope ?_ | refine WK.inScope ?_ | refine WK.exit rfl ?_)
      first | refine WK.reg 100 Tryz.ntmps129 (by kernel_rfl) ?_ | refine WK.regD 100 clsOf (by kernel_rfl) Tryz.ntmps129 (by kernel_rfl) (by kernel_rfl) ?_
      intro A hA Q hQ
      simp [Oxm.enc, k2]
      refine hQ _ _ ?_
      clear hQ hA
      repeat (first | refine WK.seq ?_ | refine WK.block ?_ | refine WK.inBlock ?_ | refine WK.skip ?_ | refine WK.label ?_ | refine WK.scope ?_ | refine WK.inScope ?_ | refine WK.exit rfl ?_)
      refine WK.ghost (Ghost.frzVar 1 rfl rfl) ?_
      repeat (first | refine WK.seq ?_ | refine WK.block ?_ | refine WK.inBlock ?_ | refine WK.skip ?_ | refine WK.label ?_ | refine WK.scope ?_ | refine WK.inScope ?_ | refine WK.exit rfl ?_)
      first | refine WK.reg 200 Tryz.ntmps129 (by kernel_rfl) ?_ | refine WK.regD 200 clsOf (by kernel_rfl) Tryz.ntmps129 (by kernel_rfl) (by kernel_rfl) ?_
      intro A hA Q hQ
      have hg4 : (A[4]?).bind (·.dst) = some 7 := by rw [hA]; rfl
      have hg7 : (A[7]?).bind (·.dst) = some 10 := by rw [hA]; rfl
      have hg14 : (A[14]?).bind (·.dst) = some 17 := by rw [hA]; rfl
      have hg18 : (A[18]?).bind (·.dst) = some 21 := by rw [hA]; rfl
      simp [hg4, hg7, hg14, hg18]
      refine RunQ.call rfl rfl rfl rfl (by rfl) (by simp (maxDischargeDepth := 120) [k1, hg4, hg7, hg14, hg18]) (fright_c o.field) (by simp [k1, hg4, hg7, hg14, hg18]) ?_
      refine RunQ.eval ?_
      simp [k1, hg4, hg7, hg14, hg18]
      refine RunQ.callG rfl rfl (by simp [k3, hg4, hg7, hg14, hg18]) rfl (by rfl) (by simp (maxDischargeDepth := 120) [k3, hg4, hg7, hg14, hg18]) (fmasks_c o.field) (by simp [k3, hg4, hg7, hg14, hg18]) ?_
      refine RunQ.eval ?_
      simp [k3, hg4, hg7, hg14, hg18]
      refine hQ _ _ ?_
      clear hQ hA
      repeat (first | refine WK.seq ?_ | refine WK.block ?_ | refine WK.inBlock ?_ | refine WK.skip ?_ | refine WK.label ?_ | refine WK.scope ?_ | refine WK.inScope ?_ | refine WK.exit rfl ?_)
      refine WK.cond2 rfl (fun h => ?_) (fun h => ?_)
      · cases h
      repeat (first | refine WK.seq ?_ | refine WK.block ?_ | refine WK.inBlock ?_ | refine WK.skip ?_ | refine WK.label ?_ | refine WK.scope ?_ | refine WK.inScope ?_ | refine WK.exit rfl ?_)
      first | refine WK.reg 300 Tryz.ntmps129 (by kernel_rfl) ?_ | refine WK.regD 300 clsOf (by kernel_rfl) Tryz.ntmps129 (by kernel_rfl) (by kernel_rfl) ?_
      intro A hA Q hQ
      simp
      refine RunQ.call rfl rfl rfl rfl (by rfl) (by simp (maxDischargeDepth := 120)) (hf) (by simp) ?_
      refine RunQ.eval ?_
      simp
      refine hQ _ _ ?_
      clear hQ hA
      repeat (first | refine WK.seq ?_ | refine WK.block ?_ | refine WK.inBlock ?_ | refine WK.skip ?_ | refine WK.label ?_ | refine WK.scope ?_ | refine WK.inScope ?_ | refine WK.exit rfl ?_)
      refine WK.ret Tryz.func129 (by simp (maxDischargeDepth := 120) [Tryz.results129, e]) (by simp [e])
theorem obad_c (n : Int) : FnP Tryz.prog 148 [.int .i64 n] (.agg [.bool true, .int .i64 4, .int .i64 n]) := by
  refine FnP.intro Tryz.func148 rfl rfl fun G w => ?_
  repeat (first | refine WK.seq ?_ | refine WK.block ?_ | refine WK.inBlock ?_ | refine WK.skip ?_ | refine WK.label ?_ | refine WK.scope ?_ | refine WK.inScope ?_ | refine WK.exit rfl ?_)
  first | refine WK.reg 100 Tryz.ntmps148 (by kernel_rfl) ?_ | refine WK.regD 100 clsOf (by kernel_rfl) Tryz.ntmps148 (by kernel_rfl) (by kernel_rfl) ?_
  intro A hA Q hQ
  simp
  refine hQ _ _ ?_
  clear hQ hA
  repeat (first | refine WK.seq ?_ | refine WK.block ?_ | refine WK.inBlock ?_ | refine WK.skip ?_ | refine WK.label ?_ | refine WK.scope ?_ | refine WK.inScope ?_ | refine WK.exit rfl ?_)
  first | refine WK.reg 200 Tryz.ntmps148 (by kernel_rfl) ?_ | refine WK.regD 200 clsOf (by kernel_rfl) Tryz.ntmps148 (by kernel_rfl) (by kernel_rfl) ?_
  intro A hA Q hQ
  simp
  refine hQ _ _ ?_
  clear hQ hA
  repeat (first | refine WK.seq ?_ | refine WK.block ?_ | refine WK.inBlock ?_ | refine WK.skip ?_ | refine WK.label ?_ | refine WK.scope ?_ | refine WK.inScope ?_ | refine WK.exit rfl ?_)
  refine WK.ret Tryz.func148 (by simp (maxDischargeDepth := 120) [Tryz.results148]) (by simp)
theorem robad_c (n : Int) : FnP Tryz.prog 145 [.int .i64 n] (.agg [.bool true, .int .i64 4, .int .i64 n]) := by
  refine FnP.intro Tryz.func145 rfl rfl fun G w => ?_
  repeat (first | refine WK.seq ?_ | refine WK.block ?_ | refine WK.inBlock ?_ | refine WK.skip ?_ | refine WK.label ?_ | refine WK.scope ?_ | refine WK.inScope ?_ | refine WK.exit rfl ?_)
  first | refine WK.reg 100 Tryz.ntmps145 (by kernel_rfl) ?_ | refine WK.regD 100 clsOf (by kernel_rfl) Tryz.ntmps145 (by kernel_rfl) (by kernel_rfl) ?_
  intro A hA Q hQ
  simp
  refine hQ _ _ ?_
  clear hQ hA
  repeat (first | refine WK.seq ?_ | refine WK.block ?_ | refine WK.inBlock ?_ | refine WK.skip ?_ | refine WK.label ?_ | refine WK.scope ?_ | refine WK.inScope ?_ | refine WK.exit rfl ?_)
  first | refine WK.reg 200 Tryz.ntmps145 (by kernel_rfl) ?_ | refine WK.regD 200 clsOf (by kernel_rfl) Tryz.ntmps145 (by kernel_rfl) (by kernel_rfl) ?_
  intro A hA Q hQ
  simp
  refine hQ _ _ ?_
  clear hQ hA
  repeat (first | refine WK.seq ?_ | refine WK.block ?_ | refine WK.inBlock ?_ | refine WK.skip ?_ | refine WK.label ?_ | refine WK.scope ?_ | refine WK.inScope ?_ | refine WK.exit rfl ?_)
  refine WK.ret Tryz.func145 (by simp (maxDischargeDepth := 120) [Tryz.results145]) (by simp)
set_option maxHeartbeats 4000000 in
theorem roright_c (o : Oxm) : FnP Tryz.prog 124 [.agg o.enc] (.bool (Oxm.right o)) := by
  have hbits := (fRow_ok o.field).2
  have hlow := rlow2_c (fBits o.field) (by unfold fBits; omega)
  obtain ⟨A0, hA0⟩ : ∃ A0, A0 = lowW (fBits o.field) := ⟨_, rfl⟩
  rw [← hA0] at hlow
  have hm := rzero_c o.mask
  have hl1 := rless_c o.value A0
  have hz1 := rzero_c (o.value.less A0)
  have hl2 := rless_c o.mask A0
  have hz2 := rzero_c (o.mask.less A0)
  have hl3 := rless_c o.value o.mask
  have hz3 := rzero_c (o.value.less o.mask)
  simp only [Wide.enc] at hm hl1 hl2 hl3 hlow hz1 hz2 hz3
  have eb : ∀ w0 : Wide, Oxm.beyond o w0 = !(w0.less A0).zero := fun w0 => by unfold Oxm.beyond; rw [hA0]
  cases k1 : fRight o.field
  · have e : Oxm.right o = false := by unfold Oxm.right; rw [k1]; rfl
    refine FnP.intro Tryz.func124 rfl rfl fun G w => ?_
    repeat (first | refine WK.seq ?_ | refine WK.block ?_ | refine WK.inBlock ?_ | refine WK.skip ?_ | refine WK.label ?_ | refine WK.scope ?_ | refine WK.inScope ?_ | refine WK.exit rfl ?_)
    first | refine WK.reg 100 Tryz.ntmps124 (by kernel_rfl) ?_ | refine WK.regD 100 clsOf (by kernel_rfl) Tryz.ntmps124 (by kernel_rfl) (by kernel_rfl) ?_
    intro A hA Q hQ
    simp [Oxm.enc]
    refine hQ _ _ ?_
    clear hQ hA
    repeat (first | refine WK.seq ?_ | refine WK.block ?_ | refine WK.inBlock ?_ | refine WK.skip ?_ | refine WK.label ?_ | refine WK.scope ?_ | refine WK.inScope ?_ | refine WK.exit rfl ?_)
    refine WK.ghost (Ghost.frzVar 1 rfl rfl) ?_
    repeat (first | refine WK.seq ?_ | refine WK.block ?_ | refine WK.inBlock ?_ | refine WK.skip ?_ | refine WK.label ?_ | refine WK.scope ?_ | refine WK.inScope ?_ | refine WK.exit rfl ?_)
    first | refine WK.reg 200 Tryz.ntmps124 (by kernel_rfl) ?_ | refine WK.regD 200 clsOf (by kernel_rfl) Tryz.ntmps124 (by kernel_rfl) (by kernel_rfl) ?_
    intro A hA Q hQ
    simp
    refine RunQ.call rfl rfl rfl rfl (by rfl) (by simp (maxDischargeDepth := 120) [k1]) (rfright_c o.field) (by simp [k1]) ?_
    refine RunQ.eval ?_
    simp [k1]
    refine hQ _ _ ?_
    clear hQ hA
    repeat (first | refine WK.seq ?_ | refine WK.block ?_ | refine WK.inBlock ?_ | refine WK.skip ?_ | refine WK.label ?_ | refine WK.scope ?_ | refine WK.inScope ?_ | refine WK.exit rfl ?_)
    refine WK.cond2 rfl (fun h => ?_) (fun h => ?_)
    · repeat (first | refine WK.seq ?_ | refine WK.block ?_ | refine WK.inBlock ?_ | refine WK.skip ?_ | refine WK.label ?_ | refine WK.scope ?_ | refine WK.inScope ?_ | refine WK.exit rfl ?_)
      first | refine WK.reg 300 Tryz.ntmps124 (by kernel_rfl) ?_ | refine WK.regD 300 clsOf (by kernel_rfl) Tryz.ntmps124 (by kernel_rfl) (by kernel_rfl) ?_
      intro A hA Q hQ
      simp
      refine hQ _ _ ?_
      clear hQ hA
      repeat (first | refine WK.seq ?_ | refine WK.block ?_ | refine WK.inBlock ?_ | refine WK.skip ?_ | refine WK.label ?_ | refine WK.scope ?_ | refine WK.inScope ?_ | refine WK.exit rfl ?_)
      refine WK.ret Tryz.func124 (by simp (maxDischargeDepth := 120) [Tryz.results124, e]) (by simp [e])
    · cases h
  cases k4 : (o.value.less A0).zero
  · rw [k4] at hz1
    have e : Oxm.right o = false := by unfold Oxm.right Oxm.form; rw [eb, k4]; simp
    refine FnP.intro Tryz.func124 rfl rfl fun G w => ?_
    repeat (first | refine WK.seq ?_ | refine WK.block ?_ | refine WK.inBlock ?_ | refine WK.skip ?_ | refine WK.label ?_ | refine WK.scope ?_ | refine WK.inScope ?_ | refine WK.exit rfl ?_)
    first | refine WK.reg 100 Tryz.ntmps124 (by kernel_rfl) ?_ | refine WK.regD 100 clsOf (by kernel_rfl) Tryz.ntmps124 (by kernel_rfl) (by kernel_rfl) ?_
    intro A hA Q hQ
    simp [Oxm.enc]
    refine hQ _ _ ?_
    clear hQ hA
    repeat (first | refine WK.seq ?_ | refine WK.block ?_ | refine WK.inBlock ?_ | refine WK.skip ?_ | refine WK.label ?_ | refine WK.scope ?_ | refine WK.inScope ?_ | refine WK.exit rfl ?_)
    refine WK.ghost (Ghost.frzVar 1 rfl rfl) ?_
    repeat (first | refine WK.seq ?_ | refine WK.block ?_ | refine WK.inBlock ?_ | refine WK.skip ?_ | refine WK.label ?_ | refine WK.scope ?_ | refine WK.inScope ?_ | refine WK.exit rfl ?_)
    first | refine WK.reg 200 Tryz.ntmps124 (by kernel_rfl) ?_ | refine WK.regD 200 clsOf (by kernel_rfl) Tryz.ntmps124 (by kernel_rfl) (by kernel_rfl) ?_
    intro A hA Q hQ
    simp
    refine RunQ.call rfl rfl rfl rfl (by rfl) (by simp (maxDischargeDepth := 120) [k1]) (rfright_c o.field) (by simp [k1]) ?_
    refine RunQ.eval ?_
    simp [k1]
    refine hQ _ _ ?_
    clear hQ hA
    repeat (first | refine WK.seq ?_ | refine WK.block ?_ | refine WK.inBlock ?_ | refine WK.skip ?_ | refine WK.label ?_ | refine WK.scope ?_ | refine WK.inScope ?_ | refine WK.exit rfl ?_)
    refine WK.cond2 rfl (fun h => ?_) (fun h => ?_)
    · cases h
    repeat (first | refine WK.seq ?_ | refine WK.block ?_ | refine WK.inBlock ?_ | refine WK.skip ?_ | refine WK.label ?_ | refine WK.scope ?_ | refine WK.inScope ?_ | refine WK.exit rfl ?_)
    first | refine WK.reg 300 Tryz.ntmps124 (by kernel_rfl) ?_ | refine WK.regD 300 clsOf (by kernel_rfl) Tryz.ntmps124 (by kernel_rfl) (by kernel_rfl) ?_
    intro A hA Q hQ
    simp
    refine RunQ.call rfl rfl rfl rfl (by rfl) (by simp (maxDischargeDepth := 120)) (rfbits_c o.field) (by simp) ?_
    refine RunQ.eval ?_
    simp
    refine RunQ.call rfl rfl rfl rfl (by rfl) (by simp (maxDischargeDepth := 120)) (hlow) (by simp) ?_
    refine RunQ.eval ?_
    simp
    refine hQ _ _ ?_
    clear hQ hA
    repeat (first | refine WK.seq ?_ | refine WK.block ?_ | refine WK.inBlock ?_ | refine WK.skip ?_ | refine WK.label ?_ | refine WK.scope ?_ | refine WK.inScope ?_ | refine WK.exit rfl ?_)
    refine WK.ghost (Ghost.frzVar 3 rfl rfl) ?_
    repeat (first | refine WK.seq ?_ | refine WK.block ?_ | refine WK.inBlock ?_ | refine WK.skip ?_ | refine WK.label ?_ | refine WK.scope ?_ | refine WK.inScope ?_ | refine WK.exit rfl ?_)
    first | refine WK.reg 400 Tryz.ntmps124 (by kernel_rfl) ?_ | refine WK.regD 400 clsOf (by kernel_rfl) Tryz.ntmps124 (by kernel_rfl) (by kernel_rfl) ?_
    intro A hA Q hQ
    simp
    refine RunQ.call rfl rfl rfl rfl (by rfl) (by simp (maxDischargeDepth := 120)) (hl1) (by simp) ?_
    refine RunQ.eval ?_
    simp
    refine RunQ.call rfl rfl rfl rfl (by rfl) (by simp (maxDischargeDepth := 120)) (hz1) (by simp) ?_
    refine RunQ.eval ?_
    simp
    refine hQ _ _ ?_
    clear hQ hA
    repeat (first | refine WK.seq ?_ | refine WK.block ?_ | refine WK.inBlock ?_ | refine WK.skip ?_ | refine WK.label ?_ | refine WK.scope ?_ | refine WK.inScope ?_ | refine WK.exit rfl ?_)
    refine WK.cond2 rfl (fun h => ?_) (fun h => ?_)
    · repeat (first | refine WK.seq ?_ | refine WK.block ?_ | refine WK.inBlock ?_ | refine WK.skip ?_ | refine WK.label ?_ | refine WK.scope ?_ | refine WK.inScope ?_ | refine WK.exit rfl ?_)
      first | refine WK.reg 500 Tryz.ntmps124 (by kernel_rfl) ?_ | refine WK.regD 500 clsOf (by kernel_rfl) Tryz.ntmps124 (by kernel_rfl) (by kernel_rfl) ?_
      intro A hA Q hQ
      simp
      refine hQ _ _ ?_
      clear hQ hA
      repeat (first | refine WK.seq ?_ | refine WK.block ?_ | refine WK.inBlock ?_ | refine WK.skip ?_ | refine WK.label ?_ | refine WK.scope ?_ | refine WK.inScope ?_ | refine WK.exit rfl ?_)
      refine WK.ret Tryz.func124 (by simp (maxDischargeDepth := 120) [Tryz.results124, e]) (by simp [e])
    · cases h
  rw [k4] at hz1
  cases k2 : o.masked
  · have e : Oxm.right o = o.mask.zero := by unfold Oxm.right Oxm.form; rw [eb, k1, k2, k4]; cases o.mask.zero <;> rfl
    refine FnP.intro Tryz.func124 rfl rfl fun G w => ?_
    repeat (first | refine WK.seq ?_ | refine WK.block ?_ | refine WK.inBlock ?_ | refine WK.skip ?_ | refine WK.label ?_ | refine WK.scope ?_ | refine WK.inScope ?_ | refine WK.exit rfl ?_)
    first | refine WK.reg 100 Tryz.ntmps124 (by kernel_rfl) ?_ | refine WK.regD 100 clsOf (by kernel_rfl) Tryz.ntmps124 (by kernel_rfl) (by kernel_rfl) ?_
    intro A hA Q hQ
    simp [Oxm.enc, k2]
    refine hQ _ _ ?_
    clear hQ hA
    repeat (first | refine WK.seq ?_ | refine WK.block ?_ | refine WK.inBlock ?_ | refine WK.skip ?_ | refine WK.label ?_ | refine WK.scope ?_ | refine WK.inScope ?_ | refine WK.exit rfl ?_)
    refine WK.ghost (Ghost.frzVar 1 rfl rfl) ?_
    repeat (first | refine WK.seq ?_ | refine WK.block ?_ | refine WK.inBlock ?_ | refine WK.skip ?_ | refine WK.label ?_ | refine WK.scope ?_ | refine WK.inScope ?_ | refine WK.exit rfl ?_)
    first | refine WK.reg 200 Tryz.ntmps124 (by kernel_rfl) ?_ | refine WK.regD 200 clsOf (by kernel_rfl) Tryz.ntmps124 (by kernel_rfl) (by kernel_rfl) ?_
    intro A hA Q hQ
    simp
    refine RunQ.call rfl rfl rfl rfl (by rfl) (by simp (maxDischargeDepth := 120) [k1]) (rfright_c o.field) (by simp [k1]) ?_
    refine RunQ.eval ?_
    simp [k1]
    refine hQ _ _ ?_
    clear hQ hA
    repeat (first | refine WK.seq ?_ | refine WK.block ?_ | refine WK.inBlock ?_ | refine WK.skip ?_ | refine WK.label ?_ | refine WK.scope ?_ | refine WK.inScope ?_ | refine WK.exit rfl ?_)
    refine WK.cond2 rfl (fun h => ?_) (fun h => ?_)
    · cases h
    repeat (first | refine WK.seq ?_ | refine WK.block ?_ | refine WK.inBlock ?_ | refine WK.skip ?_ | refine WK.label ?_ | refine WK.scope ?_ | refine WK.inScope ?_ | refine WK.exit rfl ?_)
    first | refine WK.reg 300 Tryz.ntmps124 (by kernel_rfl) ?_ | refine WK.regD 300 clsOf (by kernel_rfl) Tryz.ntmps124 (by kernel_rfl) (by kernel_rfl) ?_
    intro A hA Q hQ
    simp
    refine RunQ.call rfl rfl rfl rfl (by rfl) (by simp (maxDischargeDepth := 120)) (rfbits_c o.field) (by simp) ?_
    refine RunQ.eval ?_
    simp
    refine RunQ.call rfl rfl rfl rfl (by rfl) (by simp (maxDischargeDepth := 120)) (hlow) (by simp) ?_
    refine RunQ.eval ?_
    simp
    refine hQ _ _ ?_
    clear hQ hA
    repeat (first | refine WK.seq ?_ | refine WK.block ?_ | refine WK.inBlock ?_ | refine WK.skip ?_ | refine WK.label ?_ | refine WK.scope ?_ | refine WK.inScope ?_ | refine WK.exit rfl ?_)
    refine WK.ghost (Ghost.frzVar 3 rfl rfl) ?_
    repeat (first | refine WK.seq ?_ | refine WK.block ?_ | refine WK.inBlock ?_ | refine WK.skip ?_ | refine WK.label ?_ | refine WK.scope ?_ | refine WK.inScope ?_ | refine WK.exit rfl ?_)
    first | refine WK.reg 400 Tryz.ntmps124 (by kernel_rfl) ?_ | refine WK.regD 400 clsOf (by kernel_rfl) Tryz.ntmps124 (by kernel_rfl) (by kernel_rfl) ?_
    intro A hA Q hQ
    simp
    refine RunQ.call rfl rfl rfl rfl (by rfl) (by simp (maxDischargeDepth := 120)) (hl1) (by simp) ?_
    refine RunQ.eval ?_
    simp
    refine RunQ.call rfl rfl rfl rfl (by rfl) (by simp (maxDischargeDepth := 120)) (hz1) (by simp) ?_
    refine RunQ.eval ?_
    simp
    refine hQ _ _ ?_
    clear hQ hA
    repeat (first | refine WK.seq ?_ | refine WK.block ?_ | refine WK.inBlock ?_ | refine WK.skip ?_ | refine WK.label ?_ | refine WK.scope ?_ | refine WK.inScope ?_ | refine WK.exit rfl ?_)
    refine WK.cond2 rfl (fun h => ?_) (fun h => ?_)
    · cases h
    repeat (first | refine WK.seq ?_ | refine WK.block ?_ | refine WK.inBlock ?_ | refine WK.skip ?_ | refine WK.label ?_ | refine WK.scope ?_ | refine WK.inScope ?_ | refine WK.exit rfl ?_)
    first | refine WK.reg 500 Tryz.ntmps124 (by kernel_rfl) ?_ | refine WK.regD 500 clsOf (by kernel_rfl) Tryz.ntmps124 (by kernel_rfl) (by kernel_rfl) ?_
    intro A hA Q hQ
    simp
    refine hQ _ _ ?_
    clear hQ hA
    repeat (first | refine WK.seq ?_ | refine WK.block ?_ | refine WK.inBlock ?_ | refine WK.skip ?_ | refine WK.label ?_ | refine WK.scope ?_ | refine WK.inScope ?_ | refine WK.exit rfl ?_)
    refine WK.cond2 rfl (fun h => ?_) (fun h => ?_)
    · repeat (first | refine WK.seq ?_ | refine WK.block ?_ | refine WK.inBlock ?_ | refine WK.skip ?_ | refine WK.label ?_ | refine WK.scope ?_ | refine WK.inScope ?_ | refine WK.exit rfl ?_)
      first | refine WK.reg 600 Tryz.ntmps124 (by kernel_rfl) ?_ | refine WK.regD 600 clsOf (by kernel_rfl) Tryz.ntmps124 (by kernel_rfl) (by kernel_rfl) ?_
      intro A hA Q hQ
      simp
      refine RunQ.call rfl rfl rfl rfl (by rfl) (by simp (maxDischargeDepth := 120)) (hm) (by simp) ?_
      refine RunQ.eval ?_
      simp
      refine hQ _ _ ?_
      clear hQ hA
      repeat (first | refine WK.seq ?_ | refine WK.block ?_ | refine WK.inBlock ?_ | refine WK.skip ?_ | refine WK.label ?_ | refine WK.scope ?_ | refine WK.inScope ?_ | refine WK.exit rfl ?_)
      refine WK.ret Tryz.func124 (by simp (maxDischargeDepth := 120) [Tryz.results124, e]) (by simp [e])
    · cases h
  · have e : Oxm.right o = (fMasks o.field && (!o.mask.zero && ((o.mask.less A0).zero && (o.value.less o.mask).zero))) := by
      unfold Oxm.right Oxm.form; rw [eb, eb, k1, k2, k4]
      cases fMasks o.field <;> cases o.mask.zero <;> cases (o.mask.less A0).zero <;> cases (o.value.less o.mask).zero <;> rfl
    refine FnP.intro Tryz.func124 rfl rfl fun G w => ?_
    repeat (first | refine WK.seq ?_ | refine WK.block ?_ | refine WK.inBlock ?_ | refine WK.skip ?_ | refine WK.label ?_ | refine WK.scope ?_ | refine WK.inScope ?_ | refine WK.exit rfl ?_)
    first | refine WK.reg 100 Tryz.ntmps124 (by kernel_rfl) ?_ | refine WK.regD 100 clsOf (by kernel_rfl) Tryz.ntmps124 (by kernel_rfl) (by kernel_rfl) ?_
    intro A hA Q hQ
    simp [Oxm.enc, k2]
    refine hQ _ _ ?_
    clear hQ hA
    repeat (first | refine WK.seq ?_ | refine WK.block ?_ | refine WK.inBlock ?_ | refine WK.skip ?_ | refine WK.label ?_ | refine WK.scope ?_ | refine WK.inScope ?_ | refine WK.exit rfl ?_)
    refine WK.ghost (Ghost.frzVar 1 rfl rfl) ?_
    repeat (first | refine WK.seq ?_ | refine WK.block ?_ | refine WK.inBlock ?_ | refine WK.skip ?_ | refine WK.label ?_ | refine WK.scope ?_ | refine WK.inScope ?_ | refine WK.exit rfl ?_)
    first | refine WK.reg 200 Tryz.ntmps124 (by kernel_rfl) ?_ | refine WK.regD 200 clsOf (by kernel_rfl) Tryz.ntmps124 (by kernel_rfl) (by kernel_rfl) ?_
    intro A hA Q hQ
    simp
    refine RunQ.call rfl rfl rfl rfl (by rfl) (by simp (maxDischargeDepth := 120) [k1]) (rfright_c o.field) (by simp [k1]) ?_
    refine RunQ.eval ?_
    simp [k1]
    refine hQ _ _ ?_
    clear hQ hA
    repeat (first | refine WK.seq ?_ | refine WK.block ?_ | refine WK.inBlock ?_ | refine WK.skip ?_ | refine WK.label ?_ | refine WK.scope ?_ | refine WK.inScope ?_ | refine WK.exit rfl ?_)
    refine WK.cond2 rfl (fun h => ?_) (fun h => ?_)
    · cases h
    repeat (first | refine WK.seq ?_ | refine WK.block ?_ | refine WK.inBlock ?_ | refine WK.skip ?_ | refine WK.label ?_ | refine WK.scope ?_ | refine WK.inScope ?_ | refine WK.exit rfl ?_)
    first | refine WK.reg 300 Tryz.ntmps124 (by kernel_rfl) ?_ | refine WK.regD 300 clsOf (by kernel_rfl) Tryz.ntmps124 (by kernel_rfl) (by kernel_rfl) ?_
    intro A hA Q hQ
    simp
    refine RunQ.call rfl rfl rfl rfl (by rfl) (by simp (maxDischargeDepth := 120)) (rfbits_c o.field) (by simp) ?_
    refine RunQ.eval ?_
    simp
    refine RunQ.call rfl rfl rfl rfl (by rfl) (by simp (maxDischargeDepth := 120)) (hlow) (by simp) ?_
    refine RunQ.eval ?_
    simp
    refine hQ _ _ ?_
    clear hQ hA
    repeat (first | refine WK.seq ?_ | refine WK.block ?_ | refine WK.inBlock ?_ | refine WK.skip ?_ | refine WK.label ?_ | refine WK.scope ?_ | refine WK.inScope ?_ | refine WK.exit rfl ?_)
    refine WK.ghost (Ghost.frzVar 3 rfl rfl) ?_
    repeat (first | refine WK.seq ?_ | refine WK.block ?_ | refine WK.inBlock ?_ | refine WK.skip ?_ | refine WK.label ?_ | refine WK.scope ?_ | refine WK.inScope ?_ | refine WK.exit rfl ?_)
    first | refine WK.reg 400 Tryz.ntmps124 (by kernel_rfl) ?_ | refine WK.regD 400 clsOf (by kernel_rfl) Tryz.ntmps124 (by kernel_rfl) (by kernel_rfl) ?_
    intro A hA Q hQ
    simp
    refine RunQ.call rfl rfl rfl rfl (by rfl) (by simp (maxDischargeDepth := 120)) (hl1) (by simp) ?_
    refine RunQ.eval ?_
    simp
    refine RunQ.call rfl rfl rfl rfl (by rfl) (by simp (maxDischargeDepth := 120)) (hz1) (by simp) ?_
    refine RunQ.eval ?_
    simp
    refine hQ _ _ ?_
    clear hQ hA
    repeat (first | refine WK.seq ?_ | refine WK.block ?_ | refine WK.inBlock ?_ | refine WK.skip ?_ | refine WK.label ?_ | refine WK.scope ?_ | refine WK.inScope ?_ | refine WK.exit rfl ?_)
    refine WK.cond2 rfl (fun h => ?_) (fun h => ?_)
    · cases h
    repeat (first | refine WK.seq ?_ | refine WK.block ?_ | refine WK.inBlock ?_ | refine WK.skip ?_ | refine WK.label ?_ | refine WK.scope ?_ | refine WK.inScope ?_ | refine WK.exit rfl ?_)
    first | refine WK.reg 500 Tryz.ntmps124 (by kernel_rfl) ?_ | refine WK.regD 500 clsOf (by kernel_rfl) Tryz.ntmps124 (by kernel_rfl) (by kernel_rfl) ?_
    intro A hA Q hQ
    simp
    refine hQ _ _ ?_
    clear hQ hA
    repeat (first | refine WK.seq ?_ | refine WK.block ?_ | refine WK.inBlock ?_ | refine WK.skip ?_ | refine WK.label ?_ | refine WK.scope ?_ | refine WK.inScope ?_ | refine WK.exit rfl ?_)
    refine WK.cond2 rfl (fun h => ?_) (fun h => ?_)
    · cases h
    cases m1 : fMasks o.field
    · rw [m1, Bool.false_and] at e
      repeat (first | refine WK.seq ?_ | refine WK.block ?_ | refine WK.inBlock ?_ | refine WK.skip ?_ | refine WK.label ?_ | refine WK.scope ?_ | refine WK.inScope ?_ | refine WK.exit rfl ?_)
      first | refine WK.reg 600 Tryz.ntmps124 (by kernel_rfl) ?_ | refine WK.regD 600 clsOf (by kernel_rfl) Tryz.ntmps124 (by kernel_rfl) (by kernel_rfl) ?_
      intro A hA Q hQ
      have hg3 : (A[3]?).bind (·.dst) = some 27 := by rw [hA]; rfl
      have hg9 : (A[9]?).bind (·.dst) = some 33 := by rw [hA]; rfl
      have hg16 : (A[16]?).bind (·.dst) = some 40 := by rw [hA]; rfl
      simp [hg3, hg9, hg16]
      refine RunQ.call rfl rfl rfl rfl (by rfl) (by simp (maxDischargeDepth := 120) [m1, hg3, hg9, hg16]) (rfmasks_c o.field) (by simp [m1, hg3, hg9, hg16]) ?_
      refine RunQ.eval ?_
      simp [m1, hg3, hg9, hg16]
      refine hQ _ _ ?_
      clear hQ hA
      repeat (first | refine WK.seq ?_ | refine WK.block ?_ | refine WK.inBlock ?_ | refine WK.skip ?_ | refine WK.label ?_ | refine WK.scope ?_ | refine WK.inScope ?_ | refine WK.exit rfl ?_)
      refine WK.ret Tryz.func124 (by simp (maxDischargeDepth := 120) [Tryz.results124, e]) (by simp [e])
    rw [m1, Bool.true_and] at e
    cases m2 : o.mask.zero
    case true =>
      rw [m2] at hm e
      repeat (first | refine WK.seq ?_ | refine WK.block ?_ | refine WK.inBlock ?_ | refine WK.skip ?_ | refine WK.label ?_ | refine WK.scope ?_ | refine WK.inScope ?_ | refine WK.exit rfl ?_)
      first | refine WK.reg 700 Tryz.ntmps124 (by kernel_rfl) ?_ | refine WK.regD 700 clsOf (by kernel_rfl) Tryz.ntmps124 (by kernel_rfl) (by kernel_rfl) ?_
      intro A hA Q hQ
      have hg3 : (A[3]?).bind (·.dst) = some 27 := by rw [hA]; rfl
      have hg9 : (A[9]?).bind (·.dst) = some 33 := by rw [hA]; rfl
      have hg16 : (A[16]?).bind (·.dst) = some 40 := by rw [hA]; rfl
      simp [hg3, hg9, hg16]
      refine RunQ.call rfl rfl rfl rfl (by rfl) (by simp (maxDischargeDepth := 120) [m1, hg3, hg9, hg16]) (rfmasks_c o.field) (by simp [m1, hg3, hg9, hg16]) ?_
      refine RunQ.eval ?_
      simp [m1, hg3, hg9, hg16]
      refine RunQ.callG rfl rfl (by simp [hg3, hg9, hg16]) rfl (by rfl) (by simp (maxDischargeDepth := 120) [hg3, hg9, hg16]) (hm) (by simp [hg3, hg9, hg16]) ?_
      refine RunQ.eval ?_
      simp [hg3, hg9, hg16]
      refine hQ _ _ ?_
      clear hQ hA
      repeat (first | refine WK.seq ?_ | refine WK.block ?_ | refine WK.inBlock ?_ | refine WK.skip ?_ | refine WK.label ?_ | refine WK.scope ?_ | refine WK.inScope ?_ | refine WK.exit rfl ?_)
      refine WK.ret Tryz.func124 (by simp (maxDischargeDepth := 120) [Tryz.results124, e]) (by simp [e])
    rw [m2] at hm e
    rw [Bool.not_false, Bool.true_and] at e
    cases m3 : (o.mask.less A0).zero
    · rw [m3] at hz2 e
      rw [Bool.false_and] at e
      repeat (first | refine WK.seq ?_ | refine WK.block ?_ | refine WK.inBlock ?_ | refine WK.skip ?_ | refine WK.label ?_ | refine WK.scope ?_ | refine WK.inScope ?_ | refine WK.exit rfl ?_)
      first | refine WK.reg 800 Tryz.ntmps124 (by kernel_rfl) ?_ | refine WK.regD 800 clsOf (by kernel_rfl) Tryz.ntmps124 (by kernel_rfl) (by kernel_rfl) ?_
      intro A hA Q hQ
      have hg3 : (A[3]?).bind (·.dst) = some 27 := by rw [hA]; rfl
      have hg9 : (A[9]?).bind (·.dst) = some 33 := by rw [hA]; rfl
      have hg16 : (A[16]?).bind (·.dst) = some 40 := by rw [hA]; rfl
      simp [hg3, hg9, hg16]
      refine RunQ.call rfl rfl rfl rfl (by rfl) (by simp (maxDischargeDepth := 120) [m1, hg3, hg9, hg16]) (rfmasks_c o.field) (by simp [m1, hg3, hg9, hg16]) ?_
      refine RunQ.eval ?_
      simp [m1, hg3, hg9, hg16]
      refine RunQ.callG rfl rfl (by simp [hg3, hg9, hg16]) rfl (by rfl) (by simp (maxDischargeDepth := 120) [hg3, hg9, hg16]) (hm) (by simp [hg3, hg9, hg16]) ?_
      refine RunQ.eval ?_
      simp [hg3, hg9, hg16]
      refine RunQ.callG rfl rfl (by simp [hg9, hg16]) rfl (by rfl) (by simp (maxDischargeDepth := 120) [hg9, hg16]) (hl2) (by simp [hg9, hg16]) ?_
      refine RunQ.eval ?_
      simp [hg9, hg16]
      refine RunQ.callG rfl rfl (by simp [hg9, hg16]) rfl (by rfl) (by simp (maxDischargeDepth := 120) [hg9, hg16]) (hz2) (by simp [hg9, hg16]) ?_
      refine RunQ.eval ?_
      simp [hg9, hg16]
      refine hQ _ _ ?_
      clear hQ hA
      repeat (first | refine WK.seq ?_ | refine WK.block ?_ | refine WK.inBlock ?_ | refine WK.skip ?_ | refine WK.label ?_ | refine WK.scope ?_ | refine WK.inScope ?_ | refine WK.exit rfl ?_)
      refine WK.ret Tryz.func124 (by simp (maxDischargeDepth := 120) [Tryz.results124, e]) (by simp [e])
    · rw [m3] at hz2 e
      rw [Bool.true_and] at e
      repeat (first | refine WK.seq ?_ | refine WK.block ?_ | refine WK.inBlock ?_ | refine WK.skip ?_ | refine WK.label ?_ | refine WK.scope ?_ | refine WK.inScope ?_ | refine WK.exit rfl ?_)
      first | refine WK.reg 900 Tryz.ntmps124 (by kernel_rfl) ?_ | refine WK.regD 900 clsOf (by kernel_rfl) Tryz.ntmps124 (by kernel_rfl) (by kernel_rfl) ?_
      intro A hA Q hQ
      have hg3 : (A[3]?).bind (·.dst) = some 27 := by rw [hA]; rfl
      have hg9 : (A[9]?).bind (·.dst) = some 33 := by rw [hA]; rfl
      have hg16 : (A[16]?).bind (·.dst) = some 40 := by rw [hA]; rfl
      simp [hg3, hg9, hg16]
      refine RunQ.call rfl rfl rfl rfl (by rfl) (by simp (maxDischargeDepth := 120) [m1, hg3, hg9, hg16]) (rfmasks_c o.field) (by simp [m1, hg3, hg9, hg16]) ?_
      refine RunQ.eval ?_
      simp [m1, hg3, hg9, hg16]
      refine RunQ.callG rfl rfl (by simp [hg3, hg9, hg16]) rfl (by rfl) (by simp (maxDischargeDepth := 120) [hg3, hg9, hg16]) (hm) (by simp [hg3, hg9, hg16]) ?_
      refine RunQ.eval ?_
      simp [hg3, hg9, hg16]
      refine RunQ.callG rfl rfl (by simp [hg9, hg16]) rfl (by rfl) (by simp (maxDischargeDepth := 120) [hg9, hg16]) (hl2) (by simp [hg9, hg16]) ?_
      refine RunQ.eval ?_
      simp [hg9, hg16]
      refine RunQ.callG rfl rfl (by simp [hg9, hg16]) rfl (by rfl) (by simp (maxDischargeDepth := 120) [hg9, hg16]) (hz2) (by simp [hg9, hg16]) ?_
      refine RunQ.eval ?_
      simp [hg9, hg16]
      refine RunQ.callG rfl rfl (by simp [hg16]) rfl (by rfl) (by simp (maxDischargeDepth := 120) [hg16]) (hl3) (by simp [hg16]) ?_
      refine RunQ.eval ?_
      simp [hg16]
      refine RunQ.callG rfl rfl (by simp [hg16]) rfl (by rfl) (by simp (maxDischargeDepth := 120) [hg16]) (hz3) (by simp [hg16]) ?_
      refine RunQ.eval ?_
      simp [hg16]
      refine hQ _ _ ?_
      clear hQ hA
      repeat (first | refine WK.seq ?_ | refine WK.block ?_ | refine WK.inBlock ?_ | refine WK.skip ?_ | refine WK.label ?_ | refine WK.scope ?_ | refine WK.inScope ?_ | refine WK.exit rfl ?_)
      refine WK.ret Tryz.func124 (by simp (maxDischargeDepth := 120) [Tryz.results124, e]) (by simp [e])
end Go.Proofs.YteonfhnljphbpaaGreat
end

section
set_option linter.unusedVariables false
set_option linter.unusedSimpArgs false
namespace Go.Proofs.YteonfhnljphbpaaGreat
open Go Go.AI Go.Proofs

theorem nputP_c (b : List (BitVec 8)) (n : Int) (s : Nat) (hs : Sz s) (hb0 : b.length ≤ 1000000) : FnP Tryz.prog 60 [byS b, .int .i64 n, .int .i64 s] (byS (putN b n s)) := by
  have h := (nput_c b n s hs hb0).toP (by simp [byL_take])
  rwa [Nat.mul_one, by_full _ _ rfl] at h
theorem wputP_c (b : List (BitVec 8)) (a : Wide) (s : Nat) (hs : s ≤ 16) (hb0 : b.length ≤ 1000000) : FnP Tryz.prog 88 [byS b, .agg a.enc, .int .i64 s] (byS (wPut b a s)) := by
  have h := (wput_c b a s hs hb0).toP (by simp [byL_take])
  rwa [Nat.mul_one, by_full _ _ rfl] at h
theorem putN_len (b : List (BitVec 8)) (n : Int) (s : Nat) : (putN b n s).length ≤ b.length + s := by
  unfold putN; split
  · rw [List.length_append, beN_len]; omega
  · omega
/-- what is behind a part's head -/
def oBody (o : Oxm) : List (BitVec 8) := if o.masked then wPut (wPut [] o.value (fSize o.field)) o.mask (fSize o.field) else wPut [] o.value (fSize o.field)
def oNum (o : Oxm) : Int := if o.masked then fID o.field * 2 + 1 else fID o.field * 2
def oHead (o : Oxm) : List (BitVec 8) := putN (putN (putN [] 32768 2) (oNum o) 1) (oBody o).length 1
def oEnc (o : Oxm) : List (BitVec 8) × Int := if Oxm.right o then (oHead o ++ oBody o, 0) else ([], 1)
theorem shl_one (f : Int) : bShl .i64 (fID f) 1 = fID f * 2 := by
  have := (fRow_ok f).1
  unfold bShl fID
  show IntKind.wrap .i64 ((fRow f).1 * 2 ^ 1) = _
  rw [Int.pow_one, wrap_i64 (by omega) (by omega)]
theorem or_one_all : ∀ n : Fin 35, bOr .i64 ((n.val : Int) * 2) 1 = (n.val : Int) * 2 + 1 := by decide +kernel
theorem or_one (f : Int) (h : fRight f = true) : bOr .i64 (fID f * 2) 1 = fID f * 2 + 1 := by
  unfold fRight at h
  rw [Bool.and_eq_true, decide_eq_true_eq, decide_eq_true_eq] at h
  have hp : 0 ≤ fID f ∧ fID f ≤ 34 := by
    unfold fID fRow
    rw [if_pos ⟨h.1, h.2⟩]
    have hl : f.toNat < fRows.length := by show f.toNat < 24; omega
    have : ∀ r, r ∈ fRows → 0 ≤ r.1 ∧ r.1 ≤ 34 := by decide
    exact this _ (nth_mem hl)
  have := or_one_all ⟨(fID f).toNat, by omega⟩
  rwa [show (((⟨(fID f).toNat, by omega⟩ : Fin 35).val : Nat) : Int) = fID f by show (((fID f).toNat : Nat) : Int) = _; omega] at this
theorem right_field {o : Oxm} (h : Oxm.right o = true) : fRight o.field = true := by
  unfold Oxm.right at h
  cases hf : fRight o.field
  · rw [hf] at h; simp at h
  · rfl
theorem oBody_len (o : Oxm) : (oBody o).length = if o.masked then fSize o.field + fSize o.field else fSize o.field := by
  have := fSize_le o.field
  unfold oBody
  split
  · rw [wPut_len _ _ _ this, wPut_len _ _ _ this]; simp
  · rw [wPut_len _ _ _ this]; simp
end Go.Proofs.YteonfhnljphbpaaGreat
end

section
set_option linter.unusedVariables false
set_option linter.unusedSimpArgs false
namespace Go.Proofs.YteonfhnljphbpaaGreat
open Go Go.AI Go.Proofs

def bAt (b : List (BitVec 8)) (i : Nat) : Nat := (nth b i).toNat
def hField (b : List (BitVec 8)) : Int × Bool := fIndex (bAt b 2 / 2 : Nat)
def hMasked (b : List (BitVec 8)) : Bool := bAt b 2 % 2 == 1
def hWant (b : List (BitVec 8)) : Nat := if hMasked b then fSize (hField b).1 * 2 else fSize (hField b).1
/-- what is wrong with a part's head; 0 if nothing is -/
def hCode (b : List (BitVec 8)) : Int :=
  if b.length < 4 then 1 else if b.length < 4 + bAt b 3 then 1
  else if bAt b 0 != 128 || (bAt b 1 != 0 || !(hField b).2) then 6
  else if hMasked b && !fMasks (hField b).1 then 8
  else if bAt b 3 != hWant b then 1 else 0
theorem u8_and : ∀ x : BitVec 8, bAnd .u8 (bI x) 1 = ((x.toNat % 2 : Nat) : Int) := by
  intro x
  have h : ∀ n : Fin 256, bAnd .u8 ((n.val : Int)) 1 = ((n.val % 2 : Nat) : Int) := by decide +kernel
  exact h ⟨x.toNat, x.isLt⟩
theorem u8_shr : ∀ x : BitVec 8, bShr .u8 (bI x) 1 = ((x.toNat / 2 : Nat) : Int) := by
  intro x
  have h : ∀ n : Fin 256, bShr .u8 ((n.val : Int)) 1 = ((n.val / 2 : Nat) : Int) := by decide +kernel
  exact h ⟨x.toNat, x.isLt⟩
theorem bI_nat (b : List (BitVec 8)) (i : Nat) : bI (nth b i) = (bAt b i : Int) := rfl
theorem bAt_lt (b : List (BitVec 8)) (i : Nat) : bAt b i < 256 := (nth b i).isLt
def hRes (b : List (BitVec 8)) : List AV := if hCode b = 0 then [.int .i64 (hField b).1, .bool (hMasked b), .int .i64 (bAt b 3 : Nat), .int .i64 0] else [.int .i64 0, .bool false, .int .i64 0, .int .i64 (hCode b)]
set_option maxHeartbeats 4000000 in
theorem ohead_c (b : List (BitVec 8)) (hb0 : b.length ≤ 9223372036854775807) : FnP Tryz.prog 147 [byS b] (.tup (hRes b)) := by
  unfold byS
  by_cases h4 : b.length < 4
  · have e : hCode b = 1 := by unfold hCode; rw [if_pos h4]
    have er : hRes b = [.int .i64 0, .bool false, .int .i64 0, .int .i64 1] := by unfold hRes; rw [if_neg (by omega), e]
    rw [er]
    refine FnP.intro Tryz.func147 rfl rfl fun G w => ?_
    repeat (first | refine WK.seq ?_ | refine WK.block ?_ | refine WK.inBlock ?_ | refine WK.skip ?_ | refine WK.label ?_ | refine WK.scope ?_ | refine WK.inScope ?_ | refine WK.exit rfl ?_)
    first | refine WK.reg 100 Tryz.ntmps147 (by kernel_rfl) ?_ | refine WK.regD 100 clsOf (by kernel_rfl) Tryz.ntmps147 (by kernel_rfl) (by kernel_rfl) ?_
    intro A hA Q hQ
    simp
    refine hQ _ _ ?_
    clear hQ hA
    repeat (first | refine WK.seq ?_ | refine WK.block ?_ | refine WK.inBlock ?_ | refine WK.skip ?_ | refine WK.label ?_ | refine WK.scope ?_ | refine WK.inScope ?_ | refine WK.exit rfl ?_)
    first | refine WK.reg 200 Tryz.ntmps147 (by kernel_rfl) ?_ | refine WK.regD 200 clsOf (by kernel_rfl) Tryz.ntmps147 (by kernel_rfl) (by kernel_rfl) ?_
    intro A hA Q hQ
    simp [h4]
    refine hQ _ _ ?_
    clear hQ hA
    repeat (first | refine WK.seq ?_ | refine WK.block ?_ | refine WK.inBlock ?_ | refine WK.skip ?_ | refine WK.label ?_ | refine WK.scope ?_ | refine WK.inScope ?_ | refine WK.exit rfl ?_)
    refine WK.cond2 rfl (fun h => ?_) (fun h => ?_)
    · repeat (first | refine WK.seq ?_ | refine WK.block ?_ | refine WK.inBlock ?_ | refine WK.skip ?_ | refine WK.label ?_ | refine WK.scope ?_ | refine WK.inScope ?_ | refine WK.exit rfl ?_)
      first | refine WK.reg 300 Tryz.ntmps147 (by kernel_rfl) ?_ | refine WK.regD 300 clsOf (by kernel_rfl) Tryz.ntmps147 (by kernel_rfl) (by kernel_rfl) ?_
      intro A hA Q hQ
      simp
      refine hQ _ _ ?_
      clear hQ hA
      repeat (first | refine WK.seq ?_ | refine WK.block ?_ | refine WK.inBlock ?_ | refine WK.skip ?_ | refine WK.label ?_ | refine WK.scope ?_ | refine WK.inScope ?_ | refine WK.exit rfl ?_)
      refine WK.ret Tryz.func147 (by simp (maxDischargeDepth := 120) [Tryz.results147]) (by simp)
    · simp at h; omega
  have i0 : 0 < b.length := by omega
  have i1 : 1 < b.length := by omega
  have i2 : 2 < b.length := by omega
  have i3 : 3 < b.length := by omega
  have j0 : (0 : Int) < b.length := by omega
  have j1 : (1 : Int) < b.length := by omega
  have j2 : (2 : Int) < b.length := by omega
  have j3 : (3 : Int) < b.length := by omega
  have g0 := by_get b 0 i0
  have g1 := by_get b 1 i1
  have g2 := by_get b 2 i2
  have g3 := by_get b 3 i3
  have l2 := bAt_lt b 2
  have l3 := bAt_lt b 3
  have m1 := u8_and (nth b 2)
  have m2 := u8_shr (nth b 2)
  have m3 : IntKind.i64.wrap (bI (nth b 3)) = (bAt b 3 : Int) := by rw [bI_nat]; exact wrap_i64 (by omega) (by omega)
  have m4 : IntKind.i64.wrap (((nth b 2).toNat / 2 : Nat) : Int) = ((bAt b 2 / 2 : Nat) : Int) := by show IntKind.i64.wrap ((bAt b 2 / 2 : Nat) : Int) = _; exact wrap_i64 (by omega) (by omega)
  have hfi := findex_c ((bAt b 2 / 2 : Nat) : Int)
  obtain ⟨q, hq⟩ : ∃ q, q = bAt b 2 / 2 := ⟨_, rfl⟩
  have hF : hField b = fIndex q := by unfold hField; rw [hq]
  rw [← hq] at m4 hfi
  have m2' : bShr .u8 (bI (nth b 2)) 1 = (q : Int) := by rw [m2, hq]; rfl
  have m4' : IntKind.i64.wrap (q : Int) = q := wrap_i64 (by omega) (by omega)
  rw [← hF] at hfi
  have hsz := fSize_le (hField b).1
  have hfs := fsize_c (hField b).1
  obtain ⟨f, ok⟩ : ∃ f : Int × Bool, f = hField b := ⟨_, rfl⟩
  refine FnP.intro Tryz.func147 rfl rfl fun G w => ?_
  repeat (first | refine WK.seq ?_ | refine WK.block ?_ | refine WK.inBlock ?_ | refine WK.skip ?_ | refine WK.label ?_ | refine WK.scope ?_ | refine WK.inScope ?_ | refine WK.exit rfl ?_)
  first | refine WK.reg 100 Tryz.ntmps147 (by kernel_rfl) ?_ | refine WK.regD 100 clsOf (by kernel_rfl) Tryz.ntmps147 (by kernel_rfl) (by kernel_rfl) ?_
  intro A hA Q hQ
  simp
  refine hQ _ _ ?_
  clear hQ hA
  repeat (first | refine WK.seq ?_ | refine WK.block ?_ | refine WK.inBlock ?_ | refine WK.skip ?_ | refine WK.label ?_ | refine WK.scope ?_ | refine WK.inScope ?_ | refine WK.exit rfl ?_)
  first | refine WK.reg 200 Tryz.ntmps147 (by kernel_rfl) ?_ | refine WK.regD 200 clsOf (by kernel_rfl) Tryz.ntmps147 (by kernel_rfl) (by kernel_rfl) ?_
  intro A hA Q hQ
  simp
  refine hQ _ _ ?_
  clear hQ hA
  repeat (first | refine WK.seq ?_ | refine WK.block ?_ | refine WK.inBlock ?_ | refine WK.skip ?_ | refine WK.label ?_ | refine WK.scope ?_ | refine WK.inScope ?_ | refine WK.exit rfl ?_)
  refine WK.cond2 rfl (fun h => ?_) (fun h => ?_)
  · simp at h; omega
  repeat (first | refine WK.seq ?_ | refine WK.block ?_ | refine WK.inBlock ?_ | refine WK.skip ?_ | refine WK.label ?_ | refine WK.scope ?_ | refine WK.inScope ?_ | refine WK.exit rfl ?_)
  apply WK.cut (⟨(upd (upd (upd J 0 (.sl false b.length (byL b))) 6 (.int .i64 (bAt b 3 : Nat))) 7 (.bool (hMasked b))), B0, 0⟩ : St)
  · intro hcut
    cases hm : hMasked b
    · have m5 : bAnd .u8 (bI (nth b 2)) 1 = 0 := by
        rw [m1]
        have h1 : ¬ ((nth b 2).toNat % 2 = 1) := by intro h1; unfold hMasked bAt at hm; rw [h1] at hm; cases hm
        have h2 : (nth b 2).toNat % 2 = 0 := by omega
        rw [h2]; rfl
      repeat (first | refine WK.seq ?_ | refine WK.block ?_ | refine WK.inBlock ?_ | refine WK.skip ?_ | refine WK.label ?_ | refine WK.scope ?_ | refine WK.inScope ?_ | refine WK.exit rfl ?_)
      first | refine WK.reg 300 Tryz.ntmps147 (by kernel_rfl) ?_ | refine WK.regD 300 clsOf (by kernel_rfl) Tryz.ntmps147 (by kernel_rfl) (by kernel_rfl) ?_
      intro A hA Q hQ
      simp [g2, g3, m3, m5, i2, i3, j2, j3]
      refine hQ _ _ ?_
      clear hQ hA
      repeat (first | refine WK.seq ?_ | refine WK.block ?_ | refine WK.inBlock ?_ | refine WK.skip ?_ | refine WK.label ?_ | refine WK.scope ?_ | refine WK.inScope ?_ | refine WK.exit rfl ?_)
      refine WK.next (fun n => n) hcut (by repeat (first | exact TmW.nil | refine TmW.upd ?_ (by simp (maxDischargeDepth := 120) [hm]))) (by repeat (first | exact BxW.nil | refine BxW.upd ?_ (by simp (maxDischargeDepth := 120) [hm]))) (by first | exact InjW.id | exact InjW.nil | exact InjW.one | exact InjW.two (by simp) | exact InjW.three (by simp) (by simp) (by simp))
    · have m5 : bAnd .u8 (bI (nth b 2)) 1 = 1 := by
        rw [m1]
        have h2 : (nth b 2).toNat % 2 = 1 := by unfold hMasked bAt at hm; simpa using hm
        rw [h2]; rfl
      repeat (first | refine WK.seq ?_ | refine WK.block ?_ | refine WK.inBlock ?_ | refine WK.skip ?_ | refine WK.label ?_ | refine WK.scope ?_ | refine WK.inScope ?_ | refine WK.exit rfl ?_)
      first | refine WK.reg 400 Tryz.ntmps147 (by kernel_rfl) ?_ | refine WK.regD 400 clsOf (by kernel_rfl) Tryz.ntmps147 (by kernel_rfl) (by kernel_rfl) ?_
      intro A hA Q hQ
      simp [g2, g3, m3, m5, i2, i3, j2, j3]
      refine hQ _ _ ?_
      clear hQ hA
      repeat (first | refine WK.seq ?_ | refine WK.block ?_ | refine WK.inBlock ?_ | refine WK.skip ?_ | refine WK.label ?_ | refine WK.scope ?_ | refine WK.inScope ?_ | refine WK.exit rfl ?_)
      refine WK.next (fun n => n) hcut (by repeat (first | exact TmW.nil | refine TmW.upd ?_ (by simp (maxDischargeDepth := 120) [hm]))) (by repeat (first | exact BxW.nil | refine BxW.upd ?_ (by simp (maxDischargeDepth := 120) [hm]))) (by first | exact InjW.id | exact InjW.nil | exact InjW.one | exact InjW.two (by simp) | exact InjW.three (by simp) (by simp) (by simp))
  repeat (first | refine WK.seq ?_ | refine WK.block ?_ | refine WK.inBlock ?_ | refine WK.skip ?_ | refine WK.label ?_ | refine WK.scope ?_ | refine WK.inScope ?_ | refine WK.exit rfl ?_)
  first | refine WK.reg 500 Tryz.ntmps147 (by kernel_rfl) ?_ | refine WK.regD 500 clsOf (by kernel_rfl) Tryz.ntmps147 (by kernel_rfl) (by kernel_rfl) ?_
  intro A hA Q hQ
  simp [g2, m2', m4', i2, j2]
  refine RunQ.call rfl rfl rfl rfl (by rfl) (by simp (maxDischargeDepth := 120)) (hfi) (by simp) ?_
  refine RunQ.eval ?_
  simp
  refine hQ _ _ ?_
  clear hQ hA
  repeat (first | refine WK.seq ?_ | refine WK.block ?_ | refine WK.inBlock ?_ | refine WK.skip ?_ | refine WK.label ?_ | refine WK.scope ?_ | refine WK.inScope ?_ | refine WK.exit rfl ?_)
  first | refine WK.reg 600 Tryz.ntmps147 (by kernel_rfl) ?_ | refine WK.regD 600 clsOf (by kernel_rfl) Tryz.ntmps147 (by kernel_rfl) (by kernel_rfl) ?_
  intro A hA Q hQ
  simp
  refine RunQ.call rfl rfl rfl rfl (by rfl) (by simp (maxDischargeDepth := 120)) (hfs) (by simp) ?_
  refine RunQ.eval ?_
  simp
  refine hQ _ _ ?_
  clear hQ hA
  repeat (first | refine WK.seq ?_ | refine WK.block ?_ | refine WK.inBlock ?_ | refine WK.skip ?_ | refine WK.label ?_ | refine WK.scope ?_ | refine WK.inScope ?_ | refine WK.exit rfl ?_)
  apply WK.cut (⟨(upd (upd (upd (upd (upd (upd J 0 (.sl false b.length (byL b))) 6 (.int .i64 (bAt b 3 : Nat))) 7 (.bool (hMasked b))) 8 (.int .i64 (hField b).1)) 9 (.bool (hField b).2)) 10 (.int .i64 (hWant b))), B0, 0⟩ : St)
  · intro hcut
    repeat (first | refine WK.seq ?_ | refine WK.block ?_ | refine WK.inBlock ?_ | refine WK.skip ?_ | refine WK.label ?_ | refine WK.scope ?_ | refine WK.inScope ?_ | refine WK.exit rfl ?_)
    first | refine WK.reg 700 Tryz.ntmps147 (by kernel_rfl) ?_ | refine WK.regD 700 clsOf (by kernel_rfl) Tryz.ntmps147 (by kernel_rfl) (by kernel_rfl) ?_
    intro A hA Q hQ
    simp
    refine hQ _ _ ?_
    clear hQ hA
    cases hm : hMasked b
    · have ew : hWant b = fSize (hField b).1 := by unfold hWant; rw [hm]; rfl
      repeat (first | refine WK.seq ?_ | refine WK.block ?_ | refine WK.inBlock ?_ | refine WK.skip ?_ | refine WK.label ?_ | refine WK.scope ?_ | refine WK.inScope ?_ | refine WK.exit rfl ?_)
      refine WK.cond2 rfl (fun h => ?_) (fun h => ?_)
      · cases h
      · repeat (first | refine WK.seq ?_ | refine WK.block ?_ | refine WK.inBlock ?_ | refine WK.skip ?_ | refine WK.label ?_ | refine WK.scope ?_ | refine WK.inScope ?_ | refine WK.exit rfl ?_)
        refine WK.next (fun n => n) hcut (by repeat (first | exact TmW.nil | refine TmW.upd ?_ (by simp (maxDischargeDepth := 120) [ew, hm]))) (by repeat (first | exact BxW.nil | refine BxW.upd ?_ (by simp (maxDischargeDepth := 120) [ew, hm]))) (by first | exact InjW.id | exact InjW.nil | exact InjW.one | exact InjW.two (by simp) | exact InjW.three (by simp) (by simp) (by simp))
    · have ew : hWant b = fSize (hField b).1 * 2 := by unfold hWant; rw [hm]; rfl
      have w1 : IntKind.i64.wrap ((fSize (hField b).1 : Int) * 2) = (fSize (hField b).1 : Int) * 2 := wrap_i64 (by omega) (by omega)
      repeat (first | refine WK.seq ?_ | refine WK.block ?_ | refine WK.inBlock ?_ | refine WK.skip ?_ | refine WK.label ?_ | refine WK.scope ?_ | refine WK.inScope ?_ | refine WK.exit rfl ?_)
      refine WK.cond2 rfl (fun h => ?_) (fun h => ?_)
      · repeat (first | refine WK.seq ?_ | refine WK.block ?_ | refine WK.inBlock ?_ | refine WK.skip ?_ | refine WK.label ?_ | refine WK.scope ?_ | refine WK.inScope ?_ | refine WK.exit rfl ?_)
        first | refine WK.reg 800 Tryz.ntmps147 (by kernel_rfl) ?_ | refine WK.regD 800 clsOf (by kernel_rfl) Tryz.ntmps147 (by kernel_rfl) (by kernel_rfl) ?_
        intro A hA Q hQ
        simp [w1]
        refine hQ _ _ ?_
        clear hQ hA
        repeat (first | refine WK.seq ?_ | refine WK.block ?_ | refine WK.inBlock ?_ | refine WK.skip ?_ | refine WK.label ?_ | refine WK.scope ?_ | refine WK.inScope ?_ | refine WK.exit rfl ?_)
        refine WK.next (fun n => n) hcut (by repeat (first | exact TmW.nil | refine TmW.upd ?_ (by simp (maxDischargeDepth := 120) [ew, w1, hm]))) (by repeat (first | exact BxW.nil | refine BxW.upd ?_ (by simp (maxDischargeDepth := 120) [ew, w1, hm]))) (by first | exact InjW.id | exact InjW.nil | exact InjW.one | exact InjW.two (by simp) | exact InjW.three (by simp) (by simp) (by simp))
      · cases h
  have w4 : IntKind.i64.wrap (4 + (bAt b 3 : Int)) = 4 + (bAt b 3 : Int) := wrap_i64 (by omega) (by omega)
  by_cases c1 : b.length < 4 + bAt b 3
  · have e : hCode b = 1 := by unfold hCode; rw [if_neg h4, if_pos c1]
    have er : hRes b = [.int .i64 0, .bool false, .int .i64 0, .int .i64 1] := by unfold hRes; rw [if_neg (by omega), e]
    have d1 : (b.length : Int) < 4 + (bAt b 3 : Int) := by omega
    rw [er]
    repeat (first | refine WK.seq ?_ | refine WK.block ?_ | refine WK.inBlock ?_ | refine WK.skip ?_ | refine WK.label ?_ | refine WK.scope ?_ | refine WK.inScope ?_ | refine WK.exit rfl ?_)
    first | refine WK.reg 900 Tryz.ntmps147 (by kernel_rfl) ?_ | refine WK.regD 900 clsOf (by kernel_rfl) Tryz.ntmps147 (by kernel_rfl) (by kernel_rfl) ?_
    intro A hA Q hQ
    simp [w4, d1]
    refine hQ _ _ ?_
    clear hQ hA
    repeat (first | refine WK.seq ?_ | refine WK.block ?_ | refine WK.inBlock ?_ | refine WK.skip ?_ | refine WK.label ?_ | refine WK.scope ?_ | refine WK.inScope ?_ | refine WK.exit rfl ?_)
    refine WK.cond2 rfl (fun h => ?_) (fun h => ?_)
    · repeat (first | refine WK.seq ?_ | refine WK.block ?_ | refine WK.inBlock ?_ | refine WK.skip ?_ | refine WK.label ?_ | refine WK.scope ?_ | refine WK.inScope ?_ | refine WK.exit rfl ?_)
      first | refine WK.reg 1000 Tryz.ntmps147 (by kernel_rfl) ?_ | refine WK.regD 1000 clsOf (by kernel_rfl) Tryz.ntmps147 (by kernel_rfl) (by kernel_rfl) ?_
      intro A hA Q hQ
      simp
      refine hQ _ _ ?_
      clear hQ hA
      repeat (first | refine WK.seq ?_ | refine WK.block ?_ | refine WK.inBlock ?_ | refine WK.skip ?_ | refine WK.label ?_ | refine WK.scope ?_ | refine WK.inScope ?_ | refine WK.exit rfl ?_)
      refine WK.ret Tryz.func147 (by simp (maxDischargeDepth := 120) [Tryz.results147]) (by simp)
    · cases h
  have d1 : ¬ (b.length : Int) < 4 + (bAt b 3 : Int) := by omega
  repeat (first | refine WK.seq ?_ | refine WK.block ?_ | refine WK.inBlock ?_ | refine WK.skip ?_ | refine WK.label ?_ | refine WK.scope ?_ | refine WK.inScope ?_ | refine WK.exit rfl ?_)
  first | refine WK.reg 1100 Tryz.ntmps147 (by kernel_rfl) ?_ | refine WK.regD 1100 clsOf (by kernel_rfl) Tryz.ntmps147 (by kernel_rfl) (by kernel_rfl) ?_
  intro A hA Q hQ
  simp [w4, d1]
  refine hQ _ _ ?_
  clear hQ hA
  repeat (first | refine WK.seq ?_ | refine WK.block ?_ | refine WK.inBlock ?_ | refine WK.skip ?_ | refine WK.label ?_ | refine WK.scope ?_ | refine WK.inScope ?_ | refine WK.exit rfl ?_)
  refine WK.cond2 rfl (fun h => ?_) (fun h => ?_)
  · cases h
  have z0 : (bI (nth b 0) == 128) = (bAt b 0 == 128) := by rw [bI_nat, Bool.eq_iff_iff, beq_iff_eq, beq_iff_eq]; omega
  have z1 : (bI (nth b 1) == 0) = (bAt b 1 == 0) := by rw [bI_nat, Bool.eq_iff_iff, beq_iff_eq, beq_iff_eq]; omega
  have z3 : ((bAt b 3 : Int) == (hWant b : Int)) = (bAt b 3 == hWant b) := by rw [Bool.eq_iff_iff, beq_iff_eq, beq_iff_eq]; omega
  repeat (first | refine WK.seq ?_ | refine WK.block ?_ | refine WK.inBlock ?_ | refine WK.skip ?_ | refine WK.label ?_ | refine WK.scope ?_ | refine WK.inScope ?_ | refine WK.exit rfl ?_)
  apply WK.cut (⟨(upd (upd (upd (upd (upd (upd (upd J 0 (.sl false b.length (byL b))) 6 (.int .i64 (bAt b 3 : Nat))) 7 (.bool (hMasked b))) 8 (.int .i64 (hField b).1)) 9 (.bool (hField b).2)) 10 (.int .i64 (hWant b))) 43 (.bool (bAt b 0 != 128 || (bAt b 1 != 0 || !(hField b).2)))), B0, 0⟩ : St)
  · intro hcut
    cases k0 : bAt b 0 == 128
    · rw [k0] at z0
      repeat (first | refine WK.seq ?_ | refine WK.block ?_ | refine WK.inBlock ?_ | refine WK.skip ?_ | refine WK.label ?_ | refine WK.scope ?_ | refine WK.inScope ?_ | refine WK.exit rfl ?_)
      first | refine WK.reg 1200 Tryz.ntmps147 (by kernel_rfl) ?_ | refine WK.regD 1200 clsOf (by kernel_rfl) Tryz.ntmps147 (by kernel_rfl) (by kernel_rfl) ?_
      intro A hA Q hQ
      have hg4 : (A[4]?).bind (·.dst) = some 48 := by rw [hA]; rfl
      have hg10 : (A[10]?).bind (·.dst) = some 54 := by rw [hA]; rfl
      simp [g0, g1, i0, i1, j0, j1, z0, bne, hg4, hg10]
      refine hQ _ _ ?_
      clear hQ hA
      repeat (first | refine WK.seq ?_ | refine WK.block ?_ | refine WK.inBlock ?_ | refine WK.skip ?_ | refine WK.label ?_ | refine WK.scope ?_ | refine WK.inScope ?_ | refine WK.exit rfl ?_)
      refine WK.next (fun n => n) hcut (by repeat (first | exact TmW.nil | refine TmW.upd ?_ (by simp (maxDischargeDepth := 120) [bne, k0]))) (by repeat (first | exact BxW.nil | refine BxW.upd ?_ (by simp (maxDischargeDepth := 120) [bne, k0]))) (by first | exact InjW.id | exact InjW.nil | exact InjW.one | exact InjW.two (by simp) | exact InjW.three (by simp) (by simp) (by simp))
    · rw [k0] at z0
      cases k1 : bAt b 1 == 0
      · rw [k1] at z1
        repeat (first | refine WK.seq ?_ | refine WK.block ?_ | refine WK.inBlock ?_ | refine WK.skip ?_ | refine WK.label ?_ | refine WK.scope ?_ | refine WK.inScope ?_ | refine WK.exit rfl ?_)
        first | refine WK.reg 1300 Tryz.ntmps147 (by kernel_rfl) ?_ | refine WK.regD 1300 clsOf (by kernel_rfl) Tryz.ntmps147 (by kernel_rfl) (by kernel_rfl) ?_
        intro A hA Q hQ
        have hg4 : (A[4]?).bind (·.dst) = some 48 := by rw [hA]; rfl
        have hg10 : (A[10]?).bind (·.dst) = some 54 := by rw [hA]; rfl
        simp [g0, g1, i0, i1, j0, j1, z0, z1, bne, hg4, hg10]
        refine hQ _ _ ?_
        clear hQ hA
        repeat (first | refine WK.seq ?_ | refine WK.block ?_ | refine WK.inBlock ?_ | refine WK.skip ?_ | refine WK.label ?_ | refine WK.scope ?_ | refine WK.inScope ?_ | refine WK.exit rfl ?_)
        refine WK.next (fun n => n) hcut (by repeat (first | exact TmW.nil | refine TmW.upd ?_ (by simp (maxDischargeDepth := 120) [bne, k0, k1]))) (by repeat (first | exact BxW.nil | refine BxW.upd ?_ (by simp (maxDischargeDepth := 120) [bne, k0, k1]))) (by first | exact InjW.id | exact InjW.nil | exact InjW.one | exact InjW.two (by simp) | exact InjW.three (by simp) (by simp) (by simp))
      · rw [k1] at z1
        repeat (first | refine WK.seq ?_ | refine WK.block ?_ | refine WK.inBlock ?_ | refine WK.skip ?_ | refine WK.label ?_ | refine WK.scope ?_ | refine WK.inScope ?_ | refine WK.exit rfl ?_)
        first | refine WK.reg 1400 Tryz.ntmps147 (by kernel_rfl) ?_ | refine WK.regD 1400 clsOf (by kernel_rfl) Tryz.ntmps147 (by kernel_rfl) (by kernel_rfl) ?_
        intro A hA Q hQ
        have hg4 : (A[4]?).bind (·.dst) = some 48 := by rw [hA]; rfl
        have hg10 : (A[10]?).bind (·.dst) = some 54 := by rw [hA]; rfl
        simp [g0, g1, i0, i1, j0, j1, z0, z1, bne, hg4, hg10]
        refine hQ _ _ ?_
        clear hQ hA
        repeat (first | refine WK.seq ?_ | refine WK.block ?_ | refine WK.inBlock ?_ | refine WK.skip ?_ | refine WK.label ?_ | refine WK.scope ?_ | refine WK.inScope ?_ | refine WK.exit rfl ?_)
        refine WK.next (fun n => n) hcut (by repeat (first | exact TmW.nil | refine TmW.upd ?_ (by simp (maxDischargeDepth := 120) [bne, k0, k1]))) (by repeat (first | exact BxW.nil | refine BxW.upd ?_ (by simp (maxDischargeDepth := 120) [bne, k0, k1]))) (by first | exact InjW.id | exact InjW.nil | exact InjW.one | exact InjW.two (by simp) | exact InjW.three (by simp) (by simp) (by simp))
  repeat (first | refine WK.seq ?_ | refine WK.block ?_ | refine WK.inBlock ?_ | refine WK.skip ?_ | refine WK.label ?_ | refine WK.scope ?_ | refine WK.inScope ?_ | refine WK.exit rfl ?_)
  refine WK.cond2 rfl (fun h6 => ?_) (fun h6 => ?_)
  · have e : hCode b = 6 := by unfold hCode; rw [if_neg h4, if_neg c1, if_pos h6]
    have er : hRes b = [.int .i64 0, .bool false, .int .i64 0, .int .i64 6] := by unfold hRes; rw [if_neg (by omega), e]
    rw [er]
    repeat (first | refine WK.seq ?_ | refine WK.block ?_ | refine WK.inBlock ?_ | refine WK.skip ?_ | refine WK.label ?_ | refine WK.scope ?_ | refine WK.inScope ?_ | refine WK.exit rfl ?_)
    first | refine WK.reg 1500 Tryz.ntmps147 (by kernel_rfl) ?_ | refine WK.regD 1500 clsOf (by kernel_rfl) Tryz.ntmps147 (by kernel_rfl) (by kernel_rfl) ?_
    intro A hA Q hQ
    simp
    refine hQ _ _ ?_
    clear hQ hA
    repeat (first | refine WK.seq ?_ | refine WK.block ?_ | refine WK.inBlock ?_ | refine WK.skip ?_ | refine WK.label ?_ | refine WK.scope ?_ | refine WK.inScope ?_ | refine WK.exit rfl ?_)
    refine WK.ret Tryz.func147 (by simp (maxDischargeDepth := 120) [Tryz.results147]) (by simp)
  have h6' : ¬ (bAt b 0 != 128 || (bAt b 1 != 0 || !(hField b).2)) = true := by rw [h6]; exact Bool.false_ne_true
  have hmk := fmasks_c (hField b).1
  repeat (first | refine WK.seq ?_ | refine WK.block ?_ | refine WK.inBlock ?_ | refine WK.skip ?_ | refine WK.label ?_ | refine WK.scope ?_ | refine WK.inScope ?_ | refine WK.exit rfl ?_)
  apply WK.cut (⟨(upd (upd (upd (upd (upd (upd (upd J 0 (.sl false b.length (byL b))) 6 (.int .i64 (bAt b 3 : Nat))) 7 (.bool (hMasked b))) 8 (.int .i64 (hField b).1)) 9 (.bool (hField b).2)) 10 (.int .i64 (hWant b))) 58 (.bool (hMasked b && !fMasks (hField b).1))), B0, 0⟩ : St)
  · intro hcut
    cases k0 : hMasked b
    · repeat (first | refine WK.seq ?_ | refine WK.block ?_ | refine WK.inBlock ?_ | refine WK.skip ?_ | refine WK.label ?_ | refine WK.scope ?_ | refine WK.inScope ?_ | refine WK.exit rfl ?_)
      first | refine WK.reg 1600 Tryz.ntmps147 (by kernel_rfl) ?_ | refine WK.regD 1600 clsOf (by kernel_rfl) Tryz.ntmps147 (by kernel_rfl) (by kernel_rfl) ?_
      intro A hA Q hQ
      have hg1 : (A[1]?).bind (·.dst) = some 60 := by rw [hA]; rfl
      simp [k0, hg1]
      refine hQ _ _ ?_
      clear hQ hA
      repeat (first | refine WK.seq ?_ | refine WK.block ?_ | refine WK.inBlock ?_ | refine WK.skip ?_ | refine WK.label ?_ | refine WK.scope ?_ | refine WK.inScope ?_ | refine WK.exit rfl ?_)
      refine WK.next (fun n => n) hcut (by repeat (first | exact TmW.nil | refine TmW.upd ?_ (by simp (maxDischargeDepth := 120) [k0]))) (by repeat (first | exact BxW.nil | refine BxW.upd ?_ (by simp (maxDischargeDepth := 120) [k0]))) (by first | exact InjW.id | exact InjW.nil | exact InjW.one | exact InjW.two (by simp) | exact InjW.three (by simp) (by simp) (by simp))
    · repeat (first | refine WK.seq ?_ | refine WK.block ?_ | refine WK.inBlock ?_ | refine WK.skip ?_ | refine WK.label ?_ | refine WK.scope ?_ | refine WK.inScope ?_ | refine WK.exit rfl ?_)
      first | refine WK.reg 1700 Tryz.ntmps147 (by kernel_rfl) ?_ | refine WK.regD 1700 clsOf (by kernel_rfl) Tryz.ntmps147 (by kernel_rfl) (by kernel_rfl) ?_
      intro A hA Q hQ
      have hg1 : (A[1]?).bind (·.dst) = some 60 := by rw [hA]; rfl
      simp [k0, hg1]
      refine RunQ.callG rfl rfl (by simp [hg1]) rfl (by rfl) (by simp (maxDischargeDepth := 120) [hg1]) (hmk) (by simp [hg1]) ?_
      refine RunQ.eval ?_
      simp [hg1]
      refine hQ _ _ ?_
      clear hQ hA
      repeat (first | refine WK.seq ?_ | refine WK.block ?_ | refine WK.inBlock ?_ | refine WK.skip ?_ | refine WK.label ?_ | refine WK.scope ?_ | refine WK.inScope ?_ | refine WK.exit rfl ?_)
      refine WK.next (fun n => n) hcut (by repeat (first | exact TmW.nil | refine TmW.upd ?_ (by simp (maxDischargeDepth := 120) [k0]))) (by repeat (first | exact BxW.nil | refine BxW.upd ?_ (by simp (maxDischargeDepth := 120) [k0]))) (by first | exact InjW.id | exact InjW.nil | exact InjW.one | exact InjW.two (by simp) | exact InjW.three (by simp) (by simp) (by simp))
  repeat (first | refine WK.seq ?_ | refine WK.block ?_ | refine WK.inBlock ?_ | refine WK.skip ?_ | refine WK.label ?_ | refine WK.scope ?_ | refine WK.inScope ?_ | refine WK.exit rfl ?_)
  refine WK.cond2 rfl (fun h8 => ?_) (fun h8 => ?_)
  · have e : hCode b = 8 := by unfold hCode; rw [if_neg h4, if_neg c1, if_neg h6', if_pos h8]
    have er : hRes b = [.int .i64 0, .bool false, .int .i64 0, .int .i64 8] := by unfold hRes; rw [if_neg (by omega), e]
    rw [er]
    repeat (first | refine WK.seq ?_ | refine WK.block ?_ | refine WK.inBlock ?_ | refine WK.skip ?_ | refine WK.label ?_ | refine WK.scope ?_ | refine WK.inScope ?_ | refine WK.exit rfl ?_)
    first | refine WK.reg 1800 Tryz.ntmps147 (by kernel_rfl) ?_ | refine WK.regD 1800 clsOf (by kernel_rfl) Tryz.ntmps147 (by kernel_rfl) (by kernel_rfl) ?_
    intro A hA Q hQ
    simp
    refine hQ _ _ ?_
    clear hQ hA
    repeat (first | refine WK.seq ?_ | refine WK.block ?_ | refine WK.inBlock ?_ | refine WK.skip ?_ | refine WK.label ?_ | refine WK.scope ?_ | refine WK.inScope ?_ | refine WK.exit rfl ?_)
    refine WK.ret Tryz.func147 (by simp (maxDischargeDepth := 120) [Tryz.results147]) (by simp)
  have h8' : ¬ (hMasked b && !fMasks (hField b).1) = true := by rw [h8]; exact Bool.false_ne_true
  cases k3 : bAt b 3 == hWant b
  · rw [k3] at z3
    have e : hCode b = 1 := by unfold hCode; rw [if_neg h4, if_neg c1, if_neg h6', if_neg h8', if_pos (by rw [bne, k3]; rfl)]
    have er : hRes b = [.int .i64 0, .bool false, .int .i64 0, .int .i64 1] := by unfold hRes; rw [if_neg (by omega), e]
    rw [er]
    repeat (first | refine WK.seq ?_ | refine WK.block ?_ | refine WK.inBlock ?_ | refine WK.skip ?_ | refine WK.label ?_ | refine WK.scope ?_ | refine WK.inScope ?_ | refine WK.exit rfl ?_)
    first | refine WK.reg 1900 Tryz.ntmps147 (by kernel_rfl) ?_ | refine WK.regD 1900 clsOf (by kernel_rfl) Tryz.ntmps147 (by kernel_rfl) (by kernel_rfl) ?_
    intro A hA Q hQ
    simp [z3, bne]
    refine hQ _ _ ?_
    clear hQ hA
    repeat (first | refine WK.seq ?_ | refine WK.block ?_ | refine WK.inBlock ?_ | refine WK.skip ?_ | refine WK.label ?_ | refine WK.scope ?_ | refine WK.inScope ?_ | refine WK.exit rfl ?_)
    refine WK.cond2 rfl (fun h => ?_) (fun h => ?_)
    · repeat (first | refine WK.seq ?_ | refine WK.block ?_ | refine WK.inBlock ?_ | refine WK.skip ?_ | refine WK.label ?_ | refine WK.scope ?_ | refine WK.inScope ?_ | refine WK.exit rfl ?_)
      first | refine WK.reg 2000 Tryz.ntmps147 (by kernel_rfl) ?_ | refine WK.regD 2000 clsOf (by kernel_rfl) Tryz.ntmps147 (by kernel_rfl) (by kernel_rfl) ?_
      intro A hA Q hQ
      simp
      refine hQ _ _ ?_
      clear hQ hA
      repeat (first | refine WK.seq ?_ | refine WK.block ?_ | refine WK.inBlock ?_ | refine WK.skip ?_ | refine WK.label ?_ | refine WK.scope ?_ | refine WK.inScope ?_ | refine WK.exit rfl ?_)
      refine WK.ret Tryz.func147 (by simp (maxDischargeDepth := 120) [Tryz.results147]) (by simp)
    · cases h
  · rw [k3] at z3
    have e : hCode b = 0 := by unfold hCode; rw [if_neg h4, if_neg c1, if_neg h6', if_neg h8', if_neg (by rw [bne, k3]; exact Bool.false_ne_true)]
    have er : hRes b = [.int .i64 (hField b).1, .bool (hMasked b), .int .i64 (bAt b 3 : Nat), .int .i64 0] := by unfold hRes; rw [if_pos e]
    rw [er]
    repeat (first | refine WK.seq ?_ | refine WK.block ?_ | refine WK.inBlock ?_ | refine WK.skip ?_ | refine WK.label ?_ | refine WK.scope ?_ | refine WK.inScope ?_ | refine WK.exit rfl ?_)
    first | refine WK.reg 2100 Tryz.ntmps147 (by kernel_rfl) ?_ | refine WK.regD 2100 clsOf (by kernel_rfl) Tryz.ntmps147 (by kernel_rfl) (by kernel_rfl) ?_
    intro A hA Q hQ
    simp [z3, bne]
    refine hQ _ _ ?_
    clear hQ hA
    repeat (first | refine WK.seq ?_ | refine WK.block ?_ | refine WK.inBlock ?_ | refine WK.skip ?_ | refine WK.label ?_ | refine WK.scope ?_ | refine WK.inScope ?_ | refine WK.exit rfl ?_)
    refine WK.cond2 rfl (fun h => ?_) (fun h => ?_)
    · cases h
    · repeat (first | refine WK.seq ?_ | refine WK.block ?_ | refine WK.inBlock ?_ | refine WK.skip ?_ | refine WK.label ?_ | refine WK.scope ?_ | refine WK.inScope ?_ | refine WK.exit rfl ?_)
      first | refine WK.reg 2200 Tryz.ntmps147 (by kernel_rfl) ?_ | refine WK.regD 2200 clsOf (by kernel_rfl) Tryz.ntmps147 (by kernel_rfl) (by kernel_rfl) ?_
      intro A hA Q hQ
      simp
      refine hQ _ _ ?_
      clear hQ hA
      repeat (first | refine WK.seq ?_ | refine WK.block ?_ | refine WK.inBlock ?_ | refine WK.skip ?_ | refine WK.label ?_ | refine WK.scope ?_ | refine WK.inScope ?_ | refine WK.exit rfl ?_)
      refine WK.ret Tryz.func147 (by simp (maxDischargeDepth := 120) [Tryz.results147]) (by simp)
end Go.Proofs.YteonfhnljphbpaaGreat
end
