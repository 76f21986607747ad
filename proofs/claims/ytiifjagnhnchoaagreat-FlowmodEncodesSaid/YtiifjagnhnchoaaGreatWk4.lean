/- Parts of a match: whether one may be, by both sides. -/
import Derived.Test.YtiifjagnhnchoaaGreatWk3
import Derived.Test.YtiifjagnhnchoaaGreatAf
set_option linter.all false
set_option linter.unnecessarySimpa false
section
set_option linter.unusedVariables false
set_option linter.unusedSimpArgs false
namespace Go.Proofs.YtiifjagnhnchoaaGreat
open Go Go.AI Go.Proofs

set_option maxHeartbeats 4000000 in
theorem oright_c (o : Oxm) : FnP Tryz.prog 109 [.agg o.enc] (.bool (Oxm.right o)) := by
  have hf := oform_c o
  have hm := zero_c o.mask
  simp only [Oxm.enc, Wide.enc] at hf hm
  cases k1 : fRight o.field
  · have e : Oxm.right o = false := by unfold Oxm.right; rw [k1]; rfl
    refine FnP.intro Tryz.func109 rfl rfl fun G w => ?_
    repeat (refine WK.seq ?_)
    refine WK.reg 100 Tryz.ntmps109 (by kernel_rfl) ?_
    intro A hA Q hQ
    simp [Oxm.enc]
    refine hQ _ _ ?_
    clear hQ hA
    repeat (refine WK.seq ?_)
    refine WK.ghost (Ghost.frzVar 1 rfl rfl) ?_
    refine WK.reg 200 Tryz.ntmps109 (by kernel_rfl) ?_
    intro A hA Q hQ
    have hg4 : (A[4]?).bind (·.dst) = some 7 := by rw [hA]; rfl
    have hg7 : (A[7]?).bind (·.dst) = some 10 := by rw [hA]; rfl
    have hg14 : (A[14]?).bind (·.dst) = some 17 := by rw [hA]; rfl
    have hg18 : (A[18]?).bind (·.dst) = some 21 := by rw [hA]; rfl
    simp [hg4, hg7, hg14, hg18]
    refine RunQ.call rfl rfl rfl rfl (by rfl) (by simp (maxDischargeDepth := 120) [k1, hg4, hg7, hg14, hg18]) (fright_c o.field) (by simp [k1, hg4, hg7, hg14, hg18]) ?_
    refine RunQ.eval ?_
    simp [k1, hg4, hg7, hg14, hg18]
    refine hQ _ _ ?_
    clear hQ hA
    refine WK.cond2 rfl (fun h => ?_) (fun h => ?_)
    · repeat (refine WK.seq ?_)
      refine WK.reg 300 Tryz.ntmps109 (by kernel_rfl) ?_
      intro A hA Q hQ
      simp
      refine hQ _ _ ?_
      clear hQ hA
      refine WK.ret Tryz.func109 (by simp (maxDischargeDepth := 120) [Tryz.results109, e]) (by simp [e])
    · cases h
  cases k2 : o.masked
  · rw [k2] at hf
    cases k3 : o.mask.zero
    · have e : Oxm.right o = false := by unfold Oxm.right; rw [k1, k2, k3]; rfl
      rw [k3] at hm
      refine FnP.intro Tryz.func109 rfl rfl fun G w => ?_
      repeat (refine WK.seq ?_)
      refine WK.reg 100 Tryz.ntmps109 (by kernel_rfl) ?_
      intro A hA Q hQ
      simp [Oxm.enc, k2]
      refine hQ _ _ ?_
      clear hQ hA
      repeat (refine WK.seq ?_)
      refine WK.ghost (Ghost.frzVar 1 rfl rfl) ?_
      refine WK.reg 200 Tryz.ntmps109 (by kernel_rfl) ?_
      intro A hA Q hQ
      have hg4 : (A[4]?).bind (·.dst) = some 7 := by rw [hA]; rfl
      have hg7 : (A[7]?).bind (·.dst) = some 10 := by rw [hA]; rfl
      have hg14 : (A[14]?).bind (·.dst) = some 17 := by rw [hA]; rfl
      have hg18 : (A[18]?).bind (·.dst) = some 21 := by rw [hA]; rfl
      simp [hg4, hg7, hg14, hg18]
      refine RunQ.call rfl rfl rfl rfl (by rfl) (by simp (maxDischargeDepth := 120) [k1, hg4, hg7, hg14, hg18]) (fright_c o.field) (by simp [k1, hg4, hg7, hg14, hg18]) ?_
      refine RunQ.eval ?_
      simp [k1, hg4, hg7, hg14, hg18]
      refine RunQ.callG rfl rfl (by simp [hg14, hg18]) rfl (by rfl) (by simp (maxDischargeDepth := 120) [hg14, hg18]) (hm) (by simp [hg14, hg18]) ?_
      refine RunQ.eval ?_
      simp [hg14, hg18]
      refine hQ _ _ ?_
      clear hQ hA
      refine WK.cond2 rfl (fun h => ?_) (fun h => ?_)
      · repeat (refine WK.seq ?_)
        refine WK.reg 300 Tryz.ntmps109 (by kernel_rfl) ?_
        intro A hA Q hQ
        simp
        refine hQ _ _ ?_
        clear hQ hA
        refine WK.ret Tryz.func109 (by simp (maxDischargeDepth := 120) [Tryz.results109, e]) (by simp [e])
      · cases h
    · have e : Oxm.right o = (Oxm.form o == 0) := by unfold Oxm.right; rw [k1, k2, k3]; rfl
      rw [k3] at hm
      refine FnP.intro Tryz.func109 rfl rfl fun G w => ?_
      repeat (refine WK.seq ?_)
      refine WK.reg 100 Tryz.ntmps109 (by kernel_rfl) ?_
      intro A hA Q hQ
      simp [Oxm.enc, k2]
      refine hQ _ _ ?_
      clear hQ hA
      repeat (refine WK.seq ?_)
      refine WK.ghost (Ghost.frzVar 1 rfl rfl) ?_
      refine WK.reg 200 Tryz.ntmps109 (by kernel_rfl) ?_
      intro A hA Q hQ
      have hg4 : (A[4]?).bind (·.dst) = some 7 := by rw [hA]; rfl
      have hg7 : (A[7]?).bind (·.dst) = some 10 := by rw [hA]; rfl
      have hg14 : (A[14]?).bind (·.dst) = some 17 := by rw [hA]; rfl
      have hg18 : (A[18]?).bind (·.dst) = some 21 := by rw [hA]; rfl
      simp [hg4, hg7, hg14, hg18]
      refine RunQ.call rfl rfl rfl rfl (by rfl) (by simp (maxDischargeDepth := 120) [k1, hg4, hg7, hg14, hg18]) (fright_c o.field) (by simp [k1, hg4, hg7, hg14, hg18]) ?_
      refine RunQ.eval ?_
      simp [k1, hg4, hg7, hg14, hg18]
      refine RunQ.callG rfl rfl (by simp [hg14, hg18]) rfl (by rfl) (by simp (maxDischargeDepth := 120) [hg14, hg18]) (hm) (by simp [hg14, hg18]) ?_
      refine RunQ.eval ?_
      simp [hg14, hg18]
      refine hQ _ _ ?_
      clear hQ hA
      refine WK.cond2 rfl (fun h => ?_) (fun h => ?_)
      · cases h
      repeat (first | refine WK.seq ?_ | refine WK.skip ?_)
      refine WK.reg 300 Tryz.ntmps109 (by kernel_rfl) ?_
      intro A hA Q hQ
      simp
      refine RunQ.call rfl rfl rfl rfl (by rfl) (by simp (maxDischargeDepth := 120)) (hf) (by simp) ?_
      refine RunQ.eval ?_
      simp
      refine hQ _ _ ?_
      clear hQ hA
      refine WK.ret Tryz.func109 (by simp (maxDischargeDepth := 120) [Tryz.results109, e]) (by simp [e])
  · rw [k2] at hf
    cases k3 : fMasks o.field
    · have e : Oxm.right o = false := by unfold Oxm.right; rw [k1, k2, k3]; rfl
      refine FnP.intro Tryz.func109 rfl rfl fun G w => ?_
      repeat (refine WK.seq ?_)
      refine WK.reg 100 Tryz.ntmps109 (by kernel_rfl) ?_
      intro A hA Q hQ
      simp [Oxm.enc, k2]
      refine hQ _ _ ?_
      clear hQ hA
      repeat (refine WK.seq ?_)
      refine WK.ghost (Ghost.frzVar 1 rfl rfl) ?_
      refine WK.reg 200 Tryz.ntmps109 (by kernel_rfl) ?_
      intro A hA Q hQ
      have hg4 : (A[4]?).bind (·.dst) = some 7 := by rw [hA]; rfl
      have hg7 : (A[7]?).bind (·.dst) = some 10 := by rw [hA]; rfl
      have hg14 : (A[14]?).bind (·.dst) = some 17 := by rw [hA]; rfl
      have hg18 : (A[18]?).bind (·.dst) = some 21 := by rw [hA]; rfl
      simp [hg4, hg7, hg14, hg18]
      refine RunQ.call rfl rfl rfl rfl (by rfl) (by simp (maxDischargeDepth := 120) [k1, hg4, hg7, hg14, hg18]) (fright_c o.field) (by simp [k1, hg4, hg7, hg14, hg18]) ?_
      refine RunQ.eval ?_
      simp [k1, hg4, hg7, hg14, hg18]
      refine RunQ.callG rfl rfl (by simp [k3, hg4, hg7, hg14, hg18]) rfl (by rfl) (by simp (maxDischargeDepth := 120) [k3, hg4, hg7, hg14, hg18]) (fmasks_c o.field) (by simp [k3, hg4, hg7, hg14, hg18]) ?_
      refine RunQ.eval ?_
      simp [k3, hg4, hg7, hg14, hg18]
      refine hQ _ _ ?_
      clear hQ hA
      refine WK.cond2 rfl (fun h => ?_) (fun h => ?_)
      · repeat (refine WK.seq ?_)
        refine WK.reg 300 Tryz.ntmps109 (by kernel_rfl) ?_
        intro A hA Q hQ
        simp
        refine hQ _ _ ?_
        clear hQ hA
        refine WK.ret Tryz.func109 (by simp (maxDischargeDepth := 120) [Tryz.results109, e]) (by simp [e])
      · cases h
    · have e : Oxm.right o = (Oxm.form o == 0) := by unfold Oxm.right; rw [k1, k2, k3]; rfl
      refine FnP.intro Tryz.func109 rfl rfl fun G w => ?_
      repeat (refine WK.seq ?_)
      refine WK.reg 100 Tryz.ntmps109 (by kernel_rfl) ?_
      intro A hA Q hQ
      simp [Oxm.enc, k2]
      refine hQ _ _ ?_
      clear hQ hA
      repeat (refine WK.seq ?_)
      refine WK.ghost (Ghost.frzVar 1 rfl rfl) ?_
      refine WK.reg 200 Tryz.ntmps109 (by kernel_rfl) ?_
      intro A hA Q hQ
      have hg4 : (A[4]?).bind (·.dst) = some 7 := by rw [hA]; rfl
      have hg7 : (A[7]?).bind (·.dst) = some 10 := by rw [hA]; rfl
      have hg14 : (A[14]?).bind (·.dst) = some 17 := by rw [hA]; rfl
      have hg18 : (A[18]?).bind (·.dst) = some 21 := by rw [hA]; rfl
      simp [hg4, hg7, hg14, hg18]
      refine RunQ.call rfl rfl rfl rfl (by rfl) (by simp (maxDischargeDepth := 120) [k1, hg4, hg7, hg14, hg18]) (fright_c o.field) (by simp [k1, hg4, hg7, hg14, hg18]) ?_
      refine RunQ.eval ?_
      simp [k1, hg4, hg7, hg14, hg18]
      refine RunQ.callG rfl rfl (by simp [k3, hg4, hg7, hg14, hg18]) rfl (by rfl) (by simp (maxDischargeDepth := 120) [k3, hg4, hg7, hg14, hg18]) (fmasks_c o.field) (by simp [k3, hg4, hg7, hg14, hg18]) ?_
      refine RunQ.eval ?_
      simp [k3, hg4, hg7, hg14, hg18]
      refine hQ _ _ ?_
      clear hQ hA
      refine WK.cond2 rfl (fun h => ?_) (fun h => ?_)
      · cases h
      repeat (first | refine WK.seq ?_ | refine WK.skip ?_)
      refine WK.reg 300 Tryz.ntmps109 (by kernel_rfl) ?_
      intro A hA Q hQ
      simp
      refine RunQ.call rfl rfl rfl rfl (by rfl) (by simp (maxDischargeDepth := 120)) (hf) (by simp) ?_
      refine RunQ.eval ?_
      simp
      refine hQ _ _ ?_
      clear hQ hA
      refine WK.ret Tryz.func109 (by simp (maxDischargeDepth := 120) [Tryz.results109, e]) (by simp [e])
theorem obad_c (n : Int) : FnP Tryz.prog 87 [.int .i64 n] (.agg [.bool true, .int .i64 4, .int .i64 n]) := by
  refine FnP.intro Tryz.func87 rfl rfl fun G w => ?_
  repeat (refine WK.seq ?_)
  refine WK.reg 100 Tryz.ntmps87 (by kernel_rfl) ?_
  intro A hA Q hQ
  simp
  refine hQ _ _ ?_
  clear hQ hA
  repeat (refine WK.seq ?_)
  refine WK.reg 200 Tryz.ntmps87 (by kernel_rfl) ?_
  intro A hA Q hQ
  simp
  refine hQ _ _ ?_
  clear hQ hA
  refine WK.ret Tryz.func87 (by simp (maxDischargeDepth := 120) [Tryz.results87]) (by simp)
set_option maxHeartbeats 4000000 in
theorem roright_c (o : Oxm) : FnP Tryz.prog 112 [.agg o.enc] (.bool (Oxm.right o)) := by
  have hbits := (fRow_ok o.field).2
  have hlow := rlow2_c (fBits o.field) (by unfold fBits; omega)
  obtain ⟨A0, hA0⟩ : ∃ A0, A0 = lowW (fBits o.field) := ⟨_, rfl⟩
  rw [← hA0] at hlow
  have hm := rzero_c o.mask
  have hl1 := rless_c o.value A0
  have hz1 := rzero_c (o.value.less A0)
  have hl2 := rless_c o.mask A0
  have hz2 := rzero_c (o.mask.less A0)
  have hl3 := rless_c o.value o.mask
  have hz3 := rzero_c (o.value.less o.mask)
  simp only [Wide.enc] at hm hl1 hl2 hl3 hlow hz1 hz2 hz3
  have eb : ∀ w0 : Wide, Oxm.beyond o w0 = !(w0.less A0).zero := fun w0 => by unfold Oxm.beyond; rw [hA0]
  cases k1 : fRight o.field
  · have e : Oxm.right o = false := by unfold Oxm.right; rw [k1]; rfl
    refine FnP.intro Tryz.func112 rfl rfl fun G w => ?_
    repeat (refine WK.seq ?_)
    refine WK.reg 100 Tryz.ntmps112 (by kernel_rfl) ?_
    intro A hA Q hQ
    simp [Oxm.enc]
    refine hQ _ _ ?_
    clear hQ hA
    repeat (refine WK.seq ?_)
    refine WK.ghost (Ghost.frzVar 1 rfl rfl) ?_
    refine WK.reg 200 Tryz.ntmps112 (by kernel_rfl) ?_
    intro A hA Q hQ
    simp
    refine RunQ.call rfl rfl rfl rfl (by rfl) (by simp (maxDischargeDepth := 120) [k1]) (rfright_c o.field) (by simp [k1]) ?_
    refine RunQ.eval ?_
    simp [k1]
    refine hQ _ _ ?_
    clear hQ hA
    refine WK.cond2 rfl (fun h => ?_) (fun h => ?_)
    · repeat (refine WK.seq ?_)
      refine WK.reg 300 Tryz.ntmps112 (by kernel_rfl) ?_
      intro A hA Q hQ
      simp
      refine hQ _ _ ?_
      clear hQ hA
      refine WK.ret Tryz.func112 (by simp (maxDischargeDepth := 120) [Tryz.results112, e]) (by simp [e])
    · cases h
  cases k4 : (o.value.less A0).zero
  · rw [k4] at hz1
    have e : Oxm.right o = false := by unfold Oxm.right Oxm.form; rw [eb, k4]; simp
    refine FnP.intro Tryz.func112 rfl rfl fun G w => ?_
    repeat (refine WK.seq ?_)
    refine WK.reg 100 Tryz.ntmps112 (by kernel_rfl) ?_
    intro A hA Q hQ
    simp [Oxm.enc]
    refine hQ _ _ ?_
    clear hQ hA
    repeat (refine WK.seq ?_)
    refine WK.ghost (Ghost.frzVar 1 rfl rfl) ?_
    refine WK.reg 200 Tryz.ntmps112 (by kernel_rfl) ?_
    intro A hA Q hQ
    simp
    refine RunQ.call rfl rfl rfl rfl (by rfl) (by simp (maxDischargeDepth := 120) [k1]) (rfright_c o.field) (by simp [k1]) ?_
    refine RunQ.eval ?_
    simp [k1]
    refine hQ _ _ ?_
    clear hQ hA
    refine WK.cond2 rfl (fun h => ?_) (fun h => ?_)
    · cases h
    repeat (first | refine WK.seq ?_ | refine WK.skip ?_)
    refine WK.reg 300 Tryz.ntmps112 (by kernel_rfl) ?_
    intro A hA Q hQ
    simp
    refine RunQ.call rfl rfl rfl rfl (by rfl) (by simp (maxDischargeDepth := 120)) (rfbits_c o.field) (by simp) ?_
    refine RunQ.eval ?_
    simp
    refine RunQ.call rfl rfl rfl rfl (by rfl) (by simp (maxDischargeDepth := 120)) (hlow) (by simp) ?_
    refine RunQ.eval ?_
    simp
    refine hQ _ _ ?_
    clear hQ hA
    repeat (refine WK.seq ?_)
    refine WK.ghost (Ghost.frzVar 3 rfl rfl) ?_
    refine WK.reg 400 Tryz.ntmps112 (by kernel_rfl) ?_
    intro A hA Q hQ
    simp
    refine RunQ.call rfl rfl rfl rfl (by rfl) (by simp (maxDischargeDepth := 120)) (hl1) (by simp) ?_
    refine RunQ.eval ?_
    simp
    refine RunQ.call rfl rfl rfl rfl (by rfl) (by simp (maxDischargeDepth := 120)) (hz1) (by simp) ?_
    refine RunQ.eval ?_
    simp
    refine hQ _ _ ?_
    clear hQ hA
    refine WK.cond2 rfl (fun h => ?_) (fun h => ?_)
    · repeat (refine WK.seq ?_)
      refine WK.reg 500 Tryz.ntmps112 (by kernel_rfl) ?_
      intro A hA Q hQ
      simp
      refine hQ _ _ ?_
      clear hQ hA
      refine WK.ret Tryz.func112 (by simp (maxDischargeDepth := 120) [Tryz.results112, e]) (by simp [e])
    · cases h
  rw [k4] at hz1
  cases k2 : o.masked
  · have e : Oxm.right o = o.mask.zero := by unfold Oxm.right Oxm.form; rw [eb, k1, k2, k4]; cases o.mask.zero <;> rfl
    refine FnP.intro Tryz.func112 rfl rfl fun G w => ?_
    repeat (refine WK.seq ?_)
    refine WK.reg 100 Tryz.ntmps112 (by kernel_rfl) ?_
    intro A hA Q hQ
    simp [Oxm.enc, k2]
    refine hQ _ _ ?_
    clear hQ hA
    repeat (refine WK.seq ?_)
    refine WK.ghost (Ghost.frzVar 1 rfl rfl) ?_
    refine WK.reg 200 Tryz.ntmps112 (by kernel_rfl) ?_
    intro A hA Q hQ
    simp
    refine RunQ.call rfl rfl rfl rfl (by rfl) (by simp (maxDischargeDepth := 120) [k1]) (rfright_c o.field) (by simp [k1]) ?_
    refine RunQ.eval ?_
    simp [k1]
    refine hQ _ _ ?_
    clear hQ hA
    refine WK.cond2 rfl (fun h => ?_) (fun h => ?_)
    · cases h
    repeat (first | refine WK.seq ?_ | refine WK.skip ?_)
    refine WK.reg 300 Tryz.ntmps112 (by kernel_rfl) ?_
    intro A hA Q hQ
    simp
    refine RunQ.call rfl rfl rfl rfl (by rfl) (by simp (maxDischargeDepth := 120)) (rfbits_c o.field) (by simp) ?_
    refine RunQ.eval ?_
    simp
    refine RunQ.call rfl rfl rfl rfl (by rfl) (by simp (maxDischargeDepth := 120)) (hlow) (by simp) ?_
    refine RunQ.eval ?_
    simp
    refine hQ _ _ ?_
    clear hQ hA
    repeat (refine WK.seq ?_)
    refine WK.ghost (Ghost.frzVar 3 rfl rfl) ?_
    refine WK.reg 400 Tryz.ntmps112 (by kernel_rfl) ?_
    intro A hA Q hQ
    simp
    refine RunQ.call rfl rfl rfl rfl (by rfl) (by simp (maxDischargeDepth := 120)) (hl1) (by simp) ?_
    refine RunQ.eval ?_
    simp
    refine RunQ.call rfl rfl rfl rfl (by rfl) (by simp (maxDischargeDepth := 120)) (hz1) (by simp) ?_
    refine RunQ.eval ?_
    simp
    refine hQ _ _ ?_
    clear hQ hA
    refine WK.cond2 rfl (fun h => ?_) (fun h => ?_)
    · cases h
    repeat (first | refine WK.seq ?_ | refine WK.skip ?_)
    refine WK.reg 500 Tryz.ntmps112 (by kernel_rfl) ?_
    intro A hA Q hQ
    simp
    refine hQ _ _ ?_
    clear hQ hA
    refine WK.cond2 rfl (fun h => ?_) (fun h => ?_)
    · repeat (refine WK.seq ?_)
      refine WK.reg 600 Tryz.ntmps112 (by kernel_rfl) ?_
      intro A hA Q hQ
      simp
      refine RunQ.call rfl rfl rfl rfl (by rfl) (by simp (maxDischargeDepth := 120)) (hm) (by simp) ?_
      refine RunQ.eval ?_
      simp
      refine hQ _ _ ?_
      clear hQ hA
      refine WK.ret Tryz.func112 (by simp (maxDischargeDepth := 120) [Tryz.results112, e]) (by simp [e])
    · cases h
  · have e : Oxm.right o = (fMasks o.field && (!o.mask.zero && ((o.mask.less A0).zero && (o.value.less o.mask).zero))) := by
      unfold Oxm.right Oxm.form; rw [eb, eb, k1, k2, k4]
      cases fMasks o.field <;> cases o.mask.zero <;> cases (o.mask.less A0).zero <;> cases (o.value.less o.mask).zero <;> rfl
    refine FnP.intro Tryz.func112 rfl rfl fun G w => ?_
    repeat (refine WK.seq ?_)
    refine WK.reg 100 Tryz.ntmps112 (by kernel_rfl) ?_
    intro A hA Q hQ
    simp [Oxm.enc, k2]
    refine hQ _ _ ?_
    clear hQ hA
    repeat (refine WK.seq ?_)
    refine WK.ghost (Ghost.frzVar 1 rfl rfl) ?_
    refine WK.reg 200 Tryz.ntmps112 (by kernel_rfl) ?_
    intro A hA Q hQ
    simp
    refine RunQ.call rfl rfl rfl rfl (by rfl) (by simp (maxDischargeDepth := 120) [k1]) (rfright_c o.field) (by simp [k1]) ?_
    refine RunQ.eval ?_
    simp [k1]
    refine hQ _ _ ?_
    clear hQ hA
    refine WK.cond2 rfl (fun h => ?_) (fun h => ?_)
    · cases h
    repeat (first | refine WK.seq ?_ | refine WK.skip ?_)
    refine WK.reg 300 Tryz.ntmps112 (by kernel_rfl) ?_
    intro A hA Q hQ
    simp
    refine RunQ.call rfl rfl rfl rfl (by rfl) (by simp (maxDischargeDepth := 120)) (rfbits_c o.field) (by simp) ?_
    refine RunQ.eval ?_
    simp
    refine RunQ.call rfl rfl rfl rfl (by rfl) (by simp (maxDischargeDepth := 120)) (hlow) (by simp) ?_
    refine RunQ.eval ?_
    simp
    refine hQ _ _ ?_
    clear hQ hA
    repeat (refine WK.seq ?_)
    refine WK.ghost (Ghost.frzVar 3 rfl rfl) ?_
    refine WK.reg 400 Tryz.ntmps112 (by kernel_rfl) ?_
    intro A hA Q hQ
    simp
    refine RunQ.call rfl rfl rfl rfl (by rfl) (by simp (maxDischargeDepth := 120)) (hl1) (by simp) ?_
    refine RunQ.eval ?_
    simp
    refine RunQ.call rfl rfl rfl rfl (by rfl) (by simp (maxDischargeDepth := 120)) (hz1) (by simp) ?_
    refine RunQ.eval ?_
    simp
    refine hQ _ _ ?_
    clear hQ hA
    refine WK.cond2 rfl (fun h => ?_) (fun h => ?_)
    · cases h
    repeat (first | refine WK.seq ?_ | refine WK.skip ?_)
    refine WK.reg 500 Tryz.ntmps112 (by kernel_rfl) ?_
    intro A hA Q hQ
    simp
    refine hQ _ _ ?_
    clear hQ hA
    refine WK.cond2 rfl (fun h => ?_) (fun h => ?_)
    · cases h
    cases m1 : fMasks o.field
    · rw [m1, Bool.false_and] at e
      repeat (first | refine WK.seq ?_ | refine WK.skip ?_)
      refine WK.reg 600 Tryz.ntmps112 (by kernel_rfl) ?_
      intro A hA Q hQ
      have hg3 : (A[3]?).bind (·.dst) = some 27 := by rw [hA]; rfl
      have hg9 : (A[9]?).bind (·.dst) = some 33 := by rw [hA]; rfl
      have hg16 : (A[16]?).bind (·.dst) = some 40 := by rw [hA]; rfl
      simp [hg3, hg9, hg16]
      refine RunQ.call rfl rfl rfl rfl (by rfl) (by simp (maxDischargeDepth := 120) [m1, hg3, hg9, hg16]) (rfmasks_c o.field) (by simp [m1, hg3, hg9, hg16]) ?_
      refine RunQ.eval ?_
      simp [m1, hg3, hg9, hg16]
      refine hQ _ _ ?_
      clear hQ hA
      refine WK.ret Tryz.func112 (by simp (maxDischargeDepth := 120) [Tryz.results112, e]) (by simp [e])
    rw [m1, Bool.true_and] at e
    cases m2 : o.mask.zero
    case true =>
      rw [m2] at hm e
      repeat (first | refine WK.seq ?_ | refine WK.skip ?_)
      refine WK.reg 700 Tryz.ntmps112 (by kernel_rfl) ?_
      intro A hA Q hQ
      have hg3 : (A[3]?).bind (·.dst) = some 27 := by rw [hA]; rfl
      have hg9 : (A[9]?).bind (·.dst) = some 33 := by rw [hA]; rfl
      have hg16 : (A[16]?).bind (·.dst) = some 40 := by rw [hA]; rfl
      simp [hg3, hg9, hg16]
      refine RunQ.call rfl rfl rfl rfl (by rfl) (by simp (maxDischargeDepth := 120) [m1, hg3, hg9, hg16]) (rfmasks_c o.field) (by simp [m1, hg3, hg9, hg16]) ?_
      refine RunQ.eval ?_
      simp [m1, hg3, hg9, hg16]
      refine RunQ.callG rfl rfl (by simp [hg3, hg9, hg16]) rfl (by rfl) (by simp (maxDischargeDepth := 120) [hg3, hg9, hg16]) (hm) (by simp [hg3, hg9, hg16]) ?_
      refine RunQ.eval ?_
      simp [hg3, hg9, hg16]
      refine hQ _ _ ?_
      clear hQ hA
      refine WK.ret Tryz.func112 (by simp (maxDischargeDepth := 120) [Tryz.results112, e]) (by simp [e])
    rw [m2] at hm e
    rw [Bool.not_false, Bool.true_and] at e
    cases m3 : (o.mask.less A0).zero
    · rw [m3] at hz2 e
      rw [Bool.false_and] at e
      repeat (first | refine WK.seq ?_ | refine WK.skip ?_)
      refine WK.reg 800 Tryz.ntmps112 (by kernel_rfl) ?_
      intro A hA Q hQ
      have hg3 : (A[3]?).bind (·.dst) = some 27 := by rw [hA]; rfl
      have hg9 : (A[9]?).bind (·.dst) = some 33 := by rw [hA]; rfl
      have hg16 : (A[16]?).bind (·.dst) = some 40 := by rw [hA]; rfl
      simp [hg3, hg9, hg16]
      refine RunQ.call rfl rfl rfl rfl (by rfl) (by simp (maxDischargeDepth := 120) [m1, hg3, hg9, hg16]) (rfmasks_c o.field) (by simp [m1, hg3, hg9, hg16]) ?_
      refine RunQ.eval ?_
      simp [m1, hg3, hg9, hg16]
      refine RunQ.callG rfl rfl (by simp [hg3, hg9, hg16]) rfl (by rfl) (by simp (maxDischargeDepth := 120) [hg3, hg9, hg16]) (hm) (by simp [hg3, hg9, hg16]) ?_
      refine RunQ.eval ?_
      simp [hg3, hg9, hg16]
      refine RunQ.callG rfl rfl (by simp [hg9, hg16]) rfl (by rfl) (by simp (maxDischargeDepth := 120) [hg9, hg16]) (hl2) (by simp [hg9, hg16]) ?_
      refine RunQ.eval ?_
      simp [hg9, hg16]
      refine RunQ.callG rfl rfl (by simp [hg9, hg16]) rfl (by rfl) (by simp (maxDischargeDepth := 120) [hg9, hg16]) (hz2) (by simp [hg9, hg16]) ?_
      refine RunQ.eval ?_
      simp [hg9, hg16]
      refine hQ _ _ ?_
      clear hQ hA
      refine WK.ret Tryz.func112 (by simp (maxDischargeDepth := 120) [Tryz.results112, e]) (by simp [e])
    · rw [m3] at hz2 e
      rw [Bool.true_and] at e
      repeat (first | refine WK.seq ?_ | refine WK.skip ?_)
      refine WK.reg 900 Tryz.ntmps112 (by kernel_rfl) ?_
      intro A hA Q hQ
      have hg3 : (A[3]?).bind (·.dst) = some 27 := by rw [hA]; rfl
      have hg9 : (A[9]?).bind (·.dst) = some 33 := by rw [hA]; rfl
      have hg16 : (A[16]?).bind (·.dst) = some 40 := by rw [hA]; rfl
      simp [hg3, hg9, hg16]
      refine RunQ.call rfl rfl rfl rfl (by rfl) (by simp (maxDischargeDepth := 120) [m1, hg3, hg9, hg16]) (rfmasks_c o.field) (by simp [m1, hg3, hg9, hg16]) ?_
      refine RunQ.eval ?_
      simp [m1, hg3, hg9, hg16]
      refine RunQ.callG rfl rfl (by simp [hg3, hg9, hg16]) rfl (by rfl) (by simp (maxDischargeDepth := 120) [hg3, hg9, hg16]) (hm) (by simp [hg3, hg9, hg16]) ?_
      refine RunQ.eval ?_
      simp [hg3, hg9, hg16]
      refine RunQ.callG rfl rfl (by simp [hg9, hg16]) rfl (by rfl) (by simp (maxDischargeDepth := 120) [hg9, hg16]) (hl2) (by simp [hg9, hg16]) ?_
      refine RunQ.eval ?_
      simp [hg9, hg16]
      refine RunQ.callG rfl rfl (by simp [hg9, hg16]) rfl (by rfl) (by simp (maxDischargeDepth := 120) [hg9, hg16]) (hz2) (by simp [hg9, hg16]) ?_
      refine RunQ.eval ?_
      simp [hg9, hg16]
      refine RunQ.callG rfl rfl (by simp [hg16]) rfl (by rfl) (by simp (maxDischargeDepth := 120) [hg16]) (hl3) (by simp [hg16]) ?_
      refine RunQ.eval ?_
      simp [hg16]
      refine RunQ.callG rfl rfl (by simp [hg16]) rfl (by rfl) (by simp (maxDischargeDepth := 120) [hg16]) (hz3) (by simp [hg16]) ?_
      refine RunQ.eval ?_
      simp [hg16]
      refine hQ _ _ ?_
      clear hQ hA
      refine WK.ret Tryz.func112 (by simp (maxDischargeDepth := 120) [Tryz.results112, e]) (by simp [e])
end Go.Proofs.YtiifjagnhnchoaaGreat
end

section
set_option linter.unusedVariables false
set_option linter.unusedSimpArgs false
namespace Go.Proofs.YtiifjagnhnchoaaGreat
open Go Go.AI Go.Proofs

theorem nputP_c (b : List (BitVec 8)) (n : Int) (s : Nat) (hs : Sz s) (hb0 : b.length ≤ 1000000) : FnP Tryz.prog 34 [byS b, .int .i64 n, .int .i64 s] (byS (putN b n s)) := by
  have h := (nput_c b n s hs hb0).toP (by simp [byL_take])
  rwa [Nat.mul_one, by_full _ _ rfl] at h
theorem rputP_c (b : List (BitVec 8)) (n : Int) (s : Nat) (hs : Sz s) (hb0 : b.length ≤ 1000000) : FnP Tryz.prog 38 [byS b, .int .i64 n, .int .i64 s] (byS (putN b n s)) := by
  have h := (rput_c b n s hs hb0).toP (by simp [byL_take])
  rwa [Nat.mul_one, by_full _ _ rfl] at h
theorem wputP_c (b : List (BitVec 8)) (a : Wide) (s : Nat) (hs : s ≤ 16) (hb0 : b.length ≤ 1000000) : FnP Tryz.prog 32 [byS b, .agg a.enc, .int .i64 s] (byS (wPut b a s)) := by
  have h := (wput_c b a s hs hb0).toP (by simp [byL_take])
  rwa [Nat.mul_one, by_full _ _ rfl] at h
theorem rwputP_c (b : List (BitVec 8)) (a : Wide) (s : Nat) (hs : s ≤ 16) (hb0 : b.length ≤ 1000000) : FnP Tryz.prog 37 [byS b, .agg a.enc, .int .i64 s] (byS (wPut b a s)) := by
  have h := (rwput_c b a s hs hb0).toP (by simp [byL_take])
  rwa [Nat.mul_one, by_full _ _ rfl] at h
theorem putN_len (b : List (BitVec 8)) (n : Int) (s : Nat) : (putN b n s).length ≤ b.length + s := by
  unfold putN; split
  · rw [List.length_append, beN_len]; omega
  · omega
/-- what is behind a part's head -/
def oBody (o : Oxm) : List (BitVec 8) := if o.masked then wPut (wPut [] o.value (fSize o.field)) o.mask (fSize o.field) else wPut [] o.value (fSize o.field)
def oNum (o : Oxm) : Int := if o.masked then fID o.field * 2 + 1 else fID o.field * 2
def oHead (o : Oxm) : List (BitVec 8) := putN (putN (putN [] 32768 2) (oNum o) 1) (oBody o).length 1
def oEnc (o : Oxm) : List (BitVec 8) × Int := if Oxm.right o then (oHead o ++ oBody o, 0) else ([], 1)
theorem shl_one (f : Int) : bShl .i64 (fID f) 1 = fID f * 2 := by
  have := (fRow_ok f).1
  unfold bShl fID
  show IntKind.wrap .i64 ((fRow f).1 * 2 ^ 1) = _
  rw [Int.pow_one, wrap_i64 (by omega) (by omega)]
theorem or_one_all : ∀ n : Fin 35, bOr .i64 ((n.val : Int) * 2) 1 = (n.val : Int) * 2 + 1 := by decide +kernel
theorem or_one (f : Int) (h : fRight f = true) : bOr .i64 (fID f * 2) 1 = fID f * 2 + 1 := by
  unfold fRight at h
  rw [Bool.and_eq_true, decide_eq_true_eq, decide_eq_true_eq] at h
  have hp : 0 ≤ fID f ∧ fID f ≤ 34 := by
    unfold fID fRow
    rw [if_pos ⟨h.1, h.2⟩]
    have hl : f.toNat < fRows.length := by show f.toNat < 24; omega
    have : ∀ r, r ∈ fRows → 0 ≤ r.1 ∧ r.1 ≤ 34 := by decide
    exact this _ (nth_mem hl)
  have := or_one_all ⟨(fID f).toNat, by omega⟩
  rwa [show (((⟨(fID f).toNat, by omega⟩ : Fin 35).val : Nat) : Int) = fID f by show (((fID f).toNat : Nat) : Int) = _; omega] at this
theorem right_field {o : Oxm} (h : Oxm.right o = true) : fRight o.field = true := by
  unfold Oxm.right at h
  cases hf : fRight o.field
  · rw [hf] at h; simp at h
  · rfl
theorem oBody_len (o : Oxm) : (oBody o).length = if o.masked then fSize o.field + fSize o.field else fSize o.field := by
  have := fSize_le o.field
  unfold oBody
  split
  · rw [wPut_len _ _ _ this, wPut_len _ _ _ this]; simp
  · rw [wPut_len _ _ _ this]; simp
set_option maxHeartbeats 4000000 in
theorem roenc_c (o : Oxm) : FnP Tryz.prog 76 [.agg o.enc] (.tup [byS (oEnc o).1, .int .i64 (oEnc o).2]) := by
  have hr := roright_c o
  have hsz := fSize_le o.field
  have hid := (fRow_ok o.field).1
  have hbl := oBody_len o
  have w1 : IntKind.i64.wrap (2 * fID o.field) = 2 * fID o.field := by unfold fID; exact wrap_i64 (by omega) (by omega)
  have w2 : IntKind.i64.wrap (2 * fID o.field + 1) = 2 * fID o.field + 1 := by unfold fID; exact wrap_i64 (by omega) (by omega)
  have w3 : IntKind.i64.wrap (2 * (fSize o.field : Int)) = ((2 * fSize o.field : Nat) : Int) := by rw [wrap_i64 (by omega) (by omega)]; omega
  have p1 := rputP_c [] 32768 2 (by unfold Sz; omega) (by simp)
  rw [show byS [] = .sl false 0 [] from rfl] at p1
  have l1 := putN_len [] 32768 2
  simp only [Oxm.enc] at hr
  cases k : Oxm.right o
  · have e : oEnc o = ([], 1) := by unfold oEnc; rw [k]; rfl
    rw [k] at hr
    refine FnP.intro Tryz.func76 rfl rfl fun G w => ?_
    repeat (refine WK.seq ?_)
    refine WK.reg 100 Tryz.ntmps76 (by kernel_rfl) ?_
    intro A hA Q hQ
    simp [Oxm.enc]
    refine hQ _ _ ?_
    clear hQ hA
    repeat (refine WK.seq ?_)
    refine WK.ghost (Ghost.frzVar 1 rfl rfl) ?_
    refine WK.reg 200 Tryz.ntmps76 (by kernel_rfl) ?_
    intro A hA Q hQ
    simp
    refine RunQ.call rfl rfl rfl rfl (by rfl) (by simp (maxDischargeDepth := 120)) (hr) (by simp) ?_
    refine RunQ.eval ?_
    simp
    refine hQ _ _ ?_
    clear hQ hA
    refine WK.cond2 rfl (fun h => ?_) (fun h => ?_)
    · repeat (refine WK.seq ?_)
      refine WK.reg 300 Tryz.ntmps76 (by kernel_rfl) ?_
      intro A hA Q hQ
      simp
      refine hQ _ _ ?_
      clear hQ hA
      refine WK.ret Tryz.func76 (by simp (maxDischargeDepth := 120) [Tryz.results76, e, byS, byL_nil]) (by simp [e, byS, byL_nil])
    · cases h
  rw [k] at hr
  have e : oEnc o = (oHead o ++ oBody o, 0) := by unfold oEnc; rw [k]; rfl
  obtain ⟨b1, hb1⟩ : ∃ b1, b1 = putN [] 32768 2 := ⟨_, rfl⟩
  rw [← hb1] at p1 l1
  simp only [List.length_nil, Nat.zero_add] at l1
  cases m : o.masked
  · have eb : oBody o = wPut [] o.value (fSize o.field) := by unfold oBody; rw [m]; rfl
    have en : oNum o = 2 * fID o.field := by unfold oNum; rw [m]; exact Int.mul_comm _ _
    rw [m] at hbl
    simp only [Bool.false_eq_true, if_false] at hbl
    have p2 := rputP_c b1 (2 * fID o.field) 1 (by unfold Sz; omega) (by omega)
    have l2 := putN_len b1 (2 * fID o.field) 1
    have p3 := rputP_c (putN b1 (2 * fID o.field) 1) (fSize o.field) 1 (by unfold Sz; omega) (by omega)
    have eh : oHead o = putN (putN b1 (2 * fID o.field) 1) (fSize o.field) 1 := by unfold oHead; rw [hbl, en, hb1]
    have l3 := putN_len (putN b1 (2 * fID o.field) 1) (fSize o.field) 1
    rw [← eh] at p3 l3
    have p4 := rwputP_c (oHead o) o.value (fSize o.field) hsz (by omega)
    have e4 : wPut (oHead o) o.value (fSize o.field) = oHead o ++ oBody o := by rw [eb]; unfold wPut; simp
    rw [e4] at p4
    obtain ⟨b2, hb2⟩ : ∃ b2, b2 = putN b1 (2 * fID o.field) 1 := ⟨_, rfl⟩
    rw [← hb2] at p2 p3
    simp only [Wide.enc] at p4
    rw [m] at hr
    refine FnP.intro Tryz.func76 rfl rfl fun G w => ?_
    repeat (refine WK.seq ?_)
    refine WK.reg 100 Tryz.ntmps76 (by kernel_rfl) ?_
    intro A hA Q hQ
    simp [Oxm.enc, m]
    refine hQ _ _ ?_
    clear hQ hA
    repeat (refine WK.seq ?_)
    refine WK.ghost (Ghost.frzVar 1 rfl rfl) ?_
    refine WK.reg 200 Tryz.ntmps76 (by kernel_rfl) ?_
    intro A hA Q hQ
    simp
    refine RunQ.call rfl rfl rfl rfl (by rfl) (by simp (maxDischargeDepth := 120)) (hr) (by simp) ?_
    refine RunQ.eval ?_
    simp
    refine hQ _ _ ?_
    clear hQ hA
    refine WK.cond2 rfl (fun h => ?_) (fun h => ?_)
    · cases h
    repeat (first | refine WK.seq ?_ | refine WK.skip ?_)
    refine WK.reg 300 Tryz.ntmps76 (by kernel_rfl) ?_
    intro A hA Q hQ
    simp
    refine RunQ.call rfl rfl rfl rfl (by rfl) (by simp (maxDischargeDepth := 120)) (rfsize_c o.field) (by simp) ?_
    refine RunQ.eval ?_
    simp
    refine hQ _ _ ?_
    clear hQ hA
    repeat (refine WK.seq ?_)
    refine WK.reg 400 Tryz.ntmps76 (by kernel_rfl) ?_
    intro A hA Q hQ
    simp
    refine RunQ.call rfl rfl rfl rfl (by rfl) (by simp (maxDischargeDepth := 120) [w1]) (rfid_c o.field) (by simp [w1]) ?_
    refine RunQ.eval ?_
    simp [w1]
    refine hQ _ _ ?_
    clear hQ hA
    repeat (refine WK.seq ?_)
    refine WK.reg 500 Tryz.ntmps76 (by kernel_rfl) ?_
    intro A hA Q hQ
    simp
    refine hQ _ _ ?_
    clear hQ hA
    refine WK.cond2 rfl (fun h => ?_) (fun h => ?_)
    · repeat (refine WK.seq ?_)
      refine WK.reg 600 Tryz.ntmps76 (by kernel_rfl) ?_
      intro A hA Q hQ
      simp
      refine RunQ.call rfl rfl rfl rfl (by rfl) (by simp (maxDischargeDepth := 120)) (p1) (by simp) ?_
      refine RunQ.eval ?_
      simp
      refine RunQ.call rfl rfl rfl rfl (by rfl) (by simp (maxDischargeDepth := 120)) (p2) (by simp) ?_
      refine RunQ.eval ?_
      simp
      refine RunQ.call rfl rfl rfl rfl (by rfl) (by simp (maxDischargeDepth := 120)) (p3) (by simp) ?_
      refine RunQ.eval ?_
      simp
      refine hQ _ _ ?_
      clear hQ hA
      repeat (refine WK.seq ?_)
      refine WK.reg 700 Tryz.ntmps76 (by kernel_rfl) ?_
      intro A hA Q hQ
      simp
      refine RunQ.call rfl rfl rfl rfl (by rfl) (by simp (maxDischargeDepth := 120)) (p4) (by simp) ?_
      refine RunQ.eval ?_
      simp
      refine hQ _ _ ?_
      clear hQ hA
      refine WK.ret Tryz.func76 (by simp (maxDischargeDepth := 120) [Tryz.results76, e]) (by simp [e])
    · cases h
  · have eb : oBody o = wPut (wPut [] o.value (fSize o.field)) o.mask (fSize o.field) := by unfold oBody; rw [m]; rfl
    have en : oNum o = 2 * fID o.field + 1 := by unfold oNum; rw [m]; show fID o.field * 2 + 1 = _; rw [Int.mul_comm]
    rw [m] at hbl
    simp only [if_true] at hbl
    have hbl' : (oBody o).length = 2 * fSize o.field := by omega
    have p2 := rputP_c b1 (2 * fID o.field + 1) 1 (by unfold Sz; omega) (by omega)
    have l2 := putN_len b1 (2 * fID o.field + 1) 1
    have p3 := rputP_c (putN b1 (2 * fID o.field + 1) 1) (2 * fSize o.field : Nat) 1 (by unfold Sz; omega) (by omega)
    have eh : oHead o = putN (putN b1 (2 * fID o.field + 1) 1) (2 * fSize o.field : Nat) 1 := by unfold oHead; rw [hbl', en, hb1]
    have l3 := putN_len (putN b1 (2 * fID o.field + 1) 1) (2 * fSize o.field : Nat) 1
    rw [← eh] at p3 l3
    have p4 := rwputP_c (oHead o) o.value (fSize o.field) hsz (by omega)
    have l4 := wPut_len (oHead o) o.value (fSize o.field) hsz
    have p5 := rwputP_c (wPut (oHead o) o.value (fSize o.field)) o.mask (fSize o.field) hsz (by omega)
    have e5 : wPut (wPut (oHead o) o.value (fSize o.field)) o.mask (fSize o.field) = oHead o ++ oBody o := by rw [eb]; unfold wPut; simp
    rw [e5] at p5
    obtain ⟨b2, hb2⟩ : ∃ b2, b2 = putN b1 (2 * fID o.field + 1) 1 := ⟨_, rfl⟩
    rw [← hb2] at p2 p3
    obtain ⟨b4, hb4⟩ : ∃ b4, b4 = wPut (oHead o) o.value (fSize o.field) := ⟨_, rfl⟩
    rw [← hb4] at p4 p5
    simp only [Wide.enc] at p4 p5
    rw [m] at hr
    refine FnP.intro Tryz.func76 rfl rfl fun G w => ?_
    repeat (refine WK.seq ?_)
    refine WK.reg 100 Tryz.ntmps76 (by kernel_rfl) ?_
    intro A hA Q hQ
    simp [Oxm.enc, m]
    refine hQ _ _ ?_
    clear hQ hA
    repeat (refine WK.seq ?_)
    refine WK.ghost (Ghost.frzVar 1 rfl rfl) ?_
    refine WK.reg 200 Tryz.ntmps76 (by kernel_rfl) ?_
    intro A hA Q hQ
    simp
    refine RunQ.call rfl rfl rfl rfl (by rfl) (by simp (maxDischargeDepth := 120)) (hr) (by simp) ?_
    refine RunQ.eval ?_
    simp
    refine hQ _ _ ?_
    clear hQ hA
    refine WK.cond2 rfl (fun h => ?_) (fun h => ?_)
    · cases h
    repeat (first | refine WK.seq ?_ | refine WK.skip ?_)
    refine WK.reg 300 Tryz.ntmps76 (by kernel_rfl) ?_
    intro A hA Q hQ
    simp
    refine RunQ.call rfl rfl rfl rfl (by rfl) (by simp (maxDischargeDepth := 120)) (rfsize_c o.field) (by simp) ?_
    refine RunQ.eval ?_
    simp
    refine hQ _ _ ?_
    clear hQ hA
    repeat (refine WK.seq ?_)
    refine WK.reg 400 Tryz.ntmps76 (by kernel_rfl) ?_
    intro A hA Q hQ
    simp
    refine RunQ.call rfl rfl rfl rfl (by rfl) (by simp (maxDischargeDepth := 120) [w1]) (rfid_c o.field) (by simp [w1]) ?_
    refine RunQ.eval ?_
    simp [w1]
    refine hQ _ _ ?_
    clear hQ hA
    repeat (refine WK.seq ?_)
    refine WK.reg 500 Tryz.ntmps76 (by kernel_rfl) ?_
    intro A hA Q hQ
    simp
    refine hQ _ _ ?_
    clear hQ hA
    refine WK.cond2 rfl (fun h => ?_) (fun h => ?_)
    · cases h
    · repeat (first | refine WK.seq ?_ | refine WK.skip ?_)
      refine WK.reg 600 Tryz.ntmps76 (by kernel_rfl) ?_
      intro A hA Q hQ
      simp
      refine RunQ.call rfl rfl rfl rfl (by rfl) (by simp (maxDischargeDepth := 120) [w2]) (p1) (by simp [w2]) ?_
      refine RunQ.eval ?_
      simp [w2]
      refine RunQ.call rfl rfl rfl rfl (by rfl) (by simp (maxDischargeDepth := 120) [w3]) (p2) (by simp [w3]) ?_
      refine RunQ.eval ?_
      simp [w3]
      refine RunQ.call rfl rfl rfl rfl (by rfl) (by simp (maxDischargeDepth := 120)) (p3) (by simp) ?_
      refine RunQ.eval ?_
      simp
      refine hQ _ _ ?_
      clear hQ hA
      repeat (refine WK.seq ?_)
      refine WK.regD 700 clsOf (by kernel_rfl) Tryz.ntmps76 (by kernel_rfl) (by kernel_rfl) ?_
      intro A hA Q hQ
      simp
      refine RunQ.call rfl rfl rfl rfl (by rfl) (by simp (maxDischargeDepth := 120)) (p4) (by simp) ?_
      refine RunQ.eval ?_
      simp
      refine RunQ.call rfl rfl rfl rfl (by rfl) (by simp (maxDischargeDepth := 120)) (p5) (by simp) ?_
      refine RunQ.eval ?_
      simp
      refine hQ _ _ ?_
      clear hQ hA
      refine WK.ret Tryz.func76 (by simp (maxDischargeDepth := 120) [Tryz.results76, e]) (by simp [e])
set_option maxHeartbeats 4000000 in
theorem oenc_c (o : Oxm) : FnP Tryz.prog 72 [.agg o.enc] (.tup [byS (oEnc o).1, .int .i64 (oEnc o).2]) := by
  have hr := oright_c o
  have hsz := fSize_le o.field
  have hid := (fRow_ok o.field).1
  have hbl := oBody_len o
  have hsh := shl_one o.field
  have p1 := nputP_c [] 32768 2 (by unfold Sz; omega) (by simp)
  rw [show byS [] = .sl false 0 [] from rfl] at p1
  have l1 := putN_len [] 32768 2
  have hbl2 : (oBody o).length ≤ 32 := by rw [hbl]; split <;> omega
  simp only [Oxm.enc] at hr
  cases k : Oxm.right o
  · have e : oEnc o = ([], 1) := by unfold oEnc; rw [k]; rfl
    rw [k] at hr
    refine FnP.intro Tryz.func72 rfl rfl fun G w => ?_
    repeat (refine WK.seq ?_)
    refine WK.reg 100 Tryz.ntmps72 (by kernel_rfl) ?_
    intro A hA Q hQ
    simp [Oxm.enc]
    refine hQ _ _ ?_
    clear hQ hA
    repeat (refine WK.seq ?_)
    refine WK.ghost (Ghost.frzVar 1 rfl rfl) ?_
    refine WK.reg 200 Tryz.ntmps72 (by kernel_rfl) ?_
    intro A hA Q hQ
    simp
    refine RunQ.call rfl rfl rfl rfl (by rfl) (by simp (maxDischargeDepth := 120)) (hr) (by simp) ?_
    refine RunQ.eval ?_
    simp
    refine hQ _ _ ?_
    clear hQ hA
    refine WK.cond2 rfl (fun h => ?_) (fun h => ?_)
    · repeat (refine WK.seq ?_)
      refine WK.reg 300 Tryz.ntmps72 (by kernel_rfl) ?_
      intro A hA Q hQ
      simp
      refine hQ _ _ ?_
      clear hQ hA
      refine WK.ret Tryz.func72 (by simp (maxDischargeDepth := 120) [Tryz.results72, e, byS, byL_nil]) (by simp [e, byS, byL_nil])
    · cases h
  rw [k] at hr
  have e : oEnc o = (oHead o ++ oBody o, 0) := by unfold oEnc; rw [k]; rfl
  have hor := or_one o.field (right_field k)
  obtain ⟨b1, hb1⟩ : ∃ b1, b1 = putN [] 32768 2 := ⟨_, rfl⟩
  rw [← hb1] at p1 l1
  simp only [List.length_nil, Nat.zero_add] at l1
  have p2 := nputP_c b1 (oNum o) 1 (by unfold Sz; omega) (by omega)
  have l2 := putN_len b1 (oNum o) 1
  have p3 := nput_c (putN b1 (oNum o) 1) (oBody o).length 1 (by unfold Sz; omega) (by omega)
  have eh : oHead o = putN (putN b1 (oNum o) 1) (oBody o).length 1 := by unfold oHead; rw [hb1]
  have l3 := putN_len (putN b1 (oNum o) 1) (oBody o).length 1
  rw [← eh] at p3 l3
  obtain ⟨b2, hb2⟩ : ∃ b2, b2 = putN b1 (oNum o) 1 := ⟨_, rfl⟩
  rw [← hb2] at p2 p3
  have q1 := wputP_c [] o.value (fSize o.field) hsz (by simp)
  rw [show byS [] = .sl false 0 [] from rfl] at q1
  have hf := by_full (oBody o) _ rfl
  have hbd : (oHead o).length + (oBody o).length ≤ 140737488355328 := by omega
  have hT : (byL (oHead o) ++ byL (oBody o)).take ((oHead o).length + (oBody o).length) = byL (oHead o) ++ byL (oBody o) := List.take_of_length_le (by simp)
  refine FnP.intro Tryz.func72 rfl rfl fun G w => ?_
  repeat (refine WK.seq ?_)
  refine WK.reg 100 Tryz.ntmps72 (by kernel_rfl) ?_
  intro A hA Q hQ
  simp [Oxm.enc]
  refine hQ _ _ ?_
  clear hQ hA
  repeat (refine WK.seq ?_)
  refine WK.ghost (Ghost.frzVar 1 rfl rfl) ?_
  refine WK.reg 200 Tryz.ntmps72 (by kernel_rfl) ?_
  intro A hA Q hQ
  simp
  refine RunQ.call rfl rfl rfl rfl (by rfl) (by simp (maxDischargeDepth := 120)) (hr) (by simp) ?_
  refine RunQ.eval ?_
  simp
  refine hQ _ _ ?_
  clear hQ hA
  refine WK.cond2 rfl (fun h => ?_) (fun h => ?_)
  · cases h
  repeat (first | refine WK.seq ?_ | refine WK.skip ?_)
  refine WK.reg 300 Tryz.ntmps72 (by kernel_rfl) ?_
  intro A hA Q hQ
  simp
  refine RunQ.call rfl rfl rfl rfl (by rfl) (by simp (maxDischargeDepth := 120)) (fsize_c o.field) (by simp) ?_
  refine RunQ.eval ?_
  simp
  refine hQ _ _ ?_
  clear hQ hA
  repeat (refine WK.seq ?_)
  apply WK.cut (⟨(upd (upd J 5 (.sl false (oBody o).length (byL (oBody o)))) 6 (.int .i64 (oNum o))), B0, 0⟩ : St)
  · intro hcut
    simp only [Wide.enc] at q1
    cases m : o.masked
    · have eb : oBody o = wPut [] o.value (fSize o.field) := by unfold oBody; rw [m]; rfl
      have en : oNum o = fID o.field * 2 := by unfold oNum; rw [m]; rfl
      rw [← eb] at q1
      refine WK.reg 400 Tryz.ntmps72 (by kernel_rfl) ?_
      intro A hA Q hQ
      simp
      refine RunQ.call rfl rfl rfl rfl (by rfl) (by simp (maxDischargeDepth := 120)) (q1) (by simp) ?_
      refine RunQ.eval ?_
      simp
      refine hQ _ _ ?_
      clear hQ hA
      repeat (refine WK.seq ?_)
      refine WK.reg 500 Tryz.ntmps72 (by kernel_rfl) ?_
      intro A hA Q hQ
      simp
      refine RunQ.call rfl rfl rfl rfl (by rfl) (by simp (maxDischargeDepth := 120) [hsh]) (fid_c o.field) (by simp [hsh]) ?_
      refine RunQ.eval ?_
      simp [hsh]
      refine hQ _ _ ?_
      clear hQ hA
      repeat (refine WK.seq ?_)
      refine WK.reg 600 Tryz.ntmps72 (by kernel_rfl) ?_
      intro A hA Q hQ
      simp [m]
      refine hQ _ _ ?_
      clear hQ hA
      refine WK.cond2 rfl (fun h => ?_) (fun h => ?_)
      · cases h
      · repeat (first | refine WK.seq ?_ | refine WK.skip ?_)
        refine WK.next (fun n => n) hcut (by repeat (first | exact TmW.nil | refine TmW.upd ?_ (by simp (maxDischargeDepth := 120) [en, byS]))) (by repeat (first | exact BxW.nil | refine BxW.upd ?_ (by simp (maxDischargeDepth := 120) [en, byS]))) (by first | exact InjW.id | exact InjW.nil | exact InjW.one | exact InjW.two (by simp) | exact InjW.three (by simp) (by simp) (by simp))
    · have eb : oBody o = wPut (wPut [] o.value (fSize o.field)) o.mask (fSize o.field) := by unfold oBody; rw [m]; rfl
      have en : oNum o = fID o.field * 2 + 1 := by unfold oNum; rw [m]; rfl
      have l4 := wPut_len [] o.value (fSize o.field) hsz
      have q2 := wputP_c (wPut [] o.value (fSize o.field)) o.mask (fSize o.field) hsz (by rw [l4]; simp; omega)
      rw [← eb] at q2
      simp only [Wide.enc] at q2
      obtain ⟨b4, hb4⟩ : ∃ b4, b4 = wPut [] o.value (fSize o.field) := ⟨_, rfl⟩
      rw [← hb4] at q1 q2
      refine WK.reg 700 Tryz.ntmps72 (by kernel_rfl) ?_
      intro A hA Q hQ
      simp
      refine RunQ.call rfl rfl rfl rfl (by rfl) (by simp (maxDischargeDepth := 120)) (q1) (by simp) ?_
      refine RunQ.eval ?_
      simp
      refine hQ _ _ ?_
      clear hQ hA
      repeat (refine WK.seq ?_)
      refine WK.reg 800 Tryz.ntmps72 (by kernel_rfl) ?_
      intro A hA Q hQ
      simp
      refine RunQ.call rfl rfl rfl rfl (by rfl) (by simp (maxDischargeDepth := 120) [hsh]) (fid_c o.field) (by simp [hsh]) ?_
      refine RunQ.eval ?_
      simp [hsh]
      refine hQ _ _ ?_
      clear hQ hA
      repeat (refine WK.seq ?_)
      refine WK.reg 900 Tryz.ntmps72 (by kernel_rfl) ?_
      intro A hA Q hQ
      simp [m]
      refine hQ _ _ ?_
      clear hQ hA
      refine WK.cond2 rfl (fun h => ?_) (fun h => ?_)
      · repeat (refine WK.seq ?_)
        refine WK.reg 1000 Tryz.ntmps72 (by kernel_rfl) ?_
        intro A hA Q hQ
        simp
        refine RunQ.call rfl rfl rfl rfl (by rfl) (by simp (maxDischargeDepth := 120)) (q2) (by simp) ?_
        refine RunQ.eval ?_
        simp
        refine hQ _ _ ?_
        clear hQ hA
        refine WK.reg 1100 Tryz.ntmps72 (by kernel_rfl) ?_
        intro A hA Q hQ
        simp [hor]
        refine hQ _ _ ?_
        clear hQ hA
        repeat (refine WK.seq ?_)
        refine WK.next (fun n => n) hcut (by repeat (first | exact TmW.nil | refine TmW.upd ?_ (by simp (maxDischargeDepth := 120) [en, byS]))) (by repeat (first | exact BxW.nil | refine BxW.upd ?_ (by simp (maxDischargeDepth := 120) [en, byS]))) (by first | exact InjW.id | exact InjW.nil | exact InjW.one | exact InjW.two (by simp) | exact InjW.three (by simp) (by simp) (by simp))
      · cases h
  refine WK.reg 1200 Tryz.ntmps72 (by kernel_rfl) ?_
  intro A hA Q hQ
  simp
  refine RunQ.call rfl rfl rfl rfl (by rfl) (by simp (maxDischargeDepth := 120)) (p1) (by simp) ?_
  refine RunQ.eval ?_
  simp
  refine RunQ.call rfl rfl rfl rfl (by rfl) (by simp (maxDischargeDepth := 120)) (p2) (by simp) ?_
  refine RunQ.eval ?_
  simp
  refine RunQ.callO 900 rfl rfl rfl (by simp) (by rfl) (by simp (maxDischargeDepth := 120)) (p3) (by simp) (by simp) (by simp) ?_
  refine RunQ.eval ?_
  simp
  refine hQ _ _ ?_
  clear hQ hA
  repeat (refine WK.seq ?_)
  refine WK.reg 1300 Tryz.ntmps72 (by kernel_rfl) ?_
  intro A hA Q hQ
  simp
  refine RunQ.append 901 appByte rfl rfl rfl rfl rfl rfl rfl (by simp [hbd, hf]) rfl (by simp [hbd, hf]) (by simp [hbd, hf]) (by simp [hbd, hf]) (by simp [hbd, hf]) ?_
  refine RunQ.eval ?_
  simp [hbd, hf]
  refine hQ _ _ ?_
  clear hQ hA
  refine WK.ghost (Ghost.frzSl 2 1 rfl rfl) ?_
  refine WK.ret Tryz.func72 (by simp (maxDischargeDepth := 120) [Tryz.results72, e, byS, byL_app, hT]) (by simp [e, byS, byL_app, hT])
end Go.Proofs.YtiifjagnhnchoaaGreat
end

section
set_option linter.unusedVariables false
set_option linter.unusedSimpArgs false
namespace Go.Proofs.YtiifjagnhnchoaaGreat
open Go Go.AI Go.Proofs

def bAt (b : List (BitVec 8)) (i : Nat) : Nat := (nth b i).toNat
def hField (b : List (BitVec 8)) : Int × Bool := fIndex (bAt b 2 / 2 : Nat)
def hMasked (b : List (BitVec 8)) : Bool := bAt b 2 % 2 == 1
def hWant (b : List (BitVec 8)) : Nat := if hMasked b then fSize (hField b).1 * 2 else fSize (hField b).1
/-- what is wrong with a part's head; 0 if nothing is -/
def hCode (b : List (BitVec 8)) : Int :=
  if b.length < 4 then 1 else if b.length < 4 + bAt b 3 then 1
  else if bAt b 0 != 128 || (bAt b 1 != 0 || !(hField b).2) then 6
  else if hMasked b && !fMasks (hField b).1 then 8
  else if bAt b 3 != hWant b then 1 else 0
theorem u8_and : ∀ x : BitVec 8, bAnd .u8 (bI x) 1 = ((x.toNat % 2 : Nat) : Int) := by
  intro x
  have h : ∀ n : Fin 256, bAnd .u8 ((n.val : Int)) 1 = ((n.val % 2 : Nat) : Int) := by decide +kernel
  exact h ⟨x.toNat, x.isLt⟩
theorem u8_shr : ∀ x : BitVec 8, bShr .u8 (bI x) 1 = ((x.toNat / 2 : Nat) : Int) := by
  intro x
  have h : ∀ n : Fin 256, bShr .u8 ((n.val : Int)) 1 = ((n.val / 2 : Nat) : Int) := by decide +kernel
  exact h ⟨x.toNat, x.isLt⟩
theorem bI_nat (b : List (BitVec 8)) (i : Nat) : bI (nth b i) = (bAt b i : Int) := rfl
theorem bAt_lt (b : List (BitVec 8)) (i : Nat) : bAt b i < 256 := (nth b i).isLt
def hRes (b : List (BitVec 8)) : List AV := if hCode b = 0 then [.int .i64 (hField b).1, .bool (hMasked b), .int .i64 (bAt b 3 : Nat), .int .i64 0] else [.int .i64 0, .bool false, .int .i64 0, .int .i64 (hCode b)]
set_option maxHeartbeats 4000000 in
theorem ohead_c (b : List (BitVec 8)) (hb0 : b.length ≤ 9223372036854775807) : FnP Tryz.prog 86 [byS b] (.tup (hRes b)) := by
  unfold byS
  by_cases h4 : b.length < 4
  · have e : hCode b = 1 := by unfold hCode; rw [if_pos h4]
    have er : hRes b = [.int .i64 0, .bool false, .int .i64 0, .int .i64 1] := by unfold hRes; rw [if_neg (by omega), e]
    rw [er]
    refine FnP.intro Tryz.func86 rfl rfl fun G w => ?_
    repeat (refine WK.seq ?_)
    refine WK.reg 100 Tryz.ntmps86 (by kernel_rfl) ?_
    intro A hA Q hQ
    simp
    refine hQ _ _ ?_
    clear hQ hA
    repeat (refine WK.seq ?_)
    refine WK.reg 200 Tryz.ntmps86 (by kernel_rfl) ?_
    intro A hA Q hQ
    simp [h4]
    refine hQ _ _ ?_
    clear hQ hA
    refine WK.cond2 rfl (fun h => ?_) (fun h => ?_)
    · repeat (refine WK.seq ?_)
      refine WK.reg 300 Tryz.ntmps86 (by kernel_rfl) ?_
      intro A hA Q hQ
      simp
      refine hQ _ _ ?_
      clear hQ hA
      refine WK.ret Tryz.func86 (by simp (maxDischargeDepth := 120) [Tryz.results86]) (by simp)
    · simp at h; omega
  have i0 : 0 < b.length := by omega
  have i1 : 1 < b.length := by omega
  have i2 : 2 < b.length := by omega
  have i3 : 3 < b.length := by omega
  have j0 : (0 : Int) < b.length := by omega
  have j1 : (1 : Int) < b.length := by omega
  have j2 : (2 : Int) < b.length := by omega
  have j3 : (3 : Int) < b.length := by omega
  have g0 := by_get b 0 i0
  have g1 := by_get b 1 i1
  have g2 := by_get b 2 i2
  have g3 := by_get b 3 i3
  have l2 := bAt_lt b 2
  have l3 := bAt_lt b 3
  have m1 := u8_and (nth b 2)
  have m2 := u8_shr (nth b 2)
  have m3 : IntKind.i64.wrap (bI (nth b 3)) = (bAt b 3 : Int) := by rw [bI_nat]; exact wrap_i64 (by omega) (by omega)
  have m4 : IntKind.i64.wrap (((nth b 2).toNat / 2 : Nat) : Int) = ((bAt b 2 / 2 : Nat) : Int) := by show IntKind.i64.wrap ((bAt b 2 / 2 : Nat) : Int) = _; exact wrap_i64 (by omega) (by omega)
  have hfi := findex_c ((bAt b 2 / 2 : Nat) : Int)
  obtain ⟨q, hq⟩ : ∃ q, q = bAt b 2 / 2 := ⟨_, rfl⟩
  have hF : hField b = fIndex q := by unfold hField; rw [hq]
  rw [← hq] at m4 hfi
  have m2' : bShr .u8 (bI (nth b 2)) 1 = (q : Int) := by rw [m2, hq]; rfl
  have m4' : IntKind.i64.wrap (q : Int) = q := wrap_i64 (by omega) (by omega)
  rw [← hF] at hfi
  have hsz := fSize_le (hField b).1
  have hfs := fsize_c (hField b).1
  obtain ⟨f, ok⟩ : ∃ f : Int × Bool, f = hField b := ⟨_, rfl⟩
  refine FnP.intro Tryz.func86 rfl rfl fun G w => ?_
  repeat (refine WK.seq ?_)
  refine WK.reg 100 Tryz.ntmps86 (by kernel_rfl) ?_
  intro A hA Q hQ
  simp
  refine hQ _ _ ?_
  clear hQ hA
  repeat (refine WK.seq ?_)
  refine WK.reg 200 Tryz.ntmps86 (by kernel_rfl) ?_
  intro A hA Q hQ
  simp
  refine hQ _ _ ?_
  clear hQ hA
  refine WK.cond2 rfl (fun h => ?_) (fun h => ?_)
  · simp at h; omega
  repeat (first | refine WK.seq ?_ | refine WK.skip ?_)
  apply WK.cut (⟨(upd (upd (upd J 0 (.sl false b.length (byL b))) 6 (.int .i64 (bAt b 3 : Nat))) 7 (.bool (hMasked b))), B0, 0⟩ : St)
  · intro hcut
    cases hm : hMasked b
    · have m5 : bAnd .u8 (bI (nth b 2)) 1 = 0 := by
        rw [m1]
        have h1 : ¬ ((nth b 2).toNat % 2 = 1) := by intro h1; unfold hMasked bAt at hm; rw [h1] at hm; cases hm
        have h2 : (nth b 2).toNat % 2 = 0 := by omega
        rw [h2]; rfl
      refine WK.regD 300 clsOf (by kernel_rfl) Tryz.ntmps86 (by kernel_rfl) (by kernel_rfl) ?_
      intro A hA Q hQ
      simp [g2, g3, m3, m5, i2, i3, j2, j3]
      refine hQ _ _ ?_
      clear hQ hA
      repeat (refine WK.seq ?_)
      refine WK.next (fun n => n) hcut (by repeat (first | exact TmW.nil | refine TmW.upd ?_ (by simp (maxDischargeDepth := 120) [hm]))) (by repeat (first | exact BxW.nil | refine BxW.upd ?_ (by simp (maxDischargeDepth := 120) [hm]))) (by first | exact InjW.id | exact InjW.nil | exact InjW.one | exact InjW.two (by simp) | exact InjW.three (by simp) (by simp) (by simp))
    · have m5 : bAnd .u8 (bI (nth b 2)) 1 = 1 := by
        rw [m1]
        have h2 : (nth b 2).toNat % 2 = 1 := by unfold hMasked bAt at hm; simpa using hm
        rw [h2]; rfl
      refine WK.regD 400 clsOf (by kernel_rfl) Tryz.ntmps86 (by kernel_rfl) (by kernel_rfl) ?_
      intro A hA Q hQ
      simp [g2, g3, m3, m5, i2, i3, j2, j3]
      refine hQ _ _ ?_
      clear hQ hA
      repeat (refine WK.seq ?_)
      refine WK.next (fun n => n) hcut (by repeat (first | exact TmW.nil | refine TmW.upd ?_ (by simp (maxDischargeDepth := 120) [hm]))) (by repeat (first | exact BxW.nil | refine BxW.upd ?_ (by simp (maxDischargeDepth := 120) [hm]))) (by first | exact InjW.id | exact InjW.nil | exact InjW.one | exact InjW.two (by simp) | exact InjW.three (by simp) (by simp) (by simp))
  refine WK.reg 500 Tryz.ntmps86 (by kernel_rfl) ?_
  intro A hA Q hQ
  simp [g2, m2', m4', i2, j2]
  refine RunQ.call rfl rfl rfl rfl (by rfl) (by simp (maxDischargeDepth := 120)) (hfi) (by simp) ?_
  refine RunQ.eval ?_
  simp
  refine hQ _ _ ?_
  clear hQ hA
  repeat (refine WK.seq ?_)
  refine WK.reg 600 Tryz.ntmps86 (by kernel_rfl) ?_
  intro A hA Q hQ
  simp
  refine RunQ.call rfl rfl rfl rfl (by rfl) (by simp (maxDischargeDepth := 120)) (hfs) (by simp) ?_
  refine RunQ.eval ?_
  simp
  refine hQ _ _ ?_
  clear hQ hA
  repeat (refine WK.seq ?_)
  apply WK.cut (⟨(upd (upd (upd (upd (upd (upd J 0 (.sl false b.length (byL b))) 6 (.int .i64 (bAt b 3 : Nat))) 7 (.bool (hMasked b))) 8 (.int .i64 (hField b).1)) 9 (.bool (hField b).2)) 10 (.int .i64 (hWant b))), B0, 0⟩ : St)
  · intro hcut
    refine WK.reg 700 Tryz.ntmps86 (by kernel_rfl) ?_
    intro A hA Q hQ
    simp
    refine hQ _ _ ?_
    clear hQ hA
    cases hm : hMasked b
    · have ew : hWant b = fSize (hField b).1 := by unfold hWant; rw [hm]; rfl
      refine WK.cond2 rfl (fun h => ?_) (fun h => ?_)
      · cases h
      · repeat (first | refine WK.seq ?_ | refine WK.block ?_ | refine WK.skip ?_)
        refine WK.next (fun n => n) hcut (by repeat (first | exact TmW.nil | refine TmW.upd ?_ (by simp (maxDischargeDepth := 120) [ew, hm]))) (by repeat (first | exact BxW.nil | refine BxW.upd ?_ (by simp (maxDischargeDepth := 120) [ew, hm]))) (by first | exact InjW.id | exact InjW.nil | exact InjW.one | exact InjW.two (by simp) | exact InjW.three (by simp) (by simp) (by simp))
    · have ew : hWant b = fSize (hField b).1 * 2 := by unfold hWant; rw [hm]; rfl
      have w1 : IntKind.i64.wrap ((fSize (hField b).1 : Int) * 2) = (fSize (hField b).1 : Int) * 2 := wrap_i64 (by omega) (by omega)
      refine WK.cond2 rfl (fun h => ?_) (fun h => ?_)
      · refine WK.reg 800 Tryz.ntmps86 (by kernel_rfl) ?_
        intro A hA Q hQ
        simp [w1]
        refine hQ _ _ ?_
        clear hQ hA
        repeat (first | refine WK.seq ?_ | refine WK.block ?_)
        refine WK.next (fun n => n) hcut (by repeat (first | exact TmW.nil | refine TmW.upd ?_ (by simp (maxDischargeDepth := 120) [ew, w1, hm]))) (by repeat (first | exact BxW.nil | refine BxW.upd ?_ (by simp (maxDischargeDepth := 120) [ew, w1, hm]))) (by first | exact InjW.id | exact InjW.nil | exact InjW.one | exact InjW.two (by simp) | exact InjW.three (by simp) (by simp) (by simp))
      · cases h
  have w4 : IntKind.i64.wrap (4 + (bAt b 3 : Int)) = 4 + (bAt b 3 : Int) := wrap_i64 (by omega) (by omega)
  by_cases c1 : b.length < 4 + bAt b 3
  · have e : hCode b = 1 := by unfold hCode; rw [if_neg h4, if_pos c1]
    have er : hRes b = [.int .i64 0, .bool false, .int .i64 0, .int .i64 1] := by unfold hRes; rw [if_neg (by omega), e]
    have d1 : (b.length : Int) < 4 + (bAt b 3 : Int) := by omega
    rw [er]
    refine WK.reg 900 Tryz.ntmps86 (by kernel_rfl) ?_
    intro A hA Q hQ
    simp [w4, d1]
    refine hQ _ _ ?_
    clear hQ hA
    refine WK.cond2 rfl (fun h => ?_) (fun h => ?_)
    · repeat (refine WK.seq ?_)
      refine WK.reg 1000 Tryz.ntmps86 (by kernel_rfl) ?_
      intro A hA Q hQ
      simp
      refine hQ _ _ ?_
      clear hQ hA
      refine WK.ret Tryz.func86 (by simp (maxDischargeDepth := 120) [Tryz.results86]) (by simp)
    · cases h
  have d1 : ¬ (b.length : Int) < 4 + (bAt b 3 : Int) := by omega
  refine WK.reg 1100 Tryz.ntmps86 (by kernel_rfl) ?_
  intro A hA Q hQ
  simp [w4, d1]
  refine hQ _ _ ?_
  clear hQ hA
  refine WK.cond2 rfl (fun h => ?_) (fun h => ?_)
  · cases h
  have z0 : (bI (nth b 0) == 128) = (bAt b 0 == 128) := by rw [bI_nat, Bool.eq_iff_iff, beq_iff_eq, beq_iff_eq]; omega
  have z1 : (bI (nth b 1) == 0) = (bAt b 1 == 0) := by rw [bI_nat, Bool.eq_iff_iff, beq_iff_eq, beq_iff_eq]; omega
  have z3 : ((bAt b 3 : Int) == (hWant b : Int)) = (bAt b 3 == hWant b) := by rw [Bool.eq_iff_iff, beq_iff_eq, beq_iff_eq]; omega
  repeat (refine WK.seq ?_)
  apply WK.cut (⟨(upd (upd (upd (upd (upd (upd (upd J 0 (.sl false b.length (byL b))) 6 (.int .i64 (bAt b 3 : Nat))) 7 (.bool (hMasked b))) 8 (.int .i64 (hField b).1)) 9 (.bool (hField b).2)) 10 (.int .i64 (hWant b))) 43 (.bool (bAt b 0 != 128 || (bAt b 1 != 0 || !(hField b).2)))), B0, 0⟩ : St)
  · intro hcut
    cases k0 : bAt b 0 == 128
    · rw [k0] at z0
      refine WK.reg 1200 Tryz.ntmps86 (by kernel_rfl) ?_
      intro A hA Q hQ
      have hg4 : (A[4]?).bind (·.dst) = some 48 := by rw [hA]; rfl
      have hg10 : (A[10]?).bind (·.dst) = some 54 := by rw [hA]; rfl
      simp [g0, g1, i0, i1, j0, j1, z0, bne, hg4, hg10]
      refine hQ _ _ ?_
      clear hQ hA
      refine WK.next (fun n => n) hcut (by repeat (first | exact TmW.nil | refine TmW.upd ?_ (by simp (maxDischargeDepth := 120) [bne, k0]))) (by repeat (first | exact BxW.nil | refine BxW.upd ?_ (by simp (maxDischargeDepth := 120) [bne, k0]))) (by first | exact InjW.id | exact InjW.nil | exact InjW.one | exact InjW.two (by simp) | exact InjW.three (by simp) (by simp) (by simp))
    · rw [k0] at z0
      cases k1 : bAt b 1 == 0
      · rw [k1] at z1
        refine WK.reg 1300 Tryz.ntmps86 (by kernel_rfl) ?_
        intro A hA Q hQ
        have hg4 : (A[4]?).bind (·.dst) = some 48 := by rw [hA]; rfl
        have hg10 : (A[10]?).bind (·.dst) = some 54 := by rw [hA]; rfl
        simp [g0, g1, i0, i1, j0, j1, z0, z1, bne, hg4, hg10]
        refine hQ _ _ ?_
        clear hQ hA
        refine WK.next (fun n => n) hcut (by repeat (first | exact TmW.nil | refine TmW.upd ?_ (by simp (maxDischargeDepth := 120) [bne, k0, k1]))) (by repeat (first | exact BxW.nil | refine BxW.upd ?_ (by simp (maxDischargeDepth := 120) [bne, k0, k1]))) (by first | exact InjW.id | exact InjW.nil | exact InjW.one | exact InjW.two (by simp) | exact InjW.three (by simp) (by simp) (by simp))
      · rw [k1] at z1
        refine WK.reg 1400 Tryz.ntmps86 (by kernel_rfl) ?_
        intro A hA Q hQ
        have hg4 : (A[4]?).bind (·.dst) = some 48 := by rw [hA]; rfl
        have hg10 : (A[10]?).bind (·.dst) = some 54 := by rw [hA]; rfl
        simp [g0, g1, i0, i1, j0, j1, z0, z1, bne, hg4, hg10]
        refine hQ _ _ ?_
        clear hQ hA
        refine WK.next (fun n => n) hcut (by repeat (first | exact TmW.nil | refine TmW.upd ?_ (by simp (maxDischargeDepth := 120) [bne, k0, k1]))) (by repeat (first | exact BxW.nil | refine BxW.upd ?_ (by simp (maxDischargeDepth := 120) [bne, k0, k1]))) (by first | exact InjW.id | exact InjW.nil | exact InjW.one | exact InjW.two (by simp) | exact InjW.three (by simp) (by simp) (by simp))
  refine WK.cond2 rfl (fun h6 => ?_) (fun h6 => ?_)
  · have e : hCode b = 6 := by unfold hCode; rw [if_neg h4, if_neg c1, if_pos h6]
    have er : hRes b = [.int .i64 0, .bool false, .int .i64 0, .int .i64 6] := by unfold hRes; rw [if_neg (by omega), e]
    rw [er]
    repeat (refine WK.seq ?_)
    refine WK.reg 1500 Tryz.ntmps86 (by kernel_rfl) ?_
    intro A hA Q hQ
    simp
    refine hQ _ _ ?_
    clear hQ hA
    refine WK.ret Tryz.func86 (by simp (maxDischargeDepth := 120) [Tryz.results86]) (by simp)
  have h6' : ¬ (bAt b 0 != 128 || (bAt b 1 != 0 || !(hField b).2)) = true := by rw [h6]; exact Bool.false_ne_true
  have hmk := fmasks_c (hField b).1
  repeat (refine WK.seq ?_)
  apply WK.cut (⟨(upd (upd (upd (upd (upd (upd (upd J 0 (.sl false b.length (byL b))) 6 (.int .i64 (bAt b 3 : Nat))) 7 (.bool (hMasked b))) 8 (.int .i64 (hField b).1)) 9 (.bool (hField b).2)) 10 (.int .i64 (hWant b))) 58 (.bool (hMasked b && !fMasks (hField b).1))), B0, 0⟩ : St)
  · intro hcut
    cases k0 : hMasked b
    · refine WK.reg 1600 Tryz.ntmps86 (by kernel_rfl) ?_
      intro A hA Q hQ
      have hg1 : (A[1]?).bind (·.dst) = some 60 := by rw [hA]; rfl
      simp [k0, hg1]
      refine hQ _ _ ?_
      clear hQ hA
      refine WK.next (fun n => n) hcut (by repeat (first | exact TmW.nil | refine TmW.upd ?_ (by simp (maxDischargeDepth := 120) [k0]))) (by repeat (first | exact BxW.nil | refine BxW.upd ?_ (by simp (maxDischargeDepth := 120) [k0]))) (by first | exact InjW.id | exact InjW.nil | exact InjW.one | exact InjW.two (by simp) | exact InjW.three (by simp) (by simp) (by simp))
    · refine WK.reg 1700 Tryz.ntmps86 (by kernel_rfl) ?_
      intro A hA Q hQ
      have hg1 : (A[1]?).bind (·.dst) = some 60 := by rw [hA]; rfl
      simp [k0, hg1]
      refine RunQ.callG rfl rfl (by simp [hg1]) rfl (by rfl) (by simp (maxDischargeDepth := 120) [hg1]) (hmk) (by simp [hg1]) ?_
      refine RunQ.eval ?_
      simp [hg1]
      refine hQ _ _ ?_
      clear hQ hA
      refine WK.next (fun n => n) hcut (by repeat (first | exact TmW.nil | refine TmW.upd ?_ (by simp (maxDischargeDepth := 120) [k0]))) (by repeat (first | exact BxW.nil | refine BxW.upd ?_ (by simp (maxDischargeDepth := 120) [k0]))) (by first | exact InjW.id | exact InjW.nil | exact InjW.one | exact InjW.two (by simp) | exact InjW.three (by simp) (by simp) (by simp))
  refine WK.cond2 rfl (fun h8 => ?_) (fun h8 => ?_)
  · have e : hCode b = 8 := by unfold hCode; rw [if_neg h4, if_neg c1, if_neg h6', if_pos h8]
    have er : hRes b = [.int .i64 0, .bool false, .int .i64 0, .int .i64 8] := by unfold hRes; rw [if_neg (by omega), e]
    rw [er]
    repeat (refine WK.seq ?_)
    refine WK.reg 1800 Tryz.ntmps86 (by kernel_rfl) ?_
    intro A hA Q hQ
    simp
    refine hQ _ _ ?_
    clear hQ hA
    refine WK.ret Tryz.func86 (by simp (maxDischargeDepth := 120) [Tryz.results86]) (by simp)
  have h8' : ¬ (hMasked b && !fMasks (hField b).1) = true := by rw [h8]; exact Bool.false_ne_true
  cases k3 : bAt b 3 == hWant b
  · rw [k3] at z3
    have e : hCode b = 1 := by unfold hCode; rw [if_neg h4, if_neg c1, if_neg h6', if_neg h8', if_pos (by rw [bne, k3]; rfl)]
    have er : hRes b = [.int .i64 0, .bool false, .int .i64 0, .int .i64 1] := by unfold hRes; rw [if_neg (by omega), e]
    rw [er]
    repeat (refine WK.seq ?_)
    refine WK.reg 1900 Tryz.ntmps86 (by kernel_rfl) ?_
    intro A hA Q hQ
    simp [z3, bne]
    refine hQ _ _ ?_
    clear hQ hA
    refine WK.cond2 rfl (fun h => ?_) (fun h => ?_)
    · repeat (refine WK.seq ?_)
      refine WK.reg 2000 Tryz.ntmps86 (by kernel_rfl) ?_
      intro A hA Q hQ
      simp
      refine hQ _ _ ?_
      clear hQ hA
      refine WK.ret Tryz.func86 (by simp (maxDischargeDepth := 120) [Tryz.results86]) (by simp)
    · cases h
  · rw [k3] at z3
    have e : hCode b = 0 := by unfold hCode; rw [if_neg h4, if_neg c1, if_neg h6', if_neg h8', if_neg (by rw [bne, k3]; exact Bool.false_ne_true)]
    have er : hRes b = [.int .i64 (hField b).1, .bool (hMasked b), .int .i64 (bAt b 3 : Nat), .int .i64 0] := by unfold hRes; rw [if_pos e]
    rw [er]
    repeat (refine WK.seq ?_)
    refine WK.reg 2100 Tryz.ntmps86 (by kernel_rfl) ?_
    intro A hA Q hQ
    simp [z3, bne]
    refine hQ _ _ ?_
    clear hQ hA
    refine WK.cond2 rfl (fun h => ?_) (fun h => ?_)
    · cases h
    · repeat (first | refine WK.seq ?_ | refine WK.inBlock ?_ | refine WK.skip ?_)
      refine WK.reg 2200 Tryz.ntmps86 (by kernel_rfl) ?_
      intro A hA Q hQ
      simp
      refine hQ _ _ ?_
      clear hQ hA
      refine WK.ret Tryz.func86 (by simp (maxDischargeDepth := 120) [Tryz.results86]) (by simp)
end Go.Proofs.YtiifjagnhnchoaaGreat
end

section
set_option linter.unusedVariables false
set_option linter.unusedSimpArgs false
namespace Go.Proofs.YtiifjagnhnchoaaGreat
open Go Go.AI Go.Proofs

def oxm0 : Oxm := ⟨0, false, wideZ, wideZ⟩
/-- the part that bytes are, if their head is right -/
def oRead (b : List (BitVec 8)) : Oxm := ⟨(hField b).1, hMasked b, (wGet (b.drop 4) (fSize (hField b).1)).1,
  if hMasked b then (wGet (b.drop (4 + fSize (hField b).1)) (fSize (hField b).1)).1 else wideZ⟩
def oDec (b : List (BitVec 8)) : Oxm × Int × Int :=
  if hCode b = 0 then (if Oxm.form (oRead b) = 0 then (oRead b, 4 + bAt b 3, 0) else (oxm0, 0, Oxm.form (oRead b))) else (oxm0, 0, hCode b)
/-- a fault of a match -/
def oFault (c : Int) : List AV := if c = 0 then [.bool false, .int .i64 0, .int .i64 0] else [.bool true, .int .i64 4, .int .i64 c]
theorem oxm0_enc : oxm0.enc = [.int .i64 0, .bool false, .int .u64 0, .int .u64 0, .int .u64 0, .int .u64 0] := rfl
set_option maxHeartbeats 4000000 in
theorem odec_c (b : List (BitVec 8)) (hb0 : b.length ≤ 9223372036854775807) : FnP Tryz.prog 50 [byS b] (.tup [.agg (oDec b).1.enc, .int .i64 (oDec b).2.1, .agg (oFault (oDec b).2.2)]) := by
  have hh := ohead_c b hb0
  by_cases k : hCode b = 0
  case neg =>
    have er : hRes b = [.int .i64 0, .bool false, .int .i64 0, .int .i64 (hCode b)] := by unfold hRes; rw [if_neg k]
    have e : oDec b = (oxm0, 0, hCode b) := by unfold oDec; rw [if_neg k]
    have kb : (hCode b == 0) = false := beq_eq_false_iff_ne.2 k
    rw [er] at hh
    unfold byS at hh ⊢
    refine FnP.intro Tryz.func50 rfl rfl fun G w => ?_
    repeat (refine WK.seq ?_)
    refine WK.reg 100 Tryz.ntmps50 (by kernel_rfl) ?_
    intro A hA Q hQ
    simp
    refine hQ _ _ ?_
    clear hQ hA
    repeat (refine WK.seq ?_)
    refine WK.reg 200 Tryz.ntmps50 (by kernel_rfl) ?_
    intro A hA Q hQ
    simp
    refine RunQ.call rfl rfl rfl rfl (by rfl) (by simp (maxDischargeDepth := 120)) (hh) (by simp) ?_
    refine RunQ.eval ?_
    simp
    refine hQ _ _ ?_
    clear hQ hA
    repeat (refine WK.seq ?_)
    refine WK.reg 300 Tryz.ntmps50 (by kernel_rfl) ?_
    intro A hA Q hQ
    simp [kb, bne]
    refine hQ _ _ ?_
    clear hQ hA
    refine WK.cond2 rfl (fun h => ?_) (fun h => ?_)
    · repeat (refine WK.seq ?_)
      refine WK.reg 400 Tryz.ntmps50 (by kernel_rfl) ?_
      intro A hA Q hQ
      simp
      refine RunQ.call rfl rfl rfl rfl (by rfl) (by simp (maxDischargeDepth := 120)) (obad_c (hCode b)) (by simp) ?_
      refine RunQ.eval ?_
      simp
      refine hQ _ _ ?_
      clear hQ hA
      refine WK.ret Tryz.func50 (by simp (maxDischargeDepth := 120) [Tryz.results50, e, oxm0_enc, oFault, k]) (by simp [e, oxm0_enc, oFault, k])
    · cases h
  have er : hRes b = [.int .i64 (hField b).1, .bool (hMasked b), .int .i64 (bAt b 3 : Nat), .int .i64 0] := by unfold hRes; rw [if_pos k]
  have hk : 4 + bAt b 3 ≤ b.length ∧ bAt b 3 = hWant b := by
    unfold hCode at k
    split at k
    · cases k
    split at k
    · cases k
    split at k
    · cases k
    split at k
    · cases k
    split at k
    · cases k
    · rename_i h1 h2 h3 h4 h5
      simp at h5
      exact ⟨by omega, h5⟩
  have hl3 := bAt_lt b 3
  have hsz := fSize_le (hField b).1
  have hws : fSize (hField b).1 ≤ hWant b := by unfold hWant; split <;> omega
  have hfs := fsize_c (hField b).1
  obtain ⟨s, hs⟩ : ∃ s, s = fSize (hField b).1 := ⟨_, rfl⟩
  rw [← hs] at hfs hsz hws
  have q1 := wget_c (b.drop 4) s hsz (by rw [List.length_drop]; omega)
  have q2 := wget_c (b.drop (4 + s)) s hsz (by rw [List.length_drop]; omega)
  have hfo := oform_c (oRead b)
  have hR : oRead b = ⟨(hField b).1, hMasked b, (wGet (b.drop 4) s).1, if hMasked b then (wGet (b.drop (4 + s)) s).1 else wideZ⟩ := by unfold oRead; rw [← hs]
  have d4 : ((byL b).drop 4).take (b.length - 4) = byL (b.drop 4) := by rw [byL_drop]; exact by_full _ _ (by rw [List.length_drop])
  have d5 : ((byL b).drop (4 + s)).take (b.length - (4 + s)) = byL (b.drop (4 + s)) := by rw [byL_drop]; exact by_full _ _ (by rw [List.length_drop])
  have j4 : (4 : Int) ≤ b.length := by omega
  have j5 : 4 + (s : Int) ≤ b.length := by omega
  have j6 : (4 + (s : Int)).toNat = 4 + s := by omega
  have j7 : (0 : Int) ≤ 4 + (s : Int) := by omega
  have w5 : IntKind.i64.wrap (4 + (s : Int)) = 4 + (s : Int) := wrap_i64 (by omega) (by omega)
  rw [er] at hh
  unfold byS at hh q1 q2 ⊢
  rw [List.length_drop] at q1 q2
  obtain ⟨v1, hv1⟩ : ∃ v1, v1 = wGet (b.drop 4) s := ⟨_, rfl⟩
  obtain ⟨v2, hv2⟩ : ∃ v2, v2 = wGet (b.drop (4 + s)) s := ⟨_, rfl⟩
  rw [← hv1] at q1 hR
  rw [← hv2] at q2 hR
  refine FnP.intro Tryz.func50 rfl rfl fun G w => ?_
  repeat (refine WK.seq ?_)
  refine WK.reg 100 Tryz.ntmps50 (by kernel_rfl) ?_
  intro A hA Q hQ
  simp
  refine hQ _ _ ?_
  clear hQ hA
  repeat (refine WK.seq ?_)
  refine WK.reg 200 Tryz.ntmps50 (by kernel_rfl) ?_
  intro A hA Q hQ
  simp
  refine RunQ.call rfl rfl rfl rfl (by rfl) (by simp (maxDischargeDepth := 120)) (hh) (by simp) ?_
  refine RunQ.eval ?_
  simp
  refine hQ _ _ ?_
  clear hQ hA
  repeat (refine WK.seq ?_)
  refine WK.reg 300 Tryz.ntmps50 (by kernel_rfl) ?_
  intro A hA Q hQ
  simp
  refine hQ _ _ ?_
  clear hQ hA
  refine WK.cond2 rfl (fun h => ?_) (fun h => ?_)
  · cases h
  repeat (first | refine WK.seq ?_ | refine WK.skip ?_)
  refine WK.reg 400 Tryz.ntmps50 (by kernel_rfl) ?_
  intro A hA Q hQ
  simp
  refine hQ _ _ ?_
  clear hQ hA
  repeat (refine WK.seq ?_)
  refine WK.reg 500 Tryz.ntmps50 (by kernel_rfl) ?_
  intro A hA Q hQ
  simp
  refine RunQ.call rfl rfl rfl rfl (by rfl) (by simp (maxDischargeDepth := 120)) (hfs) (by simp) ?_
  refine RunQ.eval ?_
  simp
  refine hQ _ _ ?_
  clear hQ hA
  repeat (refine WK.seq ?_)
  refine WK.reg 600 Tryz.ntmps50 (by kernel_rfl) ?_
  intro A hA Q hQ
  simp [j4, d4]
  refine RunQ.call rfl rfl rfl rfl (by rfl) (by simp (maxDischargeDepth := 120)) (q1) (by simp) ?_
  refine RunQ.eval ?_
  simp
  refine hQ _ _ ?_
  clear hQ hA
  repeat (refine WK.seq ?_)
  apply WK.cut (⟨(upd (upd (upd (upd J 2 (.ptr 0 0)) 4 (.ptr 2 0)) 7 (.int .i64 (bAt b 3 : Nat))) 9 (.ptr 303 0)), (upd (upd (upd B0 0 (.var oxm0.enc)) 2 (.var [.bool false, .int .i64 0, .int .i64 0])) 303 (.var (oRead b).enc)), 0⟩ : St)
  · intro hcut
    rw [hR] at hcut
    cases m : hMasked b
    · rw [m] at hcut
      refine WK.reg 700 Tryz.ntmps50 (by kernel_rfl) ?_
      intro A hA Q hQ
      simp
      refine hQ _ _ ?_
      clear hQ hA
      refine WK.cond2 rfl (fun h => ?_) (fun h => ?_)
      · cases h
      · repeat (first | refine WK.seq ?_ | refine WK.skip ?_)
        refine WK.next (fun n => n) hcut (by repeat (first | exact TmW.nil | refine TmW.upd ?_ (by simp (maxDischargeDepth := 120) [m, oxm0, Oxm.enc, Wide.enc, wideZ, uI_zero]))) (by repeat (first | exact BxW.nil | refine BxW.upd ?_ (by simp (maxDischargeDepth := 120) [m, oxm0, Oxm.enc, Wide.enc, wideZ, uI_zero]))) (by first | exact InjW.id | exact InjW.nil | exact InjW.one | exact InjW.two (by simp) | exact InjW.three (by simp) (by simp) (by simp))
    · rw [m] at hcut
      refine WK.reg 800 Tryz.ntmps50 (by kernel_rfl) ?_
      intro A hA Q hQ
      simp
      refine hQ _ _ ?_
      clear hQ hA
      refine WK.cond2 rfl (fun h => ?_) (fun h => ?_)
      · refine WK.reg 900 Tryz.ntmps50 (by kernel_rfl) ?_
        intro A hA Q hQ
        simp [w5, j5, j6, j7, d5]
        refine RunQ.call rfl rfl rfl rfl (by rfl) (by simp (maxDischargeDepth := 120)) (q2) (by simp) ?_
        refine RunQ.eval ?_
        simp
        refine hQ _ _ ?_
        clear hQ hA
        repeat (refine WK.seq ?_)
        refine WK.next (fun n => n) hcut (by repeat (first | exact TmW.nil | refine TmW.upd ?_ (by simp (maxDischargeDepth := 120) [m, oxm0, Oxm.enc, Wide.enc, wideZ, uI_zero]))) (by repeat (first | exact BxW.nil | refine BxW.upd ?_ (by simp (maxDischargeDepth := 120) [m, oxm0, Oxm.enc, Wide.enc, wideZ, uI_zero]))) (by first | exact InjW.id | exact InjW.nil | exact InjW.one | exact InjW.two (by simp) | exact InjW.three (by simp) (by simp) (by simp))
      · cases h
  refine WK.ghost (Ghost.frzVar 9 rfl rfl) ?_
  have w6 : IntKind.i64.wrap (4 + (bAt b 3 : Int)) = 4 + (bAt b 3 : Int) := wrap_i64 (by omega) (by omega)
  simp only [Oxm.enc] at hfo
  by_cases c : Oxm.form (oRead b) = 0
  · have e : oDec b = (oRead b, 4 + (bAt b 3 : Int), 0) := by unfold oDec; rw [if_pos k, if_pos c]
    rw [c] at hfo
    refine WK.reg 1000 Tryz.ntmps50 (by kernel_rfl) ?_
    intro A hA Q hQ
    simp [Oxm.enc]
    refine RunQ.call rfl rfl rfl rfl (by rfl) (by simp (maxDischargeDepth := 120)) (hfo) (by simp) ?_
    refine RunQ.eval ?_
    simp
    refine hQ _ _ ?_
    clear hQ hA
    repeat (refine WK.seq ?_)
    refine WK.reg 1100 Tryz.ntmps50 (by kernel_rfl) ?_
    intro A hA Q hQ
    simp
    refine hQ _ _ ?_
    clear hQ hA
    refine WK.cond2 rfl (fun h => ?_) (fun h => ?_)
    · cases h
    · repeat (first | refine WK.seq ?_ | refine WK.skip ?_)
      refine WK.reg 1200 Tryz.ntmps50 (by kernel_rfl) ?_
      intro A hA Q hQ
      simp [w6, Oxm.enc, oxm0_enc]
      refine hQ _ _ ?_
      clear hQ hA
      refine WK.ret Tryz.func50 (by simp (maxDischargeDepth := 120) [Tryz.results50, e, oFault, Oxm.enc]) (by simp [e, oFault, Oxm.enc])
  · have e : oDec b = (oxm0, 0, Oxm.form (oRead b)) := by unfold oDec; rw [if_pos k, if_neg c]
    have cb : (Oxm.form (oRead b) == 0) = false := beq_eq_false_iff_ne.2 c
    refine WK.reg 1300 Tryz.ntmps50 (by kernel_rfl) ?_
    intro A hA Q hQ
    simp [Oxm.enc]
    refine RunQ.call rfl rfl rfl rfl (by rfl) (by simp (maxDischargeDepth := 120)) (hfo) (by simp) ?_
    refine RunQ.eval ?_
    simp
    refine hQ _ _ ?_
    clear hQ hA
    repeat (refine WK.seq ?_)
    refine WK.reg 1400 Tryz.ntmps50 (by kernel_rfl) ?_
    intro A hA Q hQ
    simp [cb, bne]
    refine hQ _ _ ?_
    clear hQ hA
    refine WK.cond2 rfl (fun h => ?_) (fun h => ?_)
    · repeat (refine WK.seq ?_)
      refine WK.reg 1500 Tryz.ntmps50 (by kernel_rfl) ?_
      intro A hA Q hQ
      simp [Oxm.enc, oxm0_enc]
      refine RunQ.call rfl rfl rfl rfl (by rfl) (by simp (maxDischargeDepth := 120)) (obad_c (Oxm.form (oRead b))) (by simp) ?_
      refine RunQ.eval ?_
      simp
      refine hQ _ _ ?_
      clear hQ hA
      refine WK.ret Tryz.func50 (by simp (maxDischargeDepth := 120) [Tryz.results50, e, oFault, c, oxm0_enc]) (by simp [e, oFault, c, oxm0_enc])
    · cases h
end Go.Proofs.YtiifjagnhnchoaaGreat
end

section
set_option linter.unusedVariables false
set_option linter.unusedSimpArgs false
namespace Go.Proofs.YtiifjagnhnchoaaGreat
open Go Go.AI Go.Proofs
attribute [local irreducible] FnP FnO FnB FnT FnSeq WK RunQ RunQW RunX RunXW

def act0 : Action := ⟨0, 0, 0, 0, 0, oxm0⟩
def aSets (f : Int) : Bool := fRight f && (f != 0 && f != 1)
def aGoes (p : Int) : Bool := (decide (0 < p) && decide (p ≤ 4294967040)) || p == 4294967293
def aMost (a : Action) : Bool := decide (0 ≤ a.max) && (decide (a.max ≤ 65535) && (a.max == 0 || a.port == 4294967293))
/-- what an action has but for what is of no use in its kind -/
def Action.bare (a : Action) : Action := if a.kind = 0 then ⟨0, a.port, a.max, 0, 0, oxm0⟩ else if a.kind = 22 then ⟨22, 0, 0, a.group, 0, oxm0⟩ else if a.kind = 17 then ⟨17, 0, 0, 0, a.ether, oxm0⟩
  else if a.kind = 25 then ⟨25, 0, 0, 0, 0, a.oxm⟩ else ⟨a.kind, 0, 0, 0, 0, oxm0⟩
def Action.fine (a : Action) : Bool := if a.kind = 0 then aGoes a.port && aMost a else if a.kind = 22 then decide (0 ≤ a.group) && decide (a.group ≤ 4294967040) else if a.kind = 17 then a.ether == 33024 || a.ether == 34984
  else if a.kind = 18 then true else if a.kind = 25 then Oxm.right a.oxm && (!a.oxm.masked && aSets a.oxm.field) else false
def Action.right (a : Action) : Bool := Action.fine a && a == Action.bare a
theorem asets_c (f : Int) : FnP Tryz.prog 165 [.int .i64 f] (.bool (aSets f)) := by
  refine FnP.intro Tryz.func165 rfl rfl fun G w => ?_
  repeat' (first
   | refine WK.seq ?_
   | (refine Hid.h hQ _ _ ?_; clear hQ hA)
   | (refine Fork.mk (fun h => ?_) (fun h => ?_) <;> (first | (simp [*] at h; done) | (have h2 := h; simp at h2; exfalso; omega) | (have h2 := h; simp at h2; try simp only [Bool.not_eq_true', Bool.not_eq_false'] at h) | skip))
   | (refine WK.regH Tryz.ntmps165 (by kernel_rfl) ?_; intro A hA Q hQ; simp [bne, *])
   | (refine RunQ.gd rfl (by rw [hA.h]; rfl) ?_; simp [bne, *])
   | (refine RunQ.call rfl rfl rfl rfl rfl ?_ (fright_c f) ?_ ?_; (focus (simp (maxDischargeDepth := 120) [bne, *]; done)); (focus (simp [bne, *]; done)); refine RunQ.evalH ?_; simp [bne, *])
   | (refine WK.ret Tryz.func165 ?_ ?_ <;> simp (maxDischargeDepth := 120) [Tryz.results165, bne, aSets, *])
   | fail)
theorem rasets_c (f : Int) : FnP Tryz.prog 163 [.int .i64 f] (.bool (aSets f)) := by
  refine FnP.intro Tryz.func163 rfl rfl fun G w => ?_
  repeat' (first
   | refine WK.seq ?_
   | (refine Hid.h hQ _ _ ?_; clear hQ hA)
   | (refine Fork.mk (fun h => ?_) (fun h => ?_) <;> (first | (simp [*] at h; done) | (have h2 := h; simp at h2; exfalso; omega) | (have h2 := h; simp at h2; try simp only [Bool.not_eq_true', Bool.not_eq_false'] at h) | skip))
   | (refine WK.regH Tryz.ntmps163 (by kernel_rfl) ?_; intro A hA Q hQ; simp [bne, *])
   | (refine RunQ.gd rfl (by rw [hA.h]; rfl) ?_; simp [bne, *])
   | (refine RunQ.call rfl rfl rfl rfl rfl ?_ (rfright_c f) ?_ ?_; (focus (simp (maxDischargeDepth := 120) [bne, *]; done)); (focus (simp [bne, *]; done)); refine RunQ.evalH ?_; simp [bne, *])
   | (refine WK.ret Tryz.func163 ?_ ?_ <;> simp (maxDischargeDepth := 120) [Tryz.results163, bne, aSets, *])
   | fail)
theorem agoes_c (p : Int) : FnP Tryz.prog 167 [.int .i64 p] (.bool (aGoes p)) := by
  refine FnP.intro Tryz.func167 rfl rfl fun G w => ?_
  repeat' (first
   | refine WK.seq ?_
   | (refine Hid.h hQ _ _ ?_; clear hQ hA)
   | (refine Fork.mk (fun h => ?_) (fun h => ?_) <;> (first | (simp [*] at h; done) | (have h2 := h; simp at h2; exfalso; omega) | (have h2 := h; simp at h2; try simp only [Bool.not_eq_true', Bool.not_eq_false'] at h) | skip))
   | (refine WK.regH Tryz.ntmps167 (by kernel_rfl) ?_; intro A hA Q hQ; simp [*])
   | (refine RunQ.gd rfl (by rw [hA.h]; rfl) ?_; simp [*])
   | (refine WK.ret Tryz.func167 ?_ ?_ <;> simp (maxDischargeDepth := 120) [Tryz.results167, aGoes, *])
   | fail)
theorem ragoes_c (p : Int) : FnP Tryz.prog 159 [.int .i64 p] (.bool (aGoes p)) := by
  have e : decide (1 ≤ p) = decide (0 < p) := decide_eq_decide.2 (by omega)
  refine FnP.intro Tryz.func159 rfl rfl fun G w => ?_
  repeat' (first
   | refine WK.seq ?_
   | (refine Hid.h hQ _ _ ?_; clear hQ hA)
   | (refine Fork.mk (fun h => ?_) (fun h => ?_) <;> (first | (simp [*] at h; done) | (have h2 := h; simp at h2; exfalso; omega) | (have h2 := h; simp at h2; try simp only [Bool.not_eq_true', Bool.not_eq_false'] at h) | skip))
   | (refine WK.regH Tryz.ntmps159 (by kernel_rfl) ?_; intro A hA Q hQ; simp [e, *])
   | (refine RunQ.gd rfl (by rw [hA.h]; rfl) ?_; simp [e, *])
   | (refine WK.ret Tryz.func159 ?_ ?_ <;> simp (maxDischargeDepth := 120) [Tryz.results159, e, aGoes, *])
   | fail)
set_option maxHeartbeats 4000000 in
theorem aright_c (a : Action) : FnP Tryz.prog 160 [.agg a.enc] (.bool (Action.right a)) := by
  have ho := oright_c a.oxm
  simp only [Oxm.enc] at ho
  have g : aGoes 4294967293 = true := rfl
  refine FnP.intro Tryz.func160 rfl rfl fun G w => ?_
  repeat' (first
   | refine WK.seq ?_
   | refine WK.block ?_
   | refine WK.inBlock ?_
   | refine WK.skip ?_
   | (refine Hid.h hQ _ _ ?_; clear hQ hA)
   | (refine WK.cond2 rfl (fun h => ?_) (fun h => ?_) <;> (first | (simp [*] at h; done) | (have h2 := h; simp at h2; exfalso; omega) | (have h2 := h; simp at h2; try simp only [Bool.not_eq_true', Bool.not_eq_false'] at h) | skip))
   | (refine Fork.mk (fun h => ?_) (fun h => ?_) <;> (first | (simp [*] at h; done) | (have h2 := h; simp at h2; exfalso; omega) | (have h2 := h; simp at h2; try simp only [Bool.not_eq_true', Bool.not_eq_false'] at h) | skip))
   | (refine WK.regH Tryz.ntmps160 (by kernel_rfl) ?_; intro A hA Q hQ; simp [Action.enc, *])
   | (refine WK.regX (by kernel_rfl) Tryz.ntmps160 (by kernel_rfl) ?_; intro A hA Q hQ; simp [Action.enc, *])
   | (refine Hid.h hQ _ _ _ (by decide +kernel) ?_; clear hQ hA)
   | (refine RunQ.gd rfl (by rw [hA.h]; rfl) ?_; simp [Action.enc, *])
   | (refine RunQ.call rfl rfl rfl rfl rfl ?_ (agoes_c a.port) ?_ ?_; (focus (simp (maxDischargeDepth := 120) [Action.enc, *]; done)); (focus (simp [Action.enc, *]; done)); refine RunQ.evalH ?_; simp [Action.enc, *])
   | (refine RunQ.call rfl rfl rfl rfl rfl ?_ (ho) ?_ ?_; (focus (simp (maxDischargeDepth := 120) [Action.enc, *]; done)); (focus (simp [Action.enc, *]; done)); refine RunQ.evalH ?_; simp [Action.enc, *])
   | (refine RunQW.call rfl rfl rfl rfl ?_ (asets_c a.oxm.field) ?_ ?_; (focus (simp (maxDischargeDepth := 120) [Action.enc, *]; done)); (focus (simp [Action.enc, *]; done)); refine RunQ.evalH ?_; simp [Action.enc, *])
   | (refine WK.ret Tryz.func160 ?_ ?_ <;> simp (maxDischargeDepth := 120) [Tryz.results160, Action.enc, Action.right, Action.fine, aMost, Action.bare, Action.beq, Oxm.beq, oxm0, wideZ, *])
   | fail)
set_option maxHeartbeats 4000000 in
theorem ramost_c (a : Action) : FnP Tryz.prog 162 [.agg a.enc] (.bool (a.max == 0 || (a.port == 4294967293 && (decide (0 < a.max) && decide (a.max ≤ 65535))))) := by
  refine FnP.intro Tryz.func162 rfl rfl fun G w => ?_
  repeat' (first
   | refine WK.seq ?_
   | (refine Hid.h hQ _ _ ?_; clear hQ hA)
   | (refine Fork.mk (fun h => ?_) (fun h => ?_) <;> (first | (simp [*] at h; done) | (have h2 := h; simp at h2; exfalso; omega) | (have h2 := h; simp at h2; try simp only [Bool.not_eq_true', Bool.not_eq_false'] at h) | skip))
   | (refine WK.regH Tryz.ntmps162 (by kernel_rfl) ?_; intro A hA Q hQ; simp [Action.enc, *])
   | (refine RunQ.gd rfl (by rw [hA.h]; rfl) ?_; simp [Action.enc, *])
   | (refine WK.ret Tryz.func162 ?_ ?_ <;> simp (maxDischargeDepth := 120) [Tryz.results162, Action.enc, *])
   | fail)
theorem ramost_eq (a : Action) : (a.max == 0 || (a.port == 4294967293 && (decide (0 < a.max) && decide (a.max ≤ 65535)))) = aMost a := by
  unfold aMost
  rw [Bool.eq_iff_iff]; simp only [Bool.or_eq_true, Bool.and_eq_true, beq_iff_eq, decide_eq_true_eq]; omega
set_option maxHeartbeats 4000000 in
theorem raright_c (a : Action) : FnP Tryz.prog 139 [.agg a.enc] (.bool (Action.right a)) := by
  have ho := roright_c a.oxm
  have hm := ramost_c a
  rw [ramost_eq] at hm
  have s0 := rasame_c a ⟨0, a.port, a.max, 0, 0, oxm0⟩
  have s1 := rasame_c a ⟨22, 0, 0, a.group, 0, oxm0⟩
  have s2 := rasame_c a ⟨17, 0, 0, 0, a.ether, oxm0⟩
  have s3 := rasame_c a ⟨18, 0, 0, 0, 0, oxm0⟩
  have s4 := rasame_c a ⟨25, 0, 0, 0, 0, a.oxm⟩
  obtain ⟨k, port, max, group, ether, oxm⟩ := a
  by_cases k0 : k = 0
  · subst k0
    simp only [Action.enc, Oxm.enc, oxm0, wideZ, uI_zero] at ho hm s0 s1 s2 s3 s4
    refine FnP.intro Tryz.func139 rfl rfl fun G w => ?_
    repeat' (first
     | refine WK.seq ?_
     | refine WK.block ?_
     | refine WK.condT rfl ?_
     | (refine Hid.h hQ _ _ ?_; clear hQ hA)
     | (refine Fork.mk (fun h => ?_) (fun h => ?_) <;> (first | (simp [*] at h; done) | (have h2 := h; simp at h2; exfalso; omega) | (have h2 := h; simp at h2; try simp only [Bool.not_eq_true', Bool.not_eq_false'] at h) | skip))
     | (refine WK.regH Tryz.ntmps139 (by kernel_rfl) ?_; intro A hA Q hQ; simp [Action.enc, *])
     | (refine RunQ.gd rfl (by rw [hA.h]; rfl) ?_; simp [Action.enc, *])
     | (refine RunQ.call rfl rfl rfl rfl rfl ?_ (ragoes_c port) ?_ ?_; (focus (simp (maxDischargeDepth := 120) [Action.enc, *]; done)); (focus (simp [Action.enc, *]; done)); refine RunQ.evalH ?_; simp [Action.enc, *])
     | (refine RunQW.call rfl rfl rfl rfl ?_ (hm) ?_ ?_; (focus (simp (maxDischargeDepth := 120) [Action.enc, *]; done)); (focus (simp [Action.enc, *]; done)); refine RunQ.evalH ?_; simp [Action.enc, *])
     | (refine RunQW.call rfl rfl rfl rfl ?_ (s0) ?_ ?_; (focus (simp (maxDischargeDepth := 120) [Action.enc, *]; done)); (focus (simp [Action.enc, *]; done)); refine RunQ.evalH ?_; simp [Action.enc, *])
     | (refine WK.ret Tryz.func139 ?_ ?_ <;> simp (maxDischargeDepth := 120) [Tryz.results139, Action.enc, Action.right, Action.fine, Action.bare, oxm0, wideZ, *])
     | fail)
  by_cases k1 : k = 22
  · subst k1
    simp only [Action.enc, Oxm.enc, oxm0, wideZ, uI_zero] at ho hm s0 s1 s2 s3 s4
    refine FnP.intro Tryz.func139 rfl rfl fun G w => ?_
    repeat' (first
     | refine WK.seq ?_
     | refine WK.block ?_
     | refine WK.condT rfl ?_
     | refine WK.condF rfl ?_
     | (refine Hid.h hQ _ _ ?_; clear hQ hA)
     | (refine Fork.mk (fun h => ?_) (fun h => ?_) <;> (first | (simp [*] at h; done) | (have h2 := h; simp at h2; exfalso; omega) | (have h2 := h; simp at h2; try simp only [Bool.not_eq_true', Bool.not_eq_false'] at h) | skip))
     | (refine WK.regH Tryz.ntmps139 (by kernel_rfl) ?_; intro A hA Q hQ; simp [Action.enc, *])
     | (refine RunQ.gd rfl (by rw [hA.h]; rfl) ?_; simp [Action.enc, *])
     | (refine RunQW.call rfl rfl rfl rfl ?_ (s1) ?_ ?_; (focus (simp (maxDischargeDepth := 120) [Action.enc, *]; done)); (focus (simp [Action.enc, *]; done)); refine RunQ.evalH ?_; simp [Action.enc, *])
     | (refine WK.ret Tryz.func139 ?_ ?_ <;> simp (maxDischargeDepth := 120) [Tryz.results139, Action.enc, Action.right, Action.fine, Action.bare, oxm0, wideZ, *])
     | fail)
  by_cases k2 : k = 17
  · subst k2
    simp only [Action.enc, Oxm.enc, oxm0, wideZ, uI_zero] at ho hm s0 s1 s2 s3 s4
    refine FnP.intro Tryz.func139 rfl rfl fun G w => ?_
    repeat' (first
     | refine WK.seq ?_
     | refine WK.block ?_
     | refine WK.condT rfl ?_
     | refine WK.condF rfl ?_
     | (refine Hid.h hQ _ _ ?_; clear hQ hA)
     | (refine Fork.mk (fun h => ?_) (fun h => ?_) <;> (first | (simp [*] at h; done) | (have h2 := h; simp at h2; exfalso; omega) | (have h2 := h; simp at h2; try simp only [Bool.not_eq_true', Bool.not_eq_false'] at h) | skip))
     | (refine WK.regH Tryz.ntmps139 (by kernel_rfl) ?_; intro A hA Q hQ; simp [Action.enc, *])
     | (refine RunQ.gd rfl (by rw [hA.h]; rfl) ?_; simp [Action.enc, *])
     | (refine RunQW.call rfl rfl rfl rfl ?_ (s2) ?_ ?_; (focus (simp (maxDischargeDepth := 120) [Action.enc, *]; done)); (focus (simp [Action.enc, *]; done)); refine RunQ.evalH ?_; simp [Action.enc, *])
     | (refine WK.ret Tryz.func139 ?_ ?_ <;> simp (maxDischargeDepth := 120) [Tryz.results139, Action.enc, Action.right, Action.fine, Action.bare, oxm0, wideZ, *])
     | fail)
  by_cases k3 : k = 18
  · subst k3
    simp only [Action.enc, Oxm.enc, oxm0, wideZ, uI_zero] at ho hm s0 s1 s2 s3 s4
    refine FnP.intro Tryz.func139 rfl rfl fun G w => ?_
    repeat' (first
     | refine WK.seq ?_
     | refine WK.block ?_
     | refine WK.condT rfl ?_
     | refine WK.condF rfl ?_
     | (refine Hid.h hQ _ _ ?_; clear hQ hA)
     | (refine WK.regH Tryz.ntmps139 (by kernel_rfl) ?_; intro A hA Q hQ; simp [Action.enc, *])
     | (refine RunQ.call rfl rfl rfl rfl rfl ?_ (s3) ?_ ?_; (focus (simp (maxDischargeDepth := 120) [Action.enc, *]; done)); (focus (simp [Action.enc, *]; done)); refine RunQ.evalH ?_; simp [Action.enc, *])
     | (refine WK.ret Tryz.func139 ?_ ?_ <;> simp (maxDischargeDepth := 120) [Tryz.results139, Action.enc, Action.right, Action.fine, Action.bare, oxm0, wideZ, *])
     | fail)
  by_cases k4 : k = 25
  · subst k4
    simp only [Action.enc, Oxm.enc, oxm0, wideZ, uI_zero] at ho hm s0 s1 s2 s3 s4
    refine FnP.intro Tryz.func139 rfl rfl fun G w => ?_
    repeat' (first
     | refine WK.seq ?_
     | refine WK.block ?_
     | refine WK.condT rfl ?_
     | refine WK.condF rfl ?_
     | (refine Hid.h hQ _ _ ?_; clear hQ hA)
     | (refine Fork.mk (fun h => ?_) (fun h => ?_) <;> (first | (simp [*] at h; done) | (have h2 := h; simp at h2; exfalso; omega) | (have h2 := h; simp at h2; try simp only [Bool.not_eq_true', Bool.not_eq_false'] at h) | skip))
     | (refine WK.regH Tryz.ntmps139 (by kernel_rfl) ?_; intro A hA Q hQ; simp [Action.enc, Oxm.enc, *])
     | (refine RunQ.gd rfl (by rw [hA.h]; rfl) ?_; simp [Action.enc, Oxm.enc, *])
     | (refine RunQ.call rfl rfl rfl rfl rfl ?_ (ho) ?_ ?_; (focus (simp (maxDischargeDepth := 120) [Action.enc, Oxm.enc, *]; done)); (focus (simp [Action.enc, Oxm.enc, *]; done)); refine RunQ.evalH ?_; simp [Action.enc, Oxm.enc, *])
     | (refine RunQW.call rfl rfl rfl rfl ?_ (rasets_c oxm.field) ?_ ?_; (focus (simp (maxDischargeDepth := 120) [Action.enc, Oxm.enc, *]; done)); (focus (simp [Action.enc, Oxm.enc, *]; done)); refine RunQ.evalH ?_; simp [Action.enc, Oxm.enc, *])
     | (refine RunQW.call rfl rfl rfl rfl ?_ (s4) ?_ ?_; (focus (simp (maxDischargeDepth := 120) [Action.enc, Oxm.enc, *]; done)); (focus (simp [Action.enc, Oxm.enc, *]; done)); refine RunQ.evalH ?_; simp [Action.enc, Oxm.enc, *])
     | (refine WK.ret Tryz.func139 ?_ ?_ <;> simp (maxDischargeDepth := 120) [Tryz.results139, Action.enc, Oxm.enc, Action.right, Action.fine, Action.bare, oxm0, wideZ, *])
     | fail)
  · refine FnP.intro Tryz.func139 rfl rfl fun G w => ?_
    repeat' (first
     | refine WK.seq ?_
     | refine WK.block ?_
     | refine WK.inBlock ?_
     | refine WK.skip ?_
     | (refine Hid.h hQ _ _ ?_; clear hQ hA)
     | (refine WK.cond2 rfl (fun h => ?_) (fun h => ?_) <;> (first | (simp [*] at h; done) | (have h2 := h; simp at h2; exfalso; omega) | (have h2 := h; simp at h2; try simp only [Bool.not_eq_true', Bool.not_eq_false'] at h) | skip))
     | (refine WK.regH Tryz.ntmps139 (by kernel_rfl) ?_; intro A hA Q hQ; simp [Action.enc, *])
     | (refine WK.ret Tryz.func139 ?_ ?_ <;> simp (maxDischargeDepth := 120) [Tryz.results139, Action.enc, Action.right, Action.fine, Action.bare, *])
     | fail)
end Go.Proofs.YtiifjagnhnchoaaGreat
end
