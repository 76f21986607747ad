/- Which flows a change takes, by the reference; the law that the program says the same. -/
import Derived.Test.YtfgmjnmkcobhkaaGreatW18
set_option linter.all false
set_option linter.unnecessarySimpa false
set_option linter.unusedVariables false
set_option linter.unusedSimpArgs false
namespace Go.Proofs.YtfgmjnmkcobhkaaGreat
open Go Go.AI Go.Proofs

set_option maxHeartbeats 4000000 in
theorem rtakes_c (f : Flow) (m : FlowMod) (hf : FPl f) (hm : FOk (FlowMod.flow m)) : FnP Tryz.prog 15 [.agg f.enc, .agg m.enc] (.bool (FlowMod.takes m f)) := by
  have ec : cubeWithin (Flow.cube f) (Flow.cube (FlowMod.flow m)) = cubeWithin (Flow.cube f) (Flow.cube (FlowMod.flow m)) := rfl
  refine FnP.intro Tryz.func15 rfl rfl fun G w => ?_
  repeat (first | refine WK.seq ?_ | refine WK.block ?_ | refine WK.inBlock ?_ | refine WK.skip ?_ | refine WK.label ?_ | refine WK.scope ?_ | refine WK.inScope ?_ | refine WK.exit rfl ?_)
  first | refine WK.reg 100 Tryz.ntmps15 (by kernel_rfl) ?_ | refine WK.regD 100 clsOf (by kernel_rfl) Tryz.ntmps15 (by kernel_rfl) (by kernel_rfl) ?_
  intro A hA Q hQ
  simp
  refine hQ _ _ ?_
  clear hQ hA
  repeat (first | refine WK.seq ?_ | refine WK.block ?_ | refine WK.inBlock ?_ | refine WK.skip ?_ | refine WK.label ?_ | refine WK.scope ?_ | refine WK.inScope ?_ | refine WK.exit rfl ?_)
  first | refine WK.reg 200 Tryz.ntmps15 (by kernel_rfl) ?_ | refine WK.regD 200 clsOf (by kernel_rfl) Tryz.ntmps15 (by kernel_rfl) (by kernel_rfl) ?_
  intro A hA Q hQ
  simp
  refine RunQ.call rfl rfl rfl rfl (by rfl) (by simp (maxDischargeDepth := 120)) (rof2_c m) (by simp) ?_
  refine RunQ.eval ?_
  simp
  refine hQ _ _ ?_
  clear hQ hA
  repeat (first | refine WK.seq ?_ | refine WK.block ?_ | refine WK.inBlock ?_ | refine WK.skip ?_ | refine WK.label ?_ | refine WK.scope ?_ | refine WK.inScope ?_ | refine WK.exit rfl ?_)
  first | refine WK.reg 300 Tryz.ntmps15 (by kernel_rfl) ?_ | refine WK.regD 300 clsOf (by kernel_rfl) Tryz.ntmps15 (by kernel_rfl) (by kernel_rfl) ?_
  intro A hA Q hQ
  simp [FlowMod.enc]
  refine RunQ.call rfl rfl rfl rfl (by rfl) (by simp (maxDischargeDepth := 120)) (rcookie_c f m.cookie m.cookieMask) (by simp) ?_
  refine RunQ.eval ?_
  simp
  refine hQ _ _ ?_
  clear hQ hA
  repeat (first | refine WK.seq ?_ | refine WK.block ?_ | refine WK.inBlock ?_ | refine WK.skip ?_ | refine WK.label ?_ | refine WK.scope ?_ | refine WK.inScope ?_ | refine WK.exit rfl ?_)
  first | refine WK.reg 400 Tryz.ntmps15 (by kernel_rfl) ?_ | refine WK.regD 400 clsOf (by kernel_rfl) Tryz.ntmps15 (by kernel_rfl) (by kernel_rfl) ?_
  intro A hA Q hQ
  simp [FlowMod.enc]
  refine hQ _ _ ?_
  clear hQ hA
  repeat (first | refine WK.seq ?_ | refine WK.block ?_ | refine WK.inBlock ?_ | refine WK.skip ?_ | refine WK.label ?_ | refine WK.scope ?_ | refine WK.inScope ?_ | refine WK.exit rfl ?_)
  first | refine WK.reg 500 Tryz.ntmps15 (by kernel_rfl) ?_ | refine WK.regD 500 clsOf (by kernel_rfl) Tryz.ntmps15 (by kernel_rfl) (by kernel_rfl) ?_
  intro A hA Q hQ
  simp
  refine hQ _ _ ?_
  clear hQ hA
  repeat (first | refine WK.seq ?_ | refine WK.block ?_ | refine WK.inBlock ?_ | refine WK.skip ?_ | refine WK.label ?_ | refine WK.scope ?_ | refine WK.inScope ?_ | refine WK.exit rfl ?_)
  refine WK.cond2 rfl (fun h0 => ?_) (fun h0 => ?_)
  · repeat (first | refine WK.seq ?_ | refine WK.block ?_ | refine WK.inBlock ?_ | refine WK.skip ?_ | refine WK.label ?_ | refine WK.scope ?_ | refine WK.inScope ?_ | refine WK.exit rfl ?_)
    first | refine WK.reg 600 Tryz.ntmps15 (by kernel_rfl) ?_ | refine WK.regD 600 clsOf (by kernel_rfl) Tryz.ntmps15 (by kernel_rfl) (by kernel_rfl) ?_
    intro A hA Q hQ
    simp
    refine RunQ.call rfl rfl rfl rfl (by rfl) (by simp (maxDischargeDepth := 120)) (ralike_c f (FlowMod.flow m) hf.ok hm) (by simp) ?_
    refine RunQ.eval ?_
    simp
    refine hQ _ _ ?_
    clear hQ hA
    repeat (first | refine WK.seq ?_ | refine WK.block ?_ | refine WK.inBlock ?_ | refine WK.skip ?_ | refine WK.label ?_ | refine WK.scope ?_ | refine WK.inScope ?_ | refine WK.exit rfl ?_)
    refine WK.ret Tryz.func15 (by simp (maxDischargeDepth := 120) [Tryz.results15, FlowMod.takes, h0]) (by simp [FlowMod.takes, h0])
  repeat (first | refine WK.seq ?_ | refine WK.block ?_ | refine WK.inBlock ?_ | refine WK.skip ?_ | refine WK.label ?_ | refine WK.scope ?_ | refine WK.inScope ?_ | refine WK.exit rfl ?_)
  first | refine WK.reg 700 Tryz.ntmps15 (by kernel_rfl) ?_ | refine WK.regD 700 clsOf (by kernel_rfl) Tryz.ntmps15 (by kernel_rfl) (by kernel_rfl) ?_
  intro A hA Q hQ
  simp
  refine hQ _ _ ?_
  clear hQ hA
  repeat (first | refine WK.seq ?_ | refine WK.block ?_ | refine WK.inBlock ?_ | refine WK.skip ?_ | refine WK.label ?_ | refine WK.scope ?_ | refine WK.inScope ?_ | refine WK.exit rfl ?_)
  refine WK.cond2 rfl (fun h1 => ?_) (fun h1 => ?_)
  · cases k : cubeWithin (Flow.cube f) (Flow.cube (FlowMod.flow m))
    all_goals
      repeat (first | refine WK.seq ?_ | refine WK.block ?_ | refine WK.inBlock ?_ | refine WK.skip ?_ | refine WK.label ?_ | refine WK.scope ?_ | refine WK.inScope ?_ | refine WK.exit rfl ?_)
      first | refine WK.reg 800 Tryz.ntmps15 (by kernel_rfl) ?_ | refine WK.regD 800 clsOf (by kernel_rfl) Tryz.ntmps15 (by kernel_rfl) (by kernel_rfl) ?_
      intro A hA Q hQ
      have hg4 : (A[4]?).bind (·.dst) = some 28 := by rw [hA]; rfl
      simp [hg4]
      refine RunQ.call rfl rfl rfl rfl (by rfl) (by simp (maxDischargeDepth := 120)) (rfcube_c (FlowMod.flow m) hm.mat) (by simp) ?_
      refine RunQ.eval ?_
      simp
      refine RunQ.call rfl rfl rfl rfl (by rfl) (by simp (maxDischargeDepth := 120) [k, hg4]) (rcovers_c (Flow.cube (FlowMod.flow m)) f hf.ok) (by simp [k, hg4]) ?_
      refine RunQ.eval ?_
      simp [k, hg4]
      refine hQ _ _ ?_
      clear hQ hA
      repeat (first | refine WK.seq ?_ | refine WK.block ?_ | refine WK.inBlock ?_ | refine WK.skip ?_ | refine WK.label ?_ | refine WK.scope ?_ | refine WK.inScope ?_ | refine WK.exit rfl ?_)
      refine WK.ret Tryz.func15 (by simp (maxDischargeDepth := 120) [Tryz.results15, FlowMod.takes, h0, h1, k]) (by simp [FlowMod.takes, h0, h1, k])
  repeat (first | refine WK.seq ?_ | refine WK.block ?_ | refine WK.inBlock ?_ | refine WK.skip ?_ | refine WK.label ?_ | refine WK.scope ?_ | refine WK.inScope ?_ | refine WK.exit rfl ?_)
  first | refine WK.reg 900 Tryz.ntmps15 (by kernel_rfl) ?_ | refine WK.regD 900 clsOf (by kernel_rfl) Tryz.ntmps15 (by kernel_rfl) (by kernel_rfl) ?_
  intro A hA Q hQ
  simp
  refine hQ _ _ ?_
  clear hQ hA
  repeat (first | refine WK.seq ?_ | refine WK.block ?_ | refine WK.inBlock ?_ | refine WK.skip ?_ | refine WK.label ?_ | refine WK.scope ?_ | refine WK.inScope ?_ | refine WK.exit rfl ?_)
  refine WK.cond2 rfl (fun h2 => ?_) (fun h2 => ?_)
  · cases k : Flow.alike f (FlowMod.flow m)
    all_goals
      repeat (first | refine WK.seq ?_ | refine WK.block ?_ | refine WK.inBlock ?_ | refine WK.skip ?_ | refine WK.label ?_ | refine WK.scope ?_ | refine WK.inScope ?_ | refine WK.exit rfl ?_)
      first | refine WK.reg 1000 Tryz.ntmps15 (by kernel_rfl) ?_ | refine WK.regD 1000 clsOf (by kernel_rfl) Tryz.ntmps15 (by kernel_rfl) (by kernel_rfl) ?_
      intro A hA Q hQ
      have hg3 : (A[3]?).bind (·.dst) = some 36 := by rw [hA]; rfl
      simp [hg3]
      refine RunQ.call rfl rfl rfl rfl (by rfl) (by simp (maxDischargeDepth := 120) [k, hg3]) (ralike_c f (FlowMod.flow m) hf.ok hm) (by simp [k, hg3]) ?_
      refine RunQ.eval ?_
      simp [k, hg3]
      refine hQ _ _ ?_
      clear hQ hA
      repeat (first | refine WK.seq ?_ | refine WK.block ?_ | refine WK.inBlock ?_ | refine WK.skip ?_ | refine WK.label ?_ | refine WK.scope ?_ | refine WK.inScope ?_ | refine WK.exit rfl ?_)
      refine WK.ret Tryz.func15 (by simp (maxDischargeDepth := 120) [Tryz.results15, FlowMod.takes, h0, h1, h2, k]) (by simp [FlowMod.takes, h0, h1, h2, k])
  repeat (first | refine WK.seq ?_ | refine WK.block ?_ | refine WK.inBlock ?_ | refine WK.skip ?_ | refine WK.label ?_ | refine WK.scope ?_ | refine WK.inScope ?_ | refine WK.exit rfl ?_)
  first | refine WK.reg 1100 Tryz.ntmps15 (by kernel_rfl) ?_ | refine WK.regD 1100 clsOf (by kernel_rfl) Tryz.ntmps15 (by kernel_rfl) (by kernel_rfl) ?_
  intro A hA Q hQ
  simp
  refine hQ _ _ ?_
  clear hQ hA
  repeat (first | refine WK.seq ?_ | refine WK.block ?_ | refine WK.inBlock ?_ | refine WK.skip ?_ | refine WK.label ?_ | refine WK.scope ?_ | refine WK.inScope ?_ | refine WK.exit rfl ?_)
  refine WK.cond2 rfl (fun h3 => ?_) (fun h3 => ?_)
  · cases k : cubeWithin (Flow.cube f) (Flow.cube (FlowMod.flow m))
    · repeat (first | refine WK.seq ?_ | refine WK.block ?_ | refine WK.inBlock ?_ | refine WK.skip ?_ | refine WK.label ?_ | refine WK.scope ?_ | refine WK.inScope ?_ | refine WK.exit rfl ?_)
      first | refine WK.reg 1200 Tryz.ntmps15 (by kernel_rfl) ?_ | refine WK.regD 1200 clsOf (by kernel_rfl) Tryz.ntmps15 (by kernel_rfl) (by kernel_rfl) ?_
      intro A hA Q hQ
      have hg4 : (A[4]?).bind (·.dst) = some 45 := by rw [hA]; rfl
      have hg7 : (A[7]?).bind (·.dst) = some 48 := by rw [hA]; rfl
      simp [hg4, hg7]
      refine RunQ.call rfl rfl rfl rfl (by rfl) (by simp (maxDischargeDepth := 120)) (rfcube_c (FlowMod.flow m) hm.mat) (by simp) ?_
      refine RunQ.eval ?_
      simp
      refine RunQ.call rfl rfl rfl rfl (by rfl) (by simp (maxDischargeDepth := 120) [k, hg4, hg7]) (rcovers_c (Flow.cube (FlowMod.flow m)) f hf.ok) (by simp [k, hg4, hg7]) ?_
      refine RunQ.eval ?_
      simp [k, hg4, hg7]
      refine hQ _ _ ?_
      clear hQ hA
      repeat (first | refine WK.seq ?_ | refine WK.block ?_ | refine WK.inBlock ?_ | refine WK.skip ?_ | refine WK.label ?_ | refine WK.scope ?_ | refine WK.inScope ?_ | refine WK.exit rfl ?_)
      refine WK.ret Tryz.func15 (by simp (maxDischargeDepth := 120) [Tryz.results15, FlowMod.takes, h0, h1, h2, h3, k]) (by simp [FlowMod.takes, h0, h1, h2, h3, k])
    cases k2 : cookieOk f m.cookie m.cookieMask
    · repeat (first | refine WK.seq ?_ | refine WK.block ?_ | refine WK.inBlock ?_ | refine WK.skip ?_ | refine WK.label ?_ | refine WK.scope ?_ | refine WK.inScope ?_ | refine WK.exit rfl ?_)
      first | refine WK.reg 1300 Tryz.ntmps15 (by kernel_rfl) ?_ | refine WK.regD 1300 clsOf (by kernel_rfl) Tryz.ntmps15 (by kernel_rfl) (by kernel_rfl) ?_
      intro A hA Q hQ
      have hg4 : (A[4]?).bind (·.dst) = some 45 := by rw [hA]; rfl
      have hg7 : (A[7]?).bind (·.dst) = some 48 := by rw [hA]; rfl
      simp [hg4, hg7]
      refine RunQ.call rfl rfl rfl rfl (by rfl) (by simp (maxDischargeDepth := 120)) (rfcube_c (FlowMod.flow m) hm.mat) (by simp) ?_
      refine RunQ.eval ?_
      simp
      refine RunQ.call rfl rfl rfl rfl (by rfl) (by simp (maxDischargeDepth := 120) [k, k2, hg4, hg7]) (rcovers_c (Flow.cube (FlowMod.flow m)) f hf.ok) (by simp [k, k2, hg4, hg7]) ?_
      refine RunQ.eval ?_
      simp [k, k2, hg4, hg7]
      refine hQ _ _ ?_
      clear hQ hA
      repeat (first | refine WK.seq ?_ | refine WK.block ?_ | refine WK.inBlock ?_ | refine WK.skip ?_ | refine WK.label ?_ | refine WK.scope ?_ | refine WK.inScope ?_ | refine WK.exit rfl ?_)
      refine WK.ret Tryz.func15 (by simp (maxDischargeDepth := 120) [Tryz.results15, FlowMod.takes, h0, h1, h2, h3, k, k2]) (by simp [FlowMod.takes, h0, h1, h2, h3, k, k2])
    · repeat (first | refine WK.seq ?_ | refine WK.block ?_ | refine WK.inBlock ?_ | refine WK.skip ?_ | refine WK.label ?_ | refine WK.scope ?_ | refine WK.inScope ?_ | refine WK.exit rfl ?_)
      first | refine WK.reg 1400 Tryz.ntmps15 (by kernel_rfl) ?_ | refine WK.regD 1400 clsOf (by kernel_rfl) Tryz.ntmps15 (by kernel_rfl) (by kernel_rfl) ?_
      intro A hA Q hQ
      have hg4 : (A[4]?).bind (·.dst) = some 45 := by rw [hA]; rfl
      have hg7 : (A[7]?).bind (·.dst) = some 48 := by rw [hA]; rfl
      simp [hg4, hg7]
      refine RunQ.call rfl rfl rfl rfl (by rfl) (by simp (maxDischargeDepth := 120)) (rfcube_c (FlowMod.flow m) hm.mat) (by simp) ?_
      refine RunQ.eval ?_
      simp
      refine RunQ.call rfl rfl rfl rfl (by rfl) (by simp (maxDischargeDepth := 120) [k, k2, hg4, hg7, FlowMod.enc]) (rcovers_c (Flow.cube (FlowMod.flow m)) f hf.ok) (by simp [k, k2, hg4, hg7, FlowMod.enc]) ?_
      refine RunQ.eval ?_
      simp [k, k2, hg4, hg7, FlowMod.enc]
      refine RunQ.callG rfl rfl (by simp [hg7]) rfl (by rfl) (by simp (maxDischargeDepth := 120) [hg7]) (rout_c f m.outPort m.outGroup hf) (by simp [hg7]) ?_
      refine RunQ.eval ?_
      simp [hg7]
      refine hQ _ _ ?_
      clear hQ hA
      repeat (first | refine WK.seq ?_ | refine WK.block ?_ | refine WK.inBlock ?_ | refine WK.skip ?_ | refine WK.label ?_ | refine WK.scope ?_ | refine WK.inScope ?_ | refine WK.exit rfl ?_)
      refine WK.ret Tryz.func15 (by simp (maxDischargeDepth := 120) [Tryz.results15, FlowMod.takes, h0, h1, h2, h3, k, k2]) (by simp [FlowMod.takes, h0, h1, h2, h3, k, k2])
  repeat (first | refine WK.seq ?_ | refine WK.block ?_ | refine WK.inBlock ?_ | refine WK.skip ?_ | refine WK.label ?_ | refine WK.scope ?_ | refine WK.inScope ?_ | refine WK.exit rfl ?_)
  first | refine WK.reg 1500 Tryz.ntmps15 (by kernel_rfl) ?_ | refine WK.regD 1500 clsOf (by kernel_rfl) Tryz.ntmps15 (by kernel_rfl) (by kernel_rfl) ?_
  intro A hA Q hQ
  simp
  refine hQ _ _ ?_
  clear hQ hA
  repeat (first | refine WK.seq ?_ | refine WK.block ?_ | refine WK.inBlock ?_ | refine WK.skip ?_ | refine WK.label ?_ | refine WK.scope ?_ | refine WK.inScope ?_ | refine WK.exit rfl ?_)
  refine WK.cond2 rfl (fun h4 => ?_) (fun h4 => ?_)
  · cases k : Flow.alike f (FlowMod.flow m)
    · repeat (first | refine WK.seq ?_ | refine WK.block ?_ | refine WK.inBlock ?_ | refine WK.skip ?_ | refine WK.label ?_ | refine WK.scope ?_ | refine WK.inScope ?_ | refine WK.exit rfl ?_)
      first | refine WK.reg 1600 Tryz.ntmps15 (by kernel_rfl) ?_ | refine WK.regD 1600 clsOf (by kernel_rfl) Tryz.ntmps15 (by kernel_rfl) (by kernel_rfl) ?_
      intro A hA Q hQ
      have hg3 : (A[3]?).bind (·.dst) = some 61 := by rw [hA]; rfl
      have hg6 : (A[6]?).bind (·.dst) = some 64 := by rw [hA]; rfl
      simp [hg3, hg6]
      refine RunQ.call rfl rfl rfl rfl (by rfl) (by simp (maxDischargeDepth := 120) [k, hg3, hg6]) (ralike_c f (FlowMod.flow m) hf.ok hm) (by simp [k, hg3, hg6]) ?_
      refine RunQ.eval ?_
      simp [k, hg3, hg6]
      refine hQ _ _ ?_
      clear hQ hA
      repeat (first | refine WK.seq ?_ | refine WK.block ?_ | refine WK.inBlock ?_ | refine WK.skip ?_ | refine WK.label ?_ | refine WK.scope ?_ | refine WK.inScope ?_ | refine WK.exit rfl ?_)
      refine WK.ret Tryz.func15 (by simp (maxDischargeDepth := 120) [Tryz.results15, FlowMod.takes, h0, h1, h2, h3, h4, k]) (by simp [FlowMod.takes, h0, h1, h2, h3, h4, k])
    cases k2 : cookieOk f m.cookie m.cookieMask
    · repeat (first | refine WK.seq ?_ | refine WK.block ?_ | refine WK.inBlock ?_ | refine WK.skip ?_ | refine WK.label ?_ | refine WK.scope ?_ | refine WK.inScope ?_ | refine WK.exit rfl ?_)
      first | refine WK.reg 1700 Tryz.ntmps15 (by kernel_rfl) ?_ | refine WK.regD 1700 clsOf (by kernel_rfl) Tryz.ntmps15 (by kernel_rfl) (by kernel_rfl) ?_
      intro A hA Q hQ
      have hg3 : (A[3]?).bind (·.dst) = some 61 := by rw [hA]; rfl
      have hg6 : (A[6]?).bind (·.dst) = some 64 := by rw [hA]; rfl
      simp [hg3, hg6]
      refine RunQ.call rfl rfl rfl rfl (by rfl) (by simp (maxDischargeDepth := 120) [k, k2, hg3, hg6]) (ralike_c f (FlowMod.flow m) hf.ok hm) (by simp [k, k2, hg3, hg6]) ?_
      refine RunQ.eval ?_
      simp [k, k2, hg3, hg6]
      refine hQ _ _ ?_
      clear hQ hA
      repeat (first | refine WK.seq ?_ | refine WK.block ?_ | refine WK.inBlock ?_ | refine WK.skip ?_ | refine WK.label ?_ | refine WK.scope ?_ | refine WK.inScope ?_ | refine WK.exit rfl ?_)
      refine WK.ret Tryz.func15 (by simp (maxDischargeDepth := 120) [Tryz.results15, FlowMod.takes, h0, h1, h2, h3, h4, k, k2]) (by simp [FlowMod.takes, h0, h1, h2, h3, h4, k, k2])
    · repeat (first | refine WK.seq ?_ | refine WK.block ?_ | refine WK.inBlock ?_ | refine WK.skip ?_ | refine WK.label ?_ | refine WK.scope ?_ | refine WK.inScope ?_ | refine WK.exit rfl ?_)
      first | refine WK.reg 1800 Tryz.ntmps15 (by kernel_rfl) ?_ | refine WK.regD 1800 clsOf (by kernel_rfl) Tryz.ntmps15 (by kernel_rfl) (by kernel_rfl) ?_
      intro A hA Q hQ
      have hg3 : (A[3]?).bind (·.dst) = some 61 := by rw [hA]; rfl
      have hg6 : (A[6]?).bind (·.dst) = some 64 := by rw [hA]; rfl
      simp [hg3, hg6]
      refine RunQ.call rfl rfl rfl rfl (by rfl) (by simp (maxDischargeDepth := 120) [k, k2, hg3, hg6, FlowMod.enc]) (ralike_c f (FlowMod.flow m) hf.ok hm) (by simp [k, k2, hg3, hg6, FlowMod.enc]) ?_
      refine RunQ.eval ?_
      simp [k, k2, hg3, hg6, FlowMod.enc]
      refine RunQ.callG rfl rfl (by simp [hg6]) rfl (by rfl) (by simp (maxDischargeDepth := 120) [hg6]) (rout_c f m.outPort m.outGroup hf) (by simp [hg6]) ?_
      refine RunQ.eval ?_
      simp [hg6]
      refine hQ _ _ ?_
      clear hQ hA
      repeat (first | refine WK.seq ?_ | refine WK.block ?_ | refine WK.inBlock ?_ | refine WK.skip ?_ | refine WK.label ?_ | refine WK.scope ?_ | refine WK.inScope ?_ | refine WK.exit rfl ?_)
      refine WK.ret Tryz.func15 (by simp (maxDischargeDepth := 120) [Tryz.results15, FlowMod.takes, h0, h1, h2, h3, h4, k, k2]) (by simp [FlowMod.takes, h0, h1, h2, h3, h4, k, k2])
  repeat (first | refine WK.seq ?_ | refine WK.block ?_ | refine WK.inBlock ?_ | refine WK.skip ?_ | refine WK.label ?_ | refine WK.scope ?_ | refine WK.inScope ?_ | refine WK.exit rfl ?_)
  first | refine WK.reg 1900 Tryz.ntmps15 (by kernel_rfl) ?_ | refine WK.regD 1900 clsOf (by kernel_rfl) Tryz.ntmps15 (by kernel_rfl) (by kernel_rfl) ?_
  intro A hA Q hQ
  simp
  refine hQ _ _ ?_
  clear hQ hA
  repeat (first | refine WK.seq ?_ | refine WK.block ?_ | refine WK.inBlock ?_ | refine WK.skip ?_ | refine WK.label ?_ | refine WK.scope ?_ | refine WK.inScope ?_ | refine WK.exit rfl ?_)
  refine WK.ret Tryz.func15 (by simp (maxDischargeDepth := 120) [Tryz.results15, FlowMod.takes, h0, h1, h2, h3, h4]) (by simp [FlowMod.takes, h0, h1, h2, h3, h4])
theorem tookN_ints (m : FlowMod) (l : List Flow) (i : Nat) : (intL ((tookN m l (i + 1)).map fun j : Nat => (j : Int))) =
    if FlowMod.takes m (nth l i) then intL ((tookN m l i).map fun j : Nat => (j : Int)) ++ [.int .i64 i] else intL ((tookN m l i).map fun j : Nat => (j : Int)) := by
  rw [tookN_succ]; split <;> simp [intL]
theorem intL_nil' : intL [] = [] := rfl
theorem rplist_c (m : FlowMod) (l : List Flow) (hm : FOk (FlowMod.flow m)) (hl : l.length ≤ 1000000) (hf : ∀ f, f ∈ l → FPl f) :
    FnP Tryz.prog 8 [flowS l, .agg m.enc] (intS (took m l)) := by
  unfold flowS
  refine FnP.intro Tryz.func8 rfl rfl fun G w => ?_
  repeat (first | refine WK.seq ?_ | refine WK.block ?_ | refine WK.inBlock ?_ | refine WK.skip ?_ | refine WK.label ?_ | refine WK.scope ?_ | refine WK.inScope ?_ | refine WK.exit rfl ?_)
  first | refine WK.reg 100 Tryz.ntmps8 (by kernel_rfl) ?_ | refine WK.regD 100 clsOf (by kernel_rfl) Tryz.ntmps8 (by kernel_rfl) (by kernel_rfl) ?_
  intro A hA Q hQ
  simp
  refine hQ _ _ ?_
  clear hQ hA
  repeat (first | refine WK.seq ?_ | refine WK.block ?_ | refine WK.inBlock ?_ | refine WK.skip ?_ | refine WK.label ?_ | refine WK.scope ?_ | refine WK.inScope ?_ | refine WK.exit rfl ?_)
  first | refine WK.reg 200 Tryz.ntmps8 (by kernel_rfl) ?_ | refine WK.regD 200 clsOf (by kernel_rfl) Tryz.ntmps8 (by kernel_rfl) (by kernel_rfl) ?_
  intro A hA Q hQ
  simp
  refine hQ _ _ ?_
  clear hQ hA
  repeat (first | refine WK.seq ?_ | refine WK.block ?_ | refine WK.inBlock ?_ | refine WK.skip ?_ | refine WK.label ?_ | refine WK.scope ?_ | refine WK.inScope ?_ | refine WK.exit rfl ?_)
  refine WK.ghost (Ghost.own 5 900 1 rfl rfl) ?_
  repeat (first | refine WK.seq ?_ | refine WK.block ?_ | refine WK.inBlock ?_ | refine WK.skip ?_ | refine WK.label ?_ | refine WK.scope ?_ | refine WK.inScope ?_ | refine WK.exit rfl ?_)
  first | refine WK.reg 300 Tryz.ntmps8 (by kernel_rfl) ?_ | refine WK.regD 300 clsOf (by kernel_rfl) Tryz.ntmps8 (by kernel_rfl) (by kernel_rfl) ?_
  intro A hA Q hQ
  simp
  refine hQ _ _ ?_
  clear hQ hA
  repeat (first | refine WK.seq ?_ | refine WK.block ?_ | refine WK.inBlock ?_ | refine WK.skip ?_ | refine WK.label ?_ | refine WK.scope ?_ | refine WK.inScope ?_ | refine WK.exit rfl ?_)
  refine WK.loopI (fun n => if n = 1 then 900 else n) (fun i : Nat => (⟨(upd (upd (upd (upd J 0 (.sl false l.length (flowL l))) 3 (.ptr 0 0)) 5 (.msl 1 0 (tookN m l i).length)) 6 (.int .i64 i)), (upd (upd B0 0 (.var m.enc)) 1 (.buf 1 (intL ((tookN m l i).map fun j : Nat => (j : Int))))), 0⟩ : St)) (fun i => i ≤ l.length) (fun i => l.length - i) (0) (by repeat (first | exact TmW.nil | refine TmW.upd ?_ (by simp (maxDischargeDepth := 120) [tookN, intL_nil']))) (by repeat (first | exact BxW.nil | refine BxW.upd ?_ (by simp (maxDischargeDepth := 120) [tookN, intL_nil']))) (by first | exact InjW.id | exact InjW.nil | exact InjW.one | exact InjW.two (by simp) | exact InjW.three (by simp) (by simp) (by simp)) (by omega) (fun i hi IH => ?_)
  repeat (first | refine WK.seq ?_ | refine WK.block ?_ | refine WK.inBlock ?_ | refine WK.skip ?_ | refine WK.label ?_ | refine WK.scope ?_ | refine WK.inScope ?_ | refine WK.exit rfl ?_)
  first | refine WK.reg 400 Tryz.ntmps8 (by kernel_rfl) ?_ | refine WK.regD 400 clsOf (by kernel_rfl) Tryz.ntmps8 (by kernel_rfl) (by kernel_rfl) ?_
  intro A hA Q hQ
  simp
  refine hQ _ _ ?_
  clear hQ hA
  repeat (first | refine WK.seq ?_ | refine WK.block ?_ | refine WK.inBlock ?_ | refine WK.skip ?_ | refine WK.label ?_ | refine WK.scope ?_ | refine WK.inScope ?_ | refine WK.exit rfl ?_)
  refine WK.cond2 rfl (fun h1 => ?_) (fun h1 => ?_)
  · simp at h1
    have h2 : i < l.length := by omega
    have h3 : 7 ≤ l.length * 7 - i * 7 := by omega
    have h4 := flow_sub l i h2
    have h6 : IntKind.i64.wrap ((i : Int) + 1) = i + 1 := wrap_i64 (by omega) (by omega)
    have hlen := tookN_len m l i
    have hb : ((tookN m l i).length + 1) * 8 ≤ 140737488355328 := by omega
    have hs := tookN_ints m l i
    have hs2 := tookN_succ m l i
    repeat (first | refine WK.seq ?_ | refine WK.block ?_ | refine WK.inBlock ?_ | refine WK.skip ?_ | refine WK.label ?_ | refine WK.scope ?_ | refine WK.inScope ?_ | refine WK.exit rfl ?_)
    first | refine WK.reg 500 Tryz.ntmps8 (by kernel_rfl) ?_ | refine WK.regD 500 clsOf (by kernel_rfl) Tryz.ntmps8 (by kernel_rfl) (by kernel_rfl) ?_
    intro A hA Q hQ
    simp [h2, h3, h4]
    refine RunQ.call rfl rfl rfl rfl (by rfl) (by simp (maxDischargeDepth := 120)) (rtakes_c (nth l i) m (hf _ (nth_mem h2)) hm) (by simp) ?_
    refine RunQ.eval ?_
    simp
    refine hQ _ _ ?_
    clear hQ hA
    repeat (first | refine WK.seq ?_ | refine WK.block ?_ | refine WK.inBlock ?_ | refine WK.skip ?_ | refine WK.label ?_ | refine WK.scope ?_ | refine WK.inScope ?_ | refine WK.exit rfl ?_)
    refine WK.cond2 rfl (fun h5 => ?_) (fun h5 => ?_)
    · rw [h5] at hs hs2
      simp only [if_true] at hs hs2
      repeat (first | refine WK.seq ?_ | refine WK.block ?_ | refine WK.inBlock ?_ | refine WK.skip ?_ | refine WK.label ?_ | refine WK.scope ?_ | refine WK.inScope ?_ | refine WK.exit rfl ?_)
      first | refine WK.reg 600 Tryz.ntmps8 (by kernel_rfl) ?_ | refine WK.regD 600 clsOf (by kernel_rfl) Tryz.ntmps8 (by kernel_rfl) (by kernel_rfl) ?_
      intro A hA Q hQ
      simp
      refine RunQ.append 901 appInt rfl rfl rfl rfl rfl rfl rfl (by simp [hb]) rfl (by simp [hb]) (by simp [hb]) (by simp [hb]) (by simp [hb]) ?_
      refine RunQ.eval ?_
      simp [hb]
      refine hQ _ _ ?_
      clear hQ hA
      repeat (first | refine WK.seq ?_ | refine WK.block ?_ | refine WK.inBlock ?_ | refine WK.skip ?_ | refine WK.label ?_ | refine WK.scope ?_ | refine WK.inScope ?_ | refine WK.exit rfl ?_)
      first | refine WK.reg 700 Tryz.ntmps8 (by kernel_rfl) ?_ | refine WK.regD 700 clsOf (by kernel_rfl) Tryz.ntmps8 (by kernel_rfl) (by kernel_rfl) ?_
      intro A hA Q hQ
      simp [h6]
      refine hQ _ _ ?_
      clear hQ hA
      repeat (first | refine WK.seq ?_ | refine WK.block ?_ | refine WK.inBlock ?_ | refine WK.skip ?_ | refine WK.label ?_ | refine WK.scope ?_ | refine WK.inScope ?_ | refine WK.exit rfl ?_)
      refine WK.next (fun n => if n = 1 then 901 else n) (IH (i + 1) (by omega) (by omega)) (by repeat (first | exact TmW.nil | refine TmW.upd ?_ (by simp (maxDischargeDepth := 120) [hs, hs2, h6, intL_app, intL_one]))) (by repeat (first | exact BxW.nil | refine BxW.upd ?_ (by simp (maxDischargeDepth := 120) [hs, hs2, h6, intL_app, intL_one]))) (by first | exact InjW.id | exact InjW.nil | exact InjW.one | exact InjW.two (by simp) | exact InjW.three (by simp) (by simp) (by simp))
    · rw [h5] at hs hs2
      simp only [Bool.false_eq_true, if_false] at hs hs2
      repeat (first | refine WK.seq ?_ | refine WK.block ?_ | refine WK.inBlock ?_ | refine WK.skip ?_ | refine WK.label ?_ | refine WK.scope ?_ | refine WK.inScope ?_ | refine WK.exit rfl ?_)
      first | refine WK.reg 800 Tryz.ntmps8 (by kernel_rfl) ?_ | refine WK.regD 800 clsOf (by kernel_rfl) Tryz.ntmps8 (by kernel_rfl) (by kernel_rfl) ?_
      intro A hA Q hQ
      simp [h6]
      refine hQ _ _ ?_
      clear hQ hA
      repeat (first | refine WK.seq ?_ | refine WK.block ?_ | refine WK.inBlock ?_ | refine WK.skip ?_ | refine WK.label ?_ | refine WK.scope ?_ | refine WK.inScope ?_ | refine WK.exit rfl ?_)
      refine WK.next (fun n => n) (IH (i + 1) (by omega) (by omega)) (by repeat (first | exact TmW.nil | refine TmW.upd ?_ (by simp (maxDischargeDepth := 120) [hs, hs2, h6]))) (by repeat (first | exact BxW.nil | refine BxW.upd ?_ (by simp (maxDischargeDepth := 120) [hs, hs2, h6]))) (by first | exact InjW.id | exact InjW.nil | exact InjW.one | exact InjW.two (by simp) | exact InjW.three (by simp) (by simp) (by simp))
  · simp at h1
    have e : i = l.length := by omega
    subst e
    have e2 := took_len m l
    repeat (first | refine WK.seq ?_ | refine WK.block ?_ | refine WK.inBlock ?_ | refine WK.skip ?_ | refine WK.label ?_ | refine WK.scope ?_ | refine WK.inScope ?_ | refine WK.exit rfl ?_)
    first | refine WK.reg 900 Tryz.ntmps8 (by kernel_rfl) ?_ | refine WK.regD 900 clsOf (by kernel_rfl) Tryz.ntmps8 (by kernel_rfl) (by kernel_rfl) ?_
    intro A hA Q hQ
    simp
    refine hQ _ _ ?_
    clear hQ hA
    have hT : (intL ((tookN m l l.length).map fun j : Nat => (j : Int))).take (tookN m l l.length).length = intL ((tookN m l l.length).map fun j : Nat => (j : Int)) := List.take_of_length_le (by simp [intL])
    repeat (first | refine WK.seq ?_ | refine WK.block ?_ | refine WK.inBlock ?_ | refine WK.skip ?_ | refine WK.label ?_ | refine WK.scope ?_ | refine WK.inScope ?_ | refine WK.exit rfl ?_)
    refine WK.ghost (Ghost.frzSl 4 1 rfl rfl) ?_
    repeat (first | refine WK.seq ?_ | refine WK.block ?_ | refine WK.inBlock ?_ | refine WK.skip ?_ | refine WK.label ?_ | refine WK.scope ?_ | refine WK.inScope ?_ | refine WK.exit rfl ?_)
    refine WK.ret Tryz.func8 (by simp (maxDischargeDepth := 120) [Tryz.results8, intS, e2, took, hT]) (by simp [intS, e2, took, hT])
theorem pall_c (m : FlowMod) (l : List Flow) (hm : FOk (FlowMod.flow m)) (hl : l.length ≤ 1000000) (hf : ∀ f, f ∈ l → FPl f) :
    FnP Tryz.prog 11 [flowS l, .agg m.enc] (intS (took m l)) := by
  have hy := yInt_all (took m l)
  have hlen : (took m l).length ≤ l.length := by rw [took_len]; exact tookN_len m l l.length
  refine FnP.intro Tryz.func11 rfl rfl fun G w => ?_
  repeat (first | refine WK.seq ?_ | refine WK.block ?_ | refine WK.inBlock ?_ | refine WK.skip ?_ | refine WK.label ?_ | refine WK.scope ?_ | refine WK.inScope ?_ | refine WK.exit rfl ?_)
  first | refine WK.reg 100 Tryz.ntmps11 (by kernel_rfl) ?_ | refine WK.regD 100 clsOf (by kernel_rfl) Tryz.ntmps11 (by kernel_rfl) (by kernel_rfl) ?_
  intro A hA Q hQ
  simp
  refine hQ _ _ ?_
  clear hQ hA
  repeat (first | refine WK.seq ?_ | refine WK.block ?_ | refine WK.inBlock ?_ | refine WK.skip ?_ | refine WK.label ?_ | refine WK.scope ?_ | refine WK.inScope ?_ | refine WK.exit rfl ?_)
  first | refine WK.reg 200 Tryz.ntmps11 (by kernel_rfl) ?_ | refine WK.regD 200 clsOf (by kernel_rfl) Tryz.ntmps11 (by kernel_rfl) (by kernel_rfl) ?_
  intro A hA Q hQ
  simp
  refine hQ _ _ ?_
  clear hQ hA
  repeat (first | refine WK.seq ?_ | refine WK.block ?_ | refine WK.inBlock ?_ | refine WK.skip ?_ | refine WK.label ?_ | refine WK.scope ?_ | refine WK.inScope ?_ | refine WK.exit rfl ?_)
  refine WK.ghost (Ghost.ownVar 100 0 900 1 rfl rfl rfl) ?_
  repeat (first | refine WK.seq ?_ | refine WK.block ?_ | refine WK.inBlock ?_ | refine WK.skip ?_ | refine WK.label ?_ | refine WK.scope ?_ | refine WK.inScope ?_ | refine WK.exit rfl ?_)
  first | refine WK.reg 300 Tryz.ntmps11 (by kernel_rfl) ?_ | refine WK.regD 300 clsOf (by kernel_rfl) Tryz.ntmps11 (by kernel_rfl) (by kernel_rfl) ?_
  intro A hA Q hQ
  simp [flowS]
  refine RunQ.call rfl rfl rfl rfl (by rfl) (by simp (maxDischargeDepth := 120) [flowS]) (pOf_c m l) (by simp [flowS]) ?_
  refine RunQ.eval ?_
  simp [flowS]
  refine hQ _ _ ?_
  clear hQ hA
  repeat (first | refine WK.seq ?_ | refine WK.block ?_ | refine WK.inBlock ?_ | refine WK.skip ?_ | refine WK.label ?_ | refine WK.scope ?_ | refine WK.inScope ?_ | refine WK.exit rfl ?_)
  refine WK.next (st' := ⟨(upd (upd J 5 (.ptr 0 0)) 9 (.fn 21 [.iptr m.enc, .iptr [.sl false l.length (flowL l)]])), (fun i : Nat => (upd (upd B0 0 (.var [.msl 1 0 i])) 1 (.buf 1 (intL ((took m l).take i))))) 0, 0⟩) (fun n => if n = 1 then 900 else 100) ?_ (by repeat (first | exact TmW.nil | refine TmW.upd ?_ (by simp (maxDischargeDepth := 120) [intL_nil']))) (by repeat (first | exact BxW.nil | refine BxW.upd ?_ (by simp (maxDischargeDepth := 120) [intL_nil']))) (by first | exact InjW.id | exact InjW.nil | exact InjW.one | exact InjW.two (by simp) | exact InjW.three (by simp) (by simp) (by simp))
  refine WK.rangeM (yInt (took m l)) (fun _ => true) (fun _ => none) (fun i : Nat => (upd (upd B0 0 (.var [.msl 1 0 i])) 1 (.buf 1 (intL ((took m l).take i))))) [0] rfl (seqOf_c m l hm hl hf) (by simp [intL_nil']) (by kernel_rfl) (hy) (fun i => by simp) (by simp) (by repeat (first | exact TmN.nil | refine TmN.upd ?_ (by simp [intL_nil']))) (fun i x hx hgo lp rc kp E own G w hR => ?_) (fun r => ?_)
  · obtain ⟨h2, rfl⟩ := yInt_get hx
    have h3 : ((took m l).take i).length = i := by rw [List.length_take]; omega
    have hb : (i + 1) * 8 ≤ 140737488355328 := by omega
    have h4 := intL_take h2
    repeat (first | refine WK.seq ?_ | refine WK.block ?_ | refine WK.inBlock ?_ | refine WK.skip ?_ | refine WK.label ?_ | refine WK.scope ?_ | refine WK.inScope ?_ | refine WK.exit rfl ?_)
    first | refine WK.reg 400 Tryz.ntmps11 (by kernel_rfl) ?_ | refine WK.regD 400 clsOf (by kernel_rfl) Tryz.ntmps11 (by kernel_rfl) (by kernel_rfl) ?_
    intro A hA Q hQ
    simp
    refine hQ _ _ ?_
    clear hQ hA
    repeat (first | refine WK.seq ?_ | refine WK.block ?_ | refine WK.inBlock ?_ | refine WK.skip ?_ | refine WK.label ?_ | refine WK.scope ?_ | refine WK.inScope ?_ | refine WK.exit rfl ?_)
    refine WK.beginL hR ?_
    repeat (first | refine WK.seq ?_ | refine WK.block ?_ | refine WK.inBlock ?_ | refine WK.skip ?_ | refine WK.label ?_ | refine WK.scope ?_ | refine WK.inScope ?_ | refine WK.exit rfl ?_)
    first | refine WK.reg 500 Tryz.ntmps11 (by kernel_rfl) ?_ | refine WK.regD 500 clsOf (by kernel_rfl) Tryz.ntmps11 (by kernel_rfl) (by kernel_rfl) ?_
    intro A hA Q hQ
    simp
    refine RunQ.append 901 appInt rfl rfl rfl rfl rfl rfl rfl (by simp [hb, h3]) rfl (by simp [hb, h3]) (by simp [hb, h3]) (by simp [hb, h3]) (by simp [hb, h3]) ?_
    refine RunQ.eval ?_
    simp [hb, h3]
    refine hQ _ _ ?_
    clear hQ hA
    repeat (first | refine WK.seq ?_ | refine WK.block ?_ | refine WK.inBlock ?_ | refine WK.skip ?_ | refine WK.label ?_ | refine WK.scope ?_ | refine WK.inScope ?_ | refine WK.exit rfl ?_)
    refine WK.roundGo (fun n => if n = 1 then 901 else n) hR (rfl) (by repeat (first | exact BxW.nil | refine BxW.upd ?_ (by simp (maxDischargeDepth := 120) [h4]))) (by first | exact InjW.id | exact InjW.nil | exact InjW.one | exact InjW.two (by simp) | exact InjW.three (by simp) (by simp) (by simp)) (by simp)
  · rw [yInt_len, taken_true, jump_true]
    repeat (first | refine WK.seq ?_ | refine WK.block ?_ | refine WK.inBlock ?_ | refine WK.skip ?_ | refine WK.label ?_ | refine WK.scope ?_ | refine WK.inScope ?_ | refine WK.exit rfl ?_)
    first | refine WK.reg 600 Tryz.ntmps11 (by kernel_rfl) ?_ | refine WK.regD 600 clsOf (by kernel_rfl) Tryz.ntmps11 (by kernel_rfl) (by kernel_rfl) ?_
    intro A hA Q hQ
    simp
    refine hQ _ _ ?_
    clear hQ hA
    repeat (first | refine WK.seq ?_ | refine WK.block ?_ | refine WK.inBlock ?_ | refine WK.skip ?_ | refine WK.label ?_ | refine WK.scope ?_ | refine WK.inScope ?_ | refine WK.exit rfl ?_)
    refine WK.ghost (Ghost.frzSl 4 1 rfl rfl) ?_
    repeat (first | refine WK.seq ?_ | refine WK.block ?_ | refine WK.inBlock ?_ | refine WK.skip ?_ | refine WK.label ?_ | refine WK.scope ?_ | refine WK.inScope ?_ | refine WK.exit rfl ?_)
    refine WK.ret Tryz.func11 (by simp (maxDischargeDepth := 120) [Tryz.results11, intS]) (by simp [intS])
theorem pickT1_c (f : Flow) (m : FlowMod) (hf : FPl f) (hm : FOk (FlowMod.flow m)) : FnP Tryz.prog 13 [.agg f.enc, .iptr m.enc] (.bool false) := by
  refine FnP.intro Tryz.func13 rfl rfl fun G w => ?_
  repeat (first | refine WK.seq ?_ | refine WK.block ?_ | refine WK.inBlock ?_ | refine WK.skip ?_ | refine WK.label ?_ | refine WK.scope ?_ | refine WK.inScope ?_ | refine WK.exit rfl ?_)
  first | refine WK.reg 100 Tryz.ntmps13 (by kernel_rfl) ?_ | refine WK.regD 100 clsOf (by kernel_rfl) Tryz.ntmps13 (by kernel_rfl) (by kernel_rfl) ?_
  intro A hA Q hQ
  simp
  refine hQ _ _ ?_
  clear hQ hA
  repeat (first | refine WK.seq ?_ | refine WK.block ?_ | refine WK.inBlock ?_ | refine WK.skip ?_ | refine WK.label ?_ | refine WK.scope ?_ | refine WK.inScope ?_ | refine WK.exit rfl ?_)
  first | refine WK.reg 200 Tryz.ntmps13 (by kernel_rfl) ?_ | refine WK.regD 200 clsOf (by kernel_rfl) Tryz.ntmps13 (by kernel_rfl) (by kernel_rfl) ?_
  intro A hA Q hQ
  simp
  refine RunQ.call rfl rfl rfl rfl (by rfl) (by simp (maxDischargeDepth := 120)) (takes_c f m hf hm) (by simp) ?_
  refine RunQ.eval ?_
  simp
  refine RunQ.call rfl rfl rfl rfl (by rfl) (by simp (maxDischargeDepth := 120)) (rtakes_c f m hf hm) (by simp) ?_
  refine RunQ.eval ?_
  simp
  refine hQ _ _ ?_
  clear hQ hA
  repeat (first | refine WK.seq ?_ | refine WK.block ?_ | refine WK.inBlock ?_ | refine WK.skip ?_ | refine WK.label ?_ | refine WK.scope ?_ | refine WK.inScope ?_ | refine WK.exit rfl ?_)
  refine WK.ret Tryz.func13 (by simp (maxDischargeDepth := 120) [Tryz.results13]) (by simp)
set_option maxHeartbeats 4000000 in
theorem pickTells_c (l : List Flow) (m : FlowMod) : FnP Tryz.prog 3 [flowS l, .agg m.enc] (.bool true) := by
  cases pl : flowsPlain l 20
  · refine FnP.intro Tryz.func3 rfl rfl fun G w => ?_
    repeat (first | refine WK.seq ?_ | refine WK.block ?_ | refine WK.inBlock ?_ | refine WK.skip ?_ | refine WK.label ?_ | refine WK.scope ?_ | refine WK.inScope ?_ | refine WK.exit rfl ?_)
    first | refine WK.reg 100 Tryz.ntmps3 (by kernel_rfl) ?_ | refine WK.regD 100 clsOf (by kernel_rfl) Tryz.ntmps3 (by kernel_rfl) (by kernel_rfl) ?_
    intro A hA Q hQ
    simp
    refine hQ _ _ ?_
    clear hQ hA
    repeat (first | refine WK.seq ?_ | refine WK.block ?_ | refine WK.inBlock ?_ | refine WK.skip ?_ | refine WK.label ?_ | refine WK.scope ?_ | refine WK.inScope ?_ | refine WK.exit rfl ?_)
    first | refine WK.reg 200 Tryz.ntmps3 (by kernel_rfl) ?_ | refine WK.regD 200 clsOf (by kernel_rfl) Tryz.ntmps3 (by kernel_rfl) (by kernel_rfl) ?_
    intro A hA Q hQ
    have hg2 : (A[2]?).bind (·.dst) = some 8 := by rw [hA]; rfl
    have hg7 : (A[7]?).bind (·.dst) = some 13 := by rw [hA]; rfl
    have hg12 : (A[12]?).bind (·.dst) = some 18 := by rw [hA]; rfl
    simp [flowS, hg2, hg7, hg12]
    refine RunQ.call rfl rfl rfl rfl (by rfl) (by simp (maxDischargeDepth := 120) [hg2]) (awake22_c) (by simp [hg2]) ?_
    refine RunQ.eval ?_
    simp [hg2]
    refine RunQ.callG rfl rfl (by simp [pl, hg2, hg7, hg12, flowS]) rfl (by rfl) (by simp (maxDischargeDepth := 120) [pl, hg2, hg7, hg12, flowS]) (pFlows_c l 20 (by omega)) (by simp [pl, hg2, hg7, hg12, flowS]) ?_
    refine RunQ.eval ?_
    simp [pl, hg2, hg7, hg12, flowS]
    refine hQ _ _ ?_
    clear hQ hA
    repeat (first | refine WK.seq ?_ | refine WK.block ?_ | refine WK.inBlock ?_ | refine WK.skip ?_ | refine WK.label ?_ | refine WK.scope ?_ | refine WK.inScope ?_ | refine WK.exit rfl ?_)
    refine WK.cond2 rfl (fun hh => ?_) (fun hh => ?_)
    · repeat (first | refine WK.seq ?_ | refine WK.block ?_ | refine WK.inBlock ?_ | refine WK.skip ?_ | refine WK.label ?_ | refine WK.scope ?_ | refine WK.inScope ?_ | refine WK.exit rfl ?_)
      first | refine WK.reg 300 Tryz.ntmps3 (by kernel_rfl) ?_ | refine WK.regD 300 clsOf (by kernel_rfl) Tryz.ntmps3 (by kernel_rfl) (by kernel_rfl) ?_
      intro A hA Q hQ
      have hg1 : (A[1]?).bind (·.dst) = some 25 := by rw [hA]; rfl
      simp [hg1]
      refine RunQ.call rfl rfl rfl rfl (by rfl) (by simp (maxDischargeDepth := 120) [hg1]) (awake22_c) (by simp [hg1]) ?_
      refine RunQ.eval ?_
      simp [hg1]
      refine RunQ.callG rfl rfl (by simp [hg1, flowS]) rfl (by rfl) (by simp (maxDischargeDepth := 120) [hg1, flowS]) (pOf_c m l) (by simp [hg1, flowS]) ?_
      refine RunQ.eval ?_
      simp [hg1, flowS]
      refine hQ _ _ ?_
      clear hQ hA
      repeat (first | refine WK.seq ?_ | refine WK.block ?_ | refine WK.inBlock ?_ | refine WK.skip ?_ | refine WK.label ?_ | refine WK.scope ?_ | refine WK.inScope ?_ | refine WK.exit rfl ?_)
      refine WK.ret Tryz.func3 (by simp (maxDischargeDepth := 120) [Tryz.results3]) (by simp)
    · cases hh
  cases pm : FlowMod.plain m
  · refine FnP.intro Tryz.func3 rfl rfl fun G w => ?_
    repeat (first | refine WK.seq ?_ | refine WK.block ?_ | refine WK.inBlock ?_ | refine WK.skip ?_ | refine WK.label ?_ | refine WK.scope ?_ | refine WK.inScope ?_ | refine WK.exit rfl ?_)
    first | refine WK.reg 100 Tryz.ntmps3 (by kernel_rfl) ?_ | refine WK.regD 100 clsOf (by kernel_rfl) Tryz.ntmps3 (by kernel_rfl) (by kernel_rfl) ?_
    intro A hA Q hQ
    simp
    refine hQ _ _ ?_
    clear hQ hA
    repeat (first | refine WK.seq ?_ | refine WK.block ?_ | refine WK.inBlock ?_ | refine WK.skip ?_ | refine WK.label ?_ | refine WK.scope ?_ | refine WK.inScope ?_ | refine WK.exit rfl ?_)
    first | refine WK.reg 200 Tryz.ntmps3 (by kernel_rfl) ?_ | refine WK.regD 200 clsOf (by kernel_rfl) Tryz.ntmps3 (by kernel_rfl) (by kernel_rfl) ?_
    intro A hA Q hQ
    have hg2 : (A[2]?).bind (·.dst) = some 8 := by rw [hA]; rfl
    have hg7 : (A[7]?).bind (·.dst) = some 13 := by rw [hA]; rfl
    have hg12 : (A[12]?).bind (·.dst) = some 18 := by rw [hA]; rfl
    simp [flowS, hg2, hg7, hg12]
    refine RunQ.call rfl rfl rfl rfl (by rfl) (by simp (maxDischargeDepth := 120) [hg2]) (awake22_c) (by simp [hg2]) ?_
    refine RunQ.eval ?_
    simp [hg2]
    refine RunQ.callG rfl rfl (by simp [pl, hg2, hg7, hg12, flowS]) rfl (by rfl) (by simp (maxDischargeDepth := 120) [pl, hg2, hg7, hg12, flowS]) (pFlows_c l 20 (by omega)) (by simp [pl, hg2, hg7, hg12, flowS]) ?_
    refine RunQ.eval ?_
    simp [pl, hg2, hg7, hg12, flowS]
    refine RunQ.callG rfl rfl (by simp [pm, hg7, hg12]) rfl (by rfl) (by simp (maxDischargeDepth := 120) [pm, hg7, hg12]) (pMod_c m) (by simp [pm, hg7, hg12]) ?_
    refine RunQ.eval ?_
    simp [pm, hg7, hg12]
    refine hQ _ _ ?_
    clear hQ hA
    repeat (first | refine WK.seq ?_ | refine WK.block ?_ | refine WK.inBlock ?_ | refine WK.skip ?_ | refine WK.label ?_ | refine WK.scope ?_ | refine WK.inScope ?_ | refine WK.exit rfl ?_)
    refine WK.cond2 rfl (fun hh => ?_) (fun hh => ?_)
    · repeat (first | refine WK.seq ?_ | refine WK.block ?_ | refine WK.inBlock ?_ | refine WK.skip ?_ | refine WK.label ?_ | refine WK.scope ?_ | refine WK.inScope ?_ | refine WK.exit rfl ?_)
      first | refine WK.reg 300 Tryz.ntmps3 (by kernel_rfl) ?_ | refine WK.regD 300 clsOf (by kernel_rfl) Tryz.ntmps3 (by kernel_rfl) (by kernel_rfl) ?_
      intro A hA Q hQ
      have hg1 : (A[1]?).bind (·.dst) = some 25 := by rw [hA]; rfl
      simp [hg1]
      refine RunQ.call rfl rfl rfl rfl (by rfl) (by simp (maxDischargeDepth := 120) [hg1]) (awake22_c) (by simp [hg1]) ?_
      refine RunQ.eval ?_
      simp [hg1]
      refine RunQ.callG rfl rfl (by simp [hg1, flowS]) rfl (by rfl) (by simp (maxDischargeDepth := 120) [hg1, flowS]) (pOf_c m l) (by simp [hg1, flowS]) ?_
      refine RunQ.eval ?_
      simp [hg1, flowS]
      refine hQ _ _ ?_
      clear hQ hA
      repeat (first | refine WK.seq ?_ | refine WK.block ?_ | refine WK.inBlock ?_ | refine WK.skip ?_ | refine WK.label ?_ | refine WK.scope ?_ | refine WK.inScope ?_ | refine WK.exit rfl ?_)
      refine WK.ret Tryz.func3 (by simp (maxDischargeDepth := 120) [Tryz.results3]) (by simp)
    · cases hh
  obtain ⟨hl, hf⟩ := flowsPlain_ok pl
  have hl3 : l.length ≤ 1000000 := by omega
  have hm : FOk (FlowMod.flow m) := (plain_ok (f := FlowMod.flow m) pm).ok
  have htl : (took m l).length ≤ 1000000 := by rw [took_len]; have := tookN_len m l l.length; omega
  have e1 := eqBy_self (took m l)
  have e2 : (l.any fun _ => false) = false := by simp
  refine FnP.intro Tryz.func3 rfl rfl fun G w => ?_
  repeat (first | refine WK.seq ?_ | refine WK.block ?_ | refine WK.inBlock ?_ | refine WK.skip ?_ | refine WK.label ?_ | refine WK.scope ?_ | refine WK.inScope ?_ | refine WK.exit rfl ?_)
  first | refine WK.reg 100 Tryz.ntmps3 (by kernel_rfl) ?_ | refine WK.regD 100 clsOf (by kernel_rfl) Tryz.ntmps3 (by kernel_rfl) (by kernel_rfl) ?_
  intro A hA Q hQ
  simp
  refine hQ _ _ ?_
  clear hQ hA
  repeat (first | refine WK.seq ?_ | refine WK.block ?_ | refine WK.inBlock ?_ | refine WK.skip ?_ | refine WK.label ?_ | refine WK.scope ?_ | refine WK.inScope ?_ | refine WK.exit rfl ?_)
  first | refine WK.reg 200 Tryz.ntmps3 (by kernel_rfl) ?_ | refine WK.regD 200 clsOf (by kernel_rfl) Tryz.ntmps3 (by kernel_rfl) (by kernel_rfl) ?_
  intro A hA Q hQ
  have hg2 : (A[2]?).bind (·.dst) = some 8 := by rw [hA]; rfl
  have hg7 : (A[7]?).bind (·.dst) = some 13 := by rw [hA]; rfl
  have hg12 : (A[12]?).bind (·.dst) = some 18 := by rw [hA]; rfl
  simp [flowS, hg2, hg7, hg12]
  refine RunQ.call rfl rfl rfl rfl (by rfl) (by simp (maxDischargeDepth := 120) [hg2]) (awake22_c) (by simp [hg2]) ?_
  refine RunQ.eval ?_
  simp [hg2]
  refine RunQ.callG rfl rfl (by simp [pl, hg2, hg7, hg12, flowS]) rfl (by rfl) (by simp (maxDischargeDepth := 120) [pl, hg2, hg7, hg12, flowS]) (pFlows_c l 20 (by omega)) (by simp [pl, hg2, hg7, hg12, flowS]) ?_
  refine RunQ.eval ?_
  simp [pl, hg2, hg7, hg12, flowS]
  refine RunQ.callG rfl rfl (by simp [pm, hg7, hg12]) rfl (by rfl) (by simp (maxDischargeDepth := 120) [pm, hg7, hg12]) (pMod_c m) (by simp [pm, hg7, hg12]) ?_
  refine RunQ.eval ?_
  simp [pm, hg7, hg12]
  refine RunQ.callG rfl rfl (by simp [hg12, flowS]) rfl (by rfl) (by simp (maxDischargeDepth := 120) [hg12, flowS]) (pOf_c m l) (by simp [hg12, flowS]) ?_
  refine RunQ.eval ?_
  simp [hg12, flowS]
  refine hQ _ _ ?_
  clear hQ hA
  repeat (first | refine WK.seq ?_ | refine WK.block ?_ | refine WK.inBlock ?_ | refine WK.skip ?_ | refine WK.label ?_ | refine WK.scope ?_ | refine WK.inScope ?_ | refine WK.exit rfl ?_)
  refine WK.cond2 rfl (fun hh => ?_) (fun hh => ?_)
  · cases hh
  repeat (first | refine WK.seq ?_ | refine WK.block ?_ | refine WK.inBlock ?_ | refine WK.skip ?_ | refine WK.label ?_ | refine WK.scope ?_ | refine WK.inScope ?_ | refine WK.exit rfl ?_)
  first | refine WK.reg 300 Tryz.ntmps3 (by kernel_rfl) ?_ | refine WK.regD 300 clsOf (by kernel_rfl) Tryz.ntmps3 (by kernel_rfl) (by kernel_rfl) ?_
  intro A hA Q hQ
  simp
  refine RunQ.call rfl rfl rfl rfl (by rfl) (by simp (maxDischargeDepth := 120) [flowS]) (rplist_c m l hm hl3 hf) (by simp [flowS]) ?_
  refine RunQ.eval ?_
  simp [flowS]
  refine hQ _ _ ?_
  clear hQ hA
  repeat (first | refine WK.seq ?_ | refine WK.block ?_ | refine WK.inBlock ?_ | refine WK.skip ?_ | refine WK.label ?_ | refine WK.scope ?_ | refine WK.inScope ?_ | refine WK.exit rfl ?_)
  first | refine WK.reg 400 Tryz.ntmps3 (by kernel_rfl) ?_ | refine WK.regD 400 clsOf (by kernel_rfl) Tryz.ntmps3 (by kernel_rfl) (by kernel_rfl) ?_
  intro A hA Q hQ
  have hg6 : (A[6]?).bind (·.dst) = some 40 := by rw [hA]; rfl
  simp [hg6]
  refine RunQ.call rfl rfl rfl rfl (by rfl) (by simp (maxDischargeDepth := 120) [flowS]) (plist_c m l hm hl3 hf) (by simp [flowS]) ?_
  refine RunQ.eval ?_
  simp [flowS]
  refine RunQ.call rfl rfl rfl rfl (by rfl) (by simp (maxDischargeDepth := 120) [e1, hg6]) (iequal_c (took m l) (took m l) htl) (by simp [e1, hg6]) ?_
  refine RunQ.eval ?_
  simp [e1, hg6]
  refine RunQ.callG rfl rfl (by simp [flowS, hg6]) rfl (by rfl) (by simp (maxDischargeDepth := 120) [flowS, hg6]) (pall_c m l hm hl3 hf) (by simp [flowS, hg6]) ?_
  refine RunQ.eval ?_
  simp [flowS, hg6]
  refine RunQ.callG rfl rfl (by simp [e1, hg6]) rfl (by rfl) (by simp (maxDischargeDepth := 120) [e1, hg6]) (iequal_c (took m l) (took m l) htl) (by simp [e1, hg6]) ?_
  refine RunQ.eval ?_
  simp [e1, hg6]
  refine hQ _ _ ?_
  clear hQ hA
  repeat (first | refine WK.seq ?_ | refine WK.block ?_ | refine WK.inBlock ?_ | refine WK.skip ?_ | refine WK.label ?_ | refine WK.scope ?_ | refine WK.inScope ?_ | refine WK.exit rfl ?_)
  refine WK.cond2 rfl (fun hh => ?_) (fun hh => ?_)
  · cases hh
  repeat (first | refine WK.seq ?_ | refine WK.block ?_ | refine WK.inBlock ?_ | refine WK.skip ?_ | refine WK.label ?_ | refine WK.scope ?_ | refine WK.inScope ?_ | refine WK.exit rfl ?_)
  refine WK.ghost (Ghost.frzVar 3 rfl rfl) ?_
  repeat (first | refine WK.seq ?_ | refine WK.block ?_ | refine WK.inBlock ?_ | refine WK.skip ?_ | refine WK.label ?_ | refine WK.scope ?_ | refine WK.inScope ?_ | refine WK.exit rfl ?_)
  first | refine WK.reg 500 Tryz.ntmps3 (by kernel_rfl) ?_ | refine WK.regD 500 clsOf (by kernel_rfl) Tryz.ntmps3 (by kernel_rfl) (by kernel_rfl) ?_
  intro A hA Q hQ
  simp
  refine RunQ.call rfl rfl rfl rfl (by rfl) (by simp (maxDischargeDepth := 120) [flowS, e2]) (containsf_flow 13 [.iptr m.enc] (fun _ => false) l (by simp) hl3 (fun x hx => pickT1_c x m (hf x hx) hm)) (by simp [flowS, e2]) ?_
  refine RunQ.eval ?_
  simp [flowS, e2]
  refine hQ _ _ ?_
  clear hQ hA
  repeat (first | refine WK.seq ?_ | refine WK.block ?_ | refine WK.inBlock ?_ | refine WK.skip ?_ | refine WK.label ?_ | refine WK.scope ?_ | refine WK.inScope ?_ | refine WK.exit rfl ?_)
  refine WK.ret Tryz.func3 (by simp (maxDischargeDepth := 120) [Tryz.results3]) (by simp)
end Go.Proofs.YtfgmjnmkcobhkaaGreat
