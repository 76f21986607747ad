/- Which flows a change takes, by the reference; the law that the program says the same. -/
import Derived.Test.YtbncoeoamjcjjaaGreatW18
set_option linter.all false
set_option linter.unnecessarySimpa false
set_option linter.unusedVariables false
set_option linter.unusedSimpArgs false
namespace Go.Proofs.YtbncoeoamjcjjaaGreat
open Go Go.AI Go.Proofs

set_option maxHeartbeats 4000000 in
theorem rtakes_c (f : Flow) (m : FlowMod) (hf : FPl f) (hm : FOk (FlowMod.flow m)) : FnP Tryz.prog 22 [.agg f.enc, .agg m.enc] (.bool (FlowMod.takes m f)) := by
  have ec : cubeWithin (Flow.cube f) (Flow.cube (FlowMod.flow m)) = cubeWithin (Flow.cube f) (Flow.cube (FlowMod.flow m)) := rfl
  refine FnP.intro Tryz.func22 rfl rfl fun G w => ?_
  repeat (first | refine WK.seq ?_ | refine WK.block ?_ | refine WK.inBlock ?_ | refine WK.skip ?_ | refine WK.label ?_ | refine WK.scope ?_ | refine WK.inScope ?_ | refine WK.exit rfl ?_)
  first | refine WK.reg 100 Tryz.ntmps22 (by kernel_rfl) ?_ | refine WK.regD 100 clsOf (by kernel_rfl) Tryz.ntmps22 (by kernel_rfl) (by kernel_rfl) ?_
  intro A hA Q hQ
  simp
  refine hQ _ _ ?_
  clear hQ hA
  repeat (first | refine WK.seq ?_ | refine WK.block ?_ | refine WK.inBlock ?_ | refine WK.skip ?_ | refine WK.label ?_ | refine WK.scope ?_ | refine WK.inScope ?_ | refine WK.exit rfl ?_)
  first | refine WK.reg 200 Tryz.ntmps22 (by kernel_rfl) ?_ | refine WK.regD 200 clsOf (by kernel_rfl) Tryz.ntmps22 (by kernel_rfl) (by kernel_rfl) ?_
  intro A hA Q hQ
  simp
  refine RunQ.call rfl rfl rfl rfl (by rfl) (by simp (maxDischargeDepth := 120)) (rof2_c m) (by simp) ?_
  refine RunQ.eval ?_
  simp
  refine hQ _ _ ?_
  clear hQ hA
  repeat (first | refine WK.seq ?_ | refine WK.block ?_ | refine WK.inBlock ?_ | refine WK.skip ?_ | refine WK.label ?_ | refine WK.scope ?_ | refine WK.inScope ?_ | refine WK.exit rfl ?_)
  first | refine WK.reg 300 Tryz.ntmps22 (by kernel_rfl) ?_ | refine WK.regD 300 clsOf (by kernel_rfl) Tryz.ntmps22 (by kernel_rfl) (by kernel_rfl) ?_
  intro A hA Q hQ
  simp [FlowMod.enc]
  refine RunQ.call rfl rfl rfl rfl (by rfl) (by simp (maxDischargeDepth := 120)) (rcookie_c f m.cookie m.cookieMask) (by simp) ?_
  refine RunQ.eval ?_
  simp
  refine hQ _ _ ?_
  clear hQ hA
  repeat (first | refine WK.seq ?_ | refine WK.block ?_ | refine WK.inBlock ?_ | refine WK.skip ?_ | refine WK.label ?_ | refine WK.scope ?_ | refine WK.inScope ?_ | refine WK.exit rfl ?_)
  first | refine WK.reg 400 Tryz.ntmps22 (by kernel_rfl) ?_ | refine WK.regD 400 clsOf (by kernel_rfl) Tryz.ntmps22 (by kernel_rfl) (by kernel_rfl) ?_
  intro A hA Q hQ
  simp [FlowMod.enc]
  refine hQ _ _ ?_
  clear hQ hA
  repeat (first | refine WK.seq ?_ | refine WK.block ?_ | refine WK.inBlock ?_ | refine WK.skip ?_ | refine WK.label ?_ | refine WK.scope ?_ | refine WK.inScope ?_ | refine WK.exit rfl ?_)
  first | refine WK.reg 500 Tryz.ntmps22 (by kernel_rfl) ?_ | refine WK.regD 500 clsOf (by kernel_rfl) Tryz.ntmps22 (by kernel_rfl) (by kernel_rfl) ?_
  intro A hA Q hQ
  simp
  refine hQ _ _ ?_
  clear hQ hA
  repeat (first | refine WK.seq ?_ | refine WK.block ?_ | refine WK.inBlock ?_ | refine WK.skip ?_ | refine WK.label ?_ | refine WK.scope ?_ | refine WK.inScope ?_ | refine WK.exit rfl ?_)
  refine WK.cond2 rfl (fun h0 => ?_) (fun h0 => ?_)
  · repeat (first | refine WK.seq ?_ | refine WK.block ?_ | refine WK.inBlock ?_ | refine WK.skip ?_ | refine WK.label ?_ | refine WK.scope ?_ | refine WK.inScope ?_ | refine WK.exit rfl ?_)
    first | refine WK.reg 600 Tryz.ntmps22 (by kernel_rfl) ?_ | refine WK.regD 600 clsOf (by kernel_rfl) Tryz.ntmps22 (by kernel_rfl) (by kernel_rfl) ?_
    intro A hA Q hQ
    simp
    refine RunQ.call rfl rfl rfl rfl (by rfl) (by simp (maxDischargeDepth := 120)) (ralike_c f (FlowMod.flow m) hf.ok hm) (by simp) ?_
    refine RunQ.eval ?_
    simp
    refine hQ _ _ ?_
    clear hQ hA
    repeat (first | refine WK.seq ?_ | refine WK.block ?_ | refine WK.inBlock ?_ | refine WK.skip ?_ | refine WK.label ?_ | refine WK.scope ?_ | refine WK.inScope ?_ | refine WK.exit rfl ?_)
    refine WK.ret Tryz.func22 (by simp (maxDischargeDepth := 120) [Tryz.results22, FlowMod.takes, h0]) (by simp [FlowMod.takes, h0])
  repeat (first | refine WK.seq ?_ | refine WK.block ?_ | refine WK.inBlock ?_ | refine WK.skip ?_ | refine WK.label ?_ | refine WK.scope ?_ | refine WK.inScope ?_ | refine WK.exit rfl ?_)
  first | refine WK.reg 700 Tryz.ntmps22 (by kernel_rfl) ?_ | refine WK.regD 700 clsOf (by kernel_rfl) Tryz.ntmps22 (by kernel_rfl) (by kernel_rfl) ?_
  intro A hA Q hQ
  simp
  refine hQ _ _ ?_
  clear hQ hA
  repeat (first | refine WK.seq ?_ | refine WK.block ?_ | refine WK.inBlock ?_ | refine WK.skip ?_ | refine WK.label ?_ | refine WK.scope ?_ | refine WK.inScope ?_ | refine WK.exit rfl ?_)
  refine WK.cond2 rfl (fun h1 => ?_) (fun h1 => ?_)
  · cases k : cubeWithin (Flow.cube f) (Flow.cube (FlowMod.flow m))
    all_goals
      repeat (first | refine WK.seq ?_ | refine WK.block ?_ | refine WK.inBlock ?_ | refine WK.skip ?_ | refine WK.label ?_ | refine WK.scope ?_ | refine WK.inScope ?_ | refine WK.exit rfl ?_)
      first | refine WK.reg 800 Tryz.ntmps22 (by kernel_rfl) ?_ | refine WK.regD 800 clsOf (by kernel_rfl) Tryz.ntmps22 (by kernel_rfl) (by kernel_rfl) ?_
      intro A hA Q hQ
      have hg4 : (A[4]?).bind (·.dst) = some 28 := by rw [hA]; rfl
      simp [hg4]
      refine RunQ.call rfl rfl rfl rfl (by rfl) (by simp (maxDischargeDepth := 120)) (rfcube_c (FlowMod.flow m) hm.mat) (by simp) ?_
      refine RunQ.eval ?_
      simp
      refine RunQ.call rfl rfl rfl rfl (by rfl) (by simp (maxDischargeDepth := 120) [k, hg4]) (rcovers_c (Flow.cube (FlowMod.flow m)) f hf.ok) (by simp [k, hg4]) ?_
      refine RunQ.eval ?_
      simp [k, hg4]
      refine hQ _ _ ?_
      clear hQ hA
      repeat (first | refine WK.seq ?_ | refine WK.block ?_ | refine WK.inBlock ?_ | refine WK.skip ?_ | refine WK.label ?_ | refine WK.scope ?_ | refine WK.inScope ?_ | refine WK.exit rfl ?_)
      refine WK.ret Tryz.func22 (by simp (maxDischargeDepth := 120) [Tryz.results22, FlowMod.takes, h0, h1, k]) (by simp [FlowMod.takes, h0, h1, k])
  repeat (first | refine WK.seq ?_ | refine WK.block ?_ | refine WK.inBlock ?_ | refine WK.skip ?_ | refine WK.label ?_ | refine WK.scope ?_ | refine WK.inScope ?_ | refine WK.exit rfl ?_)
  first | refine WK.reg 900 Tryz.ntmps22 (by kernel_rfl) ?_ | refine WK.regD 900 clsOf (by kernel_rfl) Tryz.ntmps22 (by kernel_rfl) (by kernel_rfl) ?_
  intro A hA Q hQ
  simp
  refine hQ _ _ ?_
  clear hQ hA
  repeat (first | refine WK.seq ?_ | refine WK.block ?_ | refine WK.inBlock ?_ | refine WK.skip ?_ | refine WK.label ?_ | refine WK.scope ?_ | refine WK.inScope ?_ | refine WK.exit rfl ?_)
  refine WK.cond2 rfl (fun h2 => ?_) (fun h2 => ?_)
  · cases k : Flow.alike f (FlowMod.flow m)
    all_goals
      repeat (first | refine WK.seq ?_ | refine WK.block ?_ | refine WK.inBlock ?_ | refine WK.skip ?_ | refine WK.label ?_ | refine WK.scope ?_ | refine WK.inScope ?_ | refine WK.exit rfl ?_)
      first | refine WK.reg 1000 Tryz.ntmps22 (by kernel_rfl) ?_ | refine WK.regD 1000 clsOf (by kernel_rfl) Tryz.ntmps22 (by kernel_rfl) (by kernel_rfl) ?_
      intro A hA Q hQ
      have hg3 : (A[3]?).bind (·.dst) = some 36 := by rw [hA]; rfl
      simp [hg3]
      refine RunQ.call rfl rfl rfl rfl (by rfl) (by simp (maxDischargeDepth := 120) [k, hg3]) (ralike_c f (FlowMod.flow m) hf.ok hm) (by simp [k, hg3]) ?_
      refine RunQ.eval ?_
      simp [k, hg3]
      refine hQ _ _ ?_
      clear hQ hA
      repeat (first | refine WK.seq ?_ | refine WK.block ?_ | refine WK.inBlock ?_ | refine WK.skip ?_ | refine WK.label ?_ | refine WK.scope ?_ | refine WK.inScope ?_ | refine WK.exit rfl ?_)
      refine WK.ret Tryz.func22 (by simp (maxDischargeDepth := 120) [Tryz.results22, FlowMod.takes, h0, h1, h2, k]) (by simp [FlowMod.takes, h0, h1, h2, k])
  repeat (first | refine WK.seq ?_ | refine WK.block ?_ | refine WK.inBlock ?_ | refine WK.skip ?_ | refine WK.label ?_ | refine WK.scope ?_ | refine WK.inScope ?_ | refine WK.exit rfl ?_)
  first | refine WK.reg 1100 Tryz.ntmps22 (by kernel_rfl) ?_ | refine WK.regD 1100 clsOf (by kernel_rfl) Tryz.ntmps22 (by kernel_rfl) (by kernel_rfl) ?_
  intro A hA Q hQ
  simp
  refine hQ _ _ ?_
  clear hQ hA
  repeat (first | refine WK.seq ?_ | refine WK.block ?_ | refine WK.inBlock ?_ | refine WK.skip ?_ | refine WK.label ?_ | refine WK.scope ?_ | refine WK.inScope ?_ | refine WK.exit rfl ?_)
  refine WK.cond2 rfl (fun h3 => ?_) (fun h3 => ?_)
  · cases k : cubeWithin (Flow.cube f) (Flow.cube (FlowMod.flow m))
    · repeat (first | refine WK.seq ?_ | refine WK.block ?_ | refine WK.inBlock ?_ | refine WK.skip ?_ | refine WK.label ?_ | refine WK.scope ?_ | refine WK.inScope ?_ | refine WK.exit rfl ?_)
      first | refine WK.reg 1200 Tryz.ntmps22 (by kernel_rfl) ?_ | refine WK.regD 1200 clsOf (by kernel_rfl) Tryz.ntmps22 (by kernel_rfl) (by kernel_rfl) ?_
      intro A hA Q hQ
      have hg4 : (A[4]?).bind (·.dst) = some 45 := by rw [hA]; rfl
      have hg7 : (A[7]?).bind (·.dst) = some 48 := by rw [hA]; rfl
      simp [hg4, hg7]
      refine RunQ.call rfl rfl rfl rfl (by rfl) (by simp (maxDischargeDepth := 120)) (rfcube_c (FlowMod.flow m) hm.mat) (by simp) ?_
      refine RunQ.eval ?_
      simp
      refine RunQ.call rfl rfl rfl rfl (by rfl) (by simp (maxDischargeDepth := 120) [k, hg4, hg7]) (rcovers_c (Flow.cube (FlowMod.flow m)) f hf.ok) (by simp [k, hg4, hg7]) ?_
      refine RunQ.eval ?_
      simp [k, hg4, hg7]
      refine hQ _ _ ?_
      clear hQ hA
      repeat (first | refine WK.seq ?_ | refine WK.block ?_ | refine WK.inBlock ?_ | refine WK.skip ?_ | refine WK.label ?_ | refine WK.scope ?_ | refine WK.inScope ?_ | refine WK.exit rfl ?_)
      refine WK.ret Tryz.func22 (by simp (maxDischargeDepth := 120) [Tryz.results22, FlowMod.takes, h0, h1, h2, h3, k]) (by simp [FlowMod.takes, h0, h1, h2, h3, k])
    cases k2 : cookieOk f m.cookie m.cookieMask
    · repeat (first | refine WK.seq ?_ | refine WK.block ?_ | refine WK.inBlock ?_ | refine WK.skip ?_ | refine WK.label ?_ | refine WK.scope ?_ | refine WK.inScope ?_ | refine WK.exit rfl ?_)
      first | refine WK.reg 1300 Tryz.ntmps22 (by kernel_rfl) ?_ | refine WK.regD 1300 clsOf (by kernel_rfl) Tryz.ntmps22 (by kernel_rfl) (by kernel_rfl) ?_
      intro A hA Q hQ
      have hg4 : (A[4]?).bind (·.dst) = some 45 := by rw [hA]; rfl
      have hg7 : (A[7]?).bind (·.dst) = some 48 := by rw [hA]; rfl
      simp [hg4, hg7]
      refine RunQ.call rfl rfl rfl rfl (by rfl) (by simp (maxDischargeDepth := 120)) (rfcube_c (FlowMod.flow m) hm.mat) (by simp) ?_
      refine RunQ.eval ?_
      simp
      refine RunQ.call rfl rfl rfl rfl (by rfl) (by simp (maxDischargeDepth := 120) [k, k2, hg4, hg7]) (rcovers_c (Flow.cube (FlowMod.flow m)) f hf.ok) (by simp [k, k2, hg4, hg7]) ?_
      refine RunQ.eval ?_
      simp [k, k2, hg4, hg7]
      refine hQ _ _ ?_
      clear hQ hA
      repeat (first | refine WK.seq ?_ | refine WK.block ?_ | refine WK.inBlock ?_ | refine WK.skip ?_ | refine WK.label ?_ | refine WK.scope ?_ | refine WK.inScope ?_ | refine WK.exit rfl ?_)
      refine WK.ret Tryz.func22 (by simp (maxDischargeDepth := 120) [Tryz.results22, FlowMod.takes, h0, h1, h2, h3, k, k2]) (by simp [FlowMod.takes, h0, h1, h2, h3, k, k2])
    · repeat (first | refine WK.seq ?_ | refine WK.block ?_ | refine WK.inBlock ?_ | refine WK.skip ?_ | refine WK.label ?_ | refine WK.scope ?_ | refine WK.inScope ?_ | refine WK.exit rfl ?_)
      first | refine WK.reg 1400 Tryz.ntmps22 (by kernel_rfl) ?_ | refine WK.regD 1400 clsOf (by kernel_rfl) Tryz.ntmps22 (by kernel_rfl) (by kernel_rfl) ?_
      intro A hA Q hQ
      have hg4 : (A[4]?).bind (·.dst) = some 45 := by rw [hA]; rfl
      have hg7 : (A[7]?).bind (·.dst) = some 48 := by rw [hA]; rfl
      simp [hg4, hg7]
      refine RunQ.call rfl rfl rfl rfl (by rfl) (by simp (maxDischargeDepth := 120)) (rfcube_c (FlowMod.flow m) hm.mat) (by simp) ?_
      refine RunQ.eval ?_
      simp
      refine RunQ.call rfl rfl rfl rfl (by rfl) (by simp (maxDischargeDepth := 120) [k, k2, hg4, hg7, FlowMod.enc]) (rcovers_c (Flow.cube (FlowMod.flow m)) f hf.ok) (by simp [k, k2, hg4, hg7, FlowMod.enc]) ?_
      refine RunQ.eval ?_
      simp [k, k2, hg4, hg7, FlowMod.enc]
      refine RunQ.callG rfl rfl (by simp [hg7]) rfl (by rfl) (by simp (maxDischargeDepth := 120) [hg7]) (rout_c f m.outPort m.outGroup hf) (by simp [hg7]) ?_
      refine RunQ.eval ?_
      simp [hg7]
      refine hQ _ _ ?_
      clear hQ hA
      repeat (first | refine WK.seq ?_ | refine WK.block ?_ | refine WK.inBlock ?_ | refine WK.skip ?_ | refine WK.label ?_ | refine WK.scope ?_ | refine WK.inScope ?_ | refine WK.exit rfl ?_)
      refine WK.ret Tryz.func22 (by simp (maxDischargeDepth := 120) [Tryz.results22, FlowMod.takes, h0, h1, h2, h3, k, k2]) (by simp [FlowMod.takes, h0, h1, h2, h3, k, k2])
  repeat (first | refine WK.seq ?_ | refine WK.block ?_ | refine WK.inBlock ?_ | refine WK.skip ?_ | refine WK.label ?_ | refine WK.scope ?_ | refine WK.inScope ?_ | refine WK.exit rfl ?_)
  first | refine WK.reg 1500 Tryz.ntmps22 (by kernel_rfl) ?_ | refine WK.regD 1500 clsOf (by kernel_rfl) Tryz.ntmps22 (by kernel_rfl) (by kernel_rfl) ?_
  intro A hA Q hQ
  simp
  refine hQ _ _ ?_
  clear hQ hA
  repeat (first | refine WK.seq ?_ | refine WK.block ?_ | refine WK.inBlock ?_ | refine WK.skip ?_ | refine WK.label ?_ | refine WK.scope ?_ | refine WK.inScope ?_ | refine WK.exit rfl ?_)
  refine WK.cond2 rfl (fun h4 => ?_) (fun h4 => ?_)
  · cases k : Flow.alike f (FlowMod.flow m)
    · repeat (first | refine WK.seq ?_ | refine WK.block ?_ | refine WK.inBlock ?_ | refine WK.skip ?_ | refine WK.label ?_ | refine WK.scope ?_ | refine WK.inScope ?_ | refine WK.exit rfl ?_)
      first | refine WK.reg 1600 Tryz.ntmps22 (by kernel_rfl) ?_ | refine WK.regD 1600 clsOf (by kernel_rfl) Tryz.ntmps22 (by kernel_rfl) (by kernel_rfl) ?_
      intro A hA Q hQ
      have hg3 : (A[3]?).bind (·.dst) = some 61 := by rw [hA]; rfl
      have hg6 : (A[6]?).bind (·.dst) = some 64 := by rw [hA]; rfl
      simp [hg3, hg6]
      refine RunQ.call rfl rfl rfl rfl (by rfl) (by simp (maxDischargeDepth := 120) [k, hg3, hg6]) (ralike_c f (FlowMod.flow m) hf.ok hm) (by simp [k, hg3, hg6]) ?_
      refine RunQ.eval ?_
      simp [k, hg3, hg6]
      refine hQ _ _ ?_
      clear hQ hA
      repeat (first | refine WK.seq ?_ | refine WK.block ?_ | refine WK.inBlock ?_ | refine WK.skip ?_ | refine WK.label ?_ | refine WK.scope ?_ | refine WK.inScope ?_ | refine WK.exit rfl ?_)
      refine WK.ret Tryz.func22 (by simp (maxDischargeDepth := 120) [Tryz.results22, FlowMod.takes, h0, h1, h2, h3, h4, k]) (by simp [FlowMod.takes, h0, h1, h2, h3, h4, k])
    cases k2 : cookieOk f m.cookie m.cookieMask
    · repeat (first | refine WK.seq ?_ | refine WK.block ?_ | refine WK.inBlock ?_ | refine WK.skip ?_ | refine WK.label ?_ | refine WK.scope ?_ | refine WK.inScope ?_ | refine WK.exit rfl ?_)
      first | refine WK.reg 1700 Tryz.ntmps22 (by kernel_rfl) ?_ | refine WK.regD 1700 clsOf (by kernel_rfl) Tryz.ntmps22 (by kernel_rfl) (by kernel_rfl) ?_
      intro A hA Q hQ
      have hg3 : (A[3]?).bind (·.dst) = some 61 := by rw [hA]; rfl
      have hg6 : (A[6]?).bind (·.dst) = some 64 := by rw [hA]; rfl
      simp [hg3, hg6]
      refine RunQ.call rfl rfl rfl rfl (by rfl) (by simp (maxDischargeDepth := 120) [k, k2, hg3, hg6]) (ralike_c f (FlowMod.flow m) hf.ok hm) (by simp [k, k2, hg3, hg6]) ?_
      refine RunQ.eval ?_
      simp [k, k2, hg3, hg6]
      refine hQ _ _ ?_
      clear hQ hA
      repeat (first | refine WK.seq ?_ | refine WK.block ?_ | refine WK.inBlock ?_ | refine WK.skip ?_ | refine WK.label ?_ | refine WK.scope ?_ | refine WK.inScope ?_ | refine WK.exit rfl ?_)
      refine WK.ret Tryz.func22 (by simp (maxDischargeDepth := 120) [Tryz.results22, FlowMod.takes, h0, h1, h2, h3, h4, k, k2]) (by simp [FlowMod.takes, h0, h1, h2, h3, h4, k, k2])
    · repeat (first | refine WK.seq ?_ | refine WK.block ?_ | refine WK.inBlock ?_ | refine WK.skip ?_ | refine WK.label ?_ | refine WK.scope ?_ | refine WK.inScope ?_ | refine WK.exit rfl ?_)
      first | refine WK.reg 1800 Tryz.ntmps22 (by kernel_rfl) ?_ | refine WK.regD 1800 clsOf (by kernel_rfl) Tryz.ntmps22 (by kernel_rfl) (by kernel_rfl) ?_
      intro A hA Q hQ
      have hg3 : (A[3]?).bind (·.dst) = some 61 := by rw [hA]; rfl
      have hg6 : (A[6]?).bind (·.dst) = some 64 := by rw [hA]; rfl
      simp [hg3, hg6]
      refine RunQ.call rfl rfl rfl rfl (by rfl) (by simp (maxDischargeDepth := 120) [k, k2, hg3, hg6, FlowMod.enc]) (ralike_c f (FlowMod.flow m) hf.ok hm) (by simp [k, k2, hg3, hg6, FlowMod.enc]) ?_
      refine RunQ.eval ?_
      simp [k, k2, hg3, hg6, FlowMod.enc]
      refine RunQ.callG rfl rfl (by simp [hg6]) rfl (by rfl) (by simp (maxDischargeDepth := 120) [hg6]) (rout_c f m.outPort m.outGroup hf) (by simp [hg6]) ?_
      refine RunQ.eval ?_
      simp [hg6]
      refine hQ _ _ ?_
      clear hQ hA
      repeat (first | refine WK.seq ?_ | refine WK.block ?_ | refine WK.inBlock ?_ | refine WK.skip ?_ | refine WK.label ?_ | refine WK.scope ?_ | refine WK.inScope ?_ | refine WK.exit rfl ?_)
      refine WK.ret Tryz.func22 (by simp (maxDischargeDepth := 120) [Tryz.results22, FlowMod.takes, h0, h1, h2, h3, h4, k, k2]) (by simp [FlowMod.takes, h0, h1, h2, h3, h4, k, k2])
  repeat (first | refine WK.seq ?_ | refine WK.block ?_ | refine WK.inBlock ?_ | refine WK.skip ?_ | refine WK.label ?_ | refine WK.scope ?_ | refine WK.inScope ?_ | refine WK.exit rfl ?_)
  first | refine WK.reg 1900 Tryz.ntmps22 (by kernel_rfl) ?_ | refine WK.regD 1900 clsOf (by kernel_rfl) Tryz.ntmps22 (by kernel_rfl) (by kernel_rfl) ?_
  intro A hA Q hQ
  simp
  refine hQ _ _ ?_
  clear hQ hA
  repeat (first | refine WK.seq ?_ | refine WK.block ?_ | refine WK.inBlock ?_ | refine WK.skip ?_ | refine WK.label ?_ | refine WK.scope ?_ | refine WK.inScope ?_ | refine WK.exit rfl ?_)
  refine WK.ret Tryz.func22 (by simp (maxDischargeDepth := 120) [Tryz.results22, FlowMod.takes, h0, h1, h2, h3, h4]) (by simp [FlowMod.takes, h0, h1, h2, h3, h4])
theorem tookN_ints (m : FlowMod) (l : List Flow) (i : Nat) : (intL ((tookN m l (i + 1)).map fun j : Nat => (j : Int))) =
    if FlowMod.takes m (nth l i) then intL ((tookN m l i).map fun j : Nat => (j : Int)) ++ [.int .i64 i] else intL ((tookN m l i).map fun j : Nat => (j : Int)) := by
  rw [tookN_succ]; split <;> simp [intL]
theorem intL_nil' : intL [] = [] := rfl
theorem rplist_c (m : FlowMod) (l : List Flow) (hm : FOk (FlowMod.flow m)) (hl : l.length ≤ 1000000) (hf : ∀ f, f ∈ l → FPl f) :
    FnP Tryz.prog 23 [flowS l, .agg m.enc] (intS (took m l)) := by
  unfold flowS
  refine FnP.intro Tryz.func23 rfl rfl fun G w => ?_
  repeat (first | refine WK.seq ?_ | refine WK.block ?_ | refine WK.inBlock ?_ | refine WK.skip ?_ | refine WK.label ?_ | refine WK.scope ?_ | refine WK.inScope ?_ | refine WK.exit rfl ?_)
  first | refine WK.reg 100 Tryz.ntmps23 (by kernel_rfl) ?_ | refine WK.regD 100 clsOf (by kernel_rfl) Tryz.ntmps23 (by kernel_rfl) (by kernel_rfl) ?_
  intro A hA Q hQ
  simp
  refine hQ _ _ ?_
  clear hQ hA
  repeat (first | refine WK.seq ?_ | refine WK.block ?_ | refine WK.inBlock ?_ | refine WK.skip ?_ | refine WK.label ?_ | refine WK.scope ?_ | refine WK.inScope ?_ | refine WK.exit rfl ?_)
  first | refine WK.reg 200 Tryz.ntmps23 (by kernel_rfl) ?_ | refine WK.regD 200 clsOf (by kernel_rfl) Tryz.ntmps23 (by kernel_rfl) (by kernel_rfl) ?_
  intro A hA Q hQ
  simp
  refine hQ _ _ ?_
  clear hQ hA
  repeat (first | refine WK.seq ?_ | refine WK.block ?_ | refine WK.inBlock ?_ | refine WK.skip ?_ | refine WK.label ?_ | refine WK.scope ?_ | refine WK.inScope ?_ | refine WK.exit rfl ?_)
  refine WK.ghost (Ghost.own 5 900 1 rfl rfl) ?_
  repeat (first | refine WK.seq ?_ | refine WK.block ?_ | refine WK.inBlock ?_ | refine WK.skip ?_ | refine WK.label ?_ | refine WK.scope ?_ | refine WK.inScope ?_ | refine WK.exit rfl ?_)
  first | refine WK.reg 300 Tryz.ntmps23 (by kernel_rfl) ?_ | refine WK.regD 300 clsOf (by kernel_rfl) Tryz.ntmps23 (by kernel_rfl) (by kernel_rfl) ?_
  intro A hA Q hQ
  simp
  refine hQ _ _ ?_
  clear hQ hA
  repeat (first | refine WK.seq ?_ | refine WK.block ?_ | refine WK.inBlock ?_ | refine WK.skip ?_ | refine WK.label ?_ | refine WK.scope ?_ | refine WK.inScope ?_ | refine WK.exit rfl ?_)
  refine WK.loopI (fun n => if n = 1 then 900 else n) (fun i : Nat => (⟨(upd (upd (upd (upd J 0 (.sl false l.length (flowL l))) 3 (.ptr 0 0)) 5 (.msl 1 0 (tookN m l i).length)) 6 (.int .i64 i)), (upd (upd B0 0 (.var m.enc)) 1 (.buf 1 (intL ((tookN m l i).map fun j : Nat => (j : Int))))), 0⟩ : St)) (fun i => i ≤ l.length) (fun i => l.length - i) (0) (by repeat (first | exact TmW.nil | refine TmW.upd ?_ (by simp (maxDischargeDepth := 120) [tookN, intL_nil']))) (by repeat (first | exact BxW.nil | refine BxW.upd ?_ (by simp (maxDischargeDepth := 120) [tookN, intL_nil']))) (by first | exact InjW.id | exact InjW.nil | exact InjW.one | exact InjW.two (by simp) | exact InjW.three (by simp) (by simp) (by simp)) (by omega) (fun i hi IH => ?_)
  repeat (first | refine WK.seq ?_ | refine WK.block ?_ | refine WK.inBlock ?_ | refine WK.skip ?_ | refine WK.label ?_ | refine WK.scope ?_ | refine WK.inScope ?_ | refine WK.exit rfl ?_)
  first | refine WK.reg 400 Tryz.ntmps23 (by kernel_rfl) ?_ | refine WK.regD 400 clsOf (by kernel_rfl) Tryz.ntmps23 (by kernel_rfl) (by kernel_rfl) ?_
  intro A hA Q hQ
  simp
  refine hQ _ _ ?_
  clear hQ hA
  repeat (first | refine WK.seq ?_ | refine WK.block ?_ | refine WK.inBlock ?_ | refine WK.skip ?_ | refine WK.label ?_ | refine WK.scope ?_ | refine WK.inScope ?_ | refine WK.exit rfl ?_)
  refine WK.cond2 rfl (fun h1 => ?_) (fun h1 => ?_)
  · simp at h1
    have h2 : i < l.length := by omega
    have h3 : 7 ≤ l.length * 7 - i * 7 := by omega
    have h4 := flow_sub l i h2
    have h6 : IntKind.i64.wrap ((i : Int) + 1) = i + 1 := wrap_i64 (by omega) (by omega)
    have hlen := tookN_len m l i
    have hb : ((tookN m l i).length + 1) * 8 ≤ 140737488355328 := by omega
    have hs := tookN_ints m l i
    have hs2 := tookN_succ m l i
    repeat (first | refine WK.seq ?_ | refine WK.block ?_ | refine WK.inBlock ?_ | refine WK.skip ?_ | refine WK.label ?_ | refine WK.scope ?_ | refine WK.inScope ?_ | refine WK.exit rfl ?_)
    first | refine WK.reg 500 Tryz.ntmps23 (by kernel_rfl) ?_ | refine WK.regD 500 clsOf (by kernel_rfl) Tryz.ntmps23 (by kernel_rfl) (by kernel_rfl) ?_
    intro A hA Q hQ
    simp [h2, h3, h4]
    refine RunQ.call rfl rfl rfl rfl (by rfl) (by simp (maxDischargeDepth := 120)) (rtakes_c (nth l i) m (hf _ (nth_mem h2)) hm) (by simp) ?_
    refine RunQ.eval ?_
    simp
    refine hQ _ _ ?_
    clear hQ hA
    repeat (first | refine WK.seq ?_ | refine WK.block ?_ | refine WK.inBlock ?_ | refine WK.skip ?_ | refine WK.label ?_ | refine WK.scope ?_ | refine WK.inScope ?_ | refine WK.exit rfl ?_)
    refine WK.cond2 rfl (fun h5 => ?_) (fun h5 => ?_)
    · rw [h5] at hs hs2
      simp only [if_true] at hs hs2
      repeat (first | refine WK.seq ?_ | refine WK.block ?_ | refine WK.inBlock ?_ | refine WK.skip ?_ | refine WK.label ?_ | refine WK.scope ?_ | refine WK.inScope ?_ | refine WK.exit rfl ?_)
      first | refine WK.reg 600 Tryz.ntmps23 (by kernel_rfl) ?_ | refine WK.regD 600 clsOf (by kernel_rfl) Tryz.ntmps23 (by kernel_rfl) (by kernel_rfl) ?_
      intro A hA Q hQ
      simp
      refine RunQ.append 901 appInt rfl rfl rfl rfl rfl rfl rfl (by simp [hb]) rfl (by simp [hb]) (by simp [hb]) (by simp [hb]) (by simp [hb]) ?_
      refine RunQ.eval ?_
      simp [hb]
      refine hQ _ _ ?_
      clear hQ hA
      repeat (first | refine WK.seq ?_ | refine WK.block ?_ | refine WK.inBlock ?_ | refine WK.skip ?_ | refine WK.label ?_ | refine WK.scope ?_ | refine WK.inScope ?_ | refine WK.exit rfl ?_)
      first | refine WK.reg 700 Tryz.ntmps23 (by kernel_rfl) ?_ | refine WK.regD 700 clsOf (by kernel_rfl) Tryz.ntmps23 (by kernel_rfl) (by kernel_rfl) ?_
      intro A hA Q hQ
      simp [h6]
      refine hQ _ _ ?_
      clear hQ hA
      repeat (first | refine WK.seq ?_ | refine WK.block ?_ | refine WK.inBlock ?_ | refine WK.skip ?_ | refine WK.label ?_ | refine WK.scope ?_ | refine WK.inScope ?_ | refine WK.exit rfl ?_)
      refine WK.next (fun n => if n = 1 then 901 else n) (IH (i + 1) (by omega) (by first | omega | (dsimp only; omega))) (by repeat (first | exact TmW.nil | refine TmW.upd ?_ (by simp (maxDischargeDepth := 120) [hs, hs2, h6, intL_app, intL_one]))) (by repeat (first | exact BxW.nil | refine BxW.upd ?_ (by simp (maxDischargeDepth := 120) [hs, hs2, h6, intL_app, intL_one]))) (by first | exact InjW.id | exact InjW.nil | exact InjW.one | exact InjW.two (by simp) | exact InjW.three (by simp) (by simp) (by simp))
    · rw [h5] at hs hs2
      simp only [Bool.false_eq_true, if_false] at hs hs2
      repeat (first | refine WK.seq ?_ | refine WK.block ?_ | refine WK.inBlock ?_ | refine WK.skip ?_ | refine WK.label ?_ | refine WK.scope ?_ | refine WK.inScope ?_ | refine WK.exit rfl ?_)
      first | refine WK.reg 800 Tryz.ntmps23 (by kernel_rfl) ?_ | refine WK.regD 800 clsOf (by kernel_rfl) Tryz.ntmps23 (by kernel_rfl) (by kernel_rfl) ?_
      intro A hA Q hQ
      simp [h6]
      refine hQ _ _ ?_
      clear hQ hA
      repeat (first | refine WK.seq ?_ | refine WK.block ?_ | refine WK.inBlock ?_ | refine WK.skip ?_ | refine WK.label ?_ | refine WK.scope ?_ | refine WK.inScope ?_ | refine WK.exit rfl ?_)
      refine WK.next (fun n => n) (IH (i + 1) (by omega) (by first | omega | (dsimp only; omega))) (by repeat (first | exact TmW.nil | refine TmW.upd ?_ (by simp (maxDischargeDepth := 120) [hs, hs2, h6]))) (by repeat (first | exact BxW.nil | refine BxW.upd ?_ (by simp (maxDischargeDepth := 120) [hs, hs2, h6]))) (by first | exact InjW.id | exact InjW.nil | exact InjW.one | exact InjW.two (by simp) | exact InjW.three (by simp) (by simp) (by simp))
  · simp at h1
    have e : i = l.length := by omega
    subst e
    have e2 := took_len m l
    repeat (first | refine WK.seq ?_ | refine WK.block ?_ | refine WK.inBlock ?_ | refine WK.skip ?_ | refine WK.label ?_ | refine WK.scope ?_ | refine WK.inScope ?_ | refine WK.exit rfl ?_)
    first | refine WK.reg 900 Tryz.ntmps23 (by kernel_rfl) ?_ | refine WK.regD 900 clsOf (by kernel_rfl) Tryz.ntmps23 (by kernel_rfl) (by kernel_rfl) ?_
    intro A hA Q hQ
    simp
    refine hQ _ _ ?_
    clear hQ hA
    have hT : (intL ((tookN m l l.length).map fun j : Nat => (j : Int))).take (tookN m l l.length).length = intL ((tookN m l l.length).map fun j : Nat => (j : Int)) := List.take_of_length_le (by simp [intL])
    repeat (first | refine WK.seq ?_ | refine WK.block ?_ | refine WK.inBlock ?_ | refine WK.skip ?_ | refine WK.label ?_ | refine WK.scope ?_ | refine WK.inScope ?_ | refine WK.exit rfl ?_)
    refine WK.ghost (Ghost.frzSl 4 1 rfl rfl) ?_
    repeat (first | refine WK.seq ?_ | refine WK.block ?_ | refine WK.inBlock ?_ | refine WK.skip ?_ | refine WK.label ?_ | refine WK.scope ?_ | refine WK.inScope ?_ | refine WK.exit rfl ?_)
    refine WK.ret Tryz.func23 (by simp (maxDischargeDepth := 120) [Tryz.results23, intS, e2, took, hT]) (by simp [intS, e2, took, hT])
end Go.Proofs.YtbncoeoamjcjjaaGreat
