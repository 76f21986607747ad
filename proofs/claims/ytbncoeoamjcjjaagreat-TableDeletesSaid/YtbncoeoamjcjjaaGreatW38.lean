/- Tables: the laws of what is done. -/
import Derived.Test.YtbncoeoamjcjjaaGreatW37
set_option linter.all false
set_option linter.unnecessarySimpa false
set_option linter.unusedVariables false
set_option linter.unusedSimpArgs false
namespace Go.Proofs.YtbncoeoamjcjjaaGreat
open Go Go.AI Go.Proofs

theorem clone_flowO (l : List Flow) (hl : l.length ≤ 1000000) : FnO Tryz.prog 20 [flowS l] l.length 7 (flowL l) := by
  cases l with
  | nil =>
    refine FnO.intro Tryz.func20 rfl rfl fun G w => ?_
    repeat (first | refine WK.seq ?_ | refine WK.block ?_ | refine WK.inBlock ?_ | refine WK.skip ?_ | refine WK.label ?_ | refine WK.scope ?_ | refine WK.inScope ?_ | refine WK.exit rfl ?_)
    first | refine WK.reg 100 Tryz.ntmps20 (by kernel_rfl) ?_ | refine WK.regD 100 clsOf (by kernel_rfl) Tryz.ntmps20 (by kernel_rfl) (by kernel_rfl) ?_
    intro A hA Q hQ
    simp
    refine hQ _ _ ?_
    clear hQ hA
    repeat (first | refine WK.seq ?_ | refine WK.block ?_ | refine WK.inBlock ?_ | refine WK.skip ?_ | refine WK.label ?_ | refine WK.scope ?_ | refine WK.inScope ?_ | refine WK.exit rfl ?_)
    first | refine WK.reg 200 Tryz.ntmps20 (by kernel_rfl) ?_ | refine WK.regD 200 clsOf (by kernel_rfl) Tryz.ntmps20 (by kernel_rfl) (by kernel_rfl) ?_
    intro A hA Q hQ
    simp [flowS]
    refine hQ _ _ ?_
    clear hQ hA
    repeat (first | refine WK.seq ?_ | refine WK.block ?_ | refine WK.inBlock ?_ | refine WK.skip ?_ | refine WK.label ?_ | refine WK.scope ?_ | refine WK.inScope ?_ | refine WK.exit rfl ?_)
    refine WK.condAny rfl ?_ ?_
    · repeat (first | refine WK.seq ?_ | refine WK.block ?_ | refine WK.inBlock ?_ | refine WK.skip ?_ | refine WK.label ?_ | refine WK.scope ?_ | refine WK.inScope ?_ | refine WK.exit rfl ?_)
      first | refine WK.reg 300 Tryz.ntmps20 (by kernel_rfl) ?_ | refine WK.regD 300 clsOf (by kernel_rfl) Tryz.ntmps20 (by kernel_rfl) (by kernel_rfl) ?_
      intro A hA Q hQ
      simp
      refine hQ _ _ ?_
      clear hQ hA
      repeat (first | refine WK.seq ?_ | refine WK.block ?_ | refine WK.inBlock ?_ | refine WK.skip ?_ | refine WK.label ?_ | refine WK.scope ?_ | refine WK.inScope ?_ | refine WK.exit rfl ?_)
      refine WK.ghost (Ghost.own 2 900 7 rfl rfl) ?_
      repeat (first | refine WK.seq ?_ | refine WK.block ?_ | refine WK.inBlock ?_ | refine WK.skip ?_ | refine WK.label ?_ | refine WK.scope ?_ | refine WK.inScope ?_ | refine WK.exit rfl ?_)
      refine WK.retO Tryz.func20 (by rfl) (by rfl) (by simp (maxDischargeDepth := 120) [flowL_nil]) (by simp [flowL_nil])
    · repeat (first | refine WK.seq ?_ | refine WK.block ?_ | refine WK.inBlock ?_ | refine WK.skip ?_ | refine WK.label ?_ | refine WK.scope ?_ | refine WK.inScope ?_ | refine WK.exit rfl ?_)
      first | refine WK.reg 400 Tryz.ntmps20 (by kernel_rfl) ?_ | refine WK.regD 400 clsOf (by kernel_rfl) Tryz.ntmps20 (by kernel_rfl) (by kernel_rfl) ?_
      intro A hA Q hQ
      simp [flowS]
      refine RunQ.append0 900 901 appFlow rfl rfl rfl rfl rfl rfl rfl (by simp) (by simp) (by simp) (by simp) (by simp) (by simp) (by simp) ?_
      refine RunQ.eval ?_
      simp
      refine hQ _ _ ?_
      clear hQ hA
      repeat (first | refine WK.seq ?_ | refine WK.block ?_ | refine WK.inBlock ?_ | refine WK.skip ?_ | refine WK.label ?_ | refine WK.scope ?_ | refine WK.inScope ?_ | refine WK.exit rfl ?_)
      refine WK.retO Tryz.func20 (by rfl) (by rfl) (by simp (maxDischargeDepth := 120) [flowL_nil]) (by simp [flowL_nil])
  | cons x l =>
    have hb : (l.length + 1) * 88 ≤ 140737488355328 := by simp at hl; omega
    have e := flow_full (x :: l) ((l.length + 1) * 7) (by simp)
    refine FnO.intro Tryz.func20 rfl rfl fun G w => ?_
    repeat (first | refine WK.seq ?_ | refine WK.block ?_ | refine WK.inBlock ?_ | refine WK.skip ?_ | refine WK.label ?_ | refine WK.scope ?_ | refine WK.inScope ?_ | refine WK.exit rfl ?_)
    first | refine WK.reg 100 Tryz.ntmps20 (by kernel_rfl) ?_ | refine WK.regD 100 clsOf (by kernel_rfl) Tryz.ntmps20 (by kernel_rfl) (by kernel_rfl) ?_
    intro A hA Q hQ
    simp
    refine hQ _ _ ?_
    clear hQ hA
    repeat (first | refine WK.seq ?_ | refine WK.block ?_ | refine WK.inBlock ?_ | refine WK.skip ?_ | refine WK.label ?_ | refine WK.scope ?_ | refine WK.inScope ?_ | refine WK.exit rfl ?_)
    first | refine WK.reg 200 Tryz.ntmps20 (by kernel_rfl) ?_ | refine WK.regD 200 clsOf (by kernel_rfl) Tryz.ntmps20 (by kernel_rfl) (by kernel_rfl) ?_
    intro A hA Q hQ
    simp [flowS]
    refine hQ _ _ ?_
    clear hQ hA
    repeat (first | refine WK.seq ?_ | refine WK.block ?_ | refine WK.inBlock ?_ | refine WK.skip ?_ | refine WK.label ?_ | refine WK.scope ?_ | refine WK.inScope ?_ | refine WK.exit rfl ?_)
    refine WK.cond2 rfl (fun h => ?_) (fun h => ?_)
    · cases h
    · repeat (first | refine WK.seq ?_ | refine WK.block ?_ | refine WK.inBlock ?_ | refine WK.skip ?_ | refine WK.label ?_ | refine WK.scope ?_ | refine WK.inScope ?_ | refine WK.exit rfl ?_)
      first | refine WK.reg 300 Tryz.ntmps20 (by kernel_rfl) ?_ | refine WK.regD 300 clsOf (by kernel_rfl) Tryz.ntmps20 (by kernel_rfl) (by kernel_rfl) ?_
      intro A hA Q hQ
      simp [flowS]
      refine RunQ.append0 900 901 appFlow rfl rfl rfl rfl rfl rfl rfl (by simp [hb]) (by simp [hb]) (by simp [hb]) (by simp [hb]) (by simp [hb]) (by simp [hb]) (by simp) ?_
      refine RunQ.eval ?_
      simp [hb]
      refine hQ _ _ ?_
      clear hQ hA
      repeat (first | refine WK.seq ?_ | refine WK.block ?_ | refine WK.inBlock ?_ | refine WK.skip ?_ | refine WK.label ?_ | refine WK.scope ?_ | refine WK.inScope ?_ | refine WK.exit rfl ?_)
      refine WK.retO Tryz.func20 (by rfl) (by rfl) (by simp (maxDischargeDepth := 120) [e]) (by simp [e])
def fT : Flow := ⟨0#64, 4, 0, 0, 0, [], []⟩
def mT1 : FlowMod := ⟨0#64, 0#64, 0, 0, 0, 0, 4, 0, 0, 0, 0, [], []⟩
def mT2 : FlowMod := ⟨0#64, 0#64, 0, 0, 0, 0, 4, 0, 0, 0, 2, [], []⟩
def mT3 : FlowMod := ⟨0#64, 0#64, 0, 4, 0, 0, 4, 0, 4294967295, 4294967295, 0, [], []⟩
theorem dT1 : tDo [] mT1 = ([fT], F3.zero) := by kernel_rfl
theorem dT2 : tDo [fT] mT2 = ([], ⟨true, 5, 3⟩) := by kernel_rfl
theorem dT3 : tDo [fT] mT3 = ([], F3.zero) := by kernel_rfl
theorem dT4 : tRight [fT] = true := by kernel_rfl
theorem dT5 : eqBy Flow.same [fT] [fT] = true := by kernel_rfl
theorem dT6 : tRight [fT, fT] = false := by kernel_rfl
theorem okT (m : FlowMod) (h1 : m.mat = []) (h2 : m.insts = []) : FOk (FlowMod.flow m) := ⟨by show m.mat.length ≤ _; rw [h1]; simp, ⟨by show m.insts.length ≤ _; rw [h2]; simp, fun x hx => by have : x ∈ m.insts := hx; rw [h2] at this; cases this⟩⟩
theorem plT : ∀ f, f ∈ [fT] → FPl f := by
  intro f hf
  simp at hf; subst hf
  exact ⟨okT mT1 rfl rfl, by show (0 : Nat) ≤ _; omega⟩
set_option maxHeartbeats 2000000 in
theorem awake23_c : FnP Tryz.prog 8 [] (.bool true) := by
  have c1 := tdo_c [] mT1 (okT _ rfl rfl) (by simp) (by simp)
  have c2 := tdo_c [fT] mT2 (okT _ rfl rfl) (by simp) plT
  have c3 := tdo_c [fT] mT3 (okT _ rfl rfl) (by simp) plT
  have c4 := tright_c [fT] (fun f h => (plT f h).ok)
  have c5 := tsame_c [fT] [fT] (by simp) (fun f h => (plT f h).ok) (fun f h => (plT f h).ok)
  have c6 := clone_flowO [fT] (by simp)
  have c7 := tright_c [fT, fT] (fun f h => (plT f (by simpa using h)).ok)
  rw [dT1] at c1; rw [dT2] at c2; rw [dT3] at c3; rw [dT4] at c4; rw [dT5] at c5; rw [dT6] at c7
  have hfT : flowL [fT] = fT.enc := flowL_one fT
  have hfTT : flowL [fT, fT] = fT.enc ++ fT.enc := by simp [flowL]
  have z1 : fT.enc = [.int .u64 0, .int .i64 4, .int .i64 0, .int .i64 0, .int .i64 0, .sl false 0 [], .sl false 0 []] := rfl
  simp only [mT1, mT2, mT3, FlowMod.enc, flowS, F3.zero, F3.enc, flowL_nil, hfT, hfTT, List.length_nil, List.length_cons, oxmL, instL, List.flatMap_nil, uI_zero] at c1 c2 c3 c4 c5 c6 c7
  refine FnP.intro Tryz.func8 rfl rfl fun G w => ?_
  repeat (first | refine WK.seq ?_ | refine WK.block ?_ | refine WK.inBlock ?_ | refine WK.skip ?_ | refine WK.label ?_ | refine WK.scope ?_ | refine WK.inScope ?_ | refine WK.exit rfl ?_)
  first | refine WK.reg 100 Tryz.ntmps8 (by kernel_rfl) ?_ | refine WK.regD 100 clsOf (by kernel_rfl) Tryz.ntmps8 (by kernel_rfl) (by kernel_rfl) ?_
  intro A hA Q hQ
  simp
  refine hQ _ _ ?_
  clear hQ hA
  repeat (first | refine WK.seq ?_ | refine WK.block ?_ | refine WK.inBlock ?_ | refine WK.skip ?_ | refine WK.label ?_ | refine WK.scope ?_ | refine WK.inScope ?_ | refine WK.exit rfl ?_)
  first | refine WK.reg 200 Tryz.ntmps8 (by kernel_rfl) ?_ | refine WK.regD 200 clsOf (by kernel_rfl) Tryz.ntmps8 (by kernel_rfl) (by kernel_rfl) ?_
  intro A hA Q hQ
  simp
  refine RunQ.call rfl rfl rfl rfl (by rfl) (by simp (maxDischargeDepth := 120)) (c1) (by simp) ?_
  refine RunQ.eval ?_
  simp
  refine hQ _ _ ?_
  clear hQ hA
  repeat (first | refine WK.seq ?_ | refine WK.block ?_ | refine WK.inBlock ?_ | refine WK.skip ?_ | refine WK.label ?_ | refine WK.scope ?_ | refine WK.inScope ?_ | refine WK.exit rfl ?_)
  first | refine WK.reg 300 Tryz.ntmps8 (by kernel_rfl) ?_ | refine WK.regD 300 clsOf (by kernel_rfl) Tryz.ntmps8 (by kernel_rfl) (by kernel_rfl) ?_
  intro A hA Q hQ
  simp
  refine RunQ.call rfl rfl rfl rfl (by rfl) (by simp (maxDischargeDepth := 120)) (c2) (by simp) ?_
  refine RunQ.eval ?_
  simp
  refine hQ _ _ ?_
  clear hQ hA
  repeat (first | refine WK.seq ?_ | refine WK.block ?_ | refine WK.inBlock ?_ | refine WK.skip ?_ | refine WK.label ?_ | refine WK.scope ?_ | refine WK.inScope ?_ | refine WK.exit rfl ?_)
  first | refine WK.reg 400 Tryz.ntmps8 (by kernel_rfl) ?_ | refine WK.regD 400 clsOf (by kernel_rfl) Tryz.ntmps8 (by kernel_rfl) (by kernel_rfl) ?_
  intro A hA Q hQ
  simp
  refine RunQ.call rfl rfl rfl rfl (by rfl) (by simp (maxDischargeDepth := 120)) (c3) (by simp) ?_
  refine RunQ.eval ?_
  simp
  refine hQ _ _ ?_
  clear hQ hA
  repeat (first | refine WK.seq ?_ | refine WK.block ?_ | refine WK.inBlock ?_ | refine WK.skip ?_ | refine WK.label ?_ | refine WK.scope ?_ | refine WK.inScope ?_ | refine WK.exit rfl ?_)
  first | refine WK.reg 500 Tryz.ntmps8 (by kernel_rfl) ?_ | refine WK.regD 500 clsOf (by kernel_rfl) Tryz.ntmps8 (by kernel_rfl) (by kernel_rfl) ?_
  intro A hA Q hQ
  have hg3 : (A[3]?).bind (·.dst) = some 27 := by rw [hA]; rfl
  have hg8 : (A[8]?).bind (·.dst) = some 32 := by rw [hA]; rfl
  have hg13 : (A[13]?).bind (·.dst) = some 37 := by rw [hA]; rfl
  have hg18 : (A[18]?).bind (·.dst) = some 42 := by rw [hA]; rfl
  have hg23 : (A[23]?).bind (·.dst) = some 47 := by rw [hA]; rfl
  have hg27 : (A[27]?).bind (·.dst) = some 51 := by rw [hA]; rfl
  have hg32 : (A[32]?).bind (·.dst) = some 56 := by rw [hA]; rfl
  simp [hg3, hg8, hg13, hg18, hg23, hg27, hg32]
  refine RunQ.callG rfl rfl (by simp [hg23, hg27]) rfl (by rfl) (by simp (maxDischargeDepth := 120) [hg23, hg27]) (c4) (by simp [hg23, hg27]) ?_
  refine RunQ.eval ?_
  simp [hg23, hg27]
  refine RunQ.callG rfl rfl (by simp [hg27, hg32]) rfl (by rfl) (by simp (maxDischargeDepth := 120) [hg27, hg32]) (c5) (by simp [hg27, hg32]) ?_
  refine RunQ.eval ?_
  simp [hg27, hg32]
  refine RunQ.callO 900 rfl rfl rfl (by simp [hg32]) (by rfl) (by simp (maxDischargeDepth := 120) [hg32]) (c6) (by simp [hg32]) (by simp [hg32]) (by simp [hg32]) ?_
  refine RunQ.eval ?_
  simp [hg32]
  refine RunQ.append 901 appFlow rfl rfl rfl rfl rfl rfl rfl (by simp [hg32]) rfl (by simp [hg32]) (by simp [hg32]) (by simp [hg32]) (by simp [hg32]) ?_
  refine RunQ.eval ?_
  simp [hg32]
  have hT : (fT.enc ++ fT.enc).take 14 = fT.enc ++ fT.enc := rfl
  refine RunQ.callFz 60 7 rfl rfl (by simp [hg32, hT]) rfl rfl rfl (by rfl) (by simp (maxDischargeDepth := 120) [hg32, hT]) (c7) (by simp [hg32, hT]) ?_
  refine RunQ.eval ?_
  simp [hg32, hT]
  refine hQ _ _ ?_
  clear hQ hA
  repeat (first | refine WK.seq ?_ | refine WK.block ?_ | refine WK.inBlock ?_ | refine WK.skip ?_ | refine WK.label ?_ | refine WK.scope ?_ | refine WK.inScope ?_ | refine WK.exit rfl ?_)
  refine WK.ret Tryz.func8 (by simp (maxDischargeDepth := 120) [Tryz.results8]) (by simp)
end Go.Proofs.YtbncoeoamjcjjaaGreat
