/- The laws of what flow a change makes, of what meets and of what is covered: what they answer. -/
import Derived.Test.YtfgmjnmkcobhkaaW12
import Derived.Test.YtfgmjnmkcobhkaaD3
set_option linter.all false
set_option linter.unnecessarySimpa false
set_option linter.unusedVariables false
set_option linter.unusedSimpArgs false
namespace Go.Proofs.Ytfgmjnmkcobhkaa
open Go Go.AI Go.Proofs

theorem eqBy_refl {α : Type} [Inhabited α] {p : α → α → Bool} (h : ∀ x, p x x = true) (l : List α) : eqBy p l l = true := by unfold eqBy; simp [h]
theorem instSame_self (i : Inst) : Inst.same i i = true := by unfold Inst.same; simp [eqBy_refl]
theorem flowSame_self (f : Flow) : Flow.same f f = true := by unfold Flow.same; simp [eqBy_refl, instSame_self]
theorem overlap_comm (a b : Flow) : Flow.overlap b a = Flow.overlap a b := by
  unfold Flow.overlap; rw [cubeMeetOk_comm]; rw [BEq.comm]
theorem alike_comm (a b : Flow) : Flow.alike b a = Flow.alike a b := by
  unfold Flow.alike; rw [cubeEq_comm]; rw [BEq.comm]
@[simp] theorem FlowMod.take13 (o : FlowMod) : o.enc.take 13 = o.enc := rfl
@[simp] theorem FlowMod.drop13 (o : FlowMod) : o.enc.drop 13 = [] := rfl
theorem flowOf_c (m : FlowMod) : FnP Try.prog 4 [.agg m.enc] (.bool true) := by
  cases pm : FlowMod.plain m
  · refine FnP.intro Try.func4 rfl rfl fun G w => ?_
    repeat (first | refine WK.seq ?_ | refine WK.block ?_ | refine WK.inBlock ?_ | refine WK.skip ?_ | refine WK.label ?_ | refine WK.scope ?_ | refine WK.inScope ?_ | refine WK.exit rfl ?_)
    first | refine WK.reg 100 Try.ntmps4 (by kernel_rfl) ?_ | refine WK.regD 100 clsOf (by kernel_rfl) Try.ntmps4 (by kernel_rfl) (by kernel_rfl) ?_
    intro A hA Q hQ
    simp
    refine hQ _ _ ?_
    clear hQ hA
    repeat (first | refine WK.seq ?_ | refine WK.block ?_ | refine WK.inBlock ?_ | refine WK.skip ?_ | refine WK.label ?_ | refine WK.scope ?_ | refine WK.inScope ?_ | refine WK.exit rfl ?_)
    first | refine WK.reg 200 Try.ntmps4 (by kernel_rfl) ?_ | refine WK.regD 200 clsOf (by kernel_rfl) Try.ntmps4 (by kernel_rfl) (by kernel_rfl) ?_
    intro A hA Q hQ
    have hg3 : (A[3]?).bind (·.dst) = some 6 := by rw [hA]; rfl
    have hg10 : (A[10]?).bind (·.dst) = some 13 := by rw [hA]; rfl
    simp [hg3, hg10]
    refine RunQ.call rfl rfl rfl rfl (by rfl) (by simp (maxDischargeDepth := 120) [pm, hg3, hg10]) (pMod_c m) (by simp [pm, hg3, hg10]) ?_
    refine RunQ.eval ?_
    simp [pm, hg3, hg10]
    refine RunQ.callG rfl rfl (by simp [hg3, hg10]) rfl (by rfl) (by simp (maxDischargeDepth := 120) [hg3, hg10]) (awake21_c) (by simp [hg3, hg10]) ?_
    refine RunQ.eval ?_
    simp [hg3, hg10]
    refine hQ _ _ ?_
    clear hQ hA
    repeat (first | refine WK.seq ?_ | refine WK.block ?_ | refine WK.inBlock ?_ | refine WK.skip ?_ | refine WK.label ?_ | refine WK.scope ?_ | refine WK.inScope ?_ | refine WK.exit rfl ?_)
    refine WK.ret Try.func4 (by simp (maxDischargeDepth := 120) [Try.results4]) (by simp)
  have hm : FOk (FlowMod.flow m) := (plain_ok (f := FlowMod.flow m) pm).ok
  refine FnP.intro Try.func4 rfl rfl fun G w => ?_
  repeat (first | refine WK.seq ?_ | refine WK.block ?_ | refine WK.inBlock ?_ | refine WK.skip ?_ | refine WK.label ?_ | refine WK.scope ?_ | refine WK.inScope ?_ | refine WK.exit rfl ?_)
  first | refine WK.reg 100 Try.ntmps4 (by kernel_rfl) ?_ | refine WK.regD 100 clsOf (by kernel_rfl) Try.ntmps4 (by kernel_rfl) (by kernel_rfl) ?_
  intro A hA Q hQ
  simp
  refine hQ _ _ ?_
  clear hQ hA
  repeat (first | refine WK.seq ?_ | refine WK.block ?_ | refine WK.inBlock ?_ | refine WK.skip ?_ | refine WK.label ?_ | refine WK.scope ?_ | refine WK.inScope ?_ | refine WK.exit rfl ?_)
  first | refine WK.reg 200 Try.ntmps4 (by kernel_rfl) ?_ | refine WK.regD 200 clsOf (by kernel_rfl) Try.ntmps4 (by kernel_rfl) (by kernel_rfl) ?_
  intro A hA Q hQ
  have hg3 : (A[3]?).bind (·.dst) = some 6 := by rw [hA]; rfl
  have hg10 : (A[10]?).bind (·.dst) = some 13 := by rw [hA]; rfl
  simp [hg3, hg10]
  refine RunQ.call rfl rfl rfl rfl (by rfl) (by simp (maxDischargeDepth := 120) [pm, hg3, hg10]) (pMod_c m) (by simp [pm, hg3, hg10]) ?_
  refine RunQ.eval ?_
  simp [pm, hg3, hg10]
  refine RunQ.callG rfl rfl (by simp [hg3, hg10]) rfl (by rfl) (by simp (maxDischargeDepth := 120) [hg3, hg10]) (of2_c m hm) (by simp [hg3, hg10]) ?_
  refine RunQ.eval ?_
  simp [hg3, hg10]
  refine RunQ.callG rfl rfl (by simp [hg3, hg10]) rfl (by rfl) (by simp (maxDischargeDepth := 120) [hg3, hg10]) (rof2_c m) (by simp [hg3, hg10]) ?_
  refine RunQ.eval ?_
  simp [hg3, hg10]
  refine RunQ.callG rfl rfl (by simp [hg3, hg10, flowSame_self]) rfl (by rfl) (by simp (maxDischargeDepth := 120) [hg3, hg10, flowSame_self]) (rfsame_c (FlowMod.flow m) (FlowMod.flow m) hm hm) (by simp [hg3, hg10, flowSame_self]) ?_
  refine RunQ.eval ?_
  simp [hg3, hg10, flowSame_self]
  refine RunQ.callG rfl rfl (by simp [hg3, hg10]) rfl (by rfl) (by simp (maxDischargeDepth := 120) [hg3, hg10]) (awake21_c) (by simp [hg3, hg10]) ?_
  refine RunQ.eval ?_
  simp [hg3, hg10]
  refine hQ _ _ ?_
  clear hQ hA
  repeat (first | refine WK.seq ?_ | refine WK.block ?_ | refine WK.inBlock ?_ | refine WK.skip ?_ | refine WK.label ?_ | refine WK.scope ?_ | refine WK.inScope ?_ | refine WK.exit rfl ?_)
  refine WK.ret Try.func4 (by simp (maxDischargeDepth := 120) [Try.results4]) (by simp)
theorem flowCovers_c (f : Flow) (c : Cube) (h : Header) : FnP Try.prog 6 [.agg f.enc, .agg (encC c), .agg (encH h)] (.bool true) := by
  cases pf : Flow.plain f
  · refine FnP.intro Try.func6 rfl rfl fun G w => ?_
    repeat (first | refine WK.seq ?_ | refine WK.block ?_ | refine WK.inBlock ?_ | refine WK.skip ?_ | refine WK.label ?_ | refine WK.scope ?_ | refine WK.inScope ?_ | refine WK.exit rfl ?_)
    first | refine WK.reg 100 Try.ntmps6 (by kernel_rfl) ?_ | refine WK.regD 100 clsOf (by kernel_rfl) Try.ntmps6 (by kernel_rfl) (by kernel_rfl) ?_
    intro A hA Q hQ
    simp
    refine hQ _ _ ?_
    clear hQ hA
    repeat (first | refine WK.seq ?_ | refine WK.block ?_ | refine WK.inBlock ?_ | refine WK.skip ?_ | refine WK.label ?_ | refine WK.scope ?_ | refine WK.inScope ?_ | refine WK.exit rfl ?_)
    first | refine WK.reg 200 Try.ntmps6 (by kernel_rfl) ?_ | refine WK.regD 200 clsOf (by kernel_rfl) Try.ntmps6 (by kernel_rfl) (by kernel_rfl) ?_
    intro A hA Q hQ
    simp
    refine RunQ.call rfl rfl rfl rfl (by rfl) (by simp (maxDischargeDepth := 120) [pf]) (pFlow_c f) (by simp [pf]) ?_
    refine RunQ.eval ?_
    simp [pf]
    refine hQ _ _ ?_
    clear hQ hA
    repeat (first | refine WK.seq ?_ | refine WK.block ?_ | refine WK.inBlock ?_ | refine WK.skip ?_ | refine WK.label ?_ | refine WK.scope ?_ | refine WK.inScope ?_ | refine WK.exit rfl ?_)
    refine WK.cond2 rfl (fun hh => ?_) (fun hh => ?_)
    · repeat (first | refine WK.seq ?_ | refine WK.block ?_ | refine WK.inBlock ?_ | refine WK.skip ?_ | refine WK.label ?_ | refine WK.scope ?_ | refine WK.inScope ?_ | refine WK.exit rfl ?_)
      first | refine WK.reg 300 Try.ntmps6 (by kernel_rfl) ?_ | refine WK.regD 300 clsOf (by kernel_rfl) Try.ntmps6 (by kernel_rfl) (by kernel_rfl) ?_
      intro A hA Q hQ
      simp
      refine RunQ.call rfl rfl rfl rfl (by rfl) (by simp (maxDischargeDepth := 120)) (awake21_c) (by simp) ?_
      refine RunQ.eval ?_
      simp
      refine hQ _ _ ?_
      clear hQ hA
      repeat (first | refine WK.seq ?_ | refine WK.block ?_ | refine WK.inBlock ?_ | refine WK.skip ?_ | refine WK.label ?_ | refine WK.scope ?_ | refine WK.inScope ?_ | refine WK.exit rfl ?_)
      refine WK.ret Try.func6 (by simp (maxDischargeDepth := 120) [Try.results6]) (by simp)
    · cases hh
  have hf := (plain_ok pf).ok
  cases kw : cubeWithin (Flow.cube f) c
  · refine FnP.intro Try.func6 rfl rfl fun G w => ?_
    repeat (first | refine WK.seq ?_ | refine WK.block ?_ | refine WK.inBlock ?_ | refine WK.skip ?_ | refine WK.label ?_ | refine WK.scope ?_ | refine WK.inScope ?_ | refine WK.exit rfl ?_)
    first | refine WK.reg 100 Try.ntmps6 (by kernel_rfl) ?_ | refine WK.regD 100 clsOf (by kernel_rfl) Try.ntmps6 (by kernel_rfl) (by kernel_rfl) ?_
    intro A hA Q hQ
    simp
    refine hQ _ _ ?_
    clear hQ hA
    repeat (first | refine WK.seq ?_ | refine WK.block ?_ | refine WK.inBlock ?_ | refine WK.skip ?_ | refine WK.label ?_ | refine WK.scope ?_ | refine WK.inScope ?_ | refine WK.exit rfl ?_)
    first | refine WK.reg 200 Try.ntmps6 (by kernel_rfl) ?_ | refine WK.regD 200 clsOf (by kernel_rfl) Try.ntmps6 (by kernel_rfl) (by kernel_rfl) ?_
    intro A hA Q hQ
    simp
    refine RunQ.call rfl rfl rfl rfl (by rfl) (by simp (maxDischargeDepth := 120) [pf]) (pFlow_c f) (by simp [pf]) ?_
    refine RunQ.eval ?_
    simp [pf]
    refine hQ _ _ ?_
    clear hQ hA
    repeat (first | refine WK.seq ?_ | refine WK.block ?_ | refine WK.inBlock ?_ | refine WK.skip ?_ | refine WK.label ?_ | refine WK.scope ?_ | refine WK.inScope ?_ | refine WK.exit rfl ?_)
    refine WK.cond2 rfl (fun hh => ?_) (fun hh => ?_)
    · cases hh
    · repeat (first | refine WK.seq ?_ | refine WK.block ?_ | refine WK.inBlock ?_ | refine WK.skip ?_ | refine WK.label ?_ | refine WK.scope ?_ | refine WK.inScope ?_ | refine WK.exit rfl ?_)
      first | refine WK.reg 300 Try.ntmps6 (by kernel_rfl) ?_ | refine WK.regD 300 clsOf (by kernel_rfl) Try.ntmps6 (by kernel_rfl) (by kernel_rfl) ?_
      intro A hA Q hQ
      have hg4 : (A[4]?).bind (·.dst) = some 15 := by rw [hA]; rfl
      have hg11 : (A[11]?).bind (·.dst) = some 22 := by rw [hA]; rfl
      have hg16 : (A[16]?).bind (·.dst) = some 27 := by rw [hA]; rfl
      simp [hg4, hg11, hg16]
      refine RunQ.call rfl rfl rfl rfl (by rfl) (by simp (maxDischargeDepth := 120) [kw, hg4, hg11, hg16]) (covers_c c f hf) (by simp [kw, hg4, hg11, hg16]) ?_
      refine RunQ.eval ?_
      simp [kw, hg4, hg11, hg16]
      refine RunQ.callG rfl rfl (by simp [hg4, hg11, hg16]) rfl (by rfl) (by simp (maxDischargeDepth := 120) [hg4, hg11, hg16]) (awake21_c) (by simp [hg4, hg11, hg16]) ?_
      refine RunQ.eval ?_
      simp [hg4, hg11, hg16]
      refine hQ _ _ ?_
      clear hQ hA
      repeat (first | refine WK.seq ?_ | refine WK.block ?_ | refine WK.inBlock ?_ | refine WK.skip ?_ | refine WK.label ?_ | refine WK.scope ?_ | refine WK.inScope ?_ | refine WK.exit rfl ?_)
      refine WK.ret Try.func6 (by simp (maxDischargeDepth := 120) [Try.results6]) (by simp)
  cases kh : cubeHas (Flow.cube f) h
  · refine FnP.intro Try.func6 rfl rfl fun G w => ?_
    repeat (first | refine WK.seq ?_ | refine WK.block ?_ | refine WK.inBlock ?_ | refine WK.skip ?_ | refine WK.label ?_ | refine WK.scope ?_ | refine WK.inScope ?_ | refine WK.exit rfl ?_)
    first | refine WK.reg 100 Try.ntmps6 (by kernel_rfl) ?_ | refine WK.regD 100 clsOf (by kernel_rfl) Try.ntmps6 (by kernel_rfl) (by kernel_rfl) ?_
    intro A hA Q hQ
    simp
    refine hQ _ _ ?_
    clear hQ hA
    repeat (first | refine WK.seq ?_ | refine WK.block ?_ | refine WK.inBlock ?_ | refine WK.skip ?_ | refine WK.label ?_ | refine WK.scope ?_ | refine WK.inScope ?_ | refine WK.exit rfl ?_)
    first | refine WK.reg 200 Try.ntmps6 (by kernel_rfl) ?_ | refine WK.regD 200 clsOf (by kernel_rfl) Try.ntmps6 (by kernel_rfl) (by kernel_rfl) ?_
    intro A hA Q hQ
    simp
    refine RunQ.call rfl rfl rfl rfl (by rfl) (by simp (maxDischargeDepth := 120) [pf]) (pFlow_c f) (by simp [pf]) ?_
    refine RunQ.eval ?_
    simp [pf]
    refine hQ _ _ ?_
    clear hQ hA
    repeat (first | refine WK.seq ?_ | refine WK.block ?_ | refine WK.inBlock ?_ | refine WK.skip ?_ | refine WK.label ?_ | refine WK.scope ?_ | refine WK.inScope ?_ | refine WK.exit rfl ?_)
    refine WK.cond2 rfl (fun hh => ?_) (fun hh => ?_)
    · cases hh
    · repeat (first | refine WK.seq ?_ | refine WK.block ?_ | refine WK.inBlock ?_ | refine WK.skip ?_ | refine WK.label ?_ | refine WK.scope ?_ | refine WK.inScope ?_ | refine WK.exit rfl ?_)
      first | refine WK.reg 300 Try.ntmps6 (by kernel_rfl) ?_ | refine WK.regD 300 clsOf (by kernel_rfl) Try.ntmps6 (by kernel_rfl) (by kernel_rfl) ?_
      intro A hA Q hQ
      have hg4 : (A[4]?).bind (·.dst) = some 15 := by rw [hA]; rfl
      have hg11 : (A[11]?).bind (·.dst) = some 22 := by rw [hA]; rfl
      have hg16 : (A[16]?).bind (·.dst) = some 27 := by rw [hA]; rfl
      simp [hg4, hg11, hg16]
      refine RunQ.call rfl rfl rfl rfl (by rfl) (by simp (maxDischargeDepth := 120) [kw, hg4, hg11, hg16]) (covers_c c f hf) (by simp [kw, hg4, hg11, hg16]) ?_
      refine RunQ.eval ?_
      simp [kw, hg4, hg11, hg16]
      refine RunQ.callG rfl rfl (by simp [hg4, hg11, hg16]) rfl (by rfl) (by simp (maxDischargeDepth := 120) [hg4, hg11, hg16]) (fcube_c f hf.mat) (by simp [hg4, hg11, hg16]) ?_
      refine RunQ.eval ?_
      simp [hg4, hg11, hg16]
      refine RunQ.callG rfl rfl (by simp [kh, hg4, hg11, hg16]) rfl (by rfl) (by simp (maxDischargeDepth := 120) [kh, hg4, hg11, hg16]) (chas_c (Flow.cube f) h) (by simp [kh, hg4, hg11, hg16]) ?_
      refine RunQ.eval ?_
      simp [kh, hg4, hg11, hg16]
      refine RunQ.callG rfl rfl (by simp [hg4, hg11, hg16]) rfl (by rfl) (by simp (maxDischargeDepth := 120) [hg4, hg11, hg16]) (awake21_c) (by simp [hg4, hg11, hg16]) ?_
      refine RunQ.eval ?_
      simp [hg4, hg11, hg16]
      refine hQ _ _ ?_
      clear hQ hA
      repeat (first | refine WK.seq ?_ | refine WK.block ?_ | refine WK.inBlock ?_ | refine WK.skip ?_ | refine WK.label ?_ | refine WK.scope ?_ | refine WK.inScope ?_ | refine WK.exit rfl ?_)
      refine WK.ret Try.func6 (by simp (maxDischargeDepth := 120) [Try.results6]) (by simp)
  have kc := cubeHas_within kw kh
  refine FnP.intro Try.func6 rfl rfl fun G w => ?_
  repeat (first | refine WK.seq ?_ | refine WK.block ?_ | refine WK.inBlock ?_ | refine WK.skip ?_ | refine WK.label ?_ | refine WK.scope ?_ | refine WK.inScope ?_ | refine WK.exit rfl ?_)
  first | refine WK.reg 100 Try.ntmps6 (by kernel_rfl) ?_ | refine WK.regD 100 clsOf (by kernel_rfl) Try.ntmps6 (by kernel_rfl) (by kernel_rfl) ?_
  intro A hA Q hQ
  simp
  refine hQ _ _ ?_
  clear hQ hA
  repeat (first | refine WK.seq ?_ | refine WK.block ?_ | refine WK.inBlock ?_ | refine WK.skip ?_ | refine WK.label ?_ | refine WK.scope ?_ | refine WK.inScope ?_ | refine WK.exit rfl ?_)
  first | refine WK.reg 200 Try.ntmps6 (by kernel_rfl) ?_ | refine WK.regD 200 clsOf (by kernel_rfl) Try.ntmps6 (by kernel_rfl) (by kernel_rfl) ?_
  intro A hA Q hQ
  simp
  refine RunQ.call rfl rfl rfl rfl (by rfl) (by simp (maxDischargeDepth := 120) [pf]) (pFlow_c f) (by simp [pf]) ?_
  refine RunQ.eval ?_
  simp [pf]
  refine hQ _ _ ?_
  clear hQ hA
  repeat (first | refine WK.seq ?_ | refine WK.block ?_ | refine WK.inBlock ?_ | refine WK.skip ?_ | refine WK.label ?_ | refine WK.scope ?_ | refine WK.inScope ?_ | refine WK.exit rfl ?_)
  refine WK.cond2 rfl (fun hh => ?_) (fun hh => ?_)
  · cases hh
  · repeat (first | refine WK.seq ?_ | refine WK.block ?_ | refine WK.inBlock ?_ | refine WK.skip ?_ | refine WK.label ?_ | refine WK.scope ?_ | refine WK.inScope ?_ | refine WK.exit rfl ?_)
    first | refine WK.reg 300 Try.ntmps6 (by kernel_rfl) ?_ | refine WK.regD 300 clsOf (by kernel_rfl) Try.ntmps6 (by kernel_rfl) (by kernel_rfl) ?_
    intro A hA Q hQ
    have hg4 : (A[4]?).bind (·.dst) = some 15 := by rw [hA]; rfl
    have hg11 : (A[11]?).bind (·.dst) = some 22 := by rw [hA]; rfl
    have hg16 : (A[16]?).bind (·.dst) = some 27 := by rw [hA]; rfl
    simp [hg4, hg11, hg16]
    refine RunQ.call rfl rfl rfl rfl (by rfl) (by simp (maxDischargeDepth := 120) [kw, hg4, hg11, hg16]) (covers_c c f hf) (by simp [kw, hg4, hg11, hg16]) ?_
    refine RunQ.eval ?_
    simp [kw, hg4, hg11, hg16]
    refine RunQ.callG rfl rfl (by simp [hg4, hg11, hg16]) rfl (by rfl) (by simp (maxDischargeDepth := 120) [hg4, hg11, hg16]) (fcube_c f hf.mat) (by simp [hg4, hg11, hg16]) ?_
    refine RunQ.eval ?_
    simp [hg4, hg11, hg16]
    refine RunQ.callG rfl rfl (by simp [kh, hg4, hg11, hg16]) rfl (by rfl) (by simp (maxDischargeDepth := 120) [kh, hg4, hg11, hg16]) (chas_c (Flow.cube f) h) (by simp [kh, hg4, hg11, hg16]) ?_
    refine RunQ.eval ?_
    simp [kh, hg4, hg11, hg16]
    refine RunQ.callG rfl rfl (by simp [kc, hg4, hg11, hg16]) rfl (by rfl) (by simp (maxDischargeDepth := 120) [kc, hg4, hg11, hg16]) (chas_c c h) (by simp [kc, hg4, hg11, hg16]) ?_
    refine RunQ.eval ?_
    simp [kc, hg4, hg11, hg16]
    refine RunQ.callG rfl rfl (by simp [hg4, hg11, hg16]) rfl (by rfl) (by simp (maxDischargeDepth := 120) [hg4, hg11, hg16]) (awake21_c) (by simp [hg4, hg11, hg16]) ?_
    refine RunQ.eval ?_
    simp [hg4, hg11, hg16]
    refine hQ _ _ ?_
    clear hQ hA
    repeat (first | refine WK.seq ?_ | refine WK.block ?_ | refine WK.inBlock ?_ | refine WK.skip ?_ | refine WK.label ?_ | refine WK.scope ?_ | refine WK.inScope ?_ | refine WK.exit rfl ?_)
    refine WK.ret Try.func6 (by simp (maxDischargeDepth := 120) [Try.results6]) (by simp)
theorem alike_covers {a b : Flow} (h : Flow.alike a b = true) : (a.prio == b.prio) = true ∧ Flow.overlap a b = true ∧ cubeWithin (Flow.cube b) (Flow.cube a) = true ∧ cubeWithin (Flow.cube a) (Flow.cube b) = true := by
  unfold Flow.alike at h
  rw [Bool.and_eq_true] at h
  refine ⟨h.1, ?_, cubeWithin_of_eq (by rw [cubeEq_comm]; exact h.2), cubeWithin_of_eq h.2⟩
  unfold Flow.overlap
  rw [h.1, cubeMeetOk_of_eq h.2]; rfl
theorem both_overlap {a b : Flow} {h : Header} (h0 : (a.prio == b.prio) = true) (h1 : cubeHas (Flow.cube a) h = true) (h2 : cubeHas (Flow.cube b) h = true) : Flow.overlap a b = true := by
  unfold Flow.overlap; rw [h0, cubeMeet_of_has h1 h2]; rfl

set_option maxHeartbeats 4000000 in
theorem flowMeets_c (a b : Flow) (h : Header) : FnP Try.prog 5 [.agg a.enc, .agg b.enc, .agg (encH h)] (.bool true) := by
  cases pa : Flow.plain a
  · refine FnP.intro Try.func5 rfl rfl fun G w => ?_
    repeat (first | refine WK.seq ?_ | refine WK.block ?_ | refine WK.inBlock ?_ | refine WK.skip ?_ | refine WK.label ?_ | refine WK.scope ?_ | refine WK.inScope ?_ | refine WK.exit rfl ?_)
    first | refine WK.reg 100 Try.ntmps5 (by kernel_rfl) ?_ | refine WK.regD 100 clsOf (by kernel_rfl) Try.ntmps5 (by kernel_rfl) (by kernel_rfl) ?_
    intro A hA Q hQ
    simp
    refine hQ _ _ ?_
    clear hQ hA
    repeat (first | refine WK.seq ?_ | refine WK.block ?_ | refine WK.inBlock ?_ | refine WK.skip ?_ | refine WK.label ?_ | refine WK.scope ?_ | refine WK.inScope ?_ | refine WK.exit rfl ?_)
    first | refine WK.reg 200 Try.ntmps5 (by kernel_rfl) ?_ | refine WK.regD 200 clsOf (by kernel_rfl) Try.ntmps5 (by kernel_rfl) (by kernel_rfl) ?_
    intro A hA Q hQ
    have hg3 : (A[3]?).bind (·.dst) = some 11 := by rw [hA]; rfl
    simp [hg3]
    refine RunQ.call rfl rfl rfl rfl (by rfl) (by simp (maxDischargeDepth := 120) [pa, hg3]) (pFlow_c a) (by simp [pa, hg3]) ?_
    refine RunQ.eval ?_
    simp [pa, hg3]
    refine hQ _ _ ?_
    clear hQ hA
    repeat (first | refine WK.seq ?_ | refine WK.block ?_ | refine WK.inBlock ?_ | refine WK.skip ?_ | refine WK.label ?_ | refine WK.scope ?_ | refine WK.inScope ?_ | refine WK.exit rfl ?_)
    refine WK.cond2 rfl (fun hh => ?_) (fun hh => ?_)
    · repeat (first | refine WK.seq ?_ | refine WK.block ?_ | refine WK.inBlock ?_ | refine WK.skip ?_ | refine WK.label ?_ | refine WK.scope ?_ | refine WK.inScope ?_ | refine WK.exit rfl ?_)
      first | refine WK.reg 300 Try.ntmps5 (by kernel_rfl) ?_ | refine WK.regD 300 clsOf (by kernel_rfl) Try.ntmps5 (by kernel_rfl) (by kernel_rfl) ?_
      intro A hA Q hQ
      simp
      refine RunQ.call rfl rfl rfl rfl (by rfl) (by simp (maxDischargeDepth := 120)) (awake21_c) (by simp) ?_
      refine RunQ.eval ?_
      simp
      refine hQ _ _ ?_
      clear hQ hA
      repeat (first | refine WK.seq ?_ | refine WK.block ?_ | refine WK.inBlock ?_ | refine WK.skip ?_ | refine WK.label ?_ | refine WK.scope ?_ | refine WK.inScope ?_ | refine WK.exit rfl ?_)
      refine WK.ret Try.func5 (by simp (maxDischargeDepth := 120) [Try.results5]) (by simp)
    · cases hh
  cases pb : Flow.plain b
  · refine FnP.intro Try.func5 rfl rfl fun G w => ?_
    repeat (first | refine WK.seq ?_ | refine WK.block ?_ | refine WK.inBlock ?_ | refine WK.skip ?_ | refine WK.label ?_ | refine WK.scope ?_ | refine WK.inScope ?_ | refine WK.exit rfl ?_)
    first | refine WK.reg 100 Try.ntmps5 (by kernel_rfl) ?_ | refine WK.regD 100 clsOf (by kernel_rfl) Try.ntmps5 (by kernel_rfl) (by kernel_rfl) ?_
    intro A hA Q hQ
    simp
    refine hQ _ _ ?_
    clear hQ hA
    repeat (first | refine WK.seq ?_ | refine WK.block ?_ | refine WK.inBlock ?_ | refine WK.skip ?_ | refine WK.label ?_ | refine WK.scope ?_ | refine WK.inScope ?_ | refine WK.exit rfl ?_)
    first | refine WK.reg 200 Try.ntmps5 (by kernel_rfl) ?_ | refine WK.regD 200 clsOf (by kernel_rfl) Try.ntmps5 (by kernel_rfl) (by kernel_rfl) ?_
    intro A hA Q hQ
    have hg3 : (A[3]?).bind (·.dst) = some 11 := by rw [hA]; rfl
    simp [hg3]
    refine RunQ.call rfl rfl rfl rfl (by rfl) (by simp (maxDischargeDepth := 120) [pa, hg3]) (pFlow_c a) (by simp [pa, hg3]) ?_
    refine RunQ.eval ?_
    simp [pa, hg3]
    refine RunQ.callG rfl rfl (by simp [pb, hg3]) rfl (by rfl) (by simp (maxDischargeDepth := 120) [pb, hg3]) (pFlow_c b) (by simp [pb, hg3]) ?_
    refine RunQ.eval ?_
    simp [pb, hg3]
    refine hQ _ _ ?_
    clear hQ hA
    repeat (first | refine WK.seq ?_ | refine WK.block ?_ | refine WK.inBlock ?_ | refine WK.skip ?_ | refine WK.label ?_ | refine WK.scope ?_ | refine WK.inScope ?_ | refine WK.exit rfl ?_)
    refine WK.cond2 rfl (fun hh => ?_) (fun hh => ?_)
    · repeat (first | refine WK.seq ?_ | refine WK.block ?_ | refine WK.inBlock ?_ | refine WK.skip ?_ | refine WK.label ?_ | refine WK.scope ?_ | refine WK.inScope ?_ | refine WK.exit rfl ?_)
      first | refine WK.reg 300 Try.ntmps5 (by kernel_rfl) ?_ | refine WK.regD 300 clsOf (by kernel_rfl) Try.ntmps5 (by kernel_rfl) (by kernel_rfl) ?_
      intro A hA Q hQ
      simp
      refine RunQ.call rfl rfl rfl rfl (by rfl) (by simp (maxDischargeDepth := 120)) (awake21_c) (by simp) ?_
      refine RunQ.eval ?_
      simp
      refine hQ _ _ ?_
      clear hQ hA
      repeat (first | refine WK.seq ?_ | refine WK.block ?_ | refine WK.inBlock ?_ | refine WK.skip ?_ | refine WK.label ?_ | refine WK.scope ?_ | refine WK.inScope ?_ | refine WK.exit rfl ?_)
      refine WK.ret Try.func5 (by simp (maxDischargeDepth := 120) [Try.results5]) (by simp)
    · cases hh
  have ha := (plain_ok pa).ok
  have hb := (plain_ok pb).ok
  have eo := overlap_comm a b
  have el := alike_comm a b
  cases kl : Flow.alike a b
  · cases kp : a.prio == b.prio
    · refine FnP.intro Try.func5 rfl rfl fun G w => ?_
      repeat (first | refine WK.seq ?_ | refine WK.block ?_ | refine WK.inBlock ?_ | refine WK.skip ?_ | refine WK.label ?_ | refine WK.scope ?_ | refine WK.inScope ?_ | refine WK.exit rfl ?_)
      first | refine WK.reg 100 Try.ntmps5 (by kernel_rfl) ?_ | refine WK.regD 100 clsOf (by kernel_rfl) Try.ntmps5 (by kernel_rfl) (by kernel_rfl) ?_
      intro A hA Q hQ
      simp
      refine hQ _ _ ?_
      clear hQ hA
      repeat (first | refine WK.seq ?_ | refine WK.block ?_ | refine WK.inBlock ?_ | refine WK.skip ?_ | refine WK.label ?_ | refine WK.scope ?_ | refine WK.inScope ?_ | refine WK.exit rfl ?_)
      first | refine WK.reg 200 Try.ntmps5 (by kernel_rfl) ?_ | refine WK.regD 200 clsOf (by kernel_rfl) Try.ntmps5 (by kernel_rfl) (by kernel_rfl) ?_
      intro A hA Q hQ
      have hg3 : (A[3]?).bind (·.dst) = some 11 := by rw [hA]; rfl
      simp [hg3]
      refine RunQ.call rfl rfl rfl rfl (by rfl) (by simp (maxDischargeDepth := 120) [pa, hg3]) (pFlow_c a) (by simp [pa, hg3]) ?_
      refine RunQ.eval ?_
      simp [pa, hg3]
      refine RunQ.callG rfl rfl (by simp [pb, hg3]) rfl (by rfl) (by simp (maxDischargeDepth := 120) [pb, hg3]) (pFlow_c b) (by simp [pb, hg3]) ?_
      refine RunQ.eval ?_
      simp [pb, hg3]
      refine hQ _ _ ?_
      clear hQ hA
      repeat (first | refine WK.seq ?_ | refine WK.block ?_ | refine WK.inBlock ?_ | refine WK.skip ?_ | refine WK.label ?_ | refine WK.scope ?_ | refine WK.inScope ?_ | refine WK.exit rfl ?_)
      refine WK.cond2 rfl (fun hh => ?_) (fun hh => ?_)
      · cases hh
      repeat (first | refine WK.seq ?_ | refine WK.block ?_ | refine WK.inBlock ?_ | refine WK.skip ?_ | refine WK.label ?_ | refine WK.scope ?_ | refine WK.inScope ?_ | refine WK.exit rfl ?_)
      first | refine WK.reg 300 Try.ntmps5 (by kernel_rfl) ?_ | refine WK.regD 300 clsOf (by kernel_rfl) Try.ntmps5 (by kernel_rfl) (by kernel_rfl) ?_
      intro A hA Q hQ
      have hg5 : (A[5]?).bind (·.dst) = some 22 := by rw [hA]; rfl
      have hg11 : (A[11]?).bind (·.dst) = some 28 := by rw [hA]; rfl
      simp [Flow.enc, kp, hg5, hg11]
      refine hQ _ _ ?_
      clear hQ hA
      repeat (first | refine WK.seq ?_ | refine WK.block ?_ | refine WK.inBlock ?_ | refine WK.skip ?_ | refine WK.label ?_ | refine WK.scope ?_ | refine WK.inScope ?_ | refine WK.exit rfl ?_)
      first | refine WK.reg 400 Try.ntmps5 (by kernel_rfl) ?_ | refine WK.regD 400 clsOf (by kernel_rfl) Try.ntmps5 (by kernel_rfl) (by kernel_rfl) ?_
      intro A hA Q hQ
      have hg1 : (A[1]?).bind (·.dst) = some 35 := by rw [hA]; rfl
      have hg7 : (A[7]?).bind (·.dst) = some 41 := by rw [hA]; rfl
      have hg16 : (A[16]?).bind (·.dst) = some 50 := by rw [hA]; rfl
      simp [hg1, hg7, hg16]
      refine RunQ.callG rfl rfl (by simp [Flow.enc, hg7, hg16]) rfl (by rfl) (by simp (maxDischargeDepth := 120) [Flow.enc, hg7, hg16]) (overlap_c a b ha hb) (by simp [Flow.enc, hg7, hg16]) ?_
      refine RunQ.eval ?_
      simp [Flow.enc, hg7, hg16]
      refine RunQ.callG rfl rfl (by simp [Flow.enc, eo, hg7, hg16]) rfl (by rfl) (by simp (maxDischargeDepth := 120) [Flow.enc, eo, hg7, hg16]) (overlap_c b a hb ha) (by simp [Flow.enc, eo, hg7, hg16]) ?_
      refine RunQ.eval ?_
      simp [Flow.enc, eo, hg7, hg16]
      refine RunQ.callG rfl rfl (by simp [Flow.enc, hg7, hg16]) rfl (by rfl) (by simp (maxDischargeDepth := 120) [Flow.enc, hg7, hg16]) (alike_c a b ha hb) (by simp [Flow.enc, hg7, hg16]) ?_
      refine RunQ.eval ?_
      simp [Flow.enc, hg7, hg16]
      refine RunQ.callG rfl rfl (by simp [Flow.enc, el, hg7, hg16]) rfl (by rfl) (by simp (maxDischargeDepth := 120) [Flow.enc, el, hg7, hg16]) (alike_c b a hb ha) (by simp [Flow.enc, el, hg7, hg16]) ?_
      refine RunQ.eval ?_
      simp [Flow.enc, el, hg7, hg16]
      refine hQ _ _ ?_
      clear hQ hA
      repeat (first | refine WK.seq ?_ | refine WK.block ?_ | refine WK.inBlock ?_ | refine WK.skip ?_ | refine WK.label ?_ | refine WK.scope ?_ | refine WK.inScope ?_ | refine WK.exit rfl ?_)
      refine WK.cond2 rfl (fun hh => ?_) (fun hh => ?_)
      · simp at hh
      repeat (first | refine WK.seq ?_ | refine WK.block ?_ | refine WK.inBlock ?_ | refine WK.skip ?_ | refine WK.label ?_ | refine WK.scope ?_ | refine WK.inScope ?_ | refine WK.exit rfl ?_)
      first | refine WK.reg 500 Try.ntmps5 (by kernel_rfl) ?_ | refine WK.regD 500 clsOf (by kernel_rfl) Try.ntmps5 (by kernel_rfl) (by kernel_rfl) ?_
      intro A hA Q hQ
      have hg4 : (A[4]?).bind (·.dst) = some 63 := by rw [hA]; rfl
      have hg8 : (A[8]?).bind (·.dst) = some 67 := by rw [hA]; rfl
      have hg14 : (A[14]?).bind (·.dst) = some 73 := by rw [hA]; rfl
      have hg21 : (A[21]?).bind (·.dst) = some 80 := by rw [hA]; rfl
      simp [hg4, hg8, hg14, hg21]
      refine RunQ.call rfl rfl rfl rfl (by rfl) (by simp (maxDischargeDepth := 120) [Flow.enc, kl, hg4, hg8, hg14, hg21]) (alike_c a b ha hb) (by simp [Flow.enc, kl, hg4, hg8, hg14, hg21]) ?_
      refine RunQ.eval ?_
      simp [Flow.enc, kl, hg4, hg8, hg14, hg21]
      refine RunQ.callG rfl rfl (by simp [hg4, hg21]) rfl (by rfl) (by simp (maxDischargeDepth := 120) [hg4, hg21]) (awake21_c) (by simp [hg4, hg21]) ?_
      refine RunQ.eval ?_
      simp [hg4, hg21]
      refine hQ _ _ ?_
      clear hQ hA
      repeat (first | refine WK.seq ?_ | refine WK.block ?_ | refine WK.inBlock ?_ | refine WK.skip ?_ | refine WK.label ?_ | refine WK.scope ?_ | refine WK.inScope ?_ | refine WK.exit rfl ?_)
      refine WK.ret Try.func5 (by simp (maxDischargeDepth := 120) [Try.results5]) (by simp)
    cases k1 : cubeHas (Flow.cube a) h
    · refine FnP.intro Try.func5 rfl rfl fun G w => ?_
      repeat (first | refine WK.seq ?_ | refine WK.block ?_ | refine WK.inBlock ?_ | refine WK.skip ?_ | refine WK.label ?_ | refine WK.scope ?_ | refine WK.inScope ?_ | refine WK.exit rfl ?_)
      first | refine WK.reg 100 Try.ntmps5 (by kernel_rfl) ?_ | refine WK.regD 100 clsOf (by kernel_rfl) Try.ntmps5 (by kernel_rfl) (by kernel_rfl) ?_
      intro A hA Q hQ
      simp
      refine hQ _ _ ?_
      clear hQ hA
      repeat (first | refine WK.seq ?_ | refine WK.block ?_ | refine WK.inBlock ?_ | refine WK.skip ?_ | refine WK.label ?_ | refine WK.scope ?_ | refine WK.inScope ?_ | refine WK.exit rfl ?_)
      first | refine WK.reg 200 Try.ntmps5 (by kernel_rfl) ?_ | refine WK.regD 200 clsOf (by kernel_rfl) Try.ntmps5 (by kernel_rfl) (by kernel_rfl) ?_
      intro A hA Q hQ
      have hg3 : (A[3]?).bind (·.dst) = some 11 := by rw [hA]; rfl
      simp [hg3]
      refine RunQ.call rfl rfl rfl rfl (by rfl) (by simp (maxDischargeDepth := 120) [pa, hg3]) (pFlow_c a) (by simp [pa, hg3]) ?_
      refine RunQ.eval ?_
      simp [pa, hg3]
      refine RunQ.callG rfl rfl (by simp [pb, hg3]) rfl (by rfl) (by simp (maxDischargeDepth := 120) [pb, hg3]) (pFlow_c b) (by simp [pb, hg3]) ?_
      refine RunQ.eval ?_
      simp [pb, hg3]
      refine hQ _ _ ?_
      clear hQ hA
      repeat (first | refine WK.seq ?_ | refine WK.block ?_ | refine WK.inBlock ?_ | refine WK.skip ?_ | refine WK.label ?_ | refine WK.scope ?_ | refine WK.inScope ?_ | refine WK.exit rfl ?_)
      refine WK.cond2 rfl (fun hh => ?_) (fun hh => ?_)
      · cases hh
      repeat (first | refine WK.seq ?_ | refine WK.block ?_ | refine WK.inBlock ?_ | refine WK.skip ?_ | refine WK.label ?_ | refine WK.scope ?_ | refine WK.inScope ?_ | refine WK.exit rfl ?_)
      first | refine WK.reg 300 Try.ntmps5 (by kernel_rfl) ?_ | refine WK.regD 300 clsOf (by kernel_rfl) Try.ntmps5 (by kernel_rfl) (by kernel_rfl) ?_
      intro A hA Q hQ
      have hg5 : (A[5]?).bind (·.dst) = some 22 := by rw [hA]; rfl
      have hg11 : (A[11]?).bind (·.dst) = some 28 := by rw [hA]; rfl
      simp [Flow.enc, kp, hg5, hg11]
      refine RunQ.callG rfl rfl (by simp [Flow.enc, hg5, hg11]) rfl (by rfl) (by simp (maxDischargeDepth := 120) [Flow.enc, hg5, hg11]) (fcube_c a ha.mat) (by simp [Flow.enc, hg5, hg11]) ?_
      refine RunQ.eval ?_
      simp [Flow.enc, hg5, hg11]
      refine RunQ.callG rfl rfl (by simp [Flow.enc, k1, hg5, hg11]) rfl (by rfl) (by simp (maxDischargeDepth := 120) [Flow.enc, k1, hg5, hg11]) (chas_c (Flow.cube a) h) (by simp [Flow.enc, k1, hg5, hg11]) ?_
      refine RunQ.eval ?_
      simp [Flow.enc, k1, hg5, hg11]
      refine hQ _ _ ?_
      clear hQ hA
      repeat (first | refine WK.seq ?_ | refine WK.block ?_ | refine WK.inBlock ?_ | refine WK.skip ?_ | refine WK.label ?_ | refine WK.scope ?_ | refine WK.inScope ?_ | refine WK.exit rfl ?_)
      first | refine WK.reg 400 Try.ntmps5 (by kernel_rfl) ?_ | refine WK.regD 400 clsOf (by kernel_rfl) Try.ntmps5 (by kernel_rfl) (by kernel_rfl) ?_
      intro A hA Q hQ
      have hg1 : (A[1]?).bind (·.dst) = some 35 := by rw [hA]; rfl
      have hg7 : (A[7]?).bind (·.dst) = some 41 := by rw [hA]; rfl
      have hg16 : (A[16]?).bind (·.dst) = some 50 := by rw [hA]; rfl
      simp [hg1, hg7, hg16]
      refine RunQ.callG rfl rfl (by simp [Flow.enc, hg7, hg16]) rfl (by rfl) (by simp (maxDischargeDepth := 120) [Flow.enc, hg7, hg16]) (overlap_c a b ha hb) (by simp [Flow.enc, hg7, hg16]) ?_
      refine RunQ.eval ?_
      simp [Flow.enc, hg7, hg16]
      refine RunQ.callG rfl rfl (by simp [Flow.enc, eo, hg7, hg16]) rfl (by rfl) (by simp (maxDischargeDepth := 120) [Flow.enc, eo, hg7, hg16]) (overlap_c b a hb ha) (by simp [Flow.enc, eo, hg7, hg16]) ?_
      refine RunQ.eval ?_
      simp [Flow.enc, eo, hg7, hg16]
      refine RunQ.callG rfl rfl (by simp [Flow.enc, hg7, hg16]) rfl (by rfl) (by simp (maxDischargeDepth := 120) [Flow.enc, hg7, hg16]) (alike_c a b ha hb) (by simp [Flow.enc, hg7, hg16]) ?_
      refine RunQ.eval ?_
      simp [Flow.enc, hg7, hg16]
      refine RunQ.callG rfl rfl (by simp [Flow.enc, el, hg7, hg16]) rfl (by rfl) (by simp (maxDischargeDepth := 120) [Flow.enc, el, hg7, hg16]) (alike_c b a hb ha) (by simp [Flow.enc, el, hg7, hg16]) ?_
      refine RunQ.eval ?_
      simp [Flow.enc, el, hg7, hg16]
      refine hQ _ _ ?_
      clear hQ hA
      repeat (first | refine WK.seq ?_ | refine WK.block ?_ | refine WK.inBlock ?_ | refine WK.skip ?_ | refine WK.label ?_ | refine WK.scope ?_ | refine WK.inScope ?_ | refine WK.exit rfl ?_)
      refine WK.cond2 rfl (fun hh => ?_) (fun hh => ?_)
      · simp at hh
      repeat (first | refine WK.seq ?_ | refine WK.block ?_ | refine WK.inBlock ?_ | refine WK.skip ?_ | refine WK.label ?_ | refine WK.scope ?_ | refine WK.inScope ?_ | refine WK.exit rfl ?_)
      first | refine WK.reg 500 Try.ntmps5 (by kernel_rfl) ?_ | refine WK.regD 500 clsOf (by kernel_rfl) Try.ntmps5 (by kernel_rfl) (by kernel_rfl) ?_
      intro A hA Q hQ
      have hg4 : (A[4]?).bind (·.dst) = some 63 := by rw [hA]; rfl
      have hg8 : (A[8]?).bind (·.dst) = some 67 := by rw [hA]; rfl
      have hg14 : (A[14]?).bind (·.dst) = some 73 := by rw [hA]; rfl
      have hg21 : (A[21]?).bind (·.dst) = some 80 := by rw [hA]; rfl
      simp [hg4, hg8, hg14, hg21]
      refine RunQ.call rfl rfl rfl rfl (by rfl) (by simp (maxDischargeDepth := 120) [Flow.enc, kl, hg4, hg8, hg14, hg21]) (alike_c a b ha hb) (by simp [Flow.enc, kl, hg4, hg8, hg14, hg21]) ?_
      refine RunQ.eval ?_
      simp [Flow.enc, kl, hg4, hg8, hg14, hg21]
      refine RunQ.callG rfl rfl (by simp [hg4, hg21]) rfl (by rfl) (by simp (maxDischargeDepth := 120) [hg4, hg21]) (awake21_c) (by simp [hg4, hg21]) ?_
      refine RunQ.eval ?_
      simp [hg4, hg21]
      refine hQ _ _ ?_
      clear hQ hA
      repeat (first | refine WK.seq ?_ | refine WK.block ?_ | refine WK.inBlock ?_ | refine WK.skip ?_ | refine WK.label ?_ | refine WK.scope ?_ | refine WK.inScope ?_ | refine WK.exit rfl ?_)
      refine WK.ret Try.func5 (by simp (maxDischargeDepth := 120) [Try.results5]) (by simp)
    cases k2 : cubeHas (Flow.cube b) h
    · refine FnP.intro Try.func5 rfl rfl fun G w => ?_
      repeat (first | refine WK.seq ?_ | refine WK.block ?_ | refine WK.inBlock ?_ | refine WK.skip ?_ | refine WK.label ?_ | refine WK.scope ?_ | refine WK.inScope ?_ | refine WK.exit rfl ?_)
      first | refine WK.reg 100 Try.ntmps5 (by kernel_rfl) ?_ | refine WK.regD 100 clsOf (by kernel_rfl) Try.ntmps5 (by kernel_rfl) (by kernel_rfl) ?_
      intro A hA Q hQ
      simp
      refine hQ _ _ ?_
      clear hQ hA
      repeat (first | refine WK.seq ?_ | refine WK.block ?_ | refine WK.inBlock ?_ | refine WK.skip ?_ | refine WK.label ?_ | refine WK.scope ?_ | refine WK.inScope ?_ | refine WK.exit rfl ?_)
      first | refine WK.reg 200 Try.ntmps5 (by kernel_rfl) ?_ | refine WK.regD 200 clsOf (by kernel_rfl) Try.ntmps5 (by kernel_rfl) (by kernel_rfl) ?_
      intro A hA Q hQ
      have hg3 : (A[3]?).bind (·.dst) = some 11 := by rw [hA]; rfl
      simp [hg3]
      refine RunQ.call rfl rfl rfl rfl (by rfl) (by simp (maxDischargeDepth := 120) [pa, hg3]) (pFlow_c a) (by simp [pa, hg3]) ?_
      refine RunQ.eval ?_
      simp [pa, hg3]
      refine RunQ.callG rfl rfl (by simp [pb, hg3]) rfl (by rfl) (by simp (maxDischargeDepth := 120) [pb, hg3]) (pFlow_c b) (by simp [pb, hg3]) ?_
      refine RunQ.eval ?_
      simp [pb, hg3]
      refine hQ _ _ ?_
      clear hQ hA
      repeat (first | refine WK.seq ?_ | refine WK.block ?_ | refine WK.inBlock ?_ | refine WK.skip ?_ | refine WK.label ?_ | refine WK.scope ?_ | refine WK.inScope ?_ | refine WK.exit rfl ?_)
      refine WK.cond2 rfl (fun hh => ?_) (fun hh => ?_)
      · cases hh
      repeat (first | refine WK.seq ?_ | refine WK.block ?_ | refine WK.inBlock ?_ | refine WK.skip ?_ | refine WK.label ?_ | refine WK.scope ?_ | refine WK.inScope ?_ | refine WK.exit rfl ?_)
      first | refine WK.reg 300 Try.ntmps5 (by kernel_rfl) ?_ | refine WK.regD 300 clsOf (by kernel_rfl) Try.ntmps5 (by kernel_rfl) (by kernel_rfl) ?_
      intro A hA Q hQ
      have hg5 : (A[5]?).bind (·.dst) = some 22 := by rw [hA]; rfl
      have hg11 : (A[11]?).bind (·.dst) = some 28 := by rw [hA]; rfl
      simp [Flow.enc, kp, hg5, hg11]
      refine RunQ.callG rfl rfl (by simp [Flow.enc, hg5, hg11]) rfl (by rfl) (by simp (maxDischargeDepth := 120) [Flow.enc, hg5, hg11]) (fcube_c a ha.mat) (by simp [Flow.enc, hg5, hg11]) ?_
      refine RunQ.eval ?_
      simp [Flow.enc, hg5, hg11]
      refine RunQ.callG rfl rfl (by simp [Flow.enc, k1, hg5, hg11]) rfl (by rfl) (by simp (maxDischargeDepth := 120) [Flow.enc, k1, hg5, hg11]) (chas_c (Flow.cube a) h) (by simp [Flow.enc, k1, hg5, hg11]) ?_
      refine RunQ.eval ?_
      simp [Flow.enc, k1, hg5, hg11]
      refine RunQ.callG rfl rfl (by simp [Flow.enc, hg5, hg11]) rfl (by rfl) (by simp (maxDischargeDepth := 120) [Flow.enc, hg5, hg11]) (fcube_c b hb.mat) (by simp [Flow.enc, hg5, hg11]) ?_
      refine RunQ.eval ?_
      simp [Flow.enc, hg5, hg11]
      refine RunQ.callG rfl rfl (by simp [Flow.enc, k2, hg5, hg11]) rfl (by rfl) (by simp (maxDischargeDepth := 120) [Flow.enc, k2, hg5, hg11]) (chas_c (Flow.cube b) h) (by simp [Flow.enc, k2, hg5, hg11]) ?_
      refine RunQ.eval ?_
      simp [Flow.enc, k2, hg5, hg11]
      refine hQ _ _ ?_
      clear hQ hA
      repeat (first | refine WK.seq ?_ | refine WK.block ?_ | refine WK.inBlock ?_ | refine WK.skip ?_ | refine WK.label ?_ | refine WK.scope ?_ | refine WK.inScope ?_ | refine WK.exit rfl ?_)
      first | refine WK.reg 400 Try.ntmps5 (by kernel_rfl) ?_ | refine WK.regD 400 clsOf (by kernel_rfl) Try.ntmps5 (by kernel_rfl) (by kernel_rfl) ?_
      intro A hA Q hQ
      have hg1 : (A[1]?).bind (·.dst) = some 35 := by rw [hA]; rfl
      have hg7 : (A[7]?).bind (·.dst) = some 41 := by rw [hA]; rfl
      have hg16 : (A[16]?).bind (·.dst) = some 50 := by rw [hA]; rfl
      simp [hg1, hg7, hg16]
      refine RunQ.callG rfl rfl (by simp [Flow.enc, hg7, hg16]) rfl (by rfl) (by simp (maxDischargeDepth := 120) [Flow.enc, hg7, hg16]) (overlap_c a b ha hb) (by simp [Flow.enc, hg7, hg16]) ?_
      refine RunQ.eval ?_
      simp [Flow.enc, hg7, hg16]
      refine RunQ.callG rfl rfl (by simp [Flow.enc, eo, hg7, hg16]) rfl (by rfl) (by simp (maxDischargeDepth := 120) [Flow.enc, eo, hg7, hg16]) (overlap_c b a hb ha) (by simp [Flow.enc, eo, hg7, hg16]) ?_
      refine RunQ.eval ?_
      simp [Flow.enc, eo, hg7, hg16]
      refine RunQ.callG rfl rfl (by simp [Flow.enc, hg7, hg16]) rfl (by rfl) (by simp (maxDischargeDepth := 120) [Flow.enc, hg7, hg16]) (alike_c a b ha hb) (by simp [Flow.enc, hg7, hg16]) ?_
      refine RunQ.eval ?_
      simp [Flow.enc, hg7, hg16]
      refine RunQ.callG rfl rfl (by simp [Flow.enc, el, hg7, hg16]) rfl (by rfl) (by simp (maxDischargeDepth := 120) [Flow.enc, el, hg7, hg16]) (alike_c b a hb ha) (by simp [Flow.enc, el, hg7, hg16]) ?_
      refine RunQ.eval ?_
      simp [Flow.enc, el, hg7, hg16]
      refine hQ _ _ ?_
      clear hQ hA
      repeat (first | refine WK.seq ?_ | refine WK.block ?_ | refine WK.inBlock ?_ | refine WK.skip ?_ | refine WK.label ?_ | refine WK.scope ?_ | refine WK.inScope ?_ | refine WK.exit rfl ?_)
      refine WK.cond2 rfl (fun hh => ?_) (fun hh => ?_)
      · simp at hh
      repeat (first | refine WK.seq ?_ | refine WK.block ?_ | refine WK.inBlock ?_ | refine WK.skip ?_ | refine WK.label ?_ | refine WK.scope ?_ | refine WK.inScope ?_ | refine WK.exit rfl ?_)
      first | refine WK.reg 500 Try.ntmps5 (by kernel_rfl) ?_ | refine WK.regD 500 clsOf (by kernel_rfl) Try.ntmps5 (by kernel_rfl) (by kernel_rfl) ?_
      intro A hA Q hQ
      have hg4 : (A[4]?).bind (·.dst) = some 63 := by rw [hA]; rfl
      have hg8 : (A[8]?).bind (·.dst) = some 67 := by rw [hA]; rfl
      have hg14 : (A[14]?).bind (·.dst) = some 73 := by rw [hA]; rfl
      have hg21 : (A[21]?).bind (·.dst) = some 80 := by rw [hA]; rfl
      simp [hg4, hg8, hg14, hg21]
      refine RunQ.call rfl rfl rfl rfl (by rfl) (by simp (maxDischargeDepth := 120) [Flow.enc, kl, hg4, hg8, hg14, hg21]) (alike_c a b ha hb) (by simp [Flow.enc, kl, hg4, hg8, hg14, hg21]) ?_
      refine RunQ.eval ?_
      simp [Flow.enc, kl, hg4, hg8, hg14, hg21]
      refine RunQ.callG rfl rfl (by simp [hg4, hg21]) rfl (by rfl) (by simp (maxDischargeDepth := 120) [hg4, hg21]) (awake21_c) (by simp [hg4, hg21]) ?_
      refine RunQ.eval ?_
      simp [hg4, hg21]
      refine hQ _ _ ?_
      clear hQ hA
      repeat (first | refine WK.seq ?_ | refine WK.block ?_ | refine WK.inBlock ?_ | refine WK.skip ?_ | refine WK.label ?_ | refine WK.scope ?_ | refine WK.inScope ?_ | refine WK.exit rfl ?_)
      refine WK.ret Try.func5 (by simp (maxDischargeDepth := 120) [Try.results5]) (by simp)
    have ko := both_overlap kp k1 k2
    refine FnP.intro Try.func5 rfl rfl fun G w => ?_
    repeat (first | refine WK.seq ?_ | refine WK.block ?_ | refine WK.inBlock ?_ | refine WK.skip ?_ | refine WK.label ?_ | refine WK.scope ?_ | refine WK.inScope ?_ | refine WK.exit rfl ?_)
    first | refine WK.reg 100 Try.ntmps5 (by kernel_rfl) ?_ | refine WK.regD 100 clsOf (by kernel_rfl) Try.ntmps5 (by kernel_rfl) (by kernel_rfl) ?_
    intro A hA Q hQ
    simp
    refine hQ _ _ ?_
    clear hQ hA
    repeat (first | refine WK.seq ?_ | refine WK.block ?_ | refine WK.inBlock ?_ | refine WK.skip ?_ | refine WK.label ?_ | refine WK.scope ?_ | refine WK.inScope ?_ | refine WK.exit rfl ?_)
    first | refine WK.reg 200 Try.ntmps5 (by kernel_rfl) ?_ | refine WK.regD 200 clsOf (by kernel_rfl) Try.ntmps5 (by kernel_rfl) (by kernel_rfl) ?_
    intro A hA Q hQ
    have hg3 : (A[3]?).bind (·.dst) = some 11 := by rw [hA]; rfl
    simp [hg3]
    refine RunQ.call rfl rfl rfl rfl (by rfl) (by simp (maxDischargeDepth := 120) [pa, hg3]) (pFlow_c a) (by simp [pa, hg3]) ?_
    refine RunQ.eval ?_
    simp [pa, hg3]
    refine RunQ.callG rfl rfl (by simp [pb, hg3]) rfl (by rfl) (by simp (maxDischargeDepth := 120) [pb, hg3]) (pFlow_c b) (by simp [pb, hg3]) ?_
    refine RunQ.eval ?_
    simp [pb, hg3]
    refine hQ _ _ ?_
    clear hQ hA
    repeat (first | refine WK.seq ?_ | refine WK.block ?_ | refine WK.inBlock ?_ | refine WK.skip ?_ | refine WK.label ?_ | refine WK.scope ?_ | refine WK.inScope ?_ | refine WK.exit rfl ?_)
    refine WK.cond2 rfl (fun hh => ?_) (fun hh => ?_)
    · cases hh
    repeat (first | refine WK.seq ?_ | refine WK.block ?_ | refine WK.inBlock ?_ | refine WK.skip ?_ | refine WK.label ?_ | refine WK.scope ?_ | refine WK.inScope ?_ | refine WK.exit rfl ?_)
    first | refine WK.reg 300 Try.ntmps5 (by kernel_rfl) ?_ | refine WK.regD 300 clsOf (by kernel_rfl) Try.ntmps5 (by kernel_rfl) (by kernel_rfl) ?_
    intro A hA Q hQ
    have hg5 : (A[5]?).bind (·.dst) = some 22 := by rw [hA]; rfl
    have hg11 : (A[11]?).bind (·.dst) = some 28 := by rw [hA]; rfl
    simp [Flow.enc, kp, hg5, hg11]
    refine RunQ.callG rfl rfl (by simp [Flow.enc, hg5, hg11]) rfl (by rfl) (by simp (maxDischargeDepth := 120) [Flow.enc, hg5, hg11]) (fcube_c a ha.mat) (by simp [Flow.enc, hg5, hg11]) ?_
    refine RunQ.eval ?_
    simp [Flow.enc, hg5, hg11]
    refine RunQ.callG rfl rfl (by simp [Flow.enc, k1, hg5, hg11]) rfl (by rfl) (by simp (maxDischargeDepth := 120) [Flow.enc, k1, hg5, hg11]) (chas_c (Flow.cube a) h) (by simp [Flow.enc, k1, hg5, hg11]) ?_
    refine RunQ.eval ?_
    simp [Flow.enc, k1, hg5, hg11]
    refine RunQ.callG rfl rfl (by simp [Flow.enc, hg5, hg11]) rfl (by rfl) (by simp (maxDischargeDepth := 120) [Flow.enc, hg5, hg11]) (fcube_c b hb.mat) (by simp [Flow.enc, hg5, hg11]) ?_
    refine RunQ.eval ?_
    simp [Flow.enc, hg5, hg11]
    refine RunQ.callG rfl rfl (by simp [Flow.enc, k2, hg5, hg11]) rfl (by rfl) (by simp (maxDischargeDepth := 120) [Flow.enc, k2, hg5, hg11]) (chas_c (Flow.cube b) h) (by simp [Flow.enc, k2, hg5, hg11]) ?_
    refine RunQ.eval ?_
    simp [Flow.enc, k2, hg5, hg11]
    refine hQ _ _ ?_
    clear hQ hA
    repeat (first | refine WK.seq ?_ | refine WK.block ?_ | refine WK.inBlock ?_ | refine WK.skip ?_ | refine WK.label ?_ | refine WK.scope ?_ | refine WK.inScope ?_ | refine WK.exit rfl ?_)
    first | refine WK.reg 400 Try.ntmps5 (by kernel_rfl) ?_ | refine WK.regD 400 clsOf (by kernel_rfl) Try.ntmps5 (by kernel_rfl) (by kernel_rfl) ?_
    intro A hA Q hQ
    have hg1 : (A[1]?).bind (·.dst) = some 35 := by rw [hA]; rfl
    have hg7 : (A[7]?).bind (·.dst) = some 41 := by rw [hA]; rfl
    have hg16 : (A[16]?).bind (·.dst) = some 50 := by rw [hA]; rfl
    simp [hg1, hg7, hg16]
    refine RunQ.callG rfl rfl (by simp [Flow.enc, ko, hg1, hg7, hg16]) rfl (by rfl) (by simp (maxDischargeDepth := 120) [Flow.enc, ko, hg1, hg7, hg16]) (overlap_c a b ha hb) (by simp [Flow.enc, ko, hg1, hg7, hg16]) ?_
    refine RunQ.eval ?_
    simp [Flow.enc, ko, hg1, hg7, hg16]
    refine RunQ.callG rfl rfl (by simp [Flow.enc, ko, hg7, hg16]) rfl (by rfl) (by simp (maxDischargeDepth := 120) [Flow.enc, ko, hg7, hg16]) (overlap_c a b ha hb) (by simp [Flow.enc, ko, hg7, hg16]) ?_
    refine RunQ.eval ?_
    simp [Flow.enc, ko, hg7, hg16]
    refine RunQ.callG rfl rfl (by simp [Flow.enc, eo, ko, hg7, hg16]) rfl (by rfl) (by simp (maxDischargeDepth := 120) [Flow.enc, eo, ko, hg7, hg16]) (overlap_c b a hb ha) (by simp [Flow.enc, eo, ko, hg7, hg16]) ?_
    refine RunQ.eval ?_
    simp [Flow.enc, eo, ko, hg7, hg16]
    refine RunQ.callG rfl rfl (by simp [Flow.enc, kl, hg7, hg16]) rfl (by rfl) (by simp (maxDischargeDepth := 120) [Flow.enc, kl, hg7, hg16]) (alike_c a b ha hb) (by simp [Flow.enc, kl, hg7, hg16]) ?_
    refine RunQ.eval ?_
    simp [Flow.enc, kl, hg7, hg16]
    refine RunQ.callG rfl rfl (by simp [Flow.enc, el, kl, hg7, hg16]) rfl (by rfl) (by simp (maxDischargeDepth := 120) [Flow.enc, el, kl, hg7, hg16]) (alike_c b a hb ha) (by simp [Flow.enc, el, kl, hg7, hg16]) ?_
    refine RunQ.eval ?_
    simp [Flow.enc, el, kl, hg7, hg16]
    refine hQ _ _ ?_
    clear hQ hA
    repeat (first | refine WK.seq ?_ | refine WK.block ?_ | refine WK.inBlock ?_ | refine WK.skip ?_ | refine WK.label ?_ | refine WK.scope ?_ | refine WK.inScope ?_ | refine WK.exit rfl ?_)
    refine WK.cond2 rfl (fun hh => ?_) (fun hh => ?_)
    · cases hh
    repeat (first | refine WK.seq ?_ | refine WK.block ?_ | refine WK.inBlock ?_ | refine WK.skip ?_ | refine WK.label ?_ | refine WK.scope ?_ | refine WK.inScope ?_ | refine WK.exit rfl ?_)
    first | refine WK.reg 500 Try.ntmps5 (by kernel_rfl) ?_ | refine WK.regD 500 clsOf (by kernel_rfl) Try.ntmps5 (by kernel_rfl) (by kernel_rfl) ?_
    intro A hA Q hQ
    have hg4 : (A[4]?).bind (·.dst) = some 63 := by rw [hA]; rfl
    have hg8 : (A[8]?).bind (·.dst) = some 67 := by rw [hA]; rfl
    have hg14 : (A[14]?).bind (·.dst) = some 73 := by rw [hA]; rfl
    have hg21 : (A[21]?).bind (·.dst) = some 80 := by rw [hA]; rfl
    simp [hg4, hg8, hg14, hg21]
    refine RunQ.call rfl rfl rfl rfl (by rfl) (by simp (maxDischargeDepth := 120) [Flow.enc, kl, hg4, hg8, hg14, hg21]) (alike_c a b ha hb) (by simp [Flow.enc, kl, hg4, hg8, hg14, hg21]) ?_
    refine RunQ.eval ?_
    simp [Flow.enc, kl, hg4, hg8, hg14, hg21]
    refine RunQ.callG rfl rfl (by simp [hg4, hg21]) rfl (by rfl) (by simp (maxDischargeDepth := 120) [hg4, hg21]) (awake21_c) (by simp [hg4, hg21]) ?_
    refine RunQ.eval ?_
    simp [hg4, hg21]
    refine hQ _ _ ?_
    clear hQ hA
    repeat (first | refine WK.seq ?_ | refine WK.block ?_ | refine WK.inBlock ?_ | refine WK.skip ?_ | refine WK.label ?_ | refine WK.scope ?_ | refine WK.inScope ?_ | refine WK.exit rfl ?_)
    refine WK.ret Try.func5 (by simp (maxDischargeDepth := 120) [Try.results5]) (by simp)
  obtain ⟨kp, ko, kw1, kw2⟩ := alike_covers kl
  cases k1 : cubeHas (Flow.cube a) h
  · refine FnP.intro Try.func5 rfl rfl fun G w => ?_
    repeat (first | refine WK.seq ?_ | refine WK.block ?_ | refine WK.inBlock ?_ | refine WK.skip ?_ | refine WK.label ?_ | refine WK.scope ?_ | refine WK.inScope ?_ | refine WK.exit rfl ?_)
    first | refine WK.reg 100 Try.ntmps5 (by kernel_rfl) ?_ | refine WK.regD 100 clsOf (by kernel_rfl) Try.ntmps5 (by kernel_rfl) (by kernel_rfl) ?_
    intro A hA Q hQ
    simp
    refine hQ _ _ ?_
    clear hQ hA
    repeat (first | refine WK.seq ?_ | refine WK.block ?_ | refine WK.inBlock ?_ | refine WK.skip ?_ | refine WK.label ?_ | refine WK.scope ?_ | refine WK.inScope ?_ | refine WK.exit rfl ?_)
    first | refine WK.reg 200 Try.ntmps5 (by kernel_rfl) ?_ | refine WK.regD 200 clsOf (by kernel_rfl) Try.ntmps5 (by kernel_rfl) (by kernel_rfl) ?_
    intro A hA Q hQ
    have hg3 : (A[3]?).bind (·.dst) = some 11 := by rw [hA]; rfl
    simp [hg3]
    refine RunQ.call rfl rfl rfl rfl (by rfl) (by simp (maxDischargeDepth := 120) [pa, hg3]) (pFlow_c a) (by simp [pa, hg3]) ?_
    refine RunQ.eval ?_
    simp [pa, hg3]
    refine RunQ.callG rfl rfl (by simp [pb, hg3]) rfl (by rfl) (by simp (maxDischargeDepth := 120) [pb, hg3]) (pFlow_c b) (by simp [pb, hg3]) ?_
    refine RunQ.eval ?_
    simp [pb, hg3]
    refine hQ _ _ ?_
    clear hQ hA
    repeat (first | refine WK.seq ?_ | refine WK.block ?_ | refine WK.inBlock ?_ | refine WK.skip ?_ | refine WK.label ?_ | refine WK.scope ?_ | refine WK.inScope ?_ | refine WK.exit rfl ?_)
    refine WK.cond2 rfl (fun hh => ?_) (fun hh => ?_)
    · cases hh
    repeat (first | refine WK.seq ?_ | refine WK.block ?_ | refine WK.inBlock ?_ | refine WK.skip ?_ | refine WK.label ?_ | refine WK.scope ?_ | refine WK.inScope ?_ | refine WK.exit rfl ?_)
    first | refine WK.reg 300 Try.ntmps5 (by kernel_rfl) ?_ | refine WK.regD 300 clsOf (by kernel_rfl) Try.ntmps5 (by kernel_rfl) (by kernel_rfl) ?_
    intro A hA Q hQ
    have hg5 : (A[5]?).bind (·.dst) = some 22 := by rw [hA]; rfl
    have hg11 : (A[11]?).bind (·.dst) = some 28 := by rw [hA]; rfl
    simp [Flow.enc, kp, hg5, hg11]
    refine RunQ.callG rfl rfl (by simp [Flow.enc, hg5, hg11]) rfl (by rfl) (by simp (maxDischargeDepth := 120) [Flow.enc, hg5, hg11]) (fcube_c a ha.mat) (by simp [Flow.enc, hg5, hg11]) ?_
    refine RunQ.eval ?_
    simp [Flow.enc, hg5, hg11]
    refine RunQ.callG rfl rfl (by simp [Flow.enc, k1, hg5, hg11]) rfl (by rfl) (by simp (maxDischargeDepth := 120) [Flow.enc, k1, hg5, hg11]) (chas_c (Flow.cube a) h) (by simp [Flow.enc, k1, hg5, hg11]) ?_
    refine RunQ.eval ?_
    simp [Flow.enc, k1, hg5, hg11]
    refine hQ _ _ ?_
    clear hQ hA
    repeat (first | refine WK.seq ?_ | refine WK.block ?_ | refine WK.inBlock ?_ | refine WK.skip ?_ | refine WK.label ?_ | refine WK.scope ?_ | refine WK.inScope ?_ | refine WK.exit rfl ?_)
    first | refine WK.reg 400 Try.ntmps5 (by kernel_rfl) ?_ | refine WK.regD 400 clsOf (by kernel_rfl) Try.ntmps5 (by kernel_rfl) (by kernel_rfl) ?_
    intro A hA Q hQ
    have hg1 : (A[1]?).bind (·.dst) = some 35 := by rw [hA]; rfl
    have hg7 : (A[7]?).bind (·.dst) = some 41 := by rw [hA]; rfl
    have hg16 : (A[16]?).bind (·.dst) = some 50 := by rw [hA]; rfl
    simp [hg1, hg7, hg16]
    refine RunQ.callG rfl rfl (by simp [Flow.enc, ko, hg7, hg16]) rfl (by rfl) (by simp (maxDischargeDepth := 120) [Flow.enc, ko, hg7, hg16]) (overlap_c a b ha hb) (by simp [Flow.enc, ko, hg7, hg16]) ?_
    refine RunQ.eval ?_
    simp [Flow.enc, ko, hg7, hg16]
    refine RunQ.callG rfl rfl (by simp [Flow.enc, eo, ko, hg7, hg16]) rfl (by rfl) (by simp (maxDischargeDepth := 120) [Flow.enc, eo, ko, hg7, hg16]) (overlap_c b a hb ha) (by simp [Flow.enc, eo, ko, hg7, hg16]) ?_
    refine RunQ.eval ?_
    simp [Flow.enc, eo, ko, hg7, hg16]
    refine RunQ.callG rfl rfl (by simp [Flow.enc, kl, hg7, hg16]) rfl (by rfl) (by simp (maxDischargeDepth := 120) [Flow.enc, kl, hg7, hg16]) (alike_c a b ha hb) (by simp [Flow.enc, kl, hg7, hg16]) ?_
    refine RunQ.eval ?_
    simp [Flow.enc, kl, hg7, hg16]
    refine RunQ.callG rfl rfl (by simp [Flow.enc, el, kl, hg7, hg16]) rfl (by rfl) (by simp (maxDischargeDepth := 120) [Flow.enc, el, kl, hg7, hg16]) (alike_c b a hb ha) (by simp [Flow.enc, el, kl, hg7, hg16]) ?_
    refine RunQ.eval ?_
    simp [Flow.enc, el, kl, hg7, hg16]
    refine hQ _ _ ?_
    clear hQ hA
    repeat (first | refine WK.seq ?_ | refine WK.block ?_ | refine WK.inBlock ?_ | refine WK.skip ?_ | refine WK.label ?_ | refine WK.scope ?_ | refine WK.inScope ?_ | refine WK.exit rfl ?_)
    refine WK.cond2 rfl (fun hh => ?_) (fun hh => ?_)
    · cases hh
    repeat (first | refine WK.seq ?_ | refine WK.block ?_ | refine WK.inBlock ?_ | refine WK.skip ?_ | refine WK.label ?_ | refine WK.scope ?_ | refine WK.inScope ?_ | refine WK.exit rfl ?_)
    first | refine WK.reg 500 Try.ntmps5 (by kernel_rfl) ?_ | refine WK.regD 500 clsOf (by kernel_rfl) Try.ntmps5 (by kernel_rfl) (by kernel_rfl) ?_
    intro A hA Q hQ
    have hg4 : (A[4]?).bind (·.dst) = some 63 := by rw [hA]; rfl
    have hg8 : (A[8]?).bind (·.dst) = some 67 := by rw [hA]; rfl
    have hg14 : (A[14]?).bind (·.dst) = some 73 := by rw [hA]; rfl
    have hg21 : (A[21]?).bind (·.dst) = some 80 := by rw [hA]; rfl
    simp [hg4, hg8, hg14, hg21]
    refine RunQ.call rfl rfl rfl rfl (by rfl) (by simp (maxDischargeDepth := 120) [Flow.enc, kl, hg4, hg8, hg14, hg21]) (alike_c a b ha hb) (by simp [Flow.enc, kl, hg4, hg8, hg14, hg21]) ?_
    refine RunQ.eval ?_
    simp [Flow.enc, kl, hg4, hg8, hg14, hg21]
    refine RunQ.callG rfl rfl (by simp [Flow.enc, ko, hg4, hg8, hg14, hg21]) rfl (by rfl) (by simp (maxDischargeDepth := 120) [Flow.enc, ko, hg4, hg8, hg14, hg21]) (overlap_c a b ha hb) (by simp [Flow.enc, ko, hg4, hg8, hg14, hg21]) ?_
    refine RunQ.eval ?_
    simp [Flow.enc, ko, hg4, hg8, hg14, hg21]
    refine RunQ.callG rfl rfl (by simp [Flow.enc, hg8, hg14, hg21]) rfl (by rfl) (by simp (maxDischargeDepth := 120) [Flow.enc, hg8, hg14, hg21]) (fcube_c a ha.mat) (by simp [Flow.enc, hg8, hg14, hg21]) ?_
    refine RunQ.eval ?_
    simp [Flow.enc, hg8, hg14, hg21]
    refine RunQ.callG rfl rfl (by simp [Flow.enc, kw1, hg4, hg8, hg14, hg21]) rfl (by rfl) (by simp (maxDischargeDepth := 120) [Flow.enc, kw1, hg4, hg8, hg14, hg21]) (covers_c (Flow.cube a) b hb) (by simp [Flow.enc, kw1, hg4, hg8, hg14, hg21]) ?_
    refine RunQ.eval ?_
    simp [Flow.enc, kw1, hg4, hg8, hg14, hg21]
    refine RunQ.callG rfl rfl (by simp [Flow.enc, hg8, hg14, hg21]) rfl (by rfl) (by simp (maxDischargeDepth := 120) [Flow.enc, hg8, hg14, hg21]) (fcube_c b hb.mat) (by simp [Flow.enc, hg8, hg14, hg21]) ?_
    refine RunQ.eval ?_
    simp [Flow.enc, hg8, hg14, hg21]
    refine RunQ.callG rfl rfl (by simp [Flow.enc, kw2, hg4, hg8, hg14, hg21]) rfl (by rfl) (by simp (maxDischargeDepth := 120) [Flow.enc, kw2, hg4, hg8, hg14, hg21]) (covers_c (Flow.cube b) a ha) (by simp [Flow.enc, kw2, hg4, hg8, hg14, hg21]) ?_
    refine RunQ.eval ?_
    simp [Flow.enc, kw2, hg4, hg8, hg14, hg21]
    refine RunQ.callG rfl rfl (by simp [hg4, hg21]) rfl (by rfl) (by simp (maxDischargeDepth := 120) [hg4, hg21]) (awake21_c) (by simp [hg4, hg21]) ?_
    refine RunQ.eval ?_
    simp [hg4, hg21]
    refine hQ _ _ ?_
    clear hQ hA
    repeat (first | refine WK.seq ?_ | refine WK.block ?_ | refine WK.inBlock ?_ | refine WK.skip ?_ | refine WK.label ?_ | refine WK.scope ?_ | refine WK.inScope ?_ | refine WK.exit rfl ?_)
    refine WK.ret Try.func5 (by simp (maxDischargeDepth := 120) [Try.results5]) (by simp)
  cases k2 : cubeHas (Flow.cube b) h
  · refine FnP.intro Try.func5 rfl rfl fun G w => ?_
    repeat (first | refine WK.seq ?_ | refine WK.block ?_ | refine WK.inBlock ?_ | refine WK.skip ?_ | refine WK.label ?_ | refine WK.scope ?_ | refine WK.inScope ?_ | refine WK.exit rfl ?_)
    first | refine WK.reg 100 Try.ntmps5 (by kernel_rfl) ?_ | refine WK.regD 100 clsOf (by kernel_rfl) Try.ntmps5 (by kernel_rfl) (by kernel_rfl) ?_
    intro A hA Q hQ
    simp
    refine hQ _ _ ?_
    clear hQ hA
    repeat (first | refine WK.seq ?_ | refine WK.block ?_ | refine WK.inBlock ?_ | refine WK.skip ?_ | refine WK.label ?_ | refine WK.scope ?_ | refine WK.inScope ?_ | refine WK.exit rfl ?_)
    first | refine WK.reg 200 Try.ntmps5 (by kernel_rfl) ?_ | refine WK.regD 200 clsOf (by kernel_rfl) Try.ntmps5 (by kernel_rfl) (by kernel_rfl) ?_
    intro A hA Q hQ
    have hg3 : (A[3]?).bind (·.dst) = some 11 := by rw [hA]; rfl
    simp [hg3]
    refine RunQ.call rfl rfl rfl rfl (by rfl) (by simp (maxDischargeDepth := 120) [pa, hg3]) (pFlow_c a) (by simp [pa, hg3]) ?_
    refine RunQ.eval ?_
    simp [pa, hg3]
    refine RunQ.callG rfl rfl (by simp [pb, hg3]) rfl (by rfl) (by simp (maxDischargeDepth := 120) [pb, hg3]) (pFlow_c b) (by simp [pb, hg3]) ?_
    refine RunQ.eval ?_
    simp [pb, hg3]
    refine hQ _ _ ?_
    clear hQ hA
    repeat (first | refine WK.seq ?_ | refine WK.block ?_ | refine WK.inBlock ?_ | refine WK.skip ?_ | refine WK.label ?_ | refine WK.scope ?_ | refine WK.inScope ?_ | refine WK.exit rfl ?_)
    refine WK.cond2 rfl (fun hh => ?_) (fun hh => ?_)
    · cases hh
    repeat (first | refine WK.seq ?_ | refine WK.block ?_ | refine WK.inBlock ?_ | refine WK.skip ?_ | refine WK.label ?_ | refine WK.scope ?_ | refine WK.inScope ?_ | refine WK.exit rfl ?_)
    first | refine WK.reg 300 Try.ntmps5 (by kernel_rfl) ?_ | refine WK.regD 300 clsOf (by kernel_rfl) Try.ntmps5 (by kernel_rfl) (by kernel_rfl) ?_
    intro A hA Q hQ
    have hg5 : (A[5]?).bind (·.dst) = some 22 := by rw [hA]; rfl
    have hg11 : (A[11]?).bind (·.dst) = some 28 := by rw [hA]; rfl
    simp [Flow.enc, kp, hg5, hg11]
    refine RunQ.callG rfl rfl (by simp [Flow.enc, hg5, hg11]) rfl (by rfl) (by simp (maxDischargeDepth := 120) [Flow.enc, hg5, hg11]) (fcube_c a ha.mat) (by simp [Flow.enc, hg5, hg11]) ?_
    refine RunQ.eval ?_
    simp [Flow.enc, hg5, hg11]
    refine RunQ.callG rfl rfl (by simp [Flow.enc, k1, hg5, hg11]) rfl (by rfl) (by simp (maxDischargeDepth := 120) [Flow.enc, k1, hg5, hg11]) (chas_c (Flow.cube a) h) (by simp [Flow.enc, k1, hg5, hg11]) ?_
    refine RunQ.eval ?_
    simp [Flow.enc, k1, hg5, hg11]
    refine RunQ.callG rfl rfl (by simp [Flow.enc, hg5, hg11]) rfl (by rfl) (by simp (maxDischargeDepth := 120) [Flow.enc, hg5, hg11]) (fcube_c b hb.mat) (by simp [Flow.enc, hg5, hg11]) ?_
    refine RunQ.eval ?_
    simp [Flow.enc, hg5, hg11]
    refine RunQ.callG rfl rfl (by simp [Flow.enc, k2, hg5, hg11]) rfl (by rfl) (by simp (maxDischargeDepth := 120) [Flow.enc, k2, hg5, hg11]) (chas_c (Flow.cube b) h) (by simp [Flow.enc, k2, hg5, hg11]) ?_
    refine RunQ.eval ?_
    simp [Flow.enc, k2, hg5, hg11]
    refine hQ _ _ ?_
    clear hQ hA
    repeat (first | refine WK.seq ?_ | refine WK.block ?_ | refine WK.inBlock ?_ | refine WK.skip ?_ | refine WK.label ?_ | refine WK.scope ?_ | refine WK.inScope ?_ | refine WK.exit rfl ?_)
    first | refine WK.reg 400 Try.ntmps5 (by kernel_rfl) ?_ | refine WK.regD 400 clsOf (by kernel_rfl) Try.ntmps5 (by kernel_rfl) (by kernel_rfl) ?_
    intro A hA Q hQ
    have hg1 : (A[1]?).bind (·.dst) = some 35 := by rw [hA]; rfl
    have hg7 : (A[7]?).bind (·.dst) = some 41 := by rw [hA]; rfl
    have hg16 : (A[16]?).bind (·.dst) = some 50 := by rw [hA]; rfl
    simp [hg1, hg7, hg16]
    refine RunQ.callG rfl rfl (by simp [Flow.enc, ko, hg7, hg16]) rfl (by rfl) (by simp (maxDischargeDepth := 120) [Flow.enc, ko, hg7, hg16]) (overlap_c a b ha hb) (by simp [Flow.enc, ko, hg7, hg16]) ?_
    refine RunQ.eval ?_
    simp [Flow.enc, ko, hg7, hg16]
    refine RunQ.callG rfl rfl (by simp [Flow.enc, eo, ko, hg7, hg16]) rfl (by rfl) (by simp (maxDischargeDepth := 120) [Flow.enc, eo, ko, hg7, hg16]) (overlap_c b a hb ha) (by simp [Flow.enc, eo, ko, hg7, hg16]) ?_
    refine RunQ.eval ?_
    simp [Flow.enc, eo, ko, hg7, hg16]
    refine RunQ.callG rfl rfl (by simp [Flow.enc, kl, hg7, hg16]) rfl (by rfl) (by simp (maxDischargeDepth := 120) [Flow.enc, kl, hg7, hg16]) (alike_c a b ha hb) (by simp [Flow.enc, kl, hg7, hg16]) ?_
    refine RunQ.eval ?_
    simp [Flow.enc, kl, hg7, hg16]
    refine RunQ.callG rfl rfl (by simp [Flow.enc, el, kl, hg7, hg16]) rfl (by rfl) (by simp (maxDischargeDepth := 120) [Flow.enc, el, kl, hg7, hg16]) (alike_c b a hb ha) (by simp [Flow.enc, el, kl, hg7, hg16]) ?_
    refine RunQ.eval ?_
    simp [Flow.enc, el, kl, hg7, hg16]
    refine hQ _ _ ?_
    clear hQ hA
    repeat (first | refine WK.seq ?_ | refine WK.block ?_ | refine WK.inBlock ?_ | refine WK.skip ?_ | refine WK.label ?_ | refine WK.scope ?_ | refine WK.inScope ?_ | refine WK.exit rfl ?_)
    refine WK.cond2 rfl (fun hh => ?_) (fun hh => ?_)
    · cases hh
    repeat (first | refine WK.seq ?_ | refine WK.block ?_ | refine WK.inBlock ?_ | refine WK.skip ?_ | refine WK.label ?_ | refine WK.scope ?_ | refine WK.inScope ?_ | refine WK.exit rfl ?_)
    first | refine WK.reg 500 Try.ntmps5 (by kernel_rfl) ?_ | refine WK.regD 500 clsOf (by kernel_rfl) Try.ntmps5 (by kernel_rfl) (by kernel_rfl) ?_
    intro A hA Q hQ
    have hg4 : (A[4]?).bind (·.dst) = some 63 := by rw [hA]; rfl
    have hg8 : (A[8]?).bind (·.dst) = some 67 := by rw [hA]; rfl
    have hg14 : (A[14]?).bind (·.dst) = some 73 := by rw [hA]; rfl
    have hg21 : (A[21]?).bind (·.dst) = some 80 := by rw [hA]; rfl
    simp [hg4, hg8, hg14, hg21]
    refine RunQ.call rfl rfl rfl rfl (by rfl) (by simp (maxDischargeDepth := 120) [Flow.enc, kl, hg4, hg8, hg14, hg21]) (alike_c a b ha hb) (by simp [Flow.enc, kl, hg4, hg8, hg14, hg21]) ?_
    refine RunQ.eval ?_
    simp [Flow.enc, kl, hg4, hg8, hg14, hg21]
    refine RunQ.callG rfl rfl (by simp [Flow.enc, ko, hg4, hg8, hg14, hg21]) rfl (by rfl) (by simp (maxDischargeDepth := 120) [Flow.enc, ko, hg4, hg8, hg14, hg21]) (overlap_c a b ha hb) (by simp [Flow.enc, ko, hg4, hg8, hg14, hg21]) ?_
    refine RunQ.eval ?_
    simp [Flow.enc, ko, hg4, hg8, hg14, hg21]
    refine RunQ.callG rfl rfl (by simp [Flow.enc, hg8, hg14, hg21]) rfl (by rfl) (by simp (maxDischargeDepth := 120) [Flow.enc, hg8, hg14, hg21]) (fcube_c a ha.mat) (by simp [Flow.enc, hg8, hg14, hg21]) ?_
    refine RunQ.eval ?_
    simp [Flow.enc, hg8, hg14, hg21]
    refine RunQ.callG rfl rfl (by simp [Flow.enc, kw1, hg4, hg8, hg14, hg21]) rfl (by rfl) (by simp (maxDischargeDepth := 120) [Flow.enc, kw1, hg4, hg8, hg14, hg21]) (covers_c (Flow.cube a) b hb) (by simp [Flow.enc, kw1, hg4, hg8, hg14, hg21]) ?_
    refine RunQ.eval ?_
    simp [Flow.enc, kw1, hg4, hg8, hg14, hg21]
    refine RunQ.callG rfl rfl (by simp [Flow.enc, hg8, hg14, hg21]) rfl (by rfl) (by simp (maxDischargeDepth := 120) [Flow.enc, hg8, hg14, hg21]) (fcube_c b hb.mat) (by simp [Flow.enc, hg8, hg14, hg21]) ?_
    refine RunQ.eval ?_
    simp [Flow.enc, hg8, hg14, hg21]
    refine RunQ.callG rfl rfl (by simp [Flow.enc, kw2, hg4, hg8, hg14, hg21]) rfl (by rfl) (by simp (maxDischargeDepth := 120) [Flow.enc, kw2, hg4, hg8, hg14, hg21]) (covers_c (Flow.cube b) a ha) (by simp [Flow.enc, kw2, hg4, hg8, hg14, hg21]) ?_
    refine RunQ.eval ?_
    simp [Flow.enc, kw2, hg4, hg8, hg14, hg21]
    refine RunQ.callG rfl rfl (by simp [hg4, hg21]) rfl (by rfl) (by simp (maxDischargeDepth := 120) [hg4, hg21]) (awake21_c) (by simp [hg4, hg21]) ?_
    refine RunQ.eval ?_
    simp [hg4, hg21]
    refine hQ _ _ ?_
    clear hQ hA
    repeat (first | refine WK.seq ?_ | refine WK.block ?_ | refine WK.inBlock ?_ | refine WK.skip ?_ | refine WK.label ?_ | refine WK.scope ?_ | refine WK.inScope ?_ | refine WK.exit rfl ?_)
    refine WK.ret Try.func5 (by simp (maxDischargeDepth := 120) [Try.results5]) (by simp)
  refine FnP.intro Try.func5 rfl rfl fun G w => ?_
  repeat (first | refine WK.seq ?_ | refine WK.block ?_ | refine WK.inBlock ?_ | refine WK.skip ?_ | refine WK.label ?_ | refine WK.scope ?_ | refine WK.inScope ?_ | refine WK.exit rfl ?_)
  first | refine WK.reg 100 Try.ntmps5 (by kernel_rfl) ?_ | refine WK.regD 100 clsOf (by kernel_rfl) Try.ntmps5 (by kernel_rfl) (by kernel_rfl) ?_
  intro A hA Q hQ
  simp
  refine hQ _ _ ?_
  clear hQ hA
  repeat (first | refine WK.seq ?_ | refine WK.block ?_ | refine WK.inBlock ?_ | refine WK.skip ?_ | refine WK.label ?_ | refine WK.scope ?_ | refine WK.inScope ?_ | refine WK.exit rfl ?_)
  first | refine WK.reg 200 Try.ntmps5 (by kernel_rfl) ?_ | refine WK.regD 200 clsOf (by kernel_rfl) Try.ntmps5 (by kernel_rfl) (by kernel_rfl) ?_
  intro A hA Q hQ
  have hg3 : (A[3]?).bind (·.dst) = some 11 := by rw [hA]; rfl
  simp [hg3]
  refine RunQ.call rfl rfl rfl rfl (by rfl) (by simp (maxDischargeDepth := 120) [pa, hg3]) (pFlow_c a) (by simp [pa, hg3]) ?_
  refine RunQ.eval ?_
  simp [pa, hg3]
  refine RunQ.callG rfl rfl (by simp [pb, hg3]) rfl (by rfl) (by simp (maxDischargeDepth := 120) [pb, hg3]) (pFlow_c b) (by simp [pb, hg3]) ?_
  refine RunQ.eval ?_
  simp [pb, hg3]
  refine hQ _ _ ?_
  clear hQ hA
  repeat (first | refine WK.seq ?_ | refine WK.block ?_ | refine WK.inBlock ?_ | refine WK.skip ?_ | refine WK.label ?_ | refine WK.scope ?_ | refine WK.inScope ?_ | refine WK.exit rfl ?_)
  refine WK.cond2 rfl (fun hh => ?_) (fun hh => ?_)
  · cases hh
  repeat (first | refine WK.seq ?_ | refine WK.block ?_ | refine WK.inBlock ?_ | refine WK.skip ?_ | refine WK.label ?_ | refine WK.scope ?_ | refine WK.inScope ?_ | refine WK.exit rfl ?_)
  first | refine WK.reg 300 Try.ntmps5 (by kernel_rfl) ?_ | refine WK.regD 300 clsOf (by kernel_rfl) Try.ntmps5 (by kernel_rfl) (by kernel_rfl) ?_
  intro A hA Q hQ
  have hg5 : (A[5]?).bind (·.dst) = some 22 := by rw [hA]; rfl
  have hg11 : (A[11]?).bind (·.dst) = some 28 := by rw [hA]; rfl
  simp [Flow.enc, kp, hg5, hg11]
  refine RunQ.callG rfl rfl (by simp [Flow.enc, hg5, hg11]) rfl (by rfl) (by simp (maxDischargeDepth := 120) [Flow.enc, hg5, hg11]) (fcube_c a ha.mat) (by simp [Flow.enc, hg5, hg11]) ?_
  refine RunQ.eval ?_
  simp [Flow.enc, hg5, hg11]
  refine RunQ.callG rfl rfl (by simp [Flow.enc, k1, hg5, hg11]) rfl (by rfl) (by simp (maxDischargeDepth := 120) [Flow.enc, k1, hg5, hg11]) (chas_c (Flow.cube a) h) (by simp [Flow.enc, k1, hg5, hg11]) ?_
  refine RunQ.eval ?_
  simp [Flow.enc, k1, hg5, hg11]
  refine RunQ.callG rfl rfl (by simp [Flow.enc, hg5, hg11]) rfl (by rfl) (by simp (maxDischargeDepth := 120) [Flow.enc, hg5, hg11]) (fcube_c b hb.mat) (by simp [Flow.enc, hg5, hg11]) ?_
  refine RunQ.eval ?_
  simp [Flow.enc, hg5, hg11]
  refine RunQ.callG rfl rfl (by simp [Flow.enc, k2, hg5, hg11]) rfl (by rfl) (by simp (maxDischargeDepth := 120) [Flow.enc, k2, hg5, hg11]) (chas_c (Flow.cube b) h) (by simp [Flow.enc, k2, hg5, hg11]) ?_
  refine RunQ.eval ?_
  simp [Flow.enc, k2, hg5, hg11]
  refine hQ _ _ ?_
  clear hQ hA
  repeat (first | refine WK.seq ?_ | refine WK.block ?_ | refine WK.inBlock ?_ | refine WK.skip ?_ | refine WK.label ?_ | refine WK.scope ?_ | refine WK.inScope ?_ | refine WK.exit rfl ?_)
  first | refine WK.reg 400 Try.ntmps5 (by kernel_rfl) ?_ | refine WK.regD 400 clsOf (by kernel_rfl) Try.ntmps5 (by kernel_rfl) (by kernel_rfl) ?_
  intro A hA Q hQ
  have hg1 : (A[1]?).bind (·.dst) = some 35 := by rw [hA]; rfl
  have hg7 : (A[7]?).bind (·.dst) = some 41 := by rw [hA]; rfl
  have hg16 : (A[16]?).bind (·.dst) = some 50 := by rw [hA]; rfl
  simp [hg1, hg7, hg16]
  refine RunQ.callG rfl rfl (by simp [Flow.enc, ko, hg1, hg7, hg16]) rfl (by rfl) (by simp (maxDischargeDepth := 120) [Flow.enc, ko, hg1, hg7, hg16]) (overlap_c a b ha hb) (by simp [Flow.enc, ko, hg1, hg7, hg16]) ?_
  refine RunQ.eval ?_
  simp [Flow.enc, ko, hg1, hg7, hg16]
  refine RunQ.callG rfl rfl (by simp [Flow.enc, ko, hg7, hg16]) rfl (by rfl) (by simp (maxDischargeDepth := 120) [Flow.enc, ko, hg7, hg16]) (overlap_c a b ha hb) (by simp [Flow.enc, ko, hg7, hg16]) ?_
  refine RunQ.eval ?_
  simp [Flow.enc, ko, hg7, hg16]
  refine RunQ.callG rfl rfl (by simp [Flow.enc, eo, ko, hg7, hg16]) rfl (by rfl) (by simp (maxDischargeDepth := 120) [Flow.enc, eo, ko, hg7, hg16]) (overlap_c b a hb ha) (by simp [Flow.enc, eo, ko, hg7, hg16]) ?_
  refine RunQ.eval ?_
  simp [Flow.enc, eo, ko, hg7, hg16]
  refine RunQ.callG rfl rfl (by simp [Flow.enc, kl, hg7, hg16]) rfl (by rfl) (by simp (maxDischargeDepth := 120) [Flow.enc, kl, hg7, hg16]) (alike_c a b ha hb) (by simp [Flow.enc, kl, hg7, hg16]) ?_
  refine RunQ.eval ?_
  simp [Flow.enc, kl, hg7, hg16]
  refine RunQ.callG rfl rfl (by simp [Flow.enc, el, kl, hg7, hg16]) rfl (by rfl) (by simp (maxDischargeDepth := 120) [Flow.enc, el, kl, hg7, hg16]) (alike_c b a hb ha) (by simp [Flow.enc, el, kl, hg7, hg16]) ?_
  refine RunQ.eval ?_
  simp [Flow.enc, el, kl, hg7, hg16]
  refine hQ _ _ ?_
  clear hQ hA
  repeat (first | refine WK.seq ?_ | refine WK.block ?_ | refine WK.inBlock ?_ | refine WK.skip ?_ | refine WK.label ?_ | refine WK.scope ?_ | refine WK.inScope ?_ | refine WK.exit rfl ?_)
  refine WK.cond2 rfl (fun hh => ?_) (fun hh => ?_)
  · cases hh
  repeat (first | refine WK.seq ?_ | refine WK.block ?_ | refine WK.inBlock ?_ | refine WK.skip ?_ | refine WK.label ?_ | refine WK.scope ?_ | refine WK.inScope ?_ | refine WK.exit rfl ?_)
  first | refine WK.reg 500 Try.ntmps5 (by kernel_rfl) ?_ | refine WK.regD 500 clsOf (by kernel_rfl) Try.ntmps5 (by kernel_rfl) (by kernel_rfl) ?_
  intro A hA Q hQ
  have hg4 : (A[4]?).bind (·.dst) = some 63 := by rw [hA]; rfl
  have hg8 : (A[8]?).bind (·.dst) = some 67 := by rw [hA]; rfl
  have hg14 : (A[14]?).bind (·.dst) = some 73 := by rw [hA]; rfl
  have hg21 : (A[21]?).bind (·.dst) = some 80 := by rw [hA]; rfl
  simp [hg4, hg8, hg14, hg21]
  refine RunQ.call rfl rfl rfl rfl (by rfl) (by simp (maxDischargeDepth := 120) [Flow.enc, kl, hg4, hg8, hg14, hg21]) (alike_c a b ha hb) (by simp [Flow.enc, kl, hg4, hg8, hg14, hg21]) ?_
  refine RunQ.eval ?_
  simp [Flow.enc, kl, hg4, hg8, hg14, hg21]
  refine RunQ.callG rfl rfl (by simp [Flow.enc, ko, hg4, hg8, hg14, hg21]) rfl (by rfl) (by simp (maxDischargeDepth := 120) [Flow.enc, ko, hg4, hg8, hg14, hg21]) (overlap_c a b ha hb) (by simp [Flow.enc, ko, hg4, hg8, hg14, hg21]) ?_
  refine RunQ.eval ?_
  simp [Flow.enc, ko, hg4, hg8, hg14, hg21]
  refine RunQ.callG rfl rfl (by simp [Flow.enc, hg8, hg14, hg21]) rfl (by rfl) (by simp (maxDischargeDepth := 120) [Flow.enc, hg8, hg14, hg21]) (fcube_c a ha.mat) (by simp [Flow.enc, hg8, hg14, hg21]) ?_
  refine RunQ.eval ?_
  simp [Flow.enc, hg8, hg14, hg21]
  refine RunQ.callG rfl rfl (by simp [Flow.enc, kw1, hg4, hg8, hg14, hg21]) rfl (by rfl) (by simp (maxDischargeDepth := 120) [Flow.enc, kw1, hg4, hg8, hg14, hg21]) (covers_c (Flow.cube a) b hb) (by simp [Flow.enc, kw1, hg4, hg8, hg14, hg21]) ?_
  refine RunQ.eval ?_
  simp [Flow.enc, kw1, hg4, hg8, hg14, hg21]
  refine RunQ.callG rfl rfl (by simp [Flow.enc, hg8, hg14, hg21]) rfl (by rfl) (by simp (maxDischargeDepth := 120) [Flow.enc, hg8, hg14, hg21]) (fcube_c b hb.mat) (by simp [Flow.enc, hg8, hg14, hg21]) ?_
  refine RunQ.eval ?_
  simp [Flow.enc, hg8, hg14, hg21]
  refine RunQ.callG rfl rfl (by simp [Flow.enc, kw2, hg4, hg8, hg14, hg21]) rfl (by rfl) (by simp (maxDischargeDepth := 120) [Flow.enc, kw2, hg4, hg8, hg14, hg21]) (covers_c (Flow.cube b) a ha) (by simp [Flow.enc, kw2, hg4, hg8, hg14, hg21]) ?_
  refine RunQ.eval ?_
  simp [Flow.enc, kw2, hg4, hg8, hg14, hg21]
  refine RunQ.callG rfl rfl (by simp [hg4, hg21]) rfl (by rfl) (by simp (maxDischargeDepth := 120) [hg4, hg21]) (awake21_c) (by simp [hg4, hg21]) ?_
  refine RunQ.eval ?_
  simp [hg4, hg21]
  refine hQ _ _ ?_
  clear hQ hA
  repeat (first | refine WK.seq ?_ | refine WK.block ?_ | refine WK.inBlock ?_ | refine WK.skip ?_ | refine WK.label ?_ | refine WK.scope ?_ | refine WK.inScope ?_ | refine WK.exit rfl ?_)
  refine WK.ret Try.func5 (by simp (maxDischargeDepth := 120) [Try.results5]) (by simp)
end Go.Proofs.Ytfgmjnmkcobhkaa
