/- TableAdds. -/
import Derived.Test.YtbncoeoamjcjjaaGreatW40
set_option linter.all false
set_option linter.unnecessarySimpa false
set_option linter.unusedVariables false
set_option linter.unusedSimpArgs false
namespace Go.Proofs.YtbncoeoamjcjjaaGreat
open Go Go.AI Go.Proofs

theorem w64_1' : IntKind.i64.wrap 1 = 1 := rfl
/-- a table with one flow put in -/
theorem tAdd_one {l : List Flow} {m : FlowMod} (hc : (m.command == 0) = true) (hr : tRight l = true) :
    (tAdd l m = ([], ⟨true, 5, 3⟩)) ∨ (l.length = 8 ∧ tAdd l m = ([], ⟨true, 5, 1⟩)) ∨
    ∃ x p, tAdd l m = (x, F3.zero) ∧ p < x.length ∧ l.length ≤ x.length ∧ x.length ≤ l.length + 1 ∧ nth x p = FlowMod.flow m ∧
      ∀ i, i < x.length → i ≠ p → i < l.length ∧ nth x i = nth l i ∧ Flow.alike (nth l i) (FlowMod.flow m) = false := by
  obtain ⟨h8, hf⟩ := right_iff.1 hr
  rcases tAdd_cases l m hc with e | ⟨h, e⟩ | ⟨ho, ⟨p, hp, ha, e⟩ | ⟨hl, ha, e⟩⟩
  · exact .inl e
  · exact .inr (.inl ⟨by omega, e⟩)
  · refine .inr (.inr ⟨_, p, e, by simpa using hp, by simp, by simp, by rw [nth_set hp, if_pos rfl], fun i hi hne => ?_⟩)
    rw [List.length_set] at hi
    refine ⟨hi, by rw [nth_set hp, if_neg hne], ?_⟩
    rw [← alike_right ha]
    rcases Nat.lt_or_gt_of_ne hne with h | h
    · rw [alike_comm]; exact (bad_iff.1 (fine_iff.1 hf p i h hp)).1
    · exact (bad_iff.1 (fine_iff.1 hf i p h hi)).1
  · refine .inr (.inr ⟨_, l.length, e, by simp, by simp, by simp, by rw [nth_snoc (by omega), if_pos rfl], fun i hi hne => ?_⟩)
    rw [List.length_append, List.length_singleton] at hi
    exact ⟨by omega, by rw [nth_snoc hi, if_neg hne], ha _ (nth_mem (by omega))⟩
set_option maxHeartbeats 4000000 in
theorem tableAdds_c (l : List Flow) (m : FlowMod) : FnP Tryz.prog 4 [flowS l, .agg m.enc] (.bool true) := by
  cases pl : flowsPlain l 12
  · refine FnP.intro Tryz.func4 rfl rfl fun G w => ?_
    repeat (first | refine WK.seq ?_ | refine WK.block ?_ | refine WK.inBlock ?_ | refine WK.skip ?_ | refine WK.label ?_ | refine WK.scope ?_ | refine WK.inScope ?_ | refine WK.exit rfl ?_)
    first | refine WK.reg 100 Tryz.ntmps4 (by kernel_rfl) ?_ | refine WK.regD 100 clsOf (by kernel_rfl) Tryz.ntmps4 (by kernel_rfl) (by kernel_rfl) ?_
    intro A hA Q hQ
    simp
    refine hQ _ _ ?_
    clear hQ hA
    repeat (first | refine WK.seq ?_ | refine WK.block ?_ | refine WK.inBlock ?_ | refine WK.skip ?_ | refine WK.label ?_ | refine WK.scope ?_ | refine WK.inScope ?_ | refine WK.exit rfl ?_)
    first | refine WK.reg 200 Tryz.ntmps4 (by kernel_rfl) ?_ | refine WK.regD 200 clsOf (by kernel_rfl) Tryz.ntmps4 (by kernel_rfl) (by kernel_rfl) ?_
    intro A hA Q hQ
    have hg3 : (A[3]?).bind (·.dst) = some 14 := by rw [hA]; rfl
    have hg8 : (A[8]?).bind (·.dst) = some 19 := by rw [hA]; rfl
    simp [flowS, hg3, hg8]
    refine RunQ.call rfl rfl rfl rfl (by rfl) (by simp (maxDischargeDepth := 120) [pl, flowS, hg3, hg8]) (pFlows_c l 12 (by omega)) (by simp [pl, flowS, hg3, hg8]) ?_
    refine RunQ.eval ?_
    simp [pl, flowS, hg3, hg8]
    refine hQ _ _ ?_
    clear hQ hA
    repeat (first | refine WK.seq ?_ | refine WK.block ?_ | refine WK.inBlock ?_ | refine WK.skip ?_ | refine WK.label ?_ | refine WK.scope ?_ | refine WK.inScope ?_ | refine WK.exit rfl ?_)
    refine WK.cond2 rfl (fun h => ?_) (fun h => ?_)
    · repeat (first | refine WK.seq ?_ | refine WK.block ?_ | refine WK.inBlock ?_ | refine WK.skip ?_ | refine WK.label ?_ | refine WK.scope ?_ | refine WK.inScope ?_ | refine WK.exit rfl ?_)
      first | refine WK.reg 300 Tryz.ntmps4 (by kernel_rfl) ?_ | refine WK.regD 300 clsOf (by kernel_rfl) Tryz.ntmps4 (by kernel_rfl) (by kernel_rfl) ?_
      intro A hA Q hQ
      simp
      refine RunQ.call rfl rfl rfl rfl (by rfl) (by simp (maxDischargeDepth := 120)) (awake23_c) (by simp) ?_
      refine RunQ.eval ?_
      simp
      refine hQ _ _ ?_
      clear hQ hA
      repeat (first | refine WK.seq ?_ | refine WK.block ?_ | refine WK.inBlock ?_ | refine WK.skip ?_ | refine WK.label ?_ | refine WK.scope ?_ | refine WK.inScope ?_ | refine WK.exit rfl ?_)
      refine WK.ret Tryz.func4 (by simp (maxDischargeDepth := 120) [Tryz.results4]) (by simp)
    · cases h
  cases pm : FlowMod.plain m
  · refine FnP.intro Tryz.func4 rfl rfl fun G w => ?_
    repeat (first | refine WK.seq ?_ | refine WK.block ?_ | refine WK.inBlock ?_ | refine WK.skip ?_ | refine WK.label ?_ | refine WK.scope ?_ | refine WK.inScope ?_ | refine WK.exit rfl ?_)
    first | refine WK.reg 100 Tryz.ntmps4 (by kernel_rfl) ?_ | refine WK.regD 100 clsOf (by kernel_rfl) Tryz.ntmps4 (by kernel_rfl) (by kernel_rfl) ?_
    intro A hA Q hQ
    simp
    refine hQ _ _ ?_
    clear hQ hA
    repeat (first | refine WK.seq ?_ | refine WK.block ?_ | refine WK.inBlock ?_ | refine WK.skip ?_ | refine WK.label ?_ | refine WK.scope ?_ | refine WK.inScope ?_ | refine WK.exit rfl ?_)
    first | refine WK.reg 200 Tryz.ntmps4 (by kernel_rfl) ?_ | refine WK.regD 200 clsOf (by kernel_rfl) Tryz.ntmps4 (by kernel_rfl) (by kernel_rfl) ?_
    intro A hA Q hQ
    have hg3 : (A[3]?).bind (·.dst) = some 14 := by rw [hA]; rfl
    have hg8 : (A[8]?).bind (·.dst) = some 19 := by rw [hA]; rfl
    simp [flowS, FlowMod.enc, hg3, hg8]
    refine RunQ.call rfl rfl rfl rfl (by rfl) (by simp (maxDischargeDepth := 120) [pl, flowS, hg3, hg8, FlowMod.enc]) (pFlows_c l 12 (by omega)) (by simp [pl, flowS, hg3, hg8, FlowMod.enc]) ?_
    refine RunQ.eval ?_
    simp [pl, flowS, hg3, hg8, FlowMod.enc]
    refine RunQ.callG rfl rfl (by simp [pm, hg3, hg8, FlowMod.enc]) rfl (by rfl) (by simp (maxDischargeDepth := 120) [pm, hg3, hg8, FlowMod.enc]) (pMod_c m) (by simp [pm, hg3, hg8, FlowMod.enc]) ?_
    refine RunQ.eval ?_
    simp [pm, hg3, hg8, FlowMod.enc]
    refine hQ _ _ ?_
    clear hQ hA
    repeat (first | refine WK.seq ?_ | refine WK.block ?_ | refine WK.inBlock ?_ | refine WK.skip ?_ | refine WK.label ?_ | refine WK.scope ?_ | refine WK.inScope ?_ | refine WK.exit rfl ?_)
    refine WK.cond2 rfl (fun h => ?_) (fun h => ?_)
    · repeat (first | refine WK.seq ?_ | refine WK.block ?_ | refine WK.inBlock ?_ | refine WK.skip ?_ | refine WK.label ?_ | refine WK.scope ?_ | refine WK.inScope ?_ | refine WK.exit rfl ?_)
      first | refine WK.reg 300 Tryz.ntmps4 (by kernel_rfl) ?_ | refine WK.regD 300 clsOf (by kernel_rfl) Tryz.ntmps4 (by kernel_rfl) (by kernel_rfl) ?_
      intro A hA Q hQ
      simp
      refine RunQ.call rfl rfl rfl rfl (by rfl) (by simp (maxDischargeDepth := 120)) (awake23_c) (by simp) ?_
      refine RunQ.eval ?_
      simp
      refine hQ _ _ ?_
      clear hQ hA
      repeat (first | refine WK.seq ?_ | refine WK.block ?_ | refine WK.inBlock ?_ | refine WK.skip ?_ | refine WK.label ?_ | refine WK.scope ?_ | refine WK.inScope ?_ | refine WK.exit rfl ?_)
      refine WK.ret Tryz.func4 (by simp (maxDischargeDepth := 120) [Tryz.results4]) (by simp)
    · cases h
  obtain ⟨hl, hf⟩ := flowsPlain_ok pl
  have hm : FPl (FlowMod.flow m) := plain_ok (f := FlowMod.flow m) pm
  have hl2 : l.length ≤ 1000000 := by omega
  have cr := rtright_c l hl2 (fun f h => (hf f h).ok)
  unfold flowS at cr
  cases pr : tRight l
  · rw [pr] at cr
    refine FnP.intro Tryz.func4 rfl rfl fun G w => ?_
    repeat (first | refine WK.seq ?_ | refine WK.block ?_ | refine WK.inBlock ?_ | refine WK.skip ?_ | refine WK.label ?_ | refine WK.scope ?_ | refine WK.inScope ?_ | refine WK.exit rfl ?_)
    first | refine WK.reg 100 Tryz.ntmps4 (by kernel_rfl) ?_ | refine WK.regD 100 clsOf (by kernel_rfl) Tryz.ntmps4 (by kernel_rfl) (by kernel_rfl) ?_
    intro A hA Q hQ
    simp
    refine hQ _ _ ?_
    clear hQ hA
    repeat (first | refine WK.seq ?_ | refine WK.block ?_ | refine WK.inBlock ?_ | refine WK.skip ?_ | refine WK.label ?_ | refine WK.scope ?_ | refine WK.inScope ?_ | refine WK.exit rfl ?_)
    first | refine WK.reg 200 Tryz.ntmps4 (by kernel_rfl) ?_ | refine WK.regD 200 clsOf (by kernel_rfl) Tryz.ntmps4 (by kernel_rfl) (by kernel_rfl) ?_
    intro A hA Q hQ
    have hg3 : (A[3]?).bind (·.dst) = some 14 := by rw [hA]; rfl
    have hg8 : (A[8]?).bind (·.dst) = some 19 := by rw [hA]; rfl
    simp [flowS, FlowMod.enc, hg3, hg8]
    refine RunQ.call rfl rfl rfl rfl (by rfl) (by simp (maxDischargeDepth := 120) [pl, flowS, hg3, hg8, FlowMod.enc]) (pFlows_c l 12 (by omega)) (by simp [pl, flowS, hg3, hg8, FlowMod.enc]) ?_
    refine RunQ.eval ?_
    simp [pl, flowS, hg3, hg8, FlowMod.enc]
    refine RunQ.callG rfl rfl (by simp [pm, hg3, hg8, FlowMod.enc]) rfl (by rfl) (by simp (maxDischargeDepth := 120) [pm, hg3, hg8, FlowMod.enc]) (pMod_c m) (by simp [pm, hg3, hg8, FlowMod.enc]) ?_
    refine RunQ.eval ?_
    simp [pm, hg3, hg8, FlowMod.enc]
    refine RunQ.callG rfl rfl (by simp [hg3, hg8]) rfl (by rfl) (by simp (maxDischargeDepth := 120) [hg3, hg8]) (cr) (by simp [hg3, hg8]) ?_
    refine RunQ.eval ?_
    simp [hg3, hg8]
    refine hQ _ _ ?_
    clear hQ hA
    repeat (first | refine WK.seq ?_ | refine WK.block ?_ | refine WK.inBlock ?_ | refine WK.skip ?_ | refine WK.label ?_ | refine WK.scope ?_ | refine WK.inScope ?_ | refine WK.exit rfl ?_)
    refine WK.cond2 rfl (fun h => ?_) (fun h => ?_)
    · repeat (first | refine WK.seq ?_ | refine WK.block ?_ | refine WK.inBlock ?_ | refine WK.skip ?_ | refine WK.label ?_ | refine WK.scope ?_ | refine WK.inScope ?_ | refine WK.exit rfl ?_)
      first | refine WK.reg 300 Tryz.ntmps4 (by kernel_rfl) ?_ | refine WK.regD 300 clsOf (by kernel_rfl) Tryz.ntmps4 (by kernel_rfl) (by kernel_rfl) ?_
      intro A hA Q hQ
      simp
      refine RunQ.call rfl rfl rfl rfl (by rfl) (by simp (maxDischargeDepth := 120)) (awake23_c) (by simp) ?_
      refine RunQ.eval ?_
      simp
      refine hQ _ _ ?_
      clear hQ hA
      repeat (first | refine WK.seq ?_ | refine WK.block ?_ | refine WK.inBlock ?_ | refine WK.skip ?_ | refine WK.label ?_ | refine WK.scope ?_ | refine WK.inScope ?_ | refine WK.exit rfl ?_)
      refine WK.ret Tryz.func4 (by simp (maxDischargeDepth := 120) [Tryz.results4]) (by simp)
    · cases h
  rw [pr] at cr
  obtain ⟨m', hm'⟩ : ∃ m', m' = withCmd m 0 := ⟨_, rfl⟩
  have hc : (m'.command == 0) = true := by rw [hm']; rfl
  have hfl : FlowMod.flow m' = FlowMod.flow m := by rw [hm']; rfl
  have c1 := tdo_c l m' (by rw [hfl]; exact hm.ok) hl2 hf
  have et : tDo l m' = tAdd l m' := by unfold tDo; rw [if_pos hc]
  rw [et] at c1
  have c2 := of2_c m' (by rw [hfl]; exact hm.ok)
  unfold flowS at c1
  have z : m'.enc = (withCmd m 0).enc := by rw [hm']
  rw [withCmd_enc] at z
  rw [z] at c1 c2
  rcases tAdd_one hc pr with e | ⟨h8, e⟩ | ⟨x, p, e, hp, hx1, hx2, hxp, hxo⟩
  · rw [e] at c1
    simp only [F3.enc, flowL_nil, List.length_nil] at c1
    refine FnP.intro Tryz.func4 rfl rfl fun G w => ?_
    repeat (first | refine WK.seq ?_ | refine WK.block ?_ | refine WK.inBlock ?_ | refine WK.skip ?_ | refine WK.label ?_ | refine WK.scope ?_ | refine WK.inScope ?_ | refine WK.exit rfl ?_)
    first | refine WK.reg 100 Tryz.ntmps4 (by kernel_rfl) ?_ | refine WK.regD 100 clsOf (by kernel_rfl) Tryz.ntmps4 (by kernel_rfl) (by kernel_rfl) ?_
    intro A hA Q hQ
    simp
    refine hQ _ _ ?_
    clear hQ hA
    repeat (first | refine WK.seq ?_ | refine WK.block ?_ | refine WK.inBlock ?_ | refine WK.skip ?_ | refine WK.label ?_ | refine WK.scope ?_ | refine WK.inScope ?_ | refine WK.exit rfl ?_)
    first | refine WK.reg 200 Tryz.ntmps4 (by kernel_rfl) ?_ | refine WK.regD 200 clsOf (by kernel_rfl) Tryz.ntmps4 (by kernel_rfl) (by kernel_rfl) ?_
    intro A hA Q hQ
    have hg3 : (A[3]?).bind (·.dst) = some 14 := by rw [hA]; rfl
    have hg8 : (A[8]?).bind (·.dst) = some 19 := by rw [hA]; rfl
    simp [flowS, FlowMod.enc, hg3, hg8]
    refine RunQ.call rfl rfl rfl rfl (by rfl) (by simp (maxDischargeDepth := 120) [pl, flowS, hg3, hg8, FlowMod.enc]) (pFlows_c l 12 (by omega)) (by simp [pl, flowS, hg3, hg8, FlowMod.enc]) ?_
    refine RunQ.eval ?_
    simp [pl, flowS, hg3, hg8, FlowMod.enc]
    refine RunQ.callG rfl rfl (by simp [pm, hg3, hg8, FlowMod.enc]) rfl (by rfl) (by simp (maxDischargeDepth := 120) [pm, hg3, hg8, FlowMod.enc]) (pMod_c m) (by simp [pm, hg3, hg8, FlowMod.enc]) ?_
    refine RunQ.eval ?_
    simp [pm, hg3, hg8, FlowMod.enc]
    refine RunQ.callG rfl rfl (by simp [hg3, hg8]) rfl (by rfl) (by simp (maxDischargeDepth := 120) [hg3, hg8]) (cr) (by simp [hg3, hg8]) ?_
    refine RunQ.eval ?_
    simp [hg3, hg8]
    refine hQ _ _ ?_
    clear hQ hA
    repeat (first | refine WK.seq ?_ | refine WK.block ?_ | refine WK.inBlock ?_ | refine WK.skip ?_ | refine WK.label ?_ | refine WK.scope ?_ | refine WK.inScope ?_ | refine WK.exit rfl ?_)
    refine WK.cond2 rfl (fun h => ?_) (fun h => ?_)
    · cases h
    repeat (first | refine WK.seq ?_ | refine WK.block ?_ | refine WK.inBlock ?_ | refine WK.skip ?_ | refine WK.label ?_ | refine WK.scope ?_ | refine WK.inScope ?_ | refine WK.exit rfl ?_)
    first | refine WK.reg 300 Tryz.ntmps4 (by kernel_rfl) ?_ | refine WK.regD 300 clsOf (by kernel_rfl) Tryz.ntmps4 (by kernel_rfl) (by kernel_rfl) ?_
    intro A hA Q hQ
    simp
    refine hQ _ _ ?_
    clear hQ hA
    repeat (first | refine WK.seq ?_ | refine WK.block ?_ | refine WK.inBlock ?_ | refine WK.skip ?_ | refine WK.label ?_ | refine WK.scope ?_ | refine WK.inScope ?_ | refine WK.exit rfl ?_)
    first | refine WK.reg 400 Tryz.ntmps4 (by kernel_rfl) ?_ | refine WK.regD 400 clsOf (by kernel_rfl) Tryz.ntmps4 (by kernel_rfl) (by kernel_rfl) ?_
    intro A hA Q hQ
    simp
    refine RunQ.call rfl rfl rfl rfl (by rfl) (by simp (maxDischargeDepth := 120)) (c1) (by simp) ?_
    refine RunQ.eval ?_
    simp
    refine hQ _ _ ?_
    clear hQ hA
    repeat (first | refine WK.seq ?_ | refine WK.block ?_ | refine WK.inBlock ?_ | refine WK.skip ?_ | refine WK.label ?_ | refine WK.scope ?_ | refine WK.inScope ?_ | refine WK.exit rfl ?_)
    first | refine WK.reg 500 Tryz.ntmps4 (by kernel_rfl) ?_ | refine WK.regD 500 clsOf (by kernel_rfl) Tryz.ntmps4 (by kernel_rfl) (by kernel_rfl) ?_
    intro A hA Q hQ
    simp
    refine hQ _ _ ?_
    clear hQ hA
    repeat (first | refine WK.seq ?_ | refine WK.block ?_ | refine WK.inBlock ?_ | refine WK.skip ?_ | refine WK.label ?_ | refine WK.scope ?_ | refine WK.inScope ?_ | refine WK.exit rfl ?_)
    refine WK.cond2 rfl (fun h => ?_) (fun h => ?_)
    · repeat (first | refine WK.seq ?_ | refine WK.block ?_ | refine WK.inBlock ?_ | refine WK.skip ?_ | refine WK.label ?_ | refine WK.scope ?_ | refine WK.inScope ?_ | refine WK.exit rfl ?_)
      first | refine WK.reg 600 Tryz.ntmps4 (by kernel_rfl) ?_ | refine WK.regD 600 clsOf (by kernel_rfl) Tryz.ntmps4 (by kernel_rfl) (by kernel_rfl) ?_
      intro A hA Q hQ
      have hg3 : (A[3]?).bind (·.dst) = some 37 := by rw [hA]; rfl
      have hg8 : (A[8]?).bind (·.dst) = some 42 := by rw [hA]; rfl
      have hg13 : (A[13]?).bind (·.dst) = some 47 := by rw [hA]; rfl
      simp [hg3, hg8, hg13]
      refine RunQ.callG rfl rfl (by simp [hg3, hg8, hg13]) rfl (by rfl) (by simp (maxDischargeDepth := 120) [hg3, hg8, hg13]) (awake23_c) (by simp [hg3, hg8, hg13]) ?_
      refine RunQ.eval ?_
      simp [hg3, hg8, hg13]
      refine hQ _ _ ?_
      clear hQ hA
      repeat (first | refine WK.seq ?_ | refine WK.block ?_ | refine WK.inBlock ?_ | refine WK.skip ?_ | refine WK.label ?_ | refine WK.scope ?_ | refine WK.inScope ?_ | refine WK.exit rfl ?_)
      refine WK.ret Tryz.func4 (by simp (maxDischargeDepth := 120) [Tryz.results4]) (by simp)
    · cases h
  · rw [e] at c1
    simp only [F3.enc, flowL_nil, List.length_nil] at c1
    refine FnP.intro Tryz.func4 rfl rfl fun G w => ?_
    repeat (first | refine WK.seq ?_ | refine WK.block ?_ | refine WK.inBlock ?_ | refine WK.skip ?_ | refine WK.label ?_ | refine WK.scope ?_ | refine WK.inScope ?_ | refine WK.exit rfl ?_)
    first | refine WK.reg 100 Tryz.ntmps4 (by kernel_rfl) ?_ | refine WK.regD 100 clsOf (by kernel_rfl) Tryz.ntmps4 (by kernel_rfl) (by kernel_rfl) ?_
    intro A hA Q hQ
    simp
    refine hQ _ _ ?_
    clear hQ hA
    repeat (first | refine WK.seq ?_ | refine WK.block ?_ | refine WK.inBlock ?_ | refine WK.skip ?_ | refine WK.label ?_ | refine WK.scope ?_ | refine WK.inScope ?_ | refine WK.exit rfl ?_)
    first | refine WK.reg 200 Tryz.ntmps4 (by kernel_rfl) ?_ | refine WK.regD 200 clsOf (by kernel_rfl) Tryz.ntmps4 (by kernel_rfl) (by kernel_rfl) ?_
    intro A hA Q hQ
    have hg3 : (A[3]?).bind (·.dst) = some 14 := by rw [hA]; rfl
    have hg8 : (A[8]?).bind (·.dst) = some 19 := by rw [hA]; rfl
    simp [flowS, FlowMod.enc, hg3, hg8]
    refine RunQ.call rfl rfl rfl rfl (by rfl) (by simp (maxDischargeDepth := 120) [pl, flowS, hg3, hg8, FlowMod.enc]) (pFlows_c l 12 (by omega)) (by simp [pl, flowS, hg3, hg8, FlowMod.enc]) ?_
    refine RunQ.eval ?_
    simp [pl, flowS, hg3, hg8, FlowMod.enc]
    refine RunQ.callG rfl rfl (by simp [pm, hg3, hg8, FlowMod.enc]) rfl (by rfl) (by simp (maxDischargeDepth := 120) [pm, hg3, hg8, FlowMod.enc]) (pMod_c m) (by simp [pm, hg3, hg8, FlowMod.enc]) ?_
    refine RunQ.eval ?_
    simp [pm, hg3, hg8, FlowMod.enc]
    refine RunQ.callG rfl rfl (by simp [hg3, hg8]) rfl (by rfl) (by simp (maxDischargeDepth := 120) [hg3, hg8]) (cr) (by simp [hg3, hg8]) ?_
    refine RunQ.eval ?_
    simp [hg3, hg8]
    refine hQ _ _ ?_
    clear hQ hA
    repeat (first | refine WK.seq ?_ | refine WK.block ?_ | refine WK.inBlock ?_ | refine WK.skip ?_ | refine WK.label ?_ | refine WK.scope ?_ | refine WK.inScope ?_ | refine WK.exit rfl ?_)
    refine WK.cond2 rfl (fun h => ?_) (fun h => ?_)
    · cases h
    repeat (first | refine WK.seq ?_ | refine WK.block ?_ | refine WK.inBlock ?_ | refine WK.skip ?_ | refine WK.label ?_ | refine WK.scope ?_ | refine WK.inScope ?_ | refine WK.exit rfl ?_)
    first | refine WK.reg 300 Tryz.ntmps4 (by kernel_rfl) ?_ | refine WK.regD 300 clsOf (by kernel_rfl) Tryz.ntmps4 (by kernel_rfl) (by kernel_rfl) ?_
    intro A hA Q hQ
    simp
    refine hQ _ _ ?_
    clear hQ hA
    repeat (first | refine WK.seq ?_ | refine WK.block ?_ | refine WK.inBlock ?_ | refine WK.skip ?_ | refine WK.label ?_ | refine WK.scope ?_ | refine WK.inScope ?_ | refine WK.exit rfl ?_)
    first | refine WK.reg 400 Tryz.ntmps4 (by kernel_rfl) ?_ | refine WK.regD 400 clsOf (by kernel_rfl) Tryz.ntmps4 (by kernel_rfl) (by kernel_rfl) ?_
    intro A hA Q hQ
    simp
    refine RunQ.call rfl rfl rfl rfl (by rfl) (by simp (maxDischargeDepth := 120)) (c1) (by simp) ?_
    refine RunQ.eval ?_
    simp
    refine hQ _ _ ?_
    clear hQ hA
    repeat (first | refine WK.seq ?_ | refine WK.block ?_ | refine WK.inBlock ?_ | refine WK.skip ?_ | refine WK.label ?_ | refine WK.scope ?_ | refine WK.inScope ?_ | refine WK.exit rfl ?_)
    first | refine WK.reg 500 Tryz.ntmps4 (by kernel_rfl) ?_ | refine WK.regD 500 clsOf (by kernel_rfl) Tryz.ntmps4 (by kernel_rfl) (by kernel_rfl) ?_
    intro A hA Q hQ
    simp
    refine hQ _ _ ?_
    clear hQ hA
    repeat (first | refine WK.seq ?_ | refine WK.block ?_ | refine WK.inBlock ?_ | refine WK.skip ?_ | refine WK.label ?_ | refine WK.scope ?_ | refine WK.inScope ?_ | refine WK.exit rfl ?_)
    refine WK.cond2 rfl (fun h => ?_) (fun h => ?_)
    · repeat (first | refine WK.seq ?_ | refine WK.block ?_ | refine WK.inBlock ?_ | refine WK.skip ?_ | refine WK.label ?_ | refine WK.scope ?_ | refine WK.inScope ?_ | refine WK.exit rfl ?_)
      first | refine WK.reg 600 Tryz.ntmps4 (by kernel_rfl) ?_ | refine WK.regD 600 clsOf (by kernel_rfl) Tryz.ntmps4 (by kernel_rfl) (by kernel_rfl) ?_
      intro A hA Q hQ
      have hg3 : (A[3]?).bind (·.dst) = some 37 := by rw [hA]; rfl
      have hg8 : (A[8]?).bind (·.dst) = some 42 := by rw [hA]; rfl
      have hg13 : (A[13]?).bind (·.dst) = some 47 := by rw [hA]; rfl
      simp [h8, hg3, hg8, hg13]
      refine RunQ.callG rfl rfl (by simp [hg3, hg8, hg13]) rfl (by rfl) (by simp (maxDischargeDepth := 120) [hg3, hg8, hg13]) (awake23_c) (by simp [hg3, hg8, hg13]) ?_
      refine RunQ.eval ?_
      simp [hg3, hg8, hg13]
      refine hQ _ _ ?_
      clear hQ hA
      repeat (first | refine WK.seq ?_ | refine WK.block ?_ | refine WK.inBlock ?_ | refine WK.skip ?_ | refine WK.label ?_ | refine WK.scope ?_ | refine WK.inScope ?_ | refine WK.exit rfl ?_)
      refine WK.ret Tryz.func4 (by simp (maxDischargeDepth := 120) [Tryz.results4]) (by simp)
    · cases h
  rw [e] at c1
  simp only [F3.zero, F3.enc] at c1
  rw [hfl] at hxp hxo c2
  obtain ⟨g, hg⟩ : ∃ g, g = FlowMod.flow m := ⟨_, rfl⟩
  have hgo : FOk g := by rw [hg]; exact hm.ok
  rw [← hg] at hxp hxo c2
  refine FnP.intro Tryz.func4 rfl rfl fun G w => ?_
  repeat (first | refine WK.seq ?_ | refine WK.block ?_ | refine WK.inBlock ?_ | refine WK.skip ?_ | refine WK.label ?_ | refine WK.scope ?_ | refine WK.inScope ?_ | refine WK.exit rfl ?_)
  first | refine WK.reg 100 Tryz.ntmps4 (by kernel_rfl) ?_ | refine WK.regD 100 clsOf (by kernel_rfl) Tryz.ntmps4 (by kernel_rfl) (by kernel_rfl) ?_
  intro A hA Q hQ
  simp
  refine hQ _ _ ?_
  clear hQ hA
  repeat (first | refine WK.seq ?_ | refine WK.block ?_ | refine WK.inBlock ?_ | refine WK.skip ?_ | refine WK.label ?_ | refine WK.scope ?_ | refine WK.inScope ?_ | refine WK.exit rfl ?_)
  first | refine WK.reg 200 Tryz.ntmps4 (by kernel_rfl) ?_ | refine WK.regD 200 clsOf (by kernel_rfl) Tryz.ntmps4 (by kernel_rfl) (by kernel_rfl) ?_
  intro A hA Q hQ
  have hg3 : (A[3]?).bind (·.dst) = some 14 := by rw [hA]; rfl
  have hg8 : (A[8]?).bind (·.dst) = some 19 := by rw [hA]; rfl
  simp [flowS, FlowMod.enc, hg3, hg8]
  refine RunQ.call rfl rfl rfl rfl (by rfl) (by simp (maxDischargeDepth := 120) [pl, flowS, hg3, hg8, FlowMod.enc]) (pFlows_c l 12 (by omega)) (by simp [pl, flowS, hg3, hg8, FlowMod.enc]) ?_
  refine RunQ.eval ?_
  simp [pl, flowS, hg3, hg8, FlowMod.enc]
  refine RunQ.callG rfl rfl (by simp [pm, hg3, hg8, FlowMod.enc]) rfl (by rfl) (by simp (maxDischargeDepth := 120) [pm, hg3, hg8, FlowMod.enc]) (pMod_c m) (by simp [pm, hg3, hg8, FlowMod.enc]) ?_
  refine RunQ.eval ?_
  simp [pm, hg3, hg8, FlowMod.enc]
  refine RunQ.callG rfl rfl (by simp [hg3, hg8]) rfl (by rfl) (by simp (maxDischargeDepth := 120) [hg3, hg8]) (cr) (by simp [hg3, hg8]) ?_
  refine RunQ.eval ?_
  simp [hg3, hg8]
  refine hQ _ _ ?_
  clear hQ hA
  repeat (first | refine WK.seq ?_ | refine WK.block ?_ | refine WK.inBlock ?_ | refine WK.skip ?_ | refine WK.label ?_ | refine WK.scope ?_ | refine WK.inScope ?_ | refine WK.exit rfl ?_)
  refine WK.cond2 rfl (fun h => ?_) (fun h => ?_)
  · cases h
  repeat (first | refine WK.seq ?_ | refine WK.block ?_ | refine WK.inBlock ?_ | refine WK.skip ?_ | refine WK.label ?_ | refine WK.scope ?_ | refine WK.inScope ?_ | refine WK.exit rfl ?_)
  first | refine WK.reg 300 Tryz.ntmps4 (by kernel_rfl) ?_ | refine WK.regD 300 clsOf (by kernel_rfl) Tryz.ntmps4 (by kernel_rfl) (by kernel_rfl) ?_
  intro A hA Q hQ
  simp
  refine hQ _ _ ?_
  clear hQ hA
  repeat (first | refine WK.seq ?_ | refine WK.block ?_ | refine WK.inBlock ?_ | refine WK.skip ?_ | refine WK.label ?_ | refine WK.scope ?_ | refine WK.inScope ?_ | refine WK.exit rfl ?_)
  first | refine WK.reg 400 Tryz.ntmps4 (by kernel_rfl) ?_ | refine WK.regD 400 clsOf (by kernel_rfl) Tryz.ntmps4 (by kernel_rfl) (by kernel_rfl) ?_
  intro A hA Q hQ
  simp
  refine RunQ.call rfl rfl rfl rfl (by rfl) (by simp (maxDischargeDepth := 120)) (c1) (by simp) ?_
  refine RunQ.eval ?_
  simp
  refine hQ _ _ ?_
  clear hQ hA
  repeat (first | refine WK.seq ?_ | refine WK.block ?_ | refine WK.inBlock ?_ | refine WK.skip ?_ | refine WK.label ?_ | refine WK.scope ?_ | refine WK.inScope ?_ | refine WK.exit rfl ?_)
  first | refine WK.reg 500 Tryz.ntmps4 (by kernel_rfl) ?_ | refine WK.regD 500 clsOf (by kernel_rfl) Tryz.ntmps4 (by kernel_rfl) (by kernel_rfl) ?_
  intro A hA Q hQ
  simp
  refine hQ _ _ ?_
  clear hQ hA
  repeat (first | refine WK.seq ?_ | refine WK.block ?_ | refine WK.inBlock ?_ | refine WK.skip ?_ | refine WK.label ?_ | refine WK.scope ?_ | refine WK.inScope ?_ | refine WK.exit rfl ?_)
  refine WK.cond2 rfl (fun h => ?_) (fun h => ?_)
  · cases h
  repeat (first | refine WK.seq ?_ | refine WK.block ?_ | refine WK.inBlock ?_ | refine WK.skip ?_ | refine WK.label ?_ | refine WK.scope ?_ | refine WK.inScope ?_ | refine WK.exit rfl ?_)
  first | refine WK.reg 600 Tryz.ntmps4 (by kernel_rfl) ?_ | refine WK.regD 600 clsOf (by kernel_rfl) Tryz.ntmps4 (by kernel_rfl) (by kernel_rfl) ?_
  intro A hA Q hQ
  simp
  refine RunQ.call rfl rfl rfl rfl (by rfl) (by simp (maxDischargeDepth := 120)) (c2) (by simp) ?_
  refine RunQ.eval ?_
  simp
  refine hQ _ _ ?_
  clear hQ hA
  repeat (first | refine WK.seq ?_ | refine WK.block ?_ | refine WK.inBlock ?_ | refine WK.skip ?_ | refine WK.label ?_ | refine WK.scope ?_ | refine WK.inScope ?_ | refine WK.exit rfl ?_)
  refine WK.ghost (Ghost.frzVar 7 rfl rfl) ?_
  repeat (first | refine WK.seq ?_ | refine WK.block ?_ | refine WK.inBlock ?_ | refine WK.skip ?_ | refine WK.label ?_ | refine WK.scope ?_ | refine WK.inScope ?_ | refine WK.exit rfl ?_)
  first | refine WK.reg 700 Tryz.ntmps4 (by kernel_rfl) ?_ | refine WK.regD 700 clsOf (by kernel_rfl) Tryz.ntmps4 (by kernel_rfl) (by kernel_rfl) ?_
  intro A hA Q hQ
  simp
  refine hQ _ _ ?_
  clear hQ hA
  repeat (first | refine WK.seq ?_ | refine WK.block ?_ | refine WK.inBlock ?_ | refine WK.skip ?_ | refine WK.label ?_ | refine WK.scope ?_ | refine WK.inScope ?_ | refine WK.exit rfl ?_)
  refine WK.loopI (fun n => n) (fun i : Nat => (⟨(upd (upd (upd (upd (upd (upd (upd J 0 (.sl false l.length (flowL l))) 5 (.sl false x.length (flowL x))) 7 (.iptr g.enc)) 8 (.int .i64 (if p < i then 1 else 0))) 52 (.sl false x.length (flowL x))) 53 (.int .i64 x.length)) 54 (.int .i64 i)), B0, 0⟩ : St)) (fun i => i ≤ x.length) (fun i => x.length - i) (0) (by repeat (first | exact TmW.nil | refine TmW.upd ?_ (by simp (maxDischargeDepth := 120)))) (by repeat (first | exact BxW.nil | refine BxW.upd ?_ (by simp (maxDischargeDepth := 120)))) (by first | exact InjW.id | exact InjW.nil | exact InjW.one | exact InjW.two (by simp) | exact InjW.three (by simp) (by simp) (by simp)) (Nat.zero_le _) (fun i hi IH => ?_)
  repeat (first | refine WK.seq ?_ | refine WK.block ?_ | refine WK.inBlock ?_ | refine WK.skip ?_ | refine WK.label ?_ | refine WK.scope ?_ | refine WK.inScope ?_ | refine WK.exit rfl ?_)
  first | refine WK.reg 800 Tryz.ntmps4 (by kernel_rfl) ?_ | refine WK.regD 800 clsOf (by kernel_rfl) Tryz.ntmps4 (by kernel_rfl) (by kernel_rfl) ?_
  intro A hA Q hQ
  simp
  refine hQ _ _ ?_
  clear hQ hA
  repeat (first | refine WK.seq ?_ | refine WK.block ?_ | refine WK.inBlock ?_ | refine WK.skip ?_ | refine WK.label ?_ | refine WK.scope ?_ | refine WK.inScope ?_ | refine WK.exit rfl ?_)
  refine WK.cond2 rfl (fun h1 => ?_) (fun h1 => ?_)
  · simp at h1
    have h2 : i < x.length := by omega
    have h3 : 7 ≤ x.length * 7 - i * 7 := by omega
    have h4 := flow_sub x i h2
    have h6 : IntKind.i64.wrap ((i : Int) + 1) = i + 1 := wrap_i64 (by omega) (by omega)
    by_cases hip : i = p
    · rw [hip, hxp] at h4
      have e1 : (if p < i then (1 : Int) else 0) = 0 := if_neg (by omega)
      have e2 : (if p < i + 1 then (1 : Int) else 0) = 1 := if_pos (by omega)
      have a1 := alike_self g
      have a2 := flowSame_self g
      rw [← hip] at h4
      rw [e1]
      repeat (first | refine WK.seq ?_ | refine WK.block ?_ | refine WK.inBlock ?_ | refine WK.skip ?_ | refine WK.label ?_ | refine WK.scope ?_ | refine WK.inScope ?_ | refine WK.exit rfl ?_)
      first | refine WK.reg 900 Tryz.ntmps4 (by kernel_rfl) ?_ | refine WK.regD 900 clsOf (by kernel_rfl) Tryz.ntmps4 (by kernel_rfl) (by kernel_rfl) ?_
      intro A hA Q hQ
      simp [h2, h3, h4]
      refine hQ _ _ ?_
      clear hQ hA
      repeat (first | refine WK.seq ?_ | refine WK.block ?_ | refine WK.inBlock ?_ | refine WK.skip ?_ | refine WK.label ?_ | refine WK.scope ?_ | refine WK.inScope ?_ | refine WK.exit rfl ?_)
      refine WK.ghost (Ghost.frzVar 10 rfl rfl) ?_
      repeat (first | refine WK.seq ?_ | refine WK.block ?_ | refine WK.inBlock ?_ | refine WK.skip ?_ | refine WK.label ?_ | refine WK.scope ?_ | refine WK.inScope ?_ | refine WK.exit rfl ?_)
      first | refine WK.reg 1000 Tryz.ntmps4 (by kernel_rfl) ?_ | refine WK.regD 1000 clsOf (by kernel_rfl) Tryz.ntmps4 (by kernel_rfl) (by kernel_rfl) ?_
      intro A hA Q hQ
      simp
      refine RunQ.call rfl rfl rfl rfl (by rfl) (by simp (maxDischargeDepth := 120) [a1]) (alike_c g g hgo hgo) (by simp [a1]) ?_
      refine RunQ.eval ?_
      simp [a1]
      refine hQ _ _ ?_
      clear hQ hA
      repeat (first | refine WK.seq ?_ | refine WK.block ?_ | refine WK.inBlock ?_ | refine WK.skip ?_ | refine WK.label ?_ | refine WK.scope ?_ | refine WK.inScope ?_ | refine WK.exit rfl ?_)
      refine WK.cond2 rfl (fun h => ?_) (fun h => ?_)
      · repeat (first | refine WK.seq ?_ | refine WK.block ?_ | refine WK.inBlock ?_ | refine WK.skip ?_ | refine WK.label ?_ | refine WK.scope ?_ | refine WK.inScope ?_ | refine WK.exit rfl ?_)
        first | refine WK.reg 1100 Tryz.ntmps4 (by kernel_rfl) ?_ | refine WK.regD 1100 clsOf (by kernel_rfl) Tryz.ntmps4 (by kernel_rfl) (by kernel_rfl) ?_
        intro A hA Q hQ
        simp [w64_1']
        refine hQ _ _ ?_
        clear hQ hA
        repeat (first | refine WK.seq ?_ | refine WK.block ?_ | refine WK.inBlock ?_ | refine WK.skip ?_ | refine WK.label ?_ | refine WK.scope ?_ | refine WK.inScope ?_ | refine WK.exit rfl ?_)
        first | refine WK.reg 1200 Tryz.ntmps4 (by kernel_rfl) ?_ | refine WK.regD 1200 clsOf (by kernel_rfl) Tryz.ntmps4 (by kernel_rfl) (by kernel_rfl) ?_
        intro A hA Q hQ
        simp
        refine RunQ.call rfl rfl rfl rfl (by rfl) (by simp (maxDischargeDepth := 120) [a2]) (fsame_c g g hgo hgo) (by simp [a2]) ?_
        refine RunQ.eval ?_
        simp [a2]
        refine hQ _ _ ?_
        clear hQ hA
        repeat (first | refine WK.seq ?_ | refine WK.block ?_ | refine WK.inBlock ?_ | refine WK.skip ?_ | refine WK.label ?_ | refine WK.scope ?_ | refine WK.inScope ?_ | refine WK.exit rfl ?_)
        refine WK.cond2 rfl (fun h => ?_) (fun h => ?_)
        · cases h
        repeat (first | refine WK.seq ?_ | refine WK.block ?_ | refine WK.inBlock ?_ | refine WK.skip ?_ | refine WK.label ?_ | refine WK.scope ?_ | refine WK.inScope ?_ | refine WK.exit rfl ?_)
        first | refine WK.reg 1300 Tryz.ntmps4 (by kernel_rfl) ?_ | refine WK.regD 1300 clsOf (by kernel_rfl) Tryz.ntmps4 (by kernel_rfl) (by kernel_rfl) ?_
        intro A hA Q hQ
        simp [h6]
        refine hQ _ _ ?_
        clear hQ hA
        repeat (first | refine WK.seq ?_ | refine WK.block ?_ | refine WK.inBlock ?_ | refine WK.skip ?_ | refine WK.label ?_ | refine WK.scope ?_ | refine WK.inScope ?_ | refine WK.exit rfl ?_)
        refine WK.next (fun n => n) (IH (i + 1) (by omega) (by first | omega | (dsimp only; omega))) (by repeat (first | exact TmW.nil | refine TmW.upd ?_ (by simp (maxDischargeDepth := 120) [e2, h6]))) (by repeat (first | exact BxW.nil | refine BxW.upd ?_ (by simp (maxDischargeDepth := 120) [e2, h6]))) (by first | exact InjW.id | exact InjW.nil | exact InjW.one | exact InjW.two (by simp) | exact InjW.three (by simp) (by simp) (by simp))
      · cases h
    · obtain ⟨o1, o2, o3⟩ := hxo i h2 hip
      rw [o2] at h4
      have e2 : (if p < i + 1 then (1 : Int) else 0) = if p < i then 1 else 0 := by
        by_cases e : p < i
        · rw [if_pos e, if_pos (by omega)]
        · rw [if_neg e, if_neg (by omega)]
      have k3 : 7 ≤ l.length * 7 - i * 7 := by omega
      have k4 := flow_sub l i o1
      have a2 := flowSame_self (nth l i)
      have hfo := (hf _ (nth_mem o1)).ok
      have d1 : ¬ l.length ≤ i := by omega
      repeat (first | refine WK.seq ?_ | refine WK.block ?_ | refine WK.inBlock ?_ | refine WK.skip ?_ | refine WK.label ?_ | refine WK.scope ?_ | refine WK.inScope ?_ | refine WK.exit rfl ?_)
      first | refine WK.reg 1400 Tryz.ntmps4 (by kernel_rfl) ?_ | refine WK.regD 1400 clsOf (by kernel_rfl) Tryz.ntmps4 (by kernel_rfl) (by kernel_rfl) ?_
      intro A hA Q hQ
      simp [h2, h3, h4]
      refine hQ _ _ ?_
      clear hQ hA
      repeat (first | refine WK.seq ?_ | refine WK.block ?_ | refine WK.inBlock ?_ | refine WK.skip ?_ | refine WK.label ?_ | refine WK.scope ?_ | refine WK.inScope ?_ | refine WK.exit rfl ?_)
      refine WK.ghost (Ghost.frzVar 10 rfl rfl) ?_
      repeat (first | refine WK.seq ?_ | refine WK.block ?_ | refine WK.inBlock ?_ | refine WK.skip ?_ | refine WK.label ?_ | refine WK.scope ?_ | refine WK.inScope ?_ | refine WK.exit rfl ?_)
      first | refine WK.reg 1500 Tryz.ntmps4 (by kernel_rfl) ?_ | refine WK.regD 1500 clsOf (by kernel_rfl) Tryz.ntmps4 (by kernel_rfl) (by kernel_rfl) ?_
      intro A hA Q hQ
      simp
      refine RunQ.call rfl rfl rfl rfl (by rfl) (by simp (maxDischargeDepth := 120) [o3]) (alike_c (nth l i) g hfo hgo) (by simp [o3]) ?_
      refine RunQ.eval ?_
      simp [o3]
      refine hQ _ _ ?_
      clear hQ hA
      repeat (first | refine WK.seq ?_ | refine WK.block ?_ | refine WK.inBlock ?_ | refine WK.skip ?_ | refine WK.label ?_ | refine WK.scope ?_ | refine WK.inScope ?_ | refine WK.exit rfl ?_)
      refine WK.cond2 rfl (fun h => ?_) (fun h => ?_)
      · cases h
      repeat (first | refine WK.seq ?_ | refine WK.block ?_ | refine WK.inBlock ?_ | refine WK.skip ?_ | refine WK.label ?_ | refine WK.scope ?_ | refine WK.inScope ?_ | refine WK.exit rfl ?_)
      first | refine WK.reg 1600 Tryz.ntmps4 (by kernel_rfl) ?_ | refine WK.regD 1600 clsOf (by kernel_rfl) Tryz.ntmps4 (by kernel_rfl) (by kernel_rfl) ?_
      intro A hA Q hQ
      have hg4 : (A[4]?).bind (·.dst) = some 72 := by rw [hA]; rfl
      simp [d1, o1, k3, k4, hg4]
      refine RunQ.callG rfl rfl (by simp [a2, hg4]) rfl (by rfl) (by simp (maxDischargeDepth := 120) [a2, hg4]) (fsame_c (nth l i) (nth l i) hfo hfo) (by simp [a2, hg4]) ?_
      refine RunQ.eval ?_
      simp [a2, hg4]
      refine hQ _ _ ?_
      clear hQ hA
      repeat (first | refine WK.seq ?_ | refine WK.block ?_ | refine WK.inBlock ?_ | refine WK.skip ?_ | refine WK.label ?_ | refine WK.scope ?_ | refine WK.inScope ?_ | refine WK.exit rfl ?_)
      refine WK.cond2 rfl (fun h => ?_) (fun h => ?_)
      · cases h
      repeat (first | refine WK.seq ?_ | refine WK.block ?_ | refine WK.inBlock ?_ | refine WK.skip ?_ | refine WK.label ?_ | refine WK.scope ?_ | refine WK.inScope ?_ | refine WK.exit rfl ?_)
      first | refine WK.reg 1700 Tryz.ntmps4 (by kernel_rfl) ?_ | refine WK.regD 1700 clsOf (by kernel_rfl) Tryz.ntmps4 (by kernel_rfl) (by kernel_rfl) ?_
      intro A hA Q hQ
      simp [h6]
      refine hQ _ _ ?_
      clear hQ hA
      repeat (first | refine WK.seq ?_ | refine WK.block ?_ | refine WK.inBlock ?_ | refine WK.skip ?_ | refine WK.label ?_ | refine WK.scope ?_ | refine WK.inScope ?_ | refine WK.exit rfl ?_)
      refine WK.next (fun n => n) (IH (i + 1) (by omega) (by first | omega | (dsimp only; omega))) (by repeat (first | exact TmW.nil | refine TmW.upd ?_ (by simp (maxDischargeDepth := 120) [e2, h6]))) (by repeat (first | exact BxW.nil | refine BxW.upd ?_ (by simp (maxDischargeDepth := 120) [e2, h6]))) (by first | exact InjW.id | exact InjW.nil | exact InjW.one | exact InjW.two (by simp) | exact InjW.three (by simp) (by simp) (by simp))
  · simp at h1
    have e1 : (if p < i then (1 : Int) else 0) = 1 := if_pos (by omega)
    have d1 : (l.length : Int) ≤ x.length := by omega
    rw [e1]
    repeat (first | refine WK.seq ?_ | refine WK.block ?_ | refine WK.inBlock ?_ | refine WK.skip ?_ | refine WK.label ?_ | refine WK.scope ?_ | refine WK.inScope ?_ | refine WK.exit rfl ?_)
    first | refine WK.reg 1800 Tryz.ntmps4 (by kernel_rfl) ?_ | refine WK.regD 1800 clsOf (by kernel_rfl) Tryz.ntmps4 (by kernel_rfl) (by kernel_rfl) ?_
    intro A hA Q hQ
    have hg2 : (A[2]?).bind (·.dst) = some 84 := by rw [hA]; rfl
    have hg9 : (A[9]?).bind (·.dst) = some 91 := by rw [hA]; rfl
    simp [hx1, d1, hg2, hg9]
    refine RunQ.callG rfl rfl (by simp [hg2, hg9]) rfl (by rfl) (by simp (maxDischargeDepth := 120) [hg2, hg9]) (awake23_c) (by simp [hg2, hg9]) ?_
    refine RunQ.eval ?_
    simp [hg2, hg9]
    refine hQ _ _ ?_
    clear hQ hA
    repeat (first | refine WK.seq ?_ | refine WK.block ?_ | refine WK.inBlock ?_ | refine WK.skip ?_ | refine WK.label ?_ | refine WK.scope ?_ | refine WK.inScope ?_ | refine WK.exit rfl ?_)
    refine WK.ret Tryz.func4 (by simp (maxDischargeDepth := 120) [Tryz.results4]) (by simp)
end Go.Proofs.YtbncoeoamjcjjaaGreat
