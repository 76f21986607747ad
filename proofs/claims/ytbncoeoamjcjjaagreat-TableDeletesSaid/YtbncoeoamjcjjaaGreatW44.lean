/- TableDeletes. -/
import Derived.Test.YtbncoeoamjcjjaaGreatW40
import Derived.Test.YtbncoeoamjcjjaaGreatW43
set_option linter.all false
set_option linter.unnecessarySimpa false
set_option linter.unusedVariables false
set_option linter.unusedSimpArgs false
namespace Go.Proofs.YtbncoeoamjcjjaaGreat
open Go Go.AI Go.Proofs

theorem tdel1_c (f : Flow) (m : FlowMod) (hf : FPl f) (hm : FOk (FlowMod.flow m)) : FnP Tryz.prog 21 [.agg f.enc, .iptr m.enc] (.bool (FlowMod.takes m f)) := by
  refine FnP.intro Tryz.func21 rfl rfl fun G w => ?_
  repeat (first | refine WK.seq ?_ | refine WK.block ?_ | refine WK.inBlock ?_ | refine WK.skip ?_ | refine WK.label ?_ | refine WK.scope ?_ | refine WK.inScope ?_ | refine WK.exit rfl ?_)
  first | refine WK.reg 100 Tryz.ntmps21 (by kernel_rfl) ?_ | refine WK.regD 100 clsOf (by kernel_rfl) Tryz.ntmps21 (by kernel_rfl) (by kernel_rfl) ?_
  intro A hA Q hQ
  simp
  refine hQ _ _ ?_
  clear hQ hA
  repeat (first | refine WK.seq ?_ | refine WK.block ?_ | refine WK.inBlock ?_ | refine WK.skip ?_ | refine WK.label ?_ | refine WK.scope ?_ | refine WK.inScope ?_ | refine WK.exit rfl ?_)
  first | refine WK.reg 200 Tryz.ntmps21 (by kernel_rfl) ?_ | refine WK.regD 200 clsOf (by kernel_rfl) Tryz.ntmps21 (by kernel_rfl) (by kernel_rfl) ?_
  intro A hA Q hQ
  simp [FlowMod.enc]
  refine RunQ.call rfl rfl rfl rfl (by rfl) (by simp (maxDischargeDepth := 120) [FlowMod.enc]) (rtakes_c f m hf hm) (by simp [FlowMod.enc]) ?_
  refine RunQ.eval ?_
  simp [FlowMod.enc]
  refine hQ _ _ ?_
  clear hQ hA
  repeat (first | refine WK.seq ?_ | refine WK.block ?_ | refine WK.inBlock ?_ | refine WK.skip ?_ | refine WK.label ?_ | refine WK.scope ?_ | refine WK.inScope ?_ | refine WK.exit rfl ?_)
  refine WK.ret Tryz.func21 (by simp (maxDischargeDepth := 120) [Tryz.results21]) (by simp)
theorem took_drop (l : List Flow) (m : FlowMod) : took m (tDrop l m) = [] := by
  cases hL : took m (tDrop l m) with
  | nil => rfl
  | cons x xs =>
    obtain ⟨p, rfl, hp⟩ := took_pos (show x ∈ took m (tDrop l m) by rw [hL]; simp)
    have h1 := (took_mem hp).1 (by rw [hL]; simp)
    have h2 := (List.mem_filter.1 (show nth (tDrop l m) p ∈ l.filter _ from nth_mem hp)).2
    rw [h1] at h2; cases h2
set_option maxHeartbeats 4000000 in
theorem tableDeletes_c (l : List Flow) (m : FlowMod) (b : Bool) : FnP Tryz.prog 5 [flowS l, .agg m.enc, .bool b] (.bool true) := by
  cases pl : flowsPlain l 12
  · refine FnP.intro Tryz.func5 rfl rfl fun G w => ?_
    repeat (first | refine WK.seq ?_ | refine WK.block ?_ | refine WK.inBlock ?_ | refine WK.skip ?_ | refine WK.label ?_ | refine WK.scope ?_ | refine WK.inScope ?_ | refine WK.exit rfl ?_)
    first | refine WK.reg 100 Tryz.ntmps5 (by kernel_rfl) ?_ | refine WK.regD 100 clsOf (by kernel_rfl) Tryz.ntmps5 (by kernel_rfl) (by kernel_rfl) ?_
    intro A hA Q hQ
    simp
    refine hQ _ _ ?_
    clear hQ hA
    repeat (first | refine WK.seq ?_ | refine WK.block ?_ | refine WK.inBlock ?_ | refine WK.skip ?_ | refine WK.label ?_ | refine WK.scope ?_ | refine WK.inScope ?_ | refine WK.exit rfl ?_)
    first | refine WK.reg 200 Tryz.ntmps5 (by kernel_rfl) ?_ | refine WK.regD 200 clsOf (by kernel_rfl) Tryz.ntmps5 (by kernel_rfl) (by kernel_rfl) ?_
    intro A hA Q hQ
    have hg3 : (A[3]?).bind (·.dst) = some 13 := by rw [hA]; rfl
    simp [flowS, hg3]
    refine RunQ.call rfl rfl rfl rfl (by rfl) (by simp (maxDischargeDepth := 120) [pl, flowS, hg3]) (pFlows_c l 12 (by omega)) (by simp [pl, flowS, hg3]) ?_
    refine RunQ.eval ?_
    simp [pl, flowS, hg3]
    refine hQ _ _ ?_
    clear hQ hA
    repeat (first | refine WK.seq ?_ | refine WK.block ?_ | refine WK.inBlock ?_ | refine WK.skip ?_ | refine WK.label ?_ | refine WK.scope ?_ | refine WK.inScope ?_ | refine WK.exit rfl ?_)
    refine WK.cond2 rfl (fun h => ?_) (fun h => ?_)
    · repeat (first | refine WK.seq ?_ | refine WK.block ?_ | refine WK.inBlock ?_ | refine WK.skip ?_ | refine WK.label ?_ | refine WK.scope ?_ | refine WK.inScope ?_ | refine WK.exit rfl ?_)
      first | refine WK.reg 300 Tryz.ntmps5 (by kernel_rfl) ?_ | refine WK.regD 300 clsOf (by kernel_rfl) Tryz.ntmps5 (by kernel_rfl) (by kernel_rfl) ?_
      intro A hA Q hQ
      simp
      refine RunQ.call rfl rfl rfl rfl (by rfl) (by simp (maxDischargeDepth := 120)) (awake23_c) (by simp) ?_
      refine RunQ.eval ?_
      simp
      refine hQ _ _ ?_
      clear hQ hA
      repeat (first | refine WK.seq ?_ | refine WK.block ?_ | refine WK.inBlock ?_ | refine WK.skip ?_ | refine WK.label ?_ | refine WK.scope ?_ | refine WK.inScope ?_ | refine WK.exit rfl ?_)
      refine WK.ret Tryz.func5 (by simp (maxDischargeDepth := 120) [Tryz.results5]) (by simp)
    · cases h
  cases pm : FlowMod.plain m
  · refine FnP.intro Tryz.func5 rfl rfl fun G w => ?_
    repeat (first | refine WK.seq ?_ | refine WK.block ?_ | refine WK.inBlock ?_ | refine WK.skip ?_ | refine WK.label ?_ | refine WK.scope ?_ | refine WK.inScope ?_ | refine WK.exit rfl ?_)
    first | refine WK.reg 100 Tryz.ntmps5 (by kernel_rfl) ?_ | refine WK.regD 100 clsOf (by kernel_rfl) Tryz.ntmps5 (by kernel_rfl) (by kernel_rfl) ?_
    intro A hA Q hQ
    simp
    refine hQ _ _ ?_
    clear hQ hA
    repeat (first | refine WK.seq ?_ | refine WK.block ?_ | refine WK.inBlock ?_ | refine WK.skip ?_ | refine WK.label ?_ | refine WK.scope ?_ | refine WK.inScope ?_ | refine WK.exit rfl ?_)
    first | refine WK.reg 200 Tryz.ntmps5 (by kernel_rfl) ?_ | refine WK.regD 200 clsOf (by kernel_rfl) Tryz.ntmps5 (by kernel_rfl) (by kernel_rfl) ?_
    intro A hA Q hQ
    have hg3 : (A[3]?).bind (·.dst) = some 13 := by rw [hA]; rfl
    simp [flowS, FlowMod.enc, hg3]
    refine RunQ.call rfl rfl rfl rfl (by rfl) (by simp (maxDischargeDepth := 120) [pl, flowS, hg3, FlowMod.enc]) (pFlows_c l 12 (by omega)) (by simp [pl, flowS, hg3, FlowMod.enc]) ?_
    refine RunQ.eval ?_
    simp [pl, flowS, hg3, FlowMod.enc]
    refine RunQ.callG rfl rfl (by simp [pm, hg3, FlowMod.enc]) rfl (by rfl) (by simp (maxDischargeDepth := 120) [pm, hg3, FlowMod.enc]) (pMod_c m) (by simp [pm, hg3, FlowMod.enc]) ?_
    refine RunQ.eval ?_
    simp [pm, hg3, FlowMod.enc]
    refine hQ _ _ ?_
    clear hQ hA
    repeat (first | refine WK.seq ?_ | refine WK.block ?_ | refine WK.inBlock ?_ | refine WK.skip ?_ | refine WK.label ?_ | refine WK.scope ?_ | refine WK.inScope ?_ | refine WK.exit rfl ?_)
    refine WK.cond2 rfl (fun h => ?_) (fun h => ?_)
    · repeat (first | refine WK.seq ?_ | refine WK.block ?_ | refine WK.inBlock ?_ | refine WK.skip ?_ | refine WK.label ?_ | refine WK.scope ?_ | refine WK.inScope ?_ | refine WK.exit rfl ?_)
      first | refine WK.reg 300 Tryz.ntmps5 (by kernel_rfl) ?_ | refine WK.regD 300 clsOf (by kernel_rfl) Tryz.ntmps5 (by kernel_rfl) (by kernel_rfl) ?_
      intro A hA Q hQ
      simp
      refine RunQ.call rfl rfl rfl rfl (by rfl) (by simp (maxDischargeDepth := 120)) (awake23_c) (by simp) ?_
      refine RunQ.eval ?_
      simp
      refine hQ _ _ ?_
      clear hQ hA
      repeat (first | refine WK.seq ?_ | refine WK.block ?_ | refine WK.inBlock ?_ | refine WK.skip ?_ | refine WK.label ?_ | refine WK.scope ?_ | refine WK.inScope ?_ | refine WK.exit rfl ?_)
      refine WK.ret Tryz.func5 (by simp (maxDischargeDepth := 120) [Tryz.results5]) (by simp)
    · cases h
  obtain ⟨hl, hf⟩ := flowsPlain_ok pl
  have hm : FPl (FlowMod.flow m) := plain_ok (f := FlowMod.flow m) pm
  have hl2 : l.length ≤ 1000000 := by omega
  obtain ⟨m', hm'⟩ : ∃ m', m' = withCmd m (if b then 4 else 3) := ⟨_, rfl⟩
  have hfl : FOk (FlowMod.flow m') := by rw [hm']; exact hm.ok
  have c1 := tdo_c l m' hfl hl2 hf
  have et : tDo l m' = (tDrop l m', F3.zero) := by unfold tDo; rw [hm']; cases b <;> rfl
  rw [et] at c1
  have hfd : ∀ f, f ∈ tDrop l m' → FPl f := fun f h => hf f (List.mem_filter.1 h).1
  have hdl : (tDrop l m').length ≤ 1000000 := by
    have := List.length_filter_le (fun f => !FlowMod.takes m' f) l
    unfold tDrop; omega
  have c2 := clone_flowO l hl2
  have ek : keepN (FlowMod.takes m') l l.length = tDrop l m' := keepN_all _ _
  have c3 := delete_flow 21 [.iptr m'.enc] (FlowMod.takes m') l (by simp) hl2 (fun x hx => tdel1_c x m' (hf x hx) hfl)
  have c4 := tsame_c (tDrop l m') (tDrop l m') hdl (fun f h => (hfd f h).ok) (fun f h => (hfd f h).ok)
  rw [eqBy_refl flowSame_self] at c4
  have c5 := rplist_c m' (tDrop l m') hfl hdl hfd
  rw [took_drop] at c5
  rw [ek] at c3
  obtain ⟨x, hx⟩ : ∃ x, x = tDrop l m' := ⟨_, rfl⟩
  rw [← hx] at c1 c3 c4 c5
  unfold flowS at c1 c2 c4 c5
  simp only [F3.zero, F3.enc, intS, intL_nil', List.length_nil] at c1 c5
  have z : m'.enc = (withCmd m (if b then 4 else 3)).enc := by rw [hm']
  rw [withCmd_enc] at z
  have hT : (flowL x ++ flowZ (l.length - x.length)).take (x.length * 7) = flowL x := by
    rw [List.take_append_of_le_length (by simp)]; exact flow_full _ _ rfl
  refine FnP.intro Tryz.func5 rfl rfl fun G w => ?_
  repeat (first | refine WK.seq ?_ | refine WK.block ?_ | refine WK.inBlock ?_ | refine WK.skip ?_ | refine WK.label ?_ | refine WK.scope ?_ | refine WK.inScope ?_ | refine WK.exit rfl ?_)
  first | refine WK.reg 100 Tryz.ntmps5 (by kernel_rfl) ?_ | refine WK.regD 100 clsOf (by kernel_rfl) Tryz.ntmps5 (by kernel_rfl) (by kernel_rfl) ?_
  intro A hA Q hQ
  simp
  refine hQ _ _ ?_
  clear hQ hA
  repeat (first | refine WK.seq ?_ | refine WK.block ?_ | refine WK.inBlock ?_ | refine WK.skip ?_ | refine WK.label ?_ | refine WK.scope ?_ | refine WK.inScope ?_ | refine WK.exit rfl ?_)
  first | refine WK.reg 200 Tryz.ntmps5 (by kernel_rfl) ?_ | refine WK.regD 200 clsOf (by kernel_rfl) Tryz.ntmps5 (by kernel_rfl) (by kernel_rfl) ?_
  intro A hA Q hQ
  have hg3 : (A[3]?).bind (·.dst) = some 13 := by rw [hA]; rfl
  simp [flowS, FlowMod.enc, hg3]
  refine RunQ.call rfl rfl rfl rfl (by rfl) (by simp (maxDischargeDepth := 120) [pl, flowS, hg3, FlowMod.enc]) (pFlows_c l 12 (by omega)) (by simp [pl, flowS, hg3, FlowMod.enc]) ?_
  refine RunQ.eval ?_
  simp [pl, flowS, hg3, FlowMod.enc]
  refine RunQ.callG rfl rfl (by simp [pm, hg3, FlowMod.enc]) rfl (by rfl) (by simp (maxDischargeDepth := 120) [pm, hg3, FlowMod.enc]) (pMod_c m) (by simp [pm, hg3, FlowMod.enc]) ?_
  refine RunQ.eval ?_
  simp [pm, hg3, FlowMod.enc]
  refine hQ _ _ ?_
  clear hQ hA
  repeat (first | refine WK.seq ?_ | refine WK.block ?_ | refine WK.inBlock ?_ | refine WK.skip ?_ | refine WK.label ?_ | refine WK.scope ?_ | refine WK.inScope ?_ | refine WK.exit rfl ?_)
  refine WK.cond2 rfl (fun h => ?_) (fun h => ?_)
  · cases h
  repeat (first | refine WK.seq ?_ | refine WK.block ?_ | refine WK.inBlock ?_ | refine WK.skip ?_ | refine WK.label ?_ | refine WK.scope ?_ | refine WK.inScope ?_ | refine WK.exit rfl ?_)
  first | refine WK.reg 300 Tryz.ntmps5 (by kernel_rfl) ?_ | refine WK.regD 300 clsOf (by kernel_rfl) Tryz.ntmps5 (by kernel_rfl) (by kernel_rfl) ?_
  intro A hA Q hQ
  simp
  refine hQ _ _ ?_
  clear hQ hA
  repeat (first | refine WK.seq ?_ | refine WK.block ?_ | refine WK.inBlock ?_ | refine WK.skip ?_ | refine WK.label ?_ | refine WK.scope ?_ | refine WK.inScope ?_ | refine WK.exit rfl ?_)
  apply WK.cut (⟨(upd (upd J 0 (.sl false l.length (flowL l))) 4 (.ptr 0 0)), (upd B0 0 (.var m'.enc)), 0⟩ : St)
  · intro hcut
    rw [z] at hcut
    cases b
    · repeat (first | refine WK.seq ?_ | refine WK.block ?_ | refine WK.inBlock ?_ | refine WK.skip ?_ | refine WK.label ?_ | refine WK.scope ?_ | refine WK.inScope ?_ | refine WK.exit rfl ?_)
      first | refine WK.reg 400 Tryz.ntmps5 (by kernel_rfl) ?_ | refine WK.regD 400 clsOf (by kernel_rfl) Tryz.ntmps5 (by kernel_rfl) (by kernel_rfl) ?_
      intro A hA Q hQ
      simp
      refine hQ _ _ ?_
      clear hQ hA
      repeat (first | refine WK.seq ?_ | refine WK.block ?_ | refine WK.inBlock ?_ | refine WK.skip ?_ | refine WK.label ?_ | refine WK.scope ?_ | refine WK.inScope ?_ | refine WK.exit rfl ?_)
      refine WK.cond2 rfl (fun h => ?_) (fun h => ?_)
      · cases h
      · repeat (first | refine WK.seq ?_ | refine WK.block ?_ | refine WK.inBlock ?_ | refine WK.skip ?_ | refine WK.label ?_ | refine WK.scope ?_ | refine WK.inScope ?_ | refine WK.exit rfl ?_)
        refine WK.next (fun n => n) hcut (by repeat (first | exact TmW.nil | refine TmW.upd ?_ (by simp (maxDischargeDepth := 120)))) (by repeat (first | exact BxW.nil | refine BxW.upd ?_ (by simp (maxDischargeDepth := 120)))) (by first | exact InjW.id | exact InjW.nil | exact InjW.one | exact InjW.two (by simp) | exact InjW.three (by simp) (by simp) (by simp))
    · repeat (first | refine WK.seq ?_ | refine WK.block ?_ | refine WK.inBlock ?_ | refine WK.skip ?_ | refine WK.label ?_ | refine WK.scope ?_ | refine WK.inScope ?_ | refine WK.exit rfl ?_)
      first | refine WK.reg 500 Tryz.ntmps5 (by kernel_rfl) ?_ | refine WK.regD 500 clsOf (by kernel_rfl) Tryz.ntmps5 (by kernel_rfl) (by kernel_rfl) ?_
      intro A hA Q hQ
      simp
      refine hQ _ _ ?_
      clear hQ hA
      repeat (first | refine WK.seq ?_ | refine WK.block ?_ | refine WK.inBlock ?_ | refine WK.skip ?_ | refine WK.label ?_ | refine WK.scope ?_ | refine WK.inScope ?_ | refine WK.exit rfl ?_)
      refine WK.cond2 rfl (fun h => ?_) (fun h => ?_)
      · repeat (first | refine WK.seq ?_ | refine WK.block ?_ | refine WK.inBlock ?_ | refine WK.skip ?_ | refine WK.label ?_ | refine WK.scope ?_ | refine WK.inScope ?_ | refine WK.exit rfl ?_)
        first | refine WK.reg 600 Tryz.ntmps5 (by kernel_rfl) ?_ | refine WK.regD 600 clsOf (by kernel_rfl) Tryz.ntmps5 (by kernel_rfl) (by kernel_rfl) ?_
        intro A hA Q hQ
        simp
        refine hQ _ _ ?_
        clear hQ hA
        repeat (first | refine WK.seq ?_ | refine WK.block ?_ | refine WK.inBlock ?_ | refine WK.skip ?_ | refine WK.label ?_ | refine WK.scope ?_ | refine WK.inScope ?_ | refine WK.exit rfl ?_)
        refine WK.next (fun n => n) hcut (by repeat (first | exact TmW.nil | refine TmW.upd ?_ (by simp (maxDischargeDepth := 120)))) (by repeat (first | exact BxW.nil | refine BxW.upd ?_ (by simp (maxDischargeDepth := 120)))) (by first | exact InjW.id | exact InjW.nil | exact InjW.one | exact InjW.two (by simp) | exact InjW.three (by simp) (by simp) (by simp))
      · cases h
  repeat (first | refine WK.seq ?_ | refine WK.block ?_ | refine WK.inBlock ?_ | refine WK.skip ?_ | refine WK.label ?_ | refine WK.scope ?_ | refine WK.inScope ?_ | refine WK.exit rfl ?_)
  first | refine WK.reg 700 Tryz.ntmps5 (by kernel_rfl) ?_ | refine WK.regD 700 clsOf (by kernel_rfl) Tryz.ntmps5 (by kernel_rfl) (by kernel_rfl) ?_
  intro A hA Q hQ
  simp
  refine RunQ.call rfl rfl rfl rfl (by rfl) (by simp (maxDischargeDepth := 120)) (c1) (by simp) ?_
  refine RunQ.eval ?_
  simp
  refine hQ _ _ ?_
  clear hQ hA
  repeat (first | refine WK.seq ?_ | refine WK.block ?_ | refine WK.inBlock ?_ | refine WK.skip ?_ | refine WK.label ?_ | refine WK.scope ?_ | refine WK.inScope ?_ | refine WK.exit rfl ?_)
  refine WK.ghost (Ghost.frzVar 4 rfl rfl) ?_
  repeat (first | refine WK.seq ?_ | refine WK.block ?_ | refine WK.inBlock ?_ | refine WK.skip ?_ | refine WK.label ?_ | refine WK.scope ?_ | refine WK.inScope ?_ | refine WK.exit rfl ?_)
  first | refine WK.reg 800 Tryz.ntmps5 (by kernel_rfl) ?_ | refine WK.regD 800 clsOf (by kernel_rfl) Tryz.ntmps5 (by kernel_rfl) (by kernel_rfl) ?_
  intro A hA Q hQ
  simp
  refine RunQ.callO 900 rfl rfl rfl (by simp) (by rfl) (by simp (maxDischargeDepth := 120)) (c2) (by simp) (by simp) (by simp) ?_
  refine RunQ.eval ?_
  simp
  refine RunQ.callBm 900 rfl rfl rfl (by simp) (by rfl) (c3) (by simp (maxDischargeDepth := 120)) (by simp (maxDischargeDepth := 120)) rfl rfl (by simp) ?_
  refine RunQ.eval ?_
  simp
  refine hQ _ _ ?_
  clear hQ hA
  repeat (first | refine WK.seq ?_ | refine WK.block ?_ | refine WK.inBlock ?_ | refine WK.skip ?_ | refine WK.label ?_ | refine WK.scope ?_ | refine WK.inScope ?_ | refine WK.exit rfl ?_)
  refine WK.ghost (Ghost.frzSl 9 7 rfl rfl) ?_
  rw [hT]
  repeat (first | refine WK.seq ?_ | refine WK.block ?_ | refine WK.inBlock ?_ | refine WK.skip ?_ | refine WK.label ?_ | refine WK.scope ?_ | refine WK.inScope ?_ | refine WK.exit rfl ?_)
  first | refine WK.reg 900 Tryz.ntmps5 (by kernel_rfl) ?_ | refine WK.regD 900 clsOf (by kernel_rfl) Tryz.ntmps5 (by kernel_rfl) (by kernel_rfl) ?_
  intro A hA Q hQ
  have hg3 : (A[3]?).bind (·.dst) = some 35 := by rw [hA]; rfl
  have hg8 : (A[8]?).bind (·.dst) = some 40 := by rw [hA]; rfl
  have hg15 : (A[15]?).bind (·.dst) = some 47 := by rw [hA]; rfl
  simp [hg3, hg8, hg15]
  refine RunQ.callG rfl rfl (by simp [hg3, hg8, hg15]) rfl (by rfl) (by simp (maxDischargeDepth := 120) [hg3, hg8, hg15]) (c4) (by simp [hg3, hg8, hg15]) ?_
  refine RunQ.eval ?_
  simp [hg3, hg8, hg15]
  refine RunQ.callG rfl rfl (by simp [hg8, hg15]) rfl (by rfl) (by simp (maxDischargeDepth := 120) [hg8, hg15]) (c5) (by simp [hg8, hg15]) ?_
  refine RunQ.eval ?_
  simp [hg8, hg15]
  refine RunQ.callG rfl rfl (by simp [hg15]) rfl (by rfl) (by simp (maxDischargeDepth := 120) [hg15]) (awake23_c) (by simp [hg15]) ?_
  refine RunQ.eval ?_
  simp [hg15]
  refine hQ _ _ ?_
  clear hQ hA
  repeat (first | refine WK.seq ?_ | refine WK.block ?_ | refine WK.inBlock ?_ | refine WK.skip ?_ | refine WK.label ?_ | refine WK.scope ?_ | refine WK.inScope ?_ | refine WK.exit rfl ?_)
  refine WK.ret Tryz.func5 (by simp (maxDischargeDepth := 120) [Tryz.results5]) (by simp)
end Go.Proofs.YtbncoeoamjcjjaaGreat
