/- Parts of a match: read. -/
import Derived.Test.YteonfhnljphbpaaGreatWk5
import Derived.Test.YteonfhnljphbpaaGreatAf
set_option linter.all false
set_option linter.unnecessarySimpa false
section
set_option linter.unusedVariables false
set_option linter.unusedSimpArgs false
namespace Go.Proofs.YteonfhnljphbpaaGreat
open Go Go.AI Go.Proofs

def oxm0 : Oxm := ⟨0, false, wideZ, wideZ⟩
/-- the part that bytes are, if their head is right -/
def oRead (b : List (BitVec 8)) : Oxm := ⟨(hField b).1, hMasked b, (wGet (b.drop 4) (fSize (hField b).1)).1,
  if hMasked b then (wGet (b.drop (4 + fSize (hField b).1)) (fSize (hField b).1)).1 else wideZ⟩
def oDec (b : List (BitVec 8)) : Oxm × Int × Int :=
  if hCode b = 0 then (if Oxm.form (oRead b) = 0 then (oRead b, 4 + bAt b 3, 0) else (oxm0, 0, Oxm.form (oRead b))) else (oxm0, 0, hCode b)
/-- a fault of a match -/
def oFault (c : Int) : List AV := if c = 0 then [.bool false, .int .i64 0, .int .i64 0] else [.bool true, .int .i64 4, .int .i64 c]
theorem oxm0_enc : oxm0.enc = [.int .i64 0, .bool false, .int .u64 0, .int .u64 0, .int .u64 0, .int .u64 0] := rfl
set_option maxHeartbeats 4000000 in
theorem odec_c (b : List (BitVec 8)) (hb0 : b.length ≤ 9223372036854775807) : FnP Tryz.prog 133 [byS b] (.tup [.agg (oDec b).1.enc, .int .i64 (oDec b).2.1, .agg (oFault (oDec b).2.2)]) := by
  have hh := ohead_c b hb0
  by_cases k : hCode b = 0
  case neg =>
    have er : hRes b = [.int .i64 0, .bool false, .int .i64 0, .int .i64 (hCode b)] := by unfold hRes; rw [if_neg k]
    have e : oDec b = (oxm0, 0, hCode b) := by unfold oDec; rw [if_neg k]
    have kb : (hCode b == 0) = false := beq_eq_false_iff_ne.2 k
    rw [er] at hh
    unfold byS at hh ⊢
    refine FnP.intro Tryz.func133 rfl rfl fun G w => ?_
    repeat (first | refine WK.seq ?_ | refine WK.block ?_ | refine WK.inBlock ?_ | refine WK.skip ?_ | refine WK.label ?_ | refine WK.scope ?_ | refine WK.inScope ?_ | refine WK.exit rfl ?_)
    first | refine WK.reg 100 Tryz.ntmps133 (by kernel_rfl) ?_ | refine WK.regD 100 clsOf (by kernel_rfl) Tryz.ntmps133 (by kernel_rfl) (by kernel_rfl) ?_
    intro A hA Q hQ
    simp
    refine hQ _ _ ?_
    clear hQ hA
    repeat (first | refine WK.seq ?_ | refine WK.block ?_ | refine WK.inBlock ?_ | refine WK.skip ?_ | refine WK.label ?_ | refine WK.scope ?_ | refine WK.inScope ?_ | refine WK.exit rfl ?_)
    first | refine WK.reg 200 Tryz.ntmps133 (by kernel_rfl) ?_ | refine WK.regD 200 clsOf (by kernel_rfl) Tryz.ntmps133 (by kernel_rfl) (by kernel_rfl) ?_
    intro A hA Q hQ
    simp
    refine RunQ.call rfl rfl rfl rfl (by rfl) (by simp (maxDischargeDepth := 120)) (hh) (by simp) ?_
    refine RunQ.eval ?_
    simp
    refine hQ _ _ ?_
    clear hQ hA
    repeat (first | refine WK.seq ?_ | refine WK.block ?_ | refine WK.inBlock ?_ | refine WK.skip ?_ | refine WK.label ?_ | refine WK.scope ?_ | refine WK.inScope ?_ | refine WK.exit rfl ?_)
    first | refine WK.reg 300 Tryz.ntmps133 (by kernel_rfl) ?_ | refine WK.regD 300 clsOf (by kernel_rfl) Tryz.ntmps133 (by kernel_rfl) (by kernel_rfl) ?_
    intro A hA Q hQ
    simp [kb, bne]
    refine hQ _ _ ?_
    clear hQ hA
    repeat (first | refine WK.seq ?_ | refine WK.block ?_ | refine WK.inBlock ?_ | refine WK.skip ?_ | refine WK.label ?_ | refine WK.scope ?_ | refine WK.inScope ?_ | refine WK.exit rfl ?_)
    refine WK.cond2 rfl (fun h => ?_) (fun h => ?_)
    · repeat (first | refine WK.seq ?_ | refine WK.block ?_ | refine WK.inBlock ?_ | refine WK.skip ?_ | refine WK.label ?_ | refine WK.scope ?_ | refine WK.inScope ?_ | refine WK.exit rfl ?_)
      first | refine WK.reg 400 Tryz.ntmps133 (by kernel_rfl) ?_ | refine WK.regD 400 clsOf (by kernel_rfl) Tryz.ntmps133 (by kernel_rfl) (by kernel_rfl) ?_
      intro A hA Q hQ
      simp
      refine RunQ.call rfl rfl rfl rfl (by rfl) (by simp (maxDischargeDepth := 120)) (obad_c (hCode b)) (by simp) ?_
      refine RunQ.eval ?_
      simp
      refine hQ _ _ ?_
      clear hQ hA
      repeat (first | refine WK.seq ?_ | refine WK.block ?_ | refine WK.inBlock ?_ | refine WK.skip ?_ | refine WK.label ?_ | refine WK.scope ?_ | refine WK.inScope ?_ | refine WK.exit rfl ?_)
      refine WK.ret Tryz.func133 (by simp (maxDischargeDepth := 120) [Tryz.results133, e, oxm0_enc, oFault, k]) (by simp [e, oxm0_enc, oFault, k])
    · cases h
  have er : hRes b = [.int .i64 (hField b).1, .bool (hMasked b), .int .i64 (bAt b 3 : Nat), .int .i64 0] := by unfold hRes; rw [if_pos k]
  have hk : 4 + bAt b 3 ≤ b.length ∧ bAt b 3 = hWant b := by
    unfold hCode at k
    split at k
    · cases k
    split at k
    · cases k
    split at k
    · cases k
    split at k
    · cases k
    split at k
    · cases k
    · rename_i h1 h2 h3 h4 h5
      simp at h5
      exact ⟨by omega, h5⟩
  have hl3 := bAt_lt b 3
  have hsz := fSize_le (hField b).1
  have hws : fSize (hField b).1 ≤ hWant b := by unfold hWant; split <;> omega
  have hfs := fsize_c (hField b).1
  obtain ⟨s, hs⟩ : ∃ s, s = fSize (hField b).1 := ⟨_, rfl⟩
  rw [← hs] at hfs hsz hws
  have q1 := wget_c (b.drop 4) s hsz (by rw [List.length_drop]; omega)
  have q2 := wget_c (b.drop (4 + s)) s hsz (by rw [List.length_drop]; omega)
  have hfo := oform_c (oRead b)
  have hR : oRead b = ⟨(hField b).1, hMasked b, (wGet (b.drop 4) s).1, if hMasked b then (wGet (b.drop (4 + s)) s).1 else wideZ⟩ := by unfold oRead; rw [← hs]
  have d4 : ((byL b).drop 4).take (b.length - 4) = byL (b.drop 4) := by rw [byL_drop]; exact by_full _ _ (by rw [List.length_drop])
  have d5 : ((byL b).drop (4 + s)).take (b.length - (4 + s)) = byL (b.drop (4 + s)) := by rw [byL_drop]; exact by_full _ _ (by rw [List.length_drop])
  have j4 : (4 : Int) ≤ b.length := by omega
  have j5 : 4 + (s : Int) ≤ b.length := by omega
  have j6 : (4 + (s : Int)).toNat = 4 + s := by omega
  have j7 : (0 : Int) ≤ 4 + (s : Int) := by omega
  have w5 : IntKind.i64.wrap (4 + (s : Int)) = 4 + (s : Int) := wrap_i64 (by omega) (by omega)
  rw [er] at hh
  unfold byS at hh q1 q2 ⊢
  rw [List.length_drop] at q1 q2
  obtain ⟨v1, hv1⟩ : ∃ v1, v1 = wGet (b.drop 4) s := ⟨_, rfl⟩
  obtain ⟨v2, hv2⟩ : ∃ v2, v2 = wGet (b.drop (4 + s)) s := ⟨_, rfl⟩
  rw [← hv1] at q1 hR
  rw [← hv2] at q2 hR
  refine FnP.intro Tryz.func133 rfl rfl fun G w => ?_
  repeat (first | refine WK.seq ?_ | refine WK.block ?_ | refine WK.inBlock ?_ | refine WK.skip ?_ | refine WK.label ?_ | refine WK.scope ?_ | refine WK.inScope ?_ | refine WK.exit rfl ?_)
  first | refine WK.reg 100 Tryz.ntmps133 (by kernel_rfl) ?_ | refine WK.regD 100 clsOf (by kernel_rfl) Tryz.ntmps133 (by kernel_rfl) (by kernel_rfl) ?_
  intro A hA Q hQ
  simp
  refine hQ _ _ ?_
  clear hQ hA
  repeat (first | refine WK.seq ?_ | refine WK.block ?_ | refine WK.inBlock ?_ | refine WK.skip ?_ | refine WK.label ?_ | refine WK.scope ?_ | refine WK.inScope ?_ | refine WK.exit rfl ?_)
  first | refine WK.reg 200 Tryz.ntmps133 (by kernel_rfl) ?_ | refine WK.regD 200 clsOf (by kernel_rfl) Tryz.ntmps133 (by kernel_rfl) (by kernel_rfl) ?_
  intro A hA Q hQ
  simp
  refine RunQ.call rfl rfl rfl rfl (by rfl) (by simp (maxDischargeDepth := 120)) (hh) (by simp) ?_
  refine RunQ.eval ?_
  simp
  refine hQ _ _ ?_
  clear hQ hA
  repeat (first | refine WK.seq ?_ | refine WK.block ?_ | refine WK.inBlock ?_ | refine WK.skip ?_ | refine WK.label ?_ | refine WK.scope ?_ | refine WK.inScope ?_ | refine WK.exit rfl ?_)
  first | refine WK.reg 300 Tryz.ntmps133 (by kernel_rfl) ?_ | refine WK.regD 300 clsOf (by kernel_rfl) Tryz.ntmps133 (by kernel_rfl) (by kernel_rfl) ?_
  intro A hA Q hQ
  simp
  refine hQ _ _ ?_
  clear hQ hA
  repeat (first | refine WK.seq ?_ | refine WK.block ?_ | refine WK.inBlock ?_ | refine WK.skip ?_ | refine WK.label ?_ | refine WK.scope ?_ | refine WK.inScope ?_ | refine WK.exit rfl ?_)
  refine WK.cond2 rfl (fun h => ?_) (fun h => ?_)
  · cases h
  repeat (first | refine WK.seq ?_ | refine WK.block ?_ | refine WK.inBlock ?_ | refine WK.skip ?_ | refine WK.label ?_ | refine WK.scope ?_ | refine WK.inScope ?_ | refine WK.exit rfl ?_)
  first | refine WK.reg 400 Tryz.ntmps133 (by kernel_rfl) ?_ | refine WK.regD 400 clsOf (by kernel_rfl) Tryz.ntmps133 (by kernel_rfl) (by kernel_rfl) ?_
  intro A hA Q hQ
  simp
  refine hQ _ _ ?_
  clear hQ hA
  repeat (first | refine WK.seq ?_ | refine WK.block ?_ | refine WK.inBlock ?_ | refine WK.skip ?_ | refine WK.label ?_ | refine WK.scope ?_ | refine WK.inScope ?_ | refine WK.exit rfl ?_)
  first | refine WK.reg 500 Tryz.ntmps133 (by kernel_rfl) ?_ | refine WK.regD 500 clsOf (by kernel_rfl) Tryz.ntmps133 (by kernel_rfl) (by kernel_rfl) ?_
  intro A hA Q hQ
  simp
  refine RunQ.call rfl rfl rfl rfl (by rfl) (by simp (maxDischargeDepth := 120)) (hfs) (by simp) ?_
  refine RunQ.eval ?_
  simp
  refine hQ _ _ ?_
  clear hQ hA
  repeat (first | refine WK.seq ?_ | refine WK.block ?_ | refine WK.inBlock ?_ | refine WK.skip ?_ | refine WK.label ?_ | refine WK.scope ?_ | refine WK.inScope ?_ | refine WK.exit rfl ?_)
  first | refine WK.reg 600 Tryz.ntmps133 (by kernel_rfl) ?_ | refine WK.regD 600 clsOf (by kernel_rfl) Tryz.ntmps133 (by kernel_rfl) (by kernel_rfl) ?_
  intro A hA Q hQ
  simp [j4, d4]
  refine RunQ.call rfl rfl rfl rfl (by rfl) (by simp (maxDischargeDepth := 120)) (q1) (by simp) ?_
  refine RunQ.eval ?_
  simp
  refine hQ _ _ ?_
  clear hQ hA
  repeat (first | refine WK.seq ?_ | refine WK.block ?_ | refine WK.inBlock ?_ | refine WK.skip ?_ | refine WK.label ?_ | refine WK.scope ?_ | refine WK.inScope ?_ | refine WK.exit rfl ?_)
  apply WK.cut (⟨(upd (upd (upd (upd J 2 (.ptr 0 0)) 4 (.ptr 2 0)) 7 (.int .i64 (bAt b 3 : Nat))) 9 (.ptr 303 0)), (upd (upd (upd B0 0 (.var oxm0.enc)) 2 (.var [.bool false, .int .i64 0, .int .i64 0])) 303 (.var (oRead b).enc)), 0⟩ : St)
  · intro hcut
    rw [hR] at hcut
    cases m : hMasked b
    · rw [m] at hcut
      repeat (first | refine WK.seq ?_ | refine WK.block ?_ | refine WK.inBlock ?_ | refine WK.skip ?_ | refine WK.label ?_ | refine WK.scope ?_ | refine WK.inScope ?_ | refine WK.exit rfl ?_)
      first | refine WK.reg 700 Tryz.ntmps133 (by kernel_rfl) ?_ | refine WK.regD 700 clsOf (by kernel_rfl) Tryz.ntmps133 (by kernel_rfl) (by kernel_rfl) ?_
      intro A hA Q hQ
      simp
      refine hQ _ _ ?_
      clear hQ hA
      repeat (first | refine WK.seq ?_ | refine WK.block ?_ | refine WK.inBlock ?_ | refine WK.skip ?_ | refine WK.label ?_ | refine WK.scope ?_ | refine WK.inScope ?_ | refine WK.exit rfl ?_)
      refine WK.cond2 rfl (fun h => ?_) (fun h => ?_)
      · cases h
      · repeat (first | refine WK.seq ?_ | refine WK.block ?_ | refine WK.inBlock ?_ | refine WK.skip ?_ | refine WK.label ?_ | refine WK.scope ?_ | refine WK.inScope ?_ | refine WK.exit rfl ?_)
        refine WK.next (fun n => n) hcut (by repeat (first | exact TmW.nil | refine TmW.upd ?_ (by simp (maxDischargeDepth := 120) [m, oxm0, Oxm.enc, Wide.enc, wideZ, uI_zero]))) (by repeat (first | exact BxW.nil | refine BxW.upd ?_ (by simp (maxDischargeDepth := 120) [m, oxm0, Oxm.enc, Wide.enc, wideZ, uI_zero]))) (by first | exact InjW.id | exact InjW.nil | exact InjW.one | exact InjW.two (by simp) | exact InjW.three (by simp) (by simp) (by simp))
    · rw [m] at hcut
      repeat (first | refine WK.seq ?_ | refine WK.block ?_ | refine WK.inBlock ?_ | refine WK.skip ?_ | refine WK.label ?_ | refine WK.scope ?_ | refine WK.inScope ?_ | refine WK.exit rfl ?_)
      first | refine WK.reg 800 Tryz.ntmps133 (by kernel_rfl) ?_ | refine WK.regD 800 clsOf (by kernel_rfl) Tryz.ntmps133 (by kernel_rfl) (by kernel_rfl) ?_
      intro A hA Q hQ
      simp
      refine hQ _ _ ?_
      clear hQ hA
      repeat (first | refine WK.seq ?_ | refine WK.block ?_ | refine WK.inBlock ?_ | refine WK.skip ?_ | refine WK.label ?_ | refine WK.scope ?_ | refine WK.inScope ?_ | refine WK.exit rfl ?_)
      refine WK.cond2 rfl (fun h => ?_) (fun h => ?_)
      · repeat (first | refine WK.seq ?_ | refine WK.block ?_ | refine WK.inBlock ?_ | refine WK.skip ?_ | refine WK.label ?_ | refine WK.scope ?_ | refine WK.inScope ?_ | refine WK.exit rfl ?_)
        first | refine WK.reg 900 Tryz.ntmps133 (by kernel_rfl) ?_ | refine WK.regD 900 clsOf (by kernel_rfl) Tryz.ntmps133 (by kernel_rfl) (by kernel_rfl) ?_
        intro A hA Q hQ
        simp [w5, j5, j6, j7, d5]
        refine RunQ.call rfl rfl rfl rfl (by rfl) (by simp (maxDischargeDepth := 120)) (q2) (by simp) ?_
        refine RunQ.eval ?_
        simp
        refine hQ _ _ ?_
        clear hQ hA
        repeat (first | refine WK.seq ?_ | refine WK.block ?_ | refine WK.inBlock ?_ | refine WK.skip ?_ | refine WK.label ?_ | refine WK.scope ?_ | refine WK.inScope ?_ | refine WK.exit rfl ?_)
        refine WK.next (fun n => n) hcut (by repeat (first | exact TmW.nil | refine TmW.upd ?_ (by simp (maxDischargeDepth := 120) [m, oxm0, Oxm.enc, Wide.enc, wideZ, uI_zero]))) (by repeat (first | exact BxW.nil | refine BxW.upd ?_ (by simp (maxDischargeDepth := 120) [m, oxm0, Oxm.enc, Wide.enc, wideZ, uI_zero]))) (by first | exact InjW.id | exact InjW.nil | exact InjW.one | exact InjW.two (by simp) | exact InjW.three (by simp) (by simp) (by simp))
      · cases h
  repeat (first | refine WK.seq ?_ | refine WK.block ?_ | refine WK.inBlock ?_ | refine WK.skip ?_ | refine WK.label ?_ | refine WK.scope ?_ | refine WK.inScope ?_ | refine WK.exit rfl ?_)
  refine WK.ghost (Ghost.frzVar 9 rfl rfl) ?_
  have w6 : IntKind.i64.wrap (4 + (bAt b 3 : Int)) = 4 + (bAt b 3 : Int) := wrap_i64 (by omega) (by omega)
  simp only [Oxm.enc] at hfo
  by_cases c : Oxm.form (oRead b) = 0
  · have e : oDec b = (oRead b, 4 + (bAt b 3 : Int), 0) := by unfold oDec; rw [if_pos k, if_pos c]
    rw [c] at hfo
    repeat (first | refine WK.seq ?_ | refine WK.block ?_ | refine WK.inBlock ?_ | refine WK.skip ?_ | refine WK.label ?_ | refine WK.scope ?_ | refine WK.inScope ?_ | refine WK.exit rfl ?_)
    first | refine WK.reg 1000 Tryz.ntmps133 (by kernel_rfl) ?_ | refine WK.regD 1000 clsOf (by kernel_rfl) Tryz.ntmps133 (by kernel_rfl) (by kernel_rfl) ?_
    intro A hA Q hQ
    simp [Oxm.enc]
    refine RunQ.call rfl rfl rfl rfl (by rfl) (by simp (maxDischargeDepth := 120)) (hfo) (by simp) ?_
    refine RunQ.eval ?_
    simp
    refine hQ _ _ ?_
    clear hQ hA
    repeat (first | refine WK.seq ?_ | refine WK.block ?_ | refine WK.inBlock ?_ | refine WK.skip ?_ | refine WK.label ?_ | refine WK.scope ?_ | refine WK.inScope ?_ | refine WK.exit rfl ?_)
    first | refine WK.reg 1100 Tryz.ntmps133 (by kernel_rfl) ?_ | refine WK.regD 1100 clsOf (by kernel_rfl) Tryz.ntmps133 (by kernel_rfl) (by kernel_rfl) ?_
    intro A hA Q hQ
    simp
    refine hQ _ _ ?_
    clear hQ hA
    repeat (first | refine WK.seq ?_ | refine WK.block ?_ | refine WK.inBlock ?_ | refine WK.skip ?_ | refine WK.label ?_ | refine WK.scope ?_ | refine WK.inScope ?_ | refine WK.exit rfl ?_)
    refine WK.cond2 rfl (fun h => ?_) (fun h => ?_)
    · cases h
    · repeat (first | refine WK.seq ?_ | refine WK.block ?_ | refine WK.inBlock ?_ | refine WK.skip ?_ | refine WK.label ?_ | refine WK.scope ?_ | refine WK.inScope ?_ | refine WK.exit rfl ?_)
      first | refine WK.reg 1200 Tryz.ntmps133 (by kernel_rfl) ?_ | refine WK.regD 1200 clsOf (by kernel_rfl) Tryz.ntmps133 (by kernel_rfl) (by kernel_rfl) ?_
      intro A hA Q hQ
      simp [w6, Oxm.enc, oxm0_enc]
      refine hQ _ _ ?_
      clear hQ hA
      repeat (first | refine WK.seq ?_ | refine WK.block ?_ | refine WK.inBlock ?_ | refine WK.skip ?_ | refine WK.label ?_ | refine WK.scope ?_ | refine WK.inScope ?_ | refine WK.exit rfl ?_)
      refine WK.ret Tryz.func133 (by simp (maxDischargeDepth := 120) [Tryz.results133, e, oFault, Oxm.enc]) (by simp [e, oFault, Oxm.enc])
  · have e : oDec b = (oxm0, 0, Oxm.form (oRead b)) := by unfold oDec; rw [if_pos k, if_neg c]
    have cb : (Oxm.form (oRead b) == 0) = false := beq_eq_false_iff_ne.2 c
    repeat (first | refine WK.seq ?_ | refine WK.block ?_ | refine WK.inBlock ?_ | refine WK.skip ?_ | refine WK.label ?_ | refine WK.scope ?_ | refine WK.inScope ?_ | refine WK.exit rfl ?_)
    first | refine WK.reg 1300 Tryz.ntmps133 (by kernel_rfl) ?_ | refine WK.regD 1300 clsOf (by kernel_rfl) Tryz.ntmps133 (by kernel_rfl) (by kernel_rfl) ?_
    intro A hA Q hQ
    simp [Oxm.enc]
    refine RunQ.call rfl rfl rfl rfl (by rfl) (by simp (maxDischargeDepth := 120)) (hfo) (by simp) ?_
    refine RunQ.eval ?_
    simp
    refine hQ _ _ ?_
    clear hQ hA
    repeat (first | refine WK.seq ?_ | refine WK.block ?_ | refine WK.inBlock ?_ | refine WK.skip ?_ | refine WK.label ?_ | refine WK.scope ?_ | refine WK.inScope ?_ | refine WK.exit rfl ?_)
    first | refine WK.reg 1400 Tryz.ntmps133 (by kernel_rfl) ?_ | refine WK.regD 1400 clsOf (by kernel_rfl) Tryz.ntmps133 (by kernel_rfl) (by kernel_rfl) ?_
    intro A hA Q hQ
    simp [cb, bne]
    refine hQ _ _ ?_
    clear hQ hA
    repeat (first | refine WK.seq ?_ | refine WK.block ?_ | refine WK.inBlock ?_ | refine WK.skip ?_ | refine WK.label ?_ | refine WK.scope ?_ | refine WK.inScope ?_ | refine WK.exit rfl ?_)
    refine WK.cond2 rfl (fun h => ?_) (fun h => ?_)
    · repeat (first | refine WK.seq ?_ | refine WK.block ?_ | refine WK.inBlock ?_ | refine WK.skip ?_ | refine WK.label ?_ | refine WK.scope ?_ | refine WK.inScope ?_ | refine WK.exit rfl ?_)
      first | refine WK.reg 1500 Tryz.ntmps133 (by kernel_rfl) ?_ | refine WK.regD 1500 clsOf (by kernel_rfl) Tryz.ntmps133 (by kernel_rfl) (by kernel_rfl) ?_
      intro A hA Q hQ
      simp [Oxm.enc, oxm0_enc]
      refine RunQ.call rfl rfl rfl rfl (by rfl) (by simp (maxDischargeDepth := 120)) (obad_c (Oxm.form (oRead b))) (by simp) ?_
      refine RunQ.eval ?_
      simp
      refine hQ _ _ ?_
      clear hQ hA
      repeat (first | refine WK.seq ?_ | refine WK.block ?_ | refine WK.inBlock ?_ | refine WK.skip ?_ | refine WK.label ?_ | refine WK.scope ?_ | refine WK.inScope ?_ | refine WK.exit rfl ?_)
      refine WK.ret Tryz.func133 (by simp (maxDischargeDepth := 120) [Tryz.results133, e, oFault, c, oxm0_enc]) (by simp [e, oFault, c, oxm0_enc])
    · cases h
end Go.Proofs.YteonfhnljphbpaaGreat
end

section
set_option linter.unusedVariables false
set_option linter.unusedSimpArgs false
namespace Go.Proofs.YteonfhnljphbpaaGreat
open Go Go.AI Go.Proofs
attribute [local irreducible] FnP FnO FnB FnT FnSeq WK RunQ RunQW RunX RunXW

theorem u8_quo : ∀ x : BitVec 8, IntKind.u8.wrap ((bI x).tdiv 2) = ((x.toNat / 2 : Nat) : Int) := by
  intro x
  have h : ∀ n : Fin 256, IntKind.u8.wrap (((n.val : Int)).tdiv 2) = ((n.val / 2 : Nat) : Int) := by decide +kernel
  exact h ⟨x.toNat, x.isLt⟩
theorem u8_rem : ∀ x : BitVec 8, IntKind.u8.wrap ((bI x).tmod 2) = ((x.toNat % 2 : Nat) : Int) := by
  intro x
  have h : ∀ n : Fin 256, IntKind.u8.wrap (((n.val : Int)).tmod 2) = ((n.val % 2 : Nat) : Int) := by decide +kernel
  exact h ⟨x.toNat, x.isLt⟩
/-- the head's code, as the reference finds it -/
theorem hCode_short {b : List (BitVec 8)} (h : b.length < 4 ∨ b.length < 4 + bAt b 3) : hCode b = 1 := by
  unfold hCode
  by_cases h4 : b.length < 4
  · rw [if_pos h4]
  · rw [if_neg h4, if_pos (by omega)]
def hIdx (b : List (BitVec 8)) : Int := ((bAt b 2 / 2 : Nat) : Int)
set_option maxHeartbeats 4000000 in
theorem rodec_c (b : List (BitVec 8)) (hb0 : b.length ≤ 9223372036854775807) : FnP Tryz.prog 132 [byS b] (.tup [.agg (oDec b).1.enc, .int .i64 (oDec b).2.1, .agg (oFault (oDec b).2.2)]) := by
  unfold byS
  by_cases h4 : b.length < 4
  · have c := hCode_short (.inl h4)
    have e : oDec b = (oxm0, 0, 1) := by unfold oDec; rw [c]; rfl
    have j4 : (b.length : Int) < 4 := by omega
    refine FnP.intro Tryz.func132 rfl rfl fun G w => ?_
    repeat' (first
     | refine WK.seq ?_
     | refine WK.block ?_
     | refine WK.inBlock ?_
     | refine WK.skip ?_
     | refine WK.label ?_
     | refine WK.scope ?_
     | refine WK.inScope ?_
     | refine WK.exit rfl ?_
     | refine WK.condT rfl ?_
     | refine WK.condF rfl ?_
     | (refine Hid.h hQ _ _ ?_; clear hQ hA)
     | refine WK.condAny rfl ?_ ?_
     | ((first | refine WK.cond2 rfl (fun h => ?_) (fun h => ?_) | refine Fork.mk (fun h => ?_) (fun h => ?_)) <;> (first | (simp [*] at h; done) | (have h2 := h; simp at h2; exfalso; omega) | (have h2 := h; simp at h2; try simp only [Bool.not_eq_true', Bool.not_eq_false'] at h) | skip))
     | ((first | refine WK.regH Tryz.ntmps132 (by kernel_rfl) ?_ | refine WK.regX (by kernel_rfl) Tryz.ntmps132 (by kernel_rfl) ?_); intro A hA Q hQ; simp [*])
     | (refine Hid.h hQ _ _ _ (by decide +kernel) ?_; clear hQ hA)
     | ((first | refine RunQ.gd rfl (by rw [hA.h]; rfl) ?_ | refine RunX.gd rfl (by rw [hA.h]; rfl) ?_); simp [*])
     | (((first | refine RunQ.call rfl rfl rfl rfl rfl ?_ (robad_c 1) ?_ ?_ | refine RunQW.call rfl rfl rfl rfl ?_ (robad_c 1) ?_ ?_ | refine RunX.call rfl rfl rfl rfl ?_ (robad_c 1) ?_ ?_ | refine RunXW.call rfl rfl rfl ?_ (robad_c 1) ?_ ?_); (focus (simp (maxDischargeDepth := 120) [*]; done))); (focus (simp [*]; done)); (first | refine RunQ.evalH ?_ | refine RunX.evalY ?_); simp [*])
     | (refine WK.ret Tryz.func132 ?_ ?_ <;> simp (maxDischargeDepth := 120) [Tryz.results132, oxm0_enc, oFault, *])
     | fail)
  have l3 := bAt_lt b 3
  have i3 : 3 < b.length := by omega
  have j3 : (3 : Int) < b.length := by omega
  have g3 := by_get b 3 i3
  have m3 : IntKind.i64.wrap (bI (nth b 3)) = (bAt b 3 : Int) := by rw [bI_nat]; exact wrap_i64 (by omega) (by omega)
  have w1 : IntKind.i64.wrap ((b.length : Int) - 4) = (b.length : Int) - 4 := wrap_i64 (by omega) (by omega)
  have j4 : ¬ (b.length : Int) < 4 := by omega
  by_cases h5 : b.length < 4 + bAt b 3
  · have c := hCode_short (.inr h5)
    have e : oDec b = (oxm0, 0, 1) := by unfold oDec; rw [c]; rfl
    have d : (b.length : Int) - 4 < bAt b 3 := by omega
    refine FnP.intro Tryz.func132 rfl rfl fun G w => ?_
    repeat' (first
     | refine WK.seq ?_
     | refine WK.block ?_
     | refine WK.inBlock ?_
     | refine WK.skip ?_
     | refine WK.label ?_
     | refine WK.scope ?_
     | refine WK.inScope ?_
     | refine WK.exit rfl ?_
     | refine WK.condT rfl ?_
     | refine WK.condF rfl ?_
     | (refine Hid.h hQ _ _ ?_; clear hQ hA)
     | refine WK.condAny rfl ?_ ?_
     | ((first | refine WK.cond2 rfl (fun h => ?_) (fun h => ?_) | refine Fork.mk (fun h => ?_) (fun h => ?_)) <;> (first | (simp [*] at h; done) | (have h2 := h; simp at h2; exfalso; omega) | (have h2 := h; simp at h2; try simp only [Bool.not_eq_true', Bool.not_eq_false'] at h) | skip))
     | ((first | refine WK.regH Tryz.ntmps132 (by kernel_rfl) ?_ | refine WK.regX (by kernel_rfl) Tryz.ntmps132 (by kernel_rfl) ?_); intro A hA Q hQ; simp [*])
     | (refine Hid.h hQ _ _ _ (by decide +kernel) ?_; clear hQ hA)
     | ((first | refine RunQ.gd rfl (by rw [hA.h]; rfl) ?_ | refine RunX.gd rfl (by rw [hA.h]; rfl) ?_); simp [*])
     | (((first | refine RunQ.call rfl rfl rfl rfl rfl ?_ (robad_c 1) ?_ ?_ | refine RunQW.call rfl rfl rfl rfl ?_ (robad_c 1) ?_ ?_ | refine RunX.call rfl rfl rfl rfl ?_ (robad_c 1) ?_ ?_ | refine RunXW.call rfl rfl rfl ?_ (robad_c 1) ?_ ?_); (focus (simp (maxDischargeDepth := 120) [*]; done))); (focus (simp [*]; done)); (first | refine RunQ.evalH ?_ | refine RunX.evalY ?_); simp [*])
     | (refine WK.ret Tryz.func132 ?_ ?_ <;> simp (maxDischargeDepth := 120) [Tryz.results132, oxm0_enc, oFault, *])
     | fail)
  have d : ¬ (b.length : Int) - 4 < bAt b 3 := by omega
  have i0 : 0 < b.length := by omega
  have i1 : 1 < b.length := by omega
  have i2 : 2 < b.length := by omega
  have j0 : (0 : Int) < b.length := by omega
  have j1 : (1 : Int) < b.length := by omega
  have j2 : (2 : Int) < b.length := by omega
  have g0 := by_get b 0 i0
  have g1 := by_get b 1 i1
  have g2 := by_get b 2 i2
  have l2 := bAt_lt b 2
  have m2 : IntKind.u8.wrap ((bI (nth b 2)).tdiv 2) = hIdx b := u8_quo (nth b 2)
  have m4 : IntKind.i64.wrap (hIdx b) = hIdx b := by unfold hIdx; exact wrap_i64 (by omega) (by omega)
  have hfi : FnP Tryz.prog 146 [.int .i64 (hIdx b)] (.tup [.int .i64 (hField b).1, .bool (hField b).2]) := rfindex_c (hIdx b)
  have z0 : (bI (nth b 0) == 128) = (bAt b 0 == 128) := by rw [bI_nat, Bool.eq_iff_iff, beq_iff_eq, beq_iff_eq]; omega
  have z1 : (bI (nth b 1) == 0) = (bAt b 1 == 0) := by rw [bI_nat, Bool.eq_iff_iff, beq_iff_eq, beq_iff_eq]; omega
  have m1 : ((bI (nth b 2)).tmod 2 == 1) = hMasked b := by
    have h1 := u8_rem (nth b 2)
    have h2 : (bI (nth b 2)).tmod 2 = (((nth b 2).toNat % 2 : Nat) : Int) := by
      rw [← h1]
      have : (0 : Int) ≤ bI (nth b 2) := (bI_lt _).1
      rw [Int.tmod_eq_emod_of_nonneg this]
      have : 0 ≤ bI (nth b 2) % 2 ∧ bI (nth b 2) % 2 < 2 := by omega
      rw [wrap_u8, bI_of]; omega
    rw [h2]; unfold hMasked bAt; rw [Bool.eq_iff_iff, beq_iff_eq, beq_iff_eq]; omega
  have hsz := fSize_le (hField b).1
  obtain ⟨s, hs⟩ : ∃ s, fSize (hField b).1 = s := ⟨_, rfl⟩
  rw [hs] at hsz
  have hfs := rfsize_c (hField b).1
  rw [hs] at hfs
  have w5 : IntKind.i64.wrap (4 + (s : Int)) = 4 + (s : Int) := wrap_i64 (by omega) (by omega)
  have w6 : IntKind.i64.wrap (2 * (s : Int)) = 2 * (s : Int) := wrap_i64 (by omega) (by omega)
  have w7 : IntKind.i64.wrap (4 + (bAt b 3 : Int)) = 4 + (bAt b 3 : Int) := wrap_i64 (by omega) (by omega)
  have z3 : ((bAt b 3 : Int) == (s : Int)) = (bAt b 3 == s) := by rw [Bool.eq_iff_iff, beq_iff_eq, beq_iff_eq]; omega
  have z4 : ((bAt b 3 : Int) == 2 * (s : Int)) = (bAt b 3 == 2 * s) := by rw [Bool.eq_iff_iff, beq_iff_eq, beq_iff_eq]; omega
  have j4 : (4 : Int) ≤ b.length := by omega
  have d4 : ((byL b).drop 4).take (b.length - 4) = byL (b.drop 4) := by rw [byL_drop]; exact by_full _ _ (by rw [List.length_drop])
  obtain ⟨v1, hv1⟩ : ∃ v1, (wGet (b.drop 4) s) = v1 := ⟨_, rfl⟩
  obtain ⟨v2, hv2⟩ : ∃ v2, (wGet (b.drop (4 + s)) s) = v2 := ⟨_, rfl⟩
  have q1 := rwget_c (b.drop 4) s hsz (by rw [List.length_drop]; omega)
  have q2 := rwget_c (b.drop (4 + s)) s hsz (by rw [List.length_drop]; omega)
  rw [hv1] at q1
  rw [hv2] at q2
  unfold byS at q1 q2
  rw [List.length_drop] at q1 q2
  have hbits := (fRow_ok (hField b).1).2
  have hlow := rlow2_c (fBits (hField b).1) (by unfold fBits; omega)
  obtain ⟨A0, hA0⟩ : ∃ A0, lowW (fBits (hField b).1) = A0 := ⟨_, rfl⟩
  rw [hA0] at hlow
  have hR : oRead b = ⟨(hField b).1, hMasked b, v1.1, if hMasked b then v2.1 else wideZ⟩ := by unfold oRead; rw [hs, hv1, hv2]
  have hw1 : hMasked b = false → hWant b = s := fun h => by unfold hWant; rw [h, hs]; rfl
  have hw2 : hMasked b = true → hWant b = 2 * s := fun h => by unfold hWant; rw [h, hs]; exact Nat.mul_comm _ _
  refine FnP.intro Tryz.func132 rfl rfl fun G w => ?_
  cases hm : hMasked b
  · have hw := hw1 hm
    cases hk : bAt b 3 == s
    · repeat' (first
       | refine WK.seq ?_
       | refine WK.block ?_
       | refine WK.inBlock ?_
       | refine WK.skip ?_
       | refine WK.label ?_
       | refine WK.scope ?_
       | refine WK.inScope ?_
       | refine WK.exit rfl ?_
       | refine WK.condT rfl ?_
       | refine WK.condF rfl ?_
       | (refine Hid.h hQ _ _ ?_; clear hQ hA)
       | refine WK.condAny rfl ?_ ?_
       | ((first | refine WK.cond2 rfl (fun h => ?_) (fun h => ?_) | refine Fork.mk (fun h => ?_) (fun h => ?_)) <;> (first | (simp [*] at h; done) | (have h2 := h; simp at h2; exfalso; omega) | (have h2 := h; simp at h2; try simp only [Bool.not_eq_true', Bool.not_eq_false'] at h) | skip))
       | ((first | refine WK.regH Tryz.ntmps132 (by kernel_rfl) ?_ | refine WK.regX (by kernel_rfl) Tryz.ntmps132 (by kernel_rfl) ?_); intro A hA Q hQ; simp [bne, Wide.enc, *])
       | (refine Hid.h hQ _ _ _ (by decide +kernel) ?_; clear hQ hA)
       | ((first | refine RunQ.gd rfl (by rw [hA.h]; rfl) ?_ | refine RunX.gd rfl (by rw [hA.h]; rfl) ?_); simp [bne, Wide.enc, *])
       | ((first | ((first | refine RunQ.call rfl rfl rfl rfl rfl ?_ (hfi) ?_ ?_ | refine RunQW.call rfl rfl rfl rfl ?_ (hfi) ?_ ?_ | refine RunX.call rfl rfl rfl rfl ?_ (hfi) ?_ ?_ | refine RunXW.call rfl rfl rfl ?_ (hfi) ?_ ?_); (focus (simp (maxDischargeDepth := 120) [bne, Wide.enc, *]; done))) | ((first | refine RunQ.call rfl rfl rfl rfl rfl ?_ (robad_c 6) ?_ ?_ | refine RunQW.call rfl rfl rfl rfl ?_ (robad_c 6) ?_ ?_ | refine RunX.call rfl rfl rfl rfl ?_ (robad_c 6) ?_ ?_ | refine RunXW.call rfl rfl rfl ?_ (robad_c 6) ?_ ?_); (focus (simp (maxDischargeDepth := 120) [bne, Wide.enc, *]; done))) | ((first | refine RunQ.call rfl rfl rfl rfl rfl ?_ (robad_c 1) ?_ ?_ | refine RunQW.call rfl rfl rfl rfl ?_ (robad_c 1) ?_ ?_ | refine RunX.call rfl rfl rfl rfl ?_ (robad_c 1) ?_ ?_ | refine RunXW.call rfl rfl rfl ?_ (robad_c 1) ?_ ?_); (focus (simp (maxDischargeDepth := 120) [bne, Wide.enc, *]; done))) | ((first | refine RunQ.call rfl rfl rfl rfl rfl ?_ (robad_c 8) ?_ ?_ | refine RunQW.call rfl rfl rfl rfl ?_ (robad_c 8) ?_ ?_ | refine RunX.call rfl rfl rfl rfl ?_ (robad_c 8) ?_ ?_ | refine RunXW.call rfl rfl rfl ?_ (robad_c 8) ?_ ?_); (focus (simp (maxDischargeDepth := 120) [bne, Wide.enc, *]; done))) | ((first | refine RunQ.call rfl rfl rfl rfl rfl ?_ (hfs) ?_ ?_ | refine RunQW.call rfl rfl rfl rfl ?_ (hfs) ?_ ?_ | refine RunX.call rfl rfl rfl rfl ?_ (hfs) ?_ ?_ | refine RunXW.call rfl rfl rfl ?_ (hfs) ?_ ?_); (focus (simp (maxDischargeDepth := 120) [bne, Wide.enc, *]; done))) | ((first | refine RunQ.call rfl rfl rfl rfl rfl ?_ (rfmasks_c (hField b).1) ?_ ?_ | refine RunQW.call rfl rfl rfl rfl ?_ (rfmasks_c (hField b).1) ?_ ?_ | refine RunX.call rfl rfl rfl rfl ?_ (rfmasks_c (hField b).1) ?_ ?_ | refine RunXW.call rfl rfl rfl ?_ (rfmasks_c (hField b).1) ?_ ?_); (focus (simp (maxDischargeDepth := 120) [bne, Wide.enc, *]; done)))); (focus (simp [bne, Wide.enc, *]; done)); (first | refine RunQ.evalH ?_ | refine RunX.evalY ?_); simp [bne, Wide.enc, *])
       | (refine WK.ret Tryz.func132 ?_ ?_ <;> simp (maxDischargeDepth := 120) [Tryz.results132, bne, Wide.enc, oxm0_enc, oFault, oDec, hCode, *])
       | fail)
    have hk2 : (bAt b 3 == hWant b) = true := by rw [hw, hk]
    rw [hm] at hR
    repeat' (first
     | refine WK.seq ?_
     | refine WK.block ?_
     | refine WK.inBlock ?_
     | refine WK.skip ?_
     | refine WK.label ?_
     | refine WK.scope ?_
     | refine WK.inScope ?_
     | refine WK.exit rfl ?_
     | refine WK.condT rfl ?_
     | refine WK.condF rfl ?_
     | (refine Hid.h hQ _ _ ?_; clear hQ hA)
     | refine WK.condAny rfl ?_ ?_
     | ((first | refine WK.cond2 rfl (fun h => ?_) (fun h => ?_) | refine Fork.mk (fun h => ?_) (fun h => ?_)) <;> (first | (simp [*] at h; done) | (have h2 := h; simp at h2; exfalso; omega) | (have h2 := h; simp at h2; try simp only [Bool.not_eq_true', Bool.not_eq_false'] at h) | skip))
     | ((first | refine WK.regH Tryz.ntmps132 (by kernel_rfl) ?_ | refine WK.regX (by kernel_rfl) Tryz.ntmps132 (by kernel_rfl) ?_); intro A hA Q hQ; simp [bne, Wide.enc, *])
     | (refine Hid.h hQ _ _ _ (by decide +kernel) ?_; clear hQ hA)
     | ((first | refine RunQ.gd rfl (by rw [hA.h]; rfl) ?_ | refine RunX.gd rfl (by rw [hA.h]; rfl) ?_); simp [bne, Wide.enc, *])
     | ((first | ((first | refine RunQ.call rfl rfl rfl rfl rfl ?_ (hfi) ?_ ?_ | refine RunQW.call rfl rfl rfl rfl ?_ (hfi) ?_ ?_ | refine RunX.call rfl rfl rfl rfl ?_ (hfi) ?_ ?_ | refine RunXW.call rfl rfl rfl ?_ (hfi) ?_ ?_); (focus (simp (maxDischargeDepth := 120) [bne, Wide.enc, *]; done))) | ((first | refine RunQ.call rfl rfl rfl rfl rfl ?_ (robad_c 6) ?_ ?_ | refine RunQW.call rfl rfl rfl rfl ?_ (robad_c 6) ?_ ?_ | refine RunX.call rfl rfl rfl rfl ?_ (robad_c 6) ?_ ?_ | refine RunXW.call rfl rfl rfl ?_ (robad_c 6) ?_ ?_); (focus (simp (maxDischargeDepth := 120) [bne, Wide.enc, *]; done))) | ((first | refine RunQ.call rfl rfl rfl rfl rfl ?_ (robad_c 1) ?_ ?_ | refine RunQW.call rfl rfl rfl rfl ?_ (robad_c 1) ?_ ?_ | refine RunX.call rfl rfl rfl rfl ?_ (robad_c 1) ?_ ?_ | refine RunXW.call rfl rfl rfl ?_ (robad_c 1) ?_ ?_); (focus (simp (maxDischargeDepth := 120) [bne, Wide.enc, *]; done))) | ((first | refine RunQ.call rfl rfl rfl rfl rfl ?_ (robad_c 8) ?_ ?_ | refine RunQW.call rfl rfl rfl rfl ?_ (robad_c 8) ?_ ?_ | refine RunX.call rfl rfl rfl rfl ?_ (robad_c 8) ?_ ?_ | refine RunXW.call rfl rfl rfl ?_ (robad_c 8) ?_ ?_); (focus (simp (maxDischargeDepth := 120) [bne, Wide.enc, *]; done))) | ((first | refine RunQ.call rfl rfl rfl rfl rfl ?_ (hfs) ?_ ?_ | refine RunQW.call rfl rfl rfl rfl ?_ (hfs) ?_ ?_ | refine RunX.call rfl rfl rfl rfl ?_ (hfs) ?_ ?_ | refine RunXW.call rfl rfl rfl ?_ (hfs) ?_ ?_); (focus (simp (maxDischargeDepth := 120) [bne, Wide.enc, *]; done))) | ((first | refine RunQ.call rfl rfl rfl rfl rfl ?_ (rfmasks_c (hField b).1) ?_ ?_ | refine RunQW.call rfl rfl rfl rfl ?_ (rfmasks_c (hField b).1) ?_ ?_ | refine RunX.call rfl rfl rfl rfl ?_ (rfmasks_c (hField b).1) ?_ ?_ | refine RunXW.call rfl rfl rfl ?_ (rfmasks_c (hField b).1) ?_ ?_); (focus (simp (maxDischargeDepth := 120) [bne, Wide.enc, *]; done))) | ((first | refine RunQ.call rfl rfl rfl rfl rfl ?_ (q1) ?_ ?_ | refine RunQW.call rfl rfl rfl rfl ?_ (q1) ?_ ?_ | refine RunX.call rfl rfl rfl rfl ?_ (q1) ?_ ?_ | refine RunXW.call rfl rfl rfl ?_ (q1) ?_ ?_); (focus (simp (maxDischargeDepth := 120) [bne, Wide.enc, *]; done))) | ((first | refine RunQ.call rfl rfl rfl rfl rfl ?_ (hlow) ?_ ?_ | refine RunQW.call rfl rfl rfl rfl ?_ (hlow) ?_ ?_ | refine RunX.call rfl rfl rfl rfl ?_ (hlow) ?_ ?_ | refine RunXW.call rfl rfl rfl ?_ (hlow) ?_ ?_); (focus (simp (maxDischargeDepth := 120) [bne, Wide.enc, *]; done))) | ((first | refine RunQ.call rfl rfl rfl rfl rfl ?_ (rfbits_c (hField b).1) ?_ ?_ | refine RunQW.call rfl rfl rfl rfl ?_ (rfbits_c (hField b).1) ?_ ?_ | refine RunX.call rfl rfl rfl rfl ?_ (rfbits_c (hField b).1) ?_ ?_ | refine RunXW.call rfl rfl rfl ?_ (rfbits_c (hField b).1) ?_ ?_); (focus (simp (maxDischargeDepth := 120) [bne, Wide.enc, *]; done))) | ((first | refine RunQ.call rfl rfl rfl rfl rfl ?_ (rless_c v1.1 A0) ?_ ?_ | refine RunQW.call rfl rfl rfl rfl ?_ (rless_c v1.1 A0) ?_ ?_ | refine RunX.call rfl rfl rfl rfl ?_ (rless_c v1.1 A0) ?_ ?_ | refine RunXW.call rfl rfl rfl ?_ (rless_c v1.1 A0) ?_ ?_); (focus (simp (maxDischargeDepth := 120) [bne, Wide.enc, *]; done))) | ((first | refine RunQ.call rfl rfl rfl rfl rfl ?_ (rzero_c (v1.1.less A0)) ?_ ?_ | refine RunQW.call rfl rfl rfl rfl ?_ (rzero_c (v1.1.less A0)) ?_ ?_ | refine RunX.call rfl rfl rfl rfl ?_ (rzero_c (v1.1.less A0)) ?_ ?_ | refine RunXW.call rfl rfl rfl ?_ (rzero_c (v1.1.less A0)) ?_ ?_); (focus (simp (maxDischargeDepth := 120) [bne, Wide.enc, *]; done))) | ((first | refine RunQ.call rfl rfl rfl rfl rfl ?_ (robad_c 7) ?_ ?_ | refine RunQW.call rfl rfl rfl rfl ?_ (robad_c 7) ?_ ?_ | refine RunX.call rfl rfl rfl rfl ?_ (robad_c 7) ?_ ?_ | refine RunXW.call rfl rfl rfl ?_ (robad_c 7) ?_ ?_); (focus (simp (maxDischargeDepth := 120) [bne, Wide.enc, *]; done)))); (focus (simp [bne, Wide.enc, *]; done)); (first | refine RunQ.evalH ?_ | refine RunX.evalY ?_); simp [bne, Wide.enc, *])
     | (refine WK.ret Tryz.func132 ?_ ?_ <;> simp (maxDischargeDepth := 120) [Tryz.results132, bne, Wide.enc, oxm0_enc, oFault, oDec, hCode, Oxm.form, Oxm.beyond, Oxm.enc, oxm0, wideZ, uI_zero, *])
     | fail)
  cases hk : bAt b 3 == 2 * s
  · have hw := hw2 hm
    repeat' (first
     | refine WK.seq ?_
     | refine WK.block ?_
     | refine WK.inBlock ?_
     | refine WK.skip ?_
     | refine WK.label ?_
     | refine WK.scope ?_
     | refine WK.inScope ?_
     | refine WK.exit rfl ?_
     | refine WK.condT rfl ?_
     | refine WK.condF rfl ?_
     | (refine Hid.h hQ _ _ ?_; clear hQ hA)
     | refine WK.condAny rfl ?_ ?_
     | ((first | refine WK.cond2 rfl (fun h => ?_) (fun h => ?_) | refine Fork.mk (fun h => ?_) (fun h => ?_)) <;> (first | (simp [*] at h; done) | (have h2 := h; simp at h2; exfalso; omega) | (have h2 := h; simp at h2; try simp only [Bool.not_eq_true', Bool.not_eq_false'] at h) | skip))
     | ((first | refine WK.regH Tryz.ntmps132 (by kernel_rfl) ?_ | refine WK.regX (by kernel_rfl) Tryz.ntmps132 (by kernel_rfl) ?_); intro A hA Q hQ; simp [bne, Wide.enc, *])
     | (refine Hid.h hQ _ _ _ (by decide +kernel) ?_; clear hQ hA)
     | ((first | refine RunQ.gd rfl (by rw [hA.h]; rfl) ?_ | refine RunX.gd rfl (by rw [hA.h]; rfl) ?_); simp [bne, Wide.enc, *])
     | ((first | ((first | refine RunQ.call rfl rfl rfl rfl rfl ?_ (hfi) ?_ ?_ | refine RunQW.call rfl rfl rfl rfl ?_ (hfi) ?_ ?_ | refine RunX.call rfl rfl rfl rfl ?_ (hfi) ?_ ?_ | refine RunXW.call rfl rfl rfl ?_ (hfi) ?_ ?_); (focus (simp (maxDischargeDepth := 120) [bne, Wide.enc, *]; done))) | ((first | refine RunQ.call rfl rfl rfl rfl rfl ?_ (robad_c 6) ?_ ?_ | refine RunQW.call rfl rfl rfl rfl ?_ (robad_c 6) ?_ ?_ | refine RunX.call rfl rfl rfl rfl ?_ (robad_c 6) ?_ ?_ | refine RunXW.call rfl rfl rfl ?_ (robad_c 6) ?_ ?_); (focus (simp (maxDischargeDepth := 120) [bne, Wide.enc, *]; done))) | ((first | refine RunQ.call rfl rfl rfl rfl rfl ?_ (robad_c 1) ?_ ?_ | refine RunQW.call rfl rfl rfl rfl ?_ (robad_c 1) ?_ ?_ | refine RunX.call rfl rfl rfl rfl ?_ (robad_c 1) ?_ ?_ | refine RunXW.call rfl rfl rfl ?_ (robad_c 1) ?_ ?_); (focus (simp (maxDischargeDepth := 120) [bne, Wide.enc, *]; done))) | ((first | refine RunQ.call rfl rfl rfl rfl rfl ?_ (robad_c 8) ?_ ?_ | refine RunQW.call rfl rfl rfl rfl ?_ (robad_c 8) ?_ ?_ | refine RunX.call rfl rfl rfl rfl ?_ (robad_c 8) ?_ ?_ | refine RunXW.call rfl rfl rfl ?_ (robad_c 8) ?_ ?_); (focus (simp (maxDischargeDepth := 120) [bne, Wide.enc, *]; done))) | ((first | refine RunQ.call rfl rfl rfl rfl rfl ?_ (hfs) ?_ ?_ | refine RunQW.call rfl rfl rfl rfl ?_ (hfs) ?_ ?_ | refine RunX.call rfl rfl rfl rfl ?_ (hfs) ?_ ?_ | refine RunXW.call rfl rfl rfl ?_ (hfs) ?_ ?_); (focus (simp (maxDischargeDepth := 120) [bne, Wide.enc, *]; done))) | ((first | refine RunQ.call rfl rfl rfl rfl rfl ?_ (rfmasks_c (hField b).1) ?_ ?_ | refine RunQW.call rfl rfl rfl rfl ?_ (rfmasks_c (hField b).1) ?_ ?_ | refine RunX.call rfl rfl rfl rfl ?_ (rfmasks_c (hField b).1) ?_ ?_ | refine RunXW.call rfl rfl rfl ?_ (rfmasks_c (hField b).1) ?_ ?_); (focus (simp (maxDischargeDepth := 120) [bne, Wide.enc, *]; done)))); (focus (simp [bne, Wide.enc, *]; done)); (first | refine RunQ.evalH ?_ | refine RunX.evalY ?_); simp [bne, Wide.enc, *])
     | (refine WK.ret Tryz.func132 ?_ ?_ <;> simp (maxDischargeDepth := 120) [Tryz.results132, bne, Wide.enc, oxm0_enc, oFault, oDec, hCode, *])
     | fail)
  · have hw := hw2 hm
    have hk2 : (bAt b 3 == hWant b) = true := by rw [hw, hk]
    have j5 : 4 + (s : Int) ≤ b.length := by rw [beq_iff_eq] at hk; omega
    have j6 : (4 + (s : Int)).toNat = 4 + s := by omega
    have j7 : (0 : Int) ≤ 4 + (s : Int) := by omega
    have d5 : ((byL b).drop (4 + s)).take (b.length - (4 + s)) = byL (b.drop (4 + s)) := by rw [byL_drop]; exact by_full _ _ (by rw [List.length_drop])
    rw [hm] at hR
    repeat' (first
     | refine WK.seq ?_
     | refine WK.block ?_
     | refine WK.inBlock ?_
     | refine WK.skip ?_
     | refine WK.label ?_
     | refine WK.scope ?_
     | refine WK.inScope ?_
     | refine WK.exit rfl ?_
     | refine WK.condT rfl ?_
     | refine WK.condF rfl ?_
     | (refine Hid.h hQ _ _ ?_; clear hQ hA)
     | refine WK.condAny rfl ?_ ?_
     | ((first | refine WK.cond2 rfl (fun h => ?_) (fun h => ?_) | refine Fork.mk (fun h => ?_) (fun h => ?_)) <;> (first | (simp [*] at h; done) | (have h2 := h; simp at h2; exfalso; omega) | (have h2 := h; simp at h2; try simp only [Bool.not_eq_true', Bool.not_eq_false'] at h) | skip))
     | ((first | refine WK.regH Tryz.ntmps132 (by kernel_rfl) ?_ | refine WK.regX (by kernel_rfl) Tryz.ntmps132 (by kernel_rfl) ?_); intro A hA Q hQ; simp [bne, Wide.enc, *])
     | (refine Hid.h hQ _ _ _ (by decide +kernel) ?_; clear hQ hA)
     | ((first | refine RunQ.gd rfl (by rw [hA.h]; rfl) ?_ | refine RunX.gd rfl (by rw [hA.h]; rfl) ?_); simp [bne, Wide.enc, *])
     | ((first | ((first | refine RunQ.call rfl rfl rfl rfl rfl ?_ (hfi) ?_ ?_ | refine RunQW.call rfl rfl rfl rfl ?_ (hfi) ?_ ?_ | refine RunX.call rfl rfl rfl rfl ?_ (hfi) ?_ ?_ | refine RunXW.call rfl rfl rfl ?_ (hfi) ?_ ?_); (focus (simp (maxDischargeDepth := 120) [bne, Wide.enc, *]; done))) | ((first | refine RunQ.call rfl rfl rfl rfl rfl ?_ (robad_c 6) ?_ ?_ | refine RunQW.call rfl rfl rfl rfl ?_ (robad_c 6) ?_ ?_ | refine RunX.call rfl rfl rfl rfl ?_ (robad_c 6) ?_ ?_ | refine RunXW.call rfl rfl rfl ?_ (robad_c 6) ?_ ?_); (focus (simp (maxDischargeDepth := 120) [bne, Wide.enc, *]; done))) | ((first | refine RunQ.call rfl rfl rfl rfl rfl ?_ (robad_c 1) ?_ ?_ | refine RunQW.call rfl rfl rfl rfl ?_ (robad_c 1) ?_ ?_ | refine RunX.call rfl rfl rfl rfl ?_ (robad_c 1) ?_ ?_ | refine RunXW.call rfl rfl rfl ?_ (robad_c 1) ?_ ?_); (focus (simp (maxDischargeDepth := 120) [bne, Wide.enc, *]; done))) | ((first | refine RunQ.call rfl rfl rfl rfl rfl ?_ (robad_c 8) ?_ ?_ | refine RunQW.call rfl rfl rfl rfl ?_ (robad_c 8) ?_ ?_ | refine RunX.call rfl rfl rfl rfl ?_ (robad_c 8) ?_ ?_ | refine RunXW.call rfl rfl rfl ?_ (robad_c 8) ?_ ?_); (focus (simp (maxDischargeDepth := 120) [bne, Wide.enc, *]; done))) | ((first | refine RunQ.call rfl rfl rfl rfl rfl ?_ (hfs) ?_ ?_ | refine RunQW.call rfl rfl rfl rfl ?_ (hfs) ?_ ?_ | refine RunX.call rfl rfl rfl rfl ?_ (hfs) ?_ ?_ | refine RunXW.call rfl rfl rfl ?_ (hfs) ?_ ?_); (focus (simp (maxDischargeDepth := 120) [bne, Wide.enc, *]; done))) | ((first | refine RunQ.call rfl rfl rfl rfl rfl ?_ (rfmasks_c (hField b).1) ?_ ?_ | refine RunQW.call rfl rfl rfl rfl ?_ (rfmasks_c (hField b).1) ?_ ?_ | refine RunX.call rfl rfl rfl rfl ?_ (rfmasks_c (hField b).1) ?_ ?_ | refine RunXW.call rfl rfl rfl ?_ (rfmasks_c (hField b).1) ?_ ?_); (focus (simp (maxDischargeDepth := 120) [bne, Wide.enc, *]; done))) | ((first | refine RunQ.call rfl rfl rfl rfl rfl ?_ (q1) ?_ ?_ | refine RunQW.call rfl rfl rfl rfl ?_ (q1) ?_ ?_ | refine RunX.call rfl rfl rfl rfl ?_ (q1) ?_ ?_ | refine RunXW.call rfl rfl rfl ?_ (q1) ?_ ?_); (focus (simp (maxDischargeDepth := 120) [bne, Wide.enc, *]; done))) | ((first | refine RunQ.call rfl rfl rfl rfl rfl ?_ (q2) ?_ ?_ | refine RunQW.call rfl rfl rfl rfl ?_ (q2) ?_ ?_ | refine RunX.call rfl rfl rfl rfl ?_ (q2) ?_ ?_ | refine RunXW.call rfl rfl rfl ?_ (q2) ?_ ?_); (focus (simp (maxDischargeDepth := 120) [bne, Wide.enc, *]; done))) | ((first | refine RunQ.call rfl rfl rfl rfl rfl ?_ (hlow) ?_ ?_ | refine RunQW.call rfl rfl rfl rfl ?_ (hlow) ?_ ?_ | refine RunX.call rfl rfl rfl rfl ?_ (hlow) ?_ ?_ | refine RunXW.call rfl rfl rfl ?_ (hlow) ?_ ?_); (focus (simp (maxDischargeDepth := 120) [bne, Wide.enc, *]; done))) | ((first | refine RunQ.call rfl rfl rfl rfl rfl ?_ (rfbits_c (hField b).1) ?_ ?_ | refine RunQW.call rfl rfl rfl rfl ?_ (rfbits_c (hField b).1) ?_ ?_ | refine RunX.call rfl rfl rfl rfl ?_ (rfbits_c (hField b).1) ?_ ?_ | refine RunXW.call rfl rfl rfl ?_ (rfbits_c (hField b).1) ?_ ?_); (focus (simp (maxDischargeDepth := 120) [bne, Wide.enc, *]; done))) | ((first | refine RunQ.call rfl rfl rfl rfl rfl ?_ (rless_c v1.1 A0) ?_ ?_ | refine RunQW.call rfl rfl rfl rfl ?_ (rless_c v1.1 A0) ?_ ?_ | refine RunX.call rfl rfl rfl rfl ?_ (rless_c v1.1 A0) ?_ ?_ | refine RunXW.call rfl rfl rfl ?_ (rless_c v1.1 A0) ?_ ?_); (focus (simp (maxDischargeDepth := 120) [bne, Wide.enc, *]; done))) | ((first | refine RunQ.call rfl rfl rfl rfl rfl ?_ (rzero_c (v1.1.less A0)) ?_ ?_ | refine RunQW.call rfl rfl rfl rfl ?_ (rzero_c (v1.1.less A0)) ?_ ?_ | refine RunX.call rfl rfl rfl rfl ?_ (rzero_c (v1.1.less A0)) ?_ ?_ | refine RunXW.call rfl rfl rfl ?_ (rzero_c (v1.1.less A0)) ?_ ?_); (focus (simp (maxDischargeDepth := 120) [bne, Wide.enc, *]; done))) | ((first | refine RunQ.call rfl rfl rfl rfl rfl ?_ (robad_c 7) ?_ ?_ | refine RunQW.call rfl rfl rfl rfl ?_ (robad_c 7) ?_ ?_ | refine RunX.call rfl rfl rfl rfl ?_ (robad_c 7) ?_ ?_ | refine RunXW.call rfl rfl rfl ?_ (robad_c 7) ?_ ?_); (focus (simp (maxDischargeDepth := 120) [bne, Wide.enc, *]; done))) | ((first | refine RunQ.call rfl rfl rfl rfl rfl ?_ (rzero_c v2.1) ?_ ?_ | refine RunQW.call rfl rfl rfl rfl ?_ (rzero_c v2.1) ?_ ?_ | refine RunX.call rfl rfl rfl rfl ?_ (rzero_c v2.1) ?_ ?_ | refine RunXW.call rfl rfl rfl ?_ (rzero_c v2.1) ?_ ?_); (focus (simp (maxDischargeDepth := 120) [bne, Wide.enc, *]; done))) | ((first | refine RunQ.call rfl rfl rfl rfl rfl ?_ (rless_c v2.1 A0) ?_ ?_ | refine RunQW.call rfl rfl rfl rfl ?_ (rless_c v2.1 A0) ?_ ?_ | refine RunX.call rfl rfl rfl rfl ?_ (rless_c v2.1 A0) ?_ ?_ | refine RunXW.call rfl rfl rfl ?_ (rless_c v2.1 A0) ?_ ?_); (focus (simp (maxDischargeDepth := 120) [bne, Wide.enc, *]; done))) | ((first | refine RunQ.call rfl rfl rfl rfl rfl ?_ (rzero_c (v2.1.less A0)) ?_ ?_ | refine RunQW.call rfl rfl rfl rfl ?_ (rzero_c (v2.1.less A0)) ?_ ?_ | refine RunX.call rfl rfl rfl rfl ?_ (rzero_c (v2.1.less A0)) ?_ ?_ | refine RunXW.call rfl rfl rfl ?_ (rzero_c (v2.1.less A0)) ?_ ?_); (focus (simp (maxDischargeDepth := 120) [bne, Wide.enc, *]; done))) | ((first | refine RunQ.call rfl rfl rfl rfl rfl ?_ (rless_c v1.1 v2.1) ?_ ?_ | refine RunQW.call rfl rfl rfl rfl ?_ (rless_c v1.1 v2.1) ?_ ?_ | refine RunX.call rfl rfl rfl rfl ?_ (rless_c v1.1 v2.1) ?_ ?_ | refine RunXW.call rfl rfl rfl ?_ (rless_c v1.1 v2.1) ?_ ?_); (focus (simp (maxDischargeDepth := 120) [bne, Wide.enc, *]; done))) | ((first | refine RunQ.call rfl rfl rfl rfl rfl ?_ (rzero_c (v1.1.less v2.1)) ?_ ?_ | refine RunQW.call rfl rfl rfl rfl ?_ (rzero_c (v1.1.less v2.1)) ?_ ?_ | refine RunX.call rfl rfl rfl rfl ?_ (rzero_c (v1.1.less v2.1)) ?_ ?_ | refine RunXW.call rfl rfl rfl ?_ (rzero_c (v1.1.less v2.1)) ?_ ?_); (focus (simp (maxDischargeDepth := 120) [bne, Wide.enc, *]; done))) | ((first | refine RunQ.call rfl rfl rfl rfl rfl ?_ (robad_c 5) ?_ ?_ | refine RunQW.call rfl rfl rfl rfl ?_ (robad_c 5) ?_ ?_ | refine RunX.call rfl rfl rfl rfl ?_ (robad_c 5) ?_ ?_ | refine RunXW.call rfl rfl rfl ?_ (robad_c 5) ?_ ?_); (focus (simp (maxDischargeDepth := 120) [bne, Wide.enc, *]; done)))); (focus (simp [bne, Wide.enc, *]; done)); (first | refine RunQ.evalH ?_ | refine RunX.evalY ?_); simp [bne, Wide.enc, *])
     | (refine WK.ret Tryz.func132 ?_ ?_ <;> simp (maxDischargeDepth := 120) [Tryz.results132, bne, Wide.enc, oxm0_enc, oFault, oDec, hCode, Oxm.form, Oxm.beyond, Oxm.enc, oxm0, wideZ, uI_zero, *])
     | fail)
end Go.Proofs.YteonfhnljphbpaaGreat
end

section
set_option linter.unusedVariables false
set_option linter.unusedSimpArgs false
namespace Go.Proofs.YteonfhnljphbpaaGreat
open Go Go.AI Go.Proofs
attribute [local irreducible] FnP FnO FnB FnT FnSeq WK RunQ RunQW RunX RunXW

def act0 : Action := ⟨0, 0, 0, 0, 0, oxm0⟩
def aSets (f : Int) : Bool := fRight f && (f != 0 && f != 1)
def aGoes (p : Int) : Bool := (decide (0 < p) && decide (p ≤ 4294967040)) || p == 4294967293
def aMost (a : Action) : Bool := decide (0 ≤ a.max) && (decide (a.max ≤ 65535) && (a.max == 0 || a.port == 4294967293))
/-- what an action has but for what is of no use in its kind -/
def Action.bare (a : Action) : Action := if a.kind = 0 then ⟨0, a.port, a.max, 0, 0, oxm0⟩ else if a.kind = 22 then ⟨22, 0, 0, a.group, 0, oxm0⟩ else if a.kind = 17 then ⟨17, 0, 0, 0, a.ether, oxm0⟩
  else if a.kind = 25 then ⟨25, 0, 0, 0, 0, a.oxm⟩ else ⟨a.kind, 0, 0, 0, 0, oxm0⟩
def Action.fine (a : Action) : Bool := if a.kind = 0 then aGoes a.port && aMost a else if a.kind = 22 then decide (0 ≤ a.group) && decide (a.group ≤ 4294967040) else if a.kind = 17 then a.ether == 33024 || a.ether == 34984
  else if a.kind = 18 then true else if a.kind = 25 then Oxm.right a.oxm && (!a.oxm.masked && aSets a.oxm.field) else false
def Action.right (a : Action) : Bool := Action.fine a && a == Action.bare a
theorem asets_c (f : Int) : FnP Tryz.prog 130 [.int .i64 f] (.bool (aSets f)) := by
  refine FnP.intro Tryz.func130 rfl rfl fun G w => ?_
  repeat' (first
   | refine WK.seq ?_
   | refine WK.block ?_
   | refine WK.inBlock ?_
   | refine WK.skip ?_
   | refine WK.label ?_
   | refine WK.scope ?_
   | refine WK.inScope ?_
   | refine WK.exit rfl ?_
   | refine WK.condT rfl ?_
   | refine WK.condF rfl ?_
   | (refine Hid.h hQ _ _ ?_; clear hQ hA)
   | refine WK.condAny rfl ?_ ?_
   | ((first | refine WK.cond2 rfl (fun h => ?_) (fun h => ?_) | refine Fork.mk (fun h => ?_) (fun h => ?_)) <;> (first | (simp [*] at h; done) | (have h2 := h; simp at h2; exfalso; omega) | (have h2 := h; simp at h2; try simp only [Bool.not_eq_true', Bool.not_eq_false'] at h) | skip))
   | (refine WK.regH Tryz.ntmps130 (by kernel_rfl) ?_; intro A hA Q hQ; simp [bne, *])
   | (refine RunQ.gd rfl (by rw [hA.h]; rfl) ?_; simp [bne, *])
   | (((first | refine RunQ.call rfl rfl rfl rfl rfl ?_ (fright_c f) ?_ ?_ | refine RunQW.call rfl rfl rfl rfl ?_ (fright_c f) ?_ ?_); (focus (simp (maxDischargeDepth := 120) [bne, *]; done))); (focus (simp [bne, *]; done)); refine RunQ.evalH ?_; simp [bne, *])
   | (refine WK.ret Tryz.func130 ?_ ?_ <;> simp (maxDischargeDepth := 120) [Tryz.results130, bne, aSets, *])
   | fail)
theorem rasets_c (f : Int) : FnP Tryz.prog 125 [.int .i64 f] (.bool (aSets f)) := by
  refine FnP.intro Tryz.func125 rfl rfl fun G w => ?_
  repeat' (first
   | refine WK.seq ?_
   | refine WK.block ?_
   | refine WK.inBlock ?_
   | refine WK.skip ?_
   | refine WK.label ?_
   | refine WK.scope ?_
   | refine WK.inScope ?_
   | refine WK.exit rfl ?_
   | refine WK.condT rfl ?_
   | refine WK.condF rfl ?_
   | (refine Hid.h hQ _ _ ?_; clear hQ hA)
   | refine WK.condAny rfl ?_ ?_
   | ((first | refine WK.cond2 rfl (fun h => ?_) (fun h => ?_) | refine Fork.mk (fun h => ?_) (fun h => ?_)) <;> (first | (simp [*] at h; done) | (have h2 := h; simp at h2; exfalso; omega) | (have h2 := h; simp at h2; try simp only [Bool.not_eq_true', Bool.not_eq_false'] at h) | skip))
   | (refine WK.regH Tryz.ntmps125 (by kernel_rfl) ?_; intro A hA Q hQ; simp [bne, *])
   | (refine RunQ.gd rfl (by rw [hA.h]; rfl) ?_; simp [bne, *])
   | (((first | refine RunQ.call rfl rfl rfl rfl rfl ?_ (rfright_c f) ?_ ?_ | refine RunQW.call rfl rfl rfl rfl ?_ (rfright_c f) ?_ ?_); (focus (simp (maxDischargeDepth := 120) [bne, *]; done))); (focus (simp [bne, *]; done)); refine RunQ.evalH ?_; simp [bne, *])
   | (refine WK.ret Tryz.func125 ?_ ?_ <;> simp (maxDischargeDepth := 120) [Tryz.results125, bne, aSets, *])
   | fail)
theorem agoes_c (p : Int) : FnP Tryz.prog 128 [.int .i64 p] (.bool (aGoes p)) := by
  refine FnP.intro Tryz.func128 rfl rfl fun G w => ?_
  repeat' (first
   | refine WK.seq ?_
   | refine WK.block ?_
   | refine WK.inBlock ?_
   | refine WK.skip ?_
   | refine WK.label ?_
   | refine WK.scope ?_
   | refine WK.inScope ?_
   | refine WK.exit rfl ?_
   | refine WK.condT rfl ?_
   | refine WK.condF rfl ?_
   | (refine Hid.h hQ _ _ ?_; clear hQ hA)
   | refine WK.condAny rfl ?_ ?_
   | ((first | refine WK.cond2 rfl (fun h => ?_) (fun h => ?_) | refine Fork.mk (fun h => ?_) (fun h => ?_)) <;> (first | (simp [*] at h; done) | (have h2 := h; simp at h2; exfalso; omega) | (have h2 := h; simp at h2; try simp only [Bool.not_eq_true', Bool.not_eq_false'] at h) | skip))
   | (refine WK.regH Tryz.ntmps128 (by kernel_rfl) ?_; intro A hA Q hQ; simp [*])
   | (refine RunQ.gd rfl (by rw [hA.h]; rfl) ?_; simp [*])
   | (refine WK.ret Tryz.func128 ?_ ?_ <;> simp (maxDischargeDepth := 120) [Tryz.results128, aGoes, *])
   | fail)
theorem ragoes_c (p : Int) : FnP Tryz.prog 115 [.int .i64 p] (.bool (aGoes p)) := by
  have e : decide (1 ≤ p) = decide (0 < p) := decide_eq_decide.2 (by omega)
  refine FnP.intro Tryz.func115 rfl rfl fun G w => ?_
  repeat' (first
   | refine WK.seq ?_
   | refine WK.block ?_
   | refine WK.inBlock ?_
   | refine WK.skip ?_
   | refine WK.label ?_
   | refine WK.scope ?_
   | refine WK.inScope ?_
   | refine WK.exit rfl ?_
   | refine WK.condT rfl ?_
   | refine WK.condF rfl ?_
   | (refine Hid.h hQ _ _ ?_; clear hQ hA)
   | refine WK.condAny rfl ?_ ?_
   | ((first | refine WK.cond2 rfl (fun h => ?_) (fun h => ?_) | refine Fork.mk (fun h => ?_) (fun h => ?_)) <;> (first | (simp [*] at h; done) | (have h2 := h; simp at h2; exfalso; omega) | (have h2 := h; simp at h2; try simp only [Bool.not_eq_true', Bool.not_eq_false'] at h) | skip))
   | (refine WK.regH Tryz.ntmps115 (by kernel_rfl) ?_; intro A hA Q hQ; simp [e, *])
   | (refine RunQ.gd rfl (by rw [hA.h]; rfl) ?_; simp [e, *])
   | (refine WK.ret Tryz.func115 ?_ ?_ <;> simp (maxDischargeDepth := 120) [Tryz.results115, e, aGoes, *])
   | fail)
set_option maxHeartbeats 4000000 in
theorem aright_c (a : Action) : FnP Tryz.prog 107 [.agg a.enc] (.bool (Action.right a)) := by
  have ho := oright_c a.oxm
  simp only [Oxm.enc] at ho
  have g : aGoes 4294967293 = true := rfl
  refine FnP.intro Tryz.func107 rfl rfl fun G w => ?_
  repeat' (first
   | refine WK.seq ?_
   | refine WK.block ?_
   | refine WK.inBlock ?_
   | refine WK.skip ?_
   | refine WK.label ?_
   | refine WK.scope ?_
   | refine WK.inScope ?_
   | refine WK.exit rfl ?_
   | refine WK.condT rfl ?_
   | refine WK.condF rfl ?_
   | (refine Hid.h hQ _ _ ?_; clear hQ hA)
   | refine WK.condAny rfl ?_ ?_
   | ((first | refine WK.cond2 rfl (fun h => ?_) (fun h => ?_) | refine Fork.mk (fun h => ?_) (fun h => ?_)) <;> (first | (simp [*] at h; done) | (have h2 := h; simp at h2; exfalso; omega) | (have h2 := h; simp at h2; try simp only [Bool.not_eq_true', Bool.not_eq_false'] at h) | skip))
   | ((first | refine WK.regH Tryz.ntmps107 (by kernel_rfl) ?_ | refine WK.regX (by kernel_rfl) Tryz.ntmps107 (by kernel_rfl) ?_); intro A hA Q hQ; simp [Action.enc, *])
   | (refine Hid.h hQ _ _ _ (by decide +kernel) ?_; clear hQ hA)
   | ((first | refine RunQ.gd rfl (by rw [hA.h]; rfl) ?_ | refine RunX.gd rfl (by rw [hA.h]; rfl) ?_); simp [Action.enc, *])
   | ((first | ((first | refine RunQ.call rfl rfl rfl rfl rfl ?_ (agoes_c a.port) ?_ ?_ | refine RunQW.call rfl rfl rfl rfl ?_ (agoes_c a.port) ?_ ?_ | refine RunX.call rfl rfl rfl rfl ?_ (agoes_c a.port) ?_ ?_ | refine RunXW.call rfl rfl rfl ?_ (agoes_c a.port) ?_ ?_); (focus (simp (maxDischargeDepth := 120) [Action.enc, *]; done))) | ((first | refine RunQ.call rfl rfl rfl rfl rfl ?_ (ho) ?_ ?_ | refine RunQW.call rfl rfl rfl rfl ?_ (ho) ?_ ?_ | refine RunX.call rfl rfl rfl rfl ?_ (ho) ?_ ?_ | refine RunXW.call rfl rfl rfl ?_ (ho) ?_ ?_); (focus (simp (maxDischargeDepth := 120) [Action.enc, *]; done))) | ((first | refine RunQ.call rfl rfl rfl rfl rfl ?_ (asets_c a.oxm.field) ?_ ?_ | refine RunQW.call rfl rfl rfl rfl ?_ (asets_c a.oxm.field) ?_ ?_ | refine RunX.call rfl rfl rfl rfl ?_ (asets_c a.oxm.field) ?_ ?_ | refine RunXW.call rfl rfl rfl ?_ (asets_c a.oxm.field) ?_ ?_); (focus (simp (maxDischargeDepth := 120) [Action.enc, *]; done)))); (focus (simp [Action.enc, *]; done)); (first | refine RunQ.evalH ?_ | refine RunX.evalY ?_); simp [Action.enc, *])
   | (refine WK.ret Tryz.func107 ?_ ?_ <;> simp (maxDischargeDepth := 120) [Tryz.results107, Action.enc, Action.right, Action.fine, aMost, Action.bare, Action.beq, Oxm.beq, oxm0, wideZ, *])
   | fail)
set_option maxHeartbeats 4000000 in
theorem ramost_c (a : Action) : FnP Tryz.prog 123 [.agg a.enc] (.bool (a.max == 0 || (a.port == 4294967293 && (decide (0 < a.max) && decide (a.max ≤ 65535))))) := by
  refine FnP.intro Tryz.func123 rfl rfl fun G w => ?_
  repeat' (first
   | refine WK.seq ?_
   | refine WK.block ?_
   | refine WK.inBlock ?_
   | refine WK.skip ?_
   | refine WK.label ?_
   | refine WK.scope ?_
   | refine WK.inScope ?_
   | refine WK.exit rfl ?_
   | refine WK.condT rfl ?_
   | refine WK.condF rfl ?_
   | (refine Hid.h hQ _ _ ?_; clear hQ hA)
   | refine WK.condAny rfl ?_ ?_
   | ((first | refine WK.cond2 rfl (fun h => ?_) (fun h => ?_) | refine Fork.mk (fun h => ?_) (fun h => ?_)) <;> (first | (simp [*] at h; done) | (have h2 := h; simp at h2; exfalso; omega) | (have h2 := h; simp at h2; try simp only [Bool.not_eq_true', Bool.not_eq_false'] at h) | skip))
   | (refine WK.regH Tryz.ntmps123 (by kernel_rfl) ?_; intro A hA Q hQ; simp [Action.enc, *])
   | (refine RunQ.gd rfl (by rw [hA.h]; rfl) ?_; simp [Action.enc, *])
   | (refine WK.ret Tryz.func123 ?_ ?_ <;> simp (maxDischargeDepth := 120) [Tryz.results123, Action.enc, *])
   | fail)
theorem ramost_eq (a : Action) : (a.max == 0 || (a.port == 4294967293 && (decide (0 < a.max) && decide (a.max ≤ 65535)))) = aMost a := by
  unfold aMost
  rw [Bool.eq_iff_iff]; simp only [Bool.or_eq_true, Bool.and_eq_true, beq_iff_eq, decide_eq_true_eq]; omega
set_option maxHeartbeats 4000000 in
theorem raright_c (a : Action) : FnP Tryz.prog 103 [.agg a.enc] (.bool (Action.right a)) := by
  have ho := roright_c a.oxm
  have hm := ramost_c a
  rw [ramost_eq] at hm
  have s0 := rasame_c a ⟨0, a.port, a.max, 0, 0, oxm0⟩
  have s1 := rasame_c a ⟨22, 0, 0, a.group, 0, oxm0⟩
  have s2 := rasame_c a ⟨17, 0, 0, 0, a.ether, oxm0⟩
  have s3 := rasame_c a ⟨18, 0, 0, 0, 0, oxm0⟩
  have s4 := rasame_c a ⟨25, 0, 0, 0, 0, a.oxm⟩
  obtain ⟨k, port, max, group, ether, oxm⟩ := a
  by_cases k0 : k = 0
  · subst k0
    simp only [Action.enc, Oxm.enc, oxm0, wideZ, uI_zero] at ho hm s0 s1 s2 s3 s4
    refine FnP.intro Tryz.func103 rfl rfl fun G w => ?_
    repeat' (first
     | refine WK.seq ?_
     | refine WK.block ?_
     | refine WK.inBlock ?_
     | refine WK.skip ?_
     | refine WK.label ?_
     | refine WK.scope ?_
     | refine WK.inScope ?_
     | refine WK.exit rfl ?_
     | refine WK.condT rfl ?_
     | refine WK.condF rfl ?_
     | (refine Hid.h hQ _ _ ?_; clear hQ hA)
     | refine WK.condAny rfl ?_ ?_
     | ((first | refine WK.cond2 rfl (fun h => ?_) (fun h => ?_) | refine Fork.mk (fun h => ?_) (fun h => ?_)) <;> (first | (simp [*] at h; done) | (have h2 := h; simp at h2; exfalso; omega) | (have h2 := h; simp at h2; try simp only [Bool.not_eq_true', Bool.not_eq_false'] at h) | skip))
     | (refine WK.regH Tryz.ntmps103 (by kernel_rfl) ?_; intro A hA Q hQ; simp [Action.enc, *])
     | (refine RunQ.gd rfl (by rw [hA.h]; rfl) ?_; simp [Action.enc, *])
     | ((first | ((first | refine RunQ.call rfl rfl rfl rfl rfl ?_ (ragoes_c port) ?_ ?_ | refine RunQW.call rfl rfl rfl rfl ?_ (ragoes_c port) ?_ ?_); (focus (simp (maxDischargeDepth := 120) [Action.enc, *]; done))) | ((first | refine RunQ.call rfl rfl rfl rfl rfl ?_ (hm) ?_ ?_ | refine RunQW.call rfl rfl rfl rfl ?_ (hm) ?_ ?_); (focus (simp (maxDischargeDepth := 120) [Action.enc, *]; done))) | ((first | refine RunQ.call rfl rfl rfl rfl rfl ?_ (s0) ?_ ?_ | refine RunQW.call rfl rfl rfl rfl ?_ (s0) ?_ ?_); (focus (simp (maxDischargeDepth := 120) [Action.enc, *]; done)))); (focus (simp [Action.enc, *]; done)); refine RunQ.evalH ?_; simp [Action.enc, *])
     | (refine WK.ret Tryz.func103 ?_ ?_ <;> simp (maxDischargeDepth := 120) [Tryz.results103, Action.enc, Action.right, Action.fine, Action.bare, oxm0, wideZ, *])
     | fail)
  by_cases k1 : k = 22
  · subst k1
    simp only [Action.enc, Oxm.enc, oxm0, wideZ, uI_zero] at ho hm s0 s1 s2 s3 s4
    refine FnP.intro Tryz.func103 rfl rfl fun G w => ?_
    repeat' (first
     | refine WK.seq ?_
     | refine WK.block ?_
     | refine WK.inBlock ?_
     | refine WK.skip ?_
     | refine WK.label ?_
     | refine WK.scope ?_
     | refine WK.inScope ?_
     | refine WK.exit rfl ?_
     | refine WK.condT rfl ?_
     | refine WK.condF rfl ?_
     | (refine Hid.h hQ _ _ ?_; clear hQ hA)
     | refine WK.condAny rfl ?_ ?_
     | ((first | refine WK.cond2 rfl (fun h => ?_) (fun h => ?_) | refine Fork.mk (fun h => ?_) (fun h => ?_)) <;> (first | (simp [*] at h; done) | (have h2 := h; simp at h2; exfalso; omega) | (have h2 := h; simp at h2; try simp only [Bool.not_eq_true', Bool.not_eq_false'] at h) | skip))
     | (refine WK.regH Tryz.ntmps103 (by kernel_rfl) ?_; intro A hA Q hQ; simp [Action.enc, *])
     | (refine RunQ.gd rfl (by rw [hA.h]; rfl) ?_; simp [Action.enc, *])
     | (((first | refine RunQ.call rfl rfl rfl rfl rfl ?_ (s1) ?_ ?_ | refine RunQW.call rfl rfl rfl rfl ?_ (s1) ?_ ?_); (focus (simp (maxDischargeDepth := 120) [Action.enc, *]; done))); (focus (simp [Action.enc, *]; done)); refine RunQ.evalH ?_; simp [Action.enc, *])
     | (refine WK.ret Tryz.func103 ?_ ?_ <;> simp (maxDischargeDepth := 120) [Tryz.results103, Action.enc, Action.right, Action.fine, Action.bare, oxm0, wideZ, *])
     | fail)
  by_cases k2 : k = 17
  · subst k2
    simp only [Action.enc, Oxm.enc, oxm0, wideZ, uI_zero] at ho hm s0 s1 s2 s3 s4
    refine FnP.intro Tryz.func103 rfl rfl fun G w => ?_
    repeat' (first
     | refine WK.seq ?_
     | refine WK.block ?_
     | refine WK.inBlock ?_
     | refine WK.skip ?_
     | refine WK.label ?_
     | refine WK.scope ?_
     | refine WK.inScope ?_
     | refine WK.exit rfl ?_
     | refine WK.condT rfl ?_
     | refine WK.condF rfl ?_
     | (refine Hid.h hQ _ _ ?_; clear hQ hA)
     | refine WK.condAny rfl ?_ ?_
     | ((first | refine WK.cond2 rfl (fun h => ?_) (fun h => ?_) | refine Fork.mk (fun h => ?_) (fun h => ?_)) <;> (first | (simp [*] at h; done) | (have h2 := h; simp at h2; exfalso; omega) | (have h2 := h; simp at h2; try simp only [Bool.not_eq_true', Bool.not_eq_false'] at h) | skip))
     | (refine WK.regH Tryz.ntmps103 (by kernel_rfl) ?_; intro A hA Q hQ; simp [Action.enc, *])
     | (refine RunQ.gd rfl (by rw [hA.h]; rfl) ?_; simp [Action.enc, *])
     | (((first | refine RunQ.call rfl rfl rfl rfl rfl ?_ (s2) ?_ ?_ | refine RunQW.call rfl rfl rfl rfl ?_ (s2) ?_ ?_); (focus (simp (maxDischargeDepth := 120) [Action.enc, *]; done))); (focus (simp [Action.enc, *]; done)); refine RunQ.evalH ?_; simp [Action.enc, *])
     | (refine WK.ret Tryz.func103 ?_ ?_ <;> simp (maxDischargeDepth := 120) [Tryz.results103, Action.enc, Action.right, Action.fine, Action.bare, oxm0, wideZ, *])
     | fail)
  by_cases k3 : k = 18
  · subst k3
    simp only [Action.enc, Oxm.enc, oxm0, wideZ, uI_zero] at ho hm s0 s1 s2 s3 s4
    refine FnP.intro Tryz.func103 rfl rfl fun G w => ?_
    repeat' (first
     | refine WK.seq ?_
     | refine WK.block ?_
     | refine WK.inBlock ?_
     | refine WK.skip ?_
     | refine WK.label ?_
     | refine WK.scope ?_
     | refine WK.inScope ?_
     | refine WK.exit rfl ?_
     | refine WK.condT rfl ?_
     | refine WK.condF rfl ?_
     | (refine Hid.h hQ _ _ ?_; clear hQ hA)
     | refine WK.condAny rfl ?_ ?_
     | ((first | refine WK.cond2 rfl (fun h => ?_) (fun h => ?_) | refine Fork.mk (fun h => ?_) (fun h => ?_)) <;> (first | (simp [*] at h; done) | (have h2 := h; simp at h2; exfalso; omega) | (have h2 := h; simp at h2; try simp only [Bool.not_eq_true', Bool.not_eq_false'] at h) | skip))
     | (refine WK.regH Tryz.ntmps103 (by kernel_rfl) ?_; intro A hA Q hQ; simp [Action.enc, *])
     | (refine RunQ.gd rfl (by rw [hA.h]; rfl) ?_; simp [Action.enc, *])
     | (((first | refine RunQ.call rfl rfl rfl rfl rfl ?_ (s3) ?_ ?_ | refine RunQW.call rfl rfl rfl rfl ?_ (s3) ?_ ?_); (focus (simp (maxDischargeDepth := 120) [Action.enc, *]; done))); (focus (simp [Action.enc, *]; done)); refine RunQ.evalH ?_; simp [Action.enc, *])
     | (refine WK.ret Tryz.func103 ?_ ?_ <;> simp (maxDischargeDepth := 120) [Tryz.results103, Action.enc, Action.right, Action.fine, Action.bare, oxm0, wideZ, *])
     | fail)
  by_cases k4 : k = 25
  · subst k4
    simp only [Action.enc, Oxm.enc, oxm0, wideZ, uI_zero] at ho hm s0 s1 s2 s3 s4
    refine FnP.intro Tryz.func103 rfl rfl fun G w => ?_
    repeat' (first
     | refine WK.seq ?_
     | refine WK.block ?_
     | refine WK.inBlock ?_
     | refine WK.skip ?_
     | refine WK.label ?_
     | refine WK.scope ?_
     | refine WK.inScope ?_
     | refine WK.exit rfl ?_
     | refine WK.condT rfl ?_
     | refine WK.condF rfl ?_
     | (refine Hid.h hQ _ _ ?_; clear hQ hA)
     | refine WK.condAny rfl ?_ ?_
     | ((first | refine WK.cond2 rfl (fun h => ?_) (fun h => ?_) | refine Fork.mk (fun h => ?_) (fun h => ?_)) <;> (first | (simp [*] at h; done) | (have h2 := h; simp at h2; exfalso; omega) | (have h2 := h; simp at h2; try simp only [Bool.not_eq_true', Bool.not_eq_false'] at h) | skip))
     | (refine WK.regH Tryz.ntmps103 (by kernel_rfl) ?_; intro A hA Q hQ; simp [Action.enc, Oxm.enc, *])
     | (refine RunQ.gd rfl (by rw [hA.h]; rfl) ?_; simp [Action.enc, Oxm.enc, *])
     | ((first | ((first | refine RunQ.call rfl rfl rfl rfl rfl ?_ (ho) ?_ ?_ | refine RunQW.call rfl rfl rfl rfl ?_ (ho) ?_ ?_); (focus (simp (maxDischargeDepth := 120) [Action.enc, Oxm.enc, *]; done))) | ((first | refine RunQ.call rfl rfl rfl rfl rfl ?_ (rasets_c oxm.field) ?_ ?_ | refine RunQW.call rfl rfl rfl rfl ?_ (rasets_c oxm.field) ?_ ?_); (focus (simp (maxDischargeDepth := 120) [Action.enc, Oxm.enc, *]; done))) | ((first | refine RunQ.call rfl rfl rfl rfl rfl ?_ (s4) ?_ ?_ | refine RunQW.call rfl rfl rfl rfl ?_ (s4) ?_ ?_); (focus (simp (maxDischargeDepth := 120) [Action.enc, Oxm.enc, *]; done)))); (focus (simp [Action.enc, Oxm.enc, *]; done)); refine RunQ.evalH ?_; simp [Action.enc, Oxm.enc, *])
     | (refine WK.ret Tryz.func103 ?_ ?_ <;> simp (maxDischargeDepth := 120) [Tryz.results103, Action.enc, Oxm.enc, Action.right, Action.fine, Action.bare, oxm0, wideZ, *])
     | fail)
  · refine FnP.intro Tryz.func103 rfl rfl fun G w => ?_
    repeat' (first
     | refine WK.seq ?_
     | refine WK.block ?_
     | refine WK.inBlock ?_
     | refine WK.skip ?_
     | refine WK.label ?_
     | refine WK.scope ?_
     | refine WK.inScope ?_
     | refine WK.exit rfl ?_
     | refine WK.condT rfl ?_
     | refine WK.condF rfl ?_
     | (refine Hid.h hQ _ _ ?_; clear hQ hA)
     | refine WK.condAny rfl ?_ ?_
     | ((first | refine WK.cond2 rfl (fun h => ?_) (fun h => ?_) | refine Fork.mk (fun h => ?_) (fun h => ?_)) <;> (first | (simp [*] at h; done) | (have h2 := h; simp at h2; exfalso; omega) | (have h2 := h; simp at h2; try simp only [Bool.not_eq_true', Bool.not_eq_false'] at h) | skip))
     | (refine WK.regH Tryz.ntmps103 (by kernel_rfl) ?_; intro A hA Q hQ; simp [Action.enc, *])
     | (refine RunQ.gd rfl (by rw [hA.h]; rfl) ?_; simp [Action.enc, *])
     | (refine WK.ret Tryz.func103 ?_ ?_ <;> simp (maxDischargeDepth := 120) [Tryz.results103, Action.enc, Action.right, Action.fine, Action.bare, *])
     | fail)
end Go.Proofs.YteonfhnljphbpaaGreat
end
