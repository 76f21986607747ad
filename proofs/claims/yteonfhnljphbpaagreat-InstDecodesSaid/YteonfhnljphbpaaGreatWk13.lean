/- Instructions: the reference, the parts. -/
import Derived.Test.YteonfhnljphbpaaGreatWk12
import Derived.Test.YteonfhnljphbpaaGreatAf
set_option linter.all false
set_option linter.unnecessarySimpa false
section
set_option linter.unusedVariables false
set_option linter.unusedSimpArgs false
namespace Go.Proofs.YteonfhnljphbpaaGreat
open Go Go.AI Go.Proofs
attribute [local irreducible] FnP FnO FnB FnT FnSeq WK RunQ RunQW RunX RunXW

theorem ribad_c (c : Int) : FnP Tryz.prog 54 [.int .i64 c] (.agg (gFault (some (3, c)))) := by
  refine FnP.intro Tryz.func54 rfl rfl fun G w => ?_
  repeat' (first
   | refine WK.seq ?_
   | refine WK.block ?_
   | refine WK.inBlock ?_
   | refine WK.skip ?_
   | refine WK.label ?_
   | refine WK.scope ?_
   | refine WK.inScope ?_
   | refine WK.exit rfl ?_
   | refine WK.condT rfl ?_
   | refine WK.condF rfl ?_
   | (refine Hid.h hQ _ _ ?_; clear hQ hA)
   | refine WK.condAny rfl ?_ ?_
   | ((first | refine WK.cond2 rfl (fun h => ?_) (fun h => ?_)) <;> (first | (simp [*] at h; done) | (have h2 := h; simp at h2; exfalso; omega) | (have h2 := h; simp at h2; try simp only [Bool.not_eq_true', Bool.not_eq_false'] at h) | skip))
   | (refine WK.regH Tryz.ntmps54 (by kernel_rfl) ?_; intro A hA Q hQ; simp [*])
   | (refine WK.ret Tryz.func54 ?_ ?_ <;> simp (maxDischargeDepth := 120) [Tryz.results54, gFault, *])
   | fail)
theorem rimeta_c (i : Inst) : FnP Tryz.prog 70 [.agg i.enc] (.bool (inMeta i.value i.mask)) := by
  have l := rless_c i.value i.mask
  have z := rzero_c (i.value.less i.mask)
  have e : inMeta i.value i.mask = (i.value.hi == 0#64 && (i.mask.hi == 0#64 && (i.value.less i.mask).zero)) := rfl
  obtain ⟨r, hr⟩ : ∃ r, (i.value.less i.mask).zero = r := ⟨_, rfl⟩
  rw [hr] at z e
  unfold Wide.enc at l z
  refine FnP.intro Tryz.func70 rfl rfl fun G w => ?_
  repeat' (first
   | refine WK.seq ?_
   | refine WK.block ?_
   | refine WK.inBlock ?_
   | refine WK.skip ?_
   | refine WK.label ?_
   | refine WK.scope ?_
   | refine WK.inScope ?_
   | refine WK.exit rfl ?_
   | refine WK.condT rfl ?_
   | refine WK.condF rfl ?_
   | (refine Hid.h hQ _ _ ?_; clear hQ hA)
   | refine WK.condAny rfl ?_ ?_
   | ((first | refine WK.cond2 rfl (fun h => ?_) (fun h => ?_) | refine Fork.mk (fun h => ?_) (fun h => ?_)) <;> (first | (simp [*] at h; done) | (have h2 := h; simp at h2; exfalso; omega) | (have h2 := h; simp at h2; try simp only [Bool.not_eq_true', Bool.not_eq_false'] at h) | skip))
   | (refine WK.regH Tryz.ntmps70 (by kernel_rfl) ?_; intro A hA Q hQ; simp [Inst.enc, *])
   | (refine RunQ.gd rfl (by rw [hA.h]; rfl) ?_; simp [Inst.enc, *])
   | ((first | ((first | refine RunQ.call rfl rfl rfl rfl rfl ?_ (l) ?_ ?_ | refine RunQW.call rfl rfl rfl rfl ?_ (l) ?_ ?_); (focus (simp (maxDischargeDepth := 120) [Inst.enc, *]; done))) | ((first | refine RunQ.call rfl rfl rfl rfl rfl ?_ (z) ?_ ?_ | refine RunQW.call rfl rfl rfl rfl ?_ (z) ?_ ?_); (focus (simp (maxDischargeDepth := 120) [Inst.enc, *]; done)))); (focus (simp [Inst.enc, *]; done)); refine RunQ.evalH ?_; simp [Inst.enc, *])
   | (refine WK.ret Tryz.func70 ?_ ?_ <;> simp (maxDischargeDepth := 120) [Tryz.results70, Inst.enc, *])
   | fail)
theorem rinoughts_c (b : List (BitVec 8)) (hb : b.length ≤ 9223372036854775807) : FnP Tryz.prog 86 [byS b] (.bool (allZ b)) := by
  unfold byS
  refine FnP.intro Tryz.func86 rfl rfl fun G w => ?_
  repeat' (first
   | refine WK.seq ?_
   | refine WK.block ?_
   | refine WK.inBlock ?_
   | refine WK.skip ?_
   | refine WK.label ?_
   | refine WK.scope ?_
   | refine WK.inScope ?_
   | refine WK.exit rfl ?_
   | refine WK.condT rfl ?_
   | refine WK.condF rfl ?_
   | (refine Hid.h hQ _ _ ?_; clear hQ hA)
   | refine WK.condAny rfl ?_ ?_
   | ((first | refine WK.cond2 rfl (fun h => ?_) (fun h => ?_)) <;> (first | (simp [*] at h; done) | (have h2 := h; simp at h2; exfalso; omega) | (have h2 := h; simp at h2; try simp only [Bool.not_eq_true', Bool.not_eq_false'] at h) | skip))
   | (refine WK.regH Tryz.ntmps86 (by kernel_rfl) ?_; intro A hA Q hQ; simp [*])
   | fail)
  repeat (first | refine WK.seq ?_ | refine WK.block ?_ | refine WK.inBlock ?_ | refine WK.skip ?_ | refine WK.label ?_ | refine WK.scope ?_ | refine WK.inScope ?_ | refine WK.exit rfl ?_)
  refine WK.loopI (fun n => n) (fun i : Nat => (⟨(upd (upd J 0 (.sl false b.length (byL b))) 3 (.int .i64 i)), B0, 0⟩ : St)) (fun i => i ≤ b.length ∧ ∀ j, j < i → nth b j = 0#8) (fun i => b.length - i) (0) (by repeat (first | exact TmW.nil | refine TmW.upd ?_ (by simp (maxDischargeDepth := 120)))) (by repeat (first | exact BxW.nil | refine BxW.upd ?_ (by simp (maxDischargeDepth := 120)))) (by first | exact InjW.id | exact InjW.nil | exact InjW.one | exact InjW.two (by simp) | exact InjW.three (by simp) (by simp) (by simp)) (⟨by omega, by simp⟩) (fun i hi IH => ?_)
  by_cases h1 : i < b.length
  · have h4 := by_get b i h1
    have h6 : IntKind.i64.wrap ((i : Int) + 1) = i + 1 := wrap_i64 (by omega) (by omega)
    have h7 := bI_zero (nth b i)
    cases h5 : nth b i == 0#8
    · have e : allZ b = false := by
        unfold allZ; rw [List.all_eq_false]; exact ⟨nth b i, nth_mem h1, by simp [h5]⟩
      rw [h5] at h7
      repeat' (first
       | refine WK.seq ?_
       | refine WK.block ?_
       | refine WK.inBlock ?_
       | refine WK.skip ?_
       | refine WK.label ?_
       | refine WK.scope ?_
       | refine WK.inScope ?_
       | refine WK.exit rfl ?_
       | refine WK.condT rfl ?_
       | refine WK.condF rfl ?_
       | (refine Hid.h hQ _ _ ?_; clear hQ hA)
       | refine WK.condAny rfl ?_ ?_
       | ((first | refine WK.cond2 rfl (fun h => ?_) (fun h => ?_)) <;> (first | (simp [*] at h; done) | (have h2 := h; simp at h2; exfalso; omega) | (have h2 := h; simp at h2; try simp only [Bool.not_eq_true', Bool.not_eq_false'] at h) | skip))
       | (refine WK.regH Tryz.ntmps86 (by kernel_rfl) ?_; intro A hA Q hQ; simp [bne, *])
       | (refine WK.ret Tryz.func86 ?_ ?_ <;> simp (maxDischargeDepth := 120) [Tryz.results86, bne, *])
       | fail)
    · rw [h5] at h7
      repeat' (first
       | refine WK.seq ?_
       | refine WK.block ?_
       | refine WK.inBlock ?_
       | refine WK.skip ?_
       | refine WK.label ?_
       | refine WK.scope ?_
       | refine WK.inScope ?_
       | refine WK.exit rfl ?_
       | refine WK.condT rfl ?_
       | refine WK.condF rfl ?_
       | (refine Hid.h hQ _ _ ?_; clear hQ hA)
       | refine WK.condAny rfl ?_ ?_
       | ((first | refine WK.cond2 rfl (fun h => ?_) (fun h => ?_)) <;> (first | (simp [*] at h; done) | (have h2 := h; simp at h2; exfalso; omega) | (have h2 := h; simp at h2; try simp only [Bool.not_eq_true', Bool.not_eq_false'] at h) | skip))
       | (refine WK.regH Tryz.ntmps86 (by kernel_rfl) ?_; intro A hA Q hQ; simp [bne, *])
       | fail)
      repeat (first | refine WK.seq ?_ | refine WK.block ?_ | refine WK.inBlock ?_ | refine WK.skip ?_ | refine WK.label ?_ | refine WK.scope ?_ | refine WK.inScope ?_ | refine WK.exit rfl ?_)
      refine WK.next (fun n => n) (IH (i + 1) (⟨by omega, fun j hj => by by_cases h7 : j = i; (subst h7; simpa using h5); exact hi.2 j (by omega)⟩) (by first | omega | (dsimp only; omega))) (by repeat (first | exact TmW.nil | refine TmW.upd ?_ (by simp (maxDischargeDepth := 120)))) (by repeat (first | exact BxW.nil | refine BxW.upd ?_ (by simp (maxDischargeDepth := 120)))) (by first | exact InjW.id | exact InjW.nil | exact InjW.one | exact InjW.two (by simp) | exact InjW.three (by simp) (by simp) (by simp))
  · have e : allZ b = true := by
      unfold allZ; rw [List.all_eq_true]; intro x hx
      obtain ⟨j, hj, rfl⟩ := mem_nth hx
      rw [hi.2 j (by omega)]; rfl
    repeat' (first
     | refine WK.seq ?_
     | refine WK.block ?_
     | refine WK.inBlock ?_
     | refine WK.skip ?_
     | refine WK.label ?_
     | refine WK.scope ?_
     | refine WK.inScope ?_
     | refine WK.exit rfl ?_
     | refine WK.condT rfl ?_
     | refine WK.condF rfl ?_
     | (refine Hid.h hQ _ _ ?_; clear hQ hA)
     | refine WK.condAny rfl ?_ ?_
     | ((first | refine WK.cond2 rfl (fun h => ?_) (fun h => ?_)) <;> (first | (simp [*] at h; done) | (have h2 := h; simp at h2; exfalso; omega) | (have h2 := h; simp at h2; try simp only [Bool.not_eq_true', Bool.not_eq_false'] at h) | skip))
     | (refine WK.regH Tryz.ntmps86 (by kernel_rfl) ?_; intro A hA Q hQ; simp [*])
     | (refine WK.ret Tryz.func86 ?_ ?_ <;> simp (maxDischargeDepth := 120) [Tryz.results86, *])
     | fail)
theorem rilaid_c (k : Int) (b : List (BitVec 8)) (hb : b.length ≤ 1000000) (h8 : 8 ≤ b.length) : FnP Tryz.prog 55 [.int .i64 k, byS b] (.bool (inLaid k b)) := by
  have p5 := rinoughts_c (b.drop 5) (by rw [List.length_drop]; omega)
  have p4 := rinoughts_c (b.drop 4) (by rw [List.length_drop]; omega)
  have p44 := rinoughts_c ((b.drop 4).take 4) (by rw [List.length_take, List.length_drop]; omega)
  have s5 : ((byL b).drop 5).take (b.length - 5) = byL (b.drop 5) := by rw [byL_drop]; exact by_full _ _ (by rw [List.length_drop])
  have s4 : ((byL b).drop 4).take (b.length - 4) = byL (b.drop 4) := by rw [byL_drop]; exact by_full _ _ (by rw [List.length_drop])
  have s44 : ((byL b).drop 4).take 4 = byL ((b.drop 4).take 4) := by rw [byL_drop, byL_take]
  have l44 : ((b.drop 4).take 4).length = 4 := by rw [List.length_take, List.length_drop]; omega
  have u5 : (5 : Int) ≤ b.length := by omega
  have u4 : (4 : Int) ≤ b.length := by omega
  have u8 : (8 : Int) ≤ b.length := by omega
  have z8 : ((b.length : Int) == 8) = (b.length == 8) := by rw [Bool.eq_iff_iff, beq_iff_eq, beq_iff_eq]; omega
  have z24 : ((b.length : Int) == 24) = (b.length == 24) := by rw [Bool.eq_iff_iff, beq_iff_eq, beq_iff_eq]; omega
  obtain ⟨q8, hq8⟩ : ∃ q, (b.length == 8) = q := ⟨_, rfl⟩
  obtain ⟨q24, hq24⟩ : ∃ q, (b.length == 24) = q := ⟨_, rfl⟩
  have hdef : inLaid k b = if k = 1 then q8 && allZ (b.drop 5) else if k = 2 then q24 && allZ ((b.drop 4).take 4) else if k = 5 then q8 && allZ (b.drop 4) else allZ ((b.drop 4).take 4) := by
    unfold inLaid; rw [hq8, hq24]
  rw [hq8] at z8
  rw [hq24] at z24
  simp only [byS, List.length_drop, l44] at p5 p4 p44 ⊢
  obtain ⟨a5, ha5⟩ : ∃ q, allZ (b.drop 5) = q := ⟨_, rfl⟩
  obtain ⟨a4, ha4⟩ : ∃ q, allZ (b.drop 4) = q := ⟨_, rfl⟩
  obtain ⟨a44, ha44⟩ : ∃ q, allZ ((b.drop 4).take 4) = q := ⟨_, rfl⟩
  rw [ha5] at p5 hdef
  rw [ha4] at p4 hdef
  rw [ha44] at p44 hdef
  obtain ⟨B5, hB5⟩ : ∃ q, b.drop 5 = q := ⟨_, rfl⟩
  obtain ⟨B44, hB44⟩ : ∃ q, (b.drop 4).take 4 = q := ⟨_, rfl⟩
  rw [hB44] at p44 s44
  obtain ⟨B4, hB4⟩ : ∃ q, b.drop 4 = q := ⟨_, rfl⟩
  rw [hB5] at p5 s5
  rw [hB4] at p4 s4
  rw [hdef]
  clear ha5 ha4 ha44 hdef l44 hq8 hq24 hB5 hB4 hB44
  refine FnP.intro Tryz.func55 rfl rfl fun G w => ?_
  by_cases k1 : k = 1
  · subst k1
    repeat' (first
     | refine WK.seq ?_
     | refine WK.block ?_
     | refine WK.inBlock ?_
     | refine WK.skip ?_
     | refine WK.label ?_
     | refine WK.scope ?_
     | refine WK.inScope ?_
     | refine WK.exit rfl ?_
     | refine WK.condT rfl ?_
     | refine WK.condF rfl ?_
     | (refine Hid.h hQ _ _ ?_; clear hQ hA)
     | refine WK.condAny rfl ?_ ?_
     | ((first | refine WK.cond2 rfl (fun h => ?_) (fun h => ?_) | refine Fork.mk (fun h => ?_) (fun h => ?_)) <;> (first | (simp [*] at h; done) | (have h2 := h; simp at h2; exfalso; omega) | (have h2 := h; simp at h2; try simp only [Bool.not_eq_true', Bool.not_eq_false'] at h) | skip))
     | (refine WK.regH Tryz.ntmps55 (by kernel_rfl) ?_; intro A hA Q hQ; simp [*])
     | (refine RunQ.gd rfl (by rw [hA.h]; rfl) ?_; simp [*])
     | (((first | refine RunQ.call rfl rfl rfl rfl rfl ?_ (p5) ?_ ?_ | refine RunQW.call rfl rfl rfl rfl ?_ (p5) ?_ ?_); (focus (simp (maxDischargeDepth := 120) [*]; done))); (focus (simp [*]; done)); refine RunQ.evalH ?_; simp [*])
     | (refine WK.ret Tryz.func55 ?_ ?_ <;> simp (maxDischargeDepth := 120) [Tryz.results55, *])
     | fail)
  have j1 : (k == 1) = false := by simpa using k1
  by_cases k2 : k = 2
  · subst k2
    repeat' (first
     | refine WK.seq ?_
     | refine WK.block ?_
     | refine WK.inBlock ?_
     | refine WK.skip ?_
     | refine WK.label ?_
     | refine WK.scope ?_
     | refine WK.inScope ?_
     | refine WK.exit rfl ?_
     | refine WK.condT rfl ?_
     | refine WK.condF rfl ?_
     | (refine Hid.h hQ _ _ ?_; clear hQ hA)
     | refine WK.condAny rfl ?_ ?_
     | ((first | refine WK.cond2 rfl (fun h => ?_) (fun h => ?_) | refine Fork.mk (fun h => ?_) (fun h => ?_)) <;> (first | (simp [*] at h; done) | (have h2 := h; simp at h2; exfalso; omega) | (have h2 := h; simp at h2; try simp only [Bool.not_eq_true', Bool.not_eq_false'] at h) | skip))
     | (refine WK.regH Tryz.ntmps55 (by kernel_rfl) ?_; intro A hA Q hQ; simp [*])
     | (refine RunQ.gd rfl (by rw [hA.h]; rfl) ?_; simp [*])
     | (((first | refine RunQ.call rfl rfl rfl rfl rfl ?_ (p44) ?_ ?_ | refine RunQW.call rfl rfl rfl rfl ?_ (p44) ?_ ?_); (focus (simp (maxDischargeDepth := 120) [*]; done))); (focus (simp [*]; done)); refine RunQ.evalH ?_; simp [*])
     | (refine WK.ret Tryz.func55 ?_ ?_ <;> simp (maxDischargeDepth := 120) [Tryz.results55, *])
     | fail)
  have j2 : (k == 2) = false := by simpa using k2
  by_cases k5 : k = 5
  · subst k5
    repeat' (first
     | refine WK.seq ?_
     | refine WK.block ?_
     | refine WK.inBlock ?_
     | refine WK.skip ?_
     | refine WK.label ?_
     | refine WK.scope ?_
     | refine WK.inScope ?_
     | refine WK.exit rfl ?_
     | refine WK.condT rfl ?_
     | refine WK.condF rfl ?_
     | (refine Hid.h hQ _ _ ?_; clear hQ hA)
     | refine WK.condAny rfl ?_ ?_
     | ((first | refine WK.cond2 rfl (fun h => ?_) (fun h => ?_) | refine Fork.mk (fun h => ?_) (fun h => ?_)) <;> (first | (simp [*] at h; done) | (have h2 := h; simp at h2; exfalso; omega) | (have h2 := h; simp at h2; try simp only [Bool.not_eq_true', Bool.not_eq_false'] at h) | skip))
     | (refine WK.regH Tryz.ntmps55 (by kernel_rfl) ?_; intro A hA Q hQ; simp [*])
     | (refine RunQ.gd rfl (by rw [hA.h]; rfl) ?_; simp [*])
     | (((first | refine RunQ.call rfl rfl rfl rfl rfl ?_ (p4) ?_ ?_ | refine RunQW.call rfl rfl rfl rfl ?_ (p4) ?_ ?_); (focus (simp (maxDischargeDepth := 120) [*]; done))); (focus (simp [*]; done)); refine RunQ.evalH ?_; simp [*])
     | (refine WK.ret Tryz.func55 ?_ ?_ <;> simp (maxDischargeDepth := 120) [Tryz.results55, *])
     | fail)
  have j5 : (k == 5) = false := by simpa using k5
  repeat' (first
   | refine WK.seq ?_
   | refine WK.block ?_
   | refine WK.inBlock ?_
   | refine WK.skip ?_
   | refine WK.label ?_
   | refine WK.scope ?_
   | refine WK.inScope ?_
   | refine WK.exit rfl ?_
   | refine WK.condT rfl ?_
   | refine WK.condF rfl ?_
   | (refine Hid.h hQ _ _ ?_; clear hQ hA)
   | refine WK.condAny rfl ?_ ?_
   | ((first | refine WK.cond2 rfl (fun h => ?_) (fun h => ?_) | refine Fork.mk (fun h => ?_) (fun h => ?_)) <;> (first | (simp [*] at h; done) | (have h2 := h; simp at h2; exfalso; omega) | (have h2 := h; simp at h2; try simp only [Bool.not_eq_true', Bool.not_eq_false'] at h) | skip))
   | (refine WK.regH Tryz.ntmps55 (by kernel_rfl) ?_; intro A hA Q hQ; simp [*])
   | (refine RunQ.gd rfl (by rw [hA.h]; rfl) ?_; simp [*])
   | (((first | refine RunQ.call rfl rfl rfl rfl rfl ?_ (p44) ?_ ?_ | refine RunQW.call rfl rfl rfl rfl ?_ (p44) ?_ ?_); (focus (simp (maxDischargeDepth := 120) [*]; done))); (focus (simp [*]; done)); refine RunQ.evalH ?_; simp [*])
   | (refine WK.ret Tryz.func55 ?_ ?_ <;> simp (maxDischargeDepth := 120) [Tryz.results55, *])
   | fail)
def inOf0 (k : Int) (b : List (BitVec 8)) : Inst × Option (Int × Int) := match (inOf k b).2 with | some c => (inst0, some c) | none => inOf k b
theorem inOf0_some {k : Int} {b : List (BitVec 8)} {y : Inst} {c : Int × Int} (h : inOf k b = (y, some c)) : inOf0 k b = (inst0, some c) := by unfold inOf0; rw [h]
theorem inOf0_none {k : Int} {b : List (BitVec 8)} {y : Inst} (h : inOf k b = (y, none)) : inOf0 k b = (y, none) := by unfold inOf0; rw [h]
set_option maxHeartbeats 4000000 in
theorem rione_c (k : Int) (b : List (BitVec 8)) (hb : b.length ≤ 1000000) (h8 : 8 ≤ b.length) (h2 : k = 2 → 24 ≤ b.length) : FnP Tryz.prog 56 [.int .i64 k, byS b] (.tup [.agg (inOf0 k b).1.enc, .agg (gFault (inOf0 k b).2)]) := by
  have b2 := ribad_c 2
  have b4 := ribad_c 4
  by_cases k1 : k = 1
  · subst k1
    have x4 := by_get b 4 (by omega)
    have w4 := u8_i64 (nth b 4)
    have u4 : (4 : Int) < b.length := by omega
    have v4 : 4 < b.length := by omega
    have e : inOf 1 b = (⟨1, (nth b 4).toNat, wideZ, wideZ, []⟩, if (nth b 4).toNat = 255 then some (3, 2) else none) := by unfold inOf; rw [if_pos rfl]
    have eb : bI (nth b 4) = ((nth b 4).toNat : Int) := rfl
    by_cases h255 : (nth b 4).toNat = 255
    · have j : (bI (nth b 4) == 255) = true := by rw [eb, h255]; rfl
      rw [inOf0_some (by rw [e, if_pos h255])]
      obtain ⟨z, hz⟩ : ∃ z, bI (nth b 4) = z := ⟨_, rfl⟩
      rw [hz] at x4 w4 j
      unfold byS
      clear hz eb e h255 b4
      refine FnP.intro Tryz.func56 rfl rfl fun G w => ?_
      repeat' (first
       | refine WK.seq ?_
       | refine WK.block ?_
       | refine WK.inBlock ?_
       | refine WK.skip ?_
       | refine WK.label ?_
       | refine WK.scope ?_
       | refine WK.inScope ?_
       | refine WK.exit rfl ?_
       | refine WK.condT rfl ?_
       | refine WK.condF rfl ?_
       | (refine Hid.h hQ _ _ ?_; clear hQ hA)
       | refine WK.condAny rfl ?_ ?_
       | ((first | refine WK.cond2 rfl (fun h => ?_) (fun h => ?_)) <;> (first | (simp [*] at h; done) | (have h2 := h; simp at h2; exfalso; omega) | (have h2 := h; simp at h2; try simp only [Bool.not_eq_true', Bool.not_eq_false'] at h) | skip))
       | ((first | refine WK.regH Tryz.ntmps56 (by kernel_rfl) ?_ | refine WK.regX (by kernel_rfl) Tryz.ntmps56 (by kernel_rfl) ?_); intro A hA Q hQ; simp [gFault, Inst.enc, inst0, wideZ, uI_zero, *])
       | (refine Hid.h hQ _ _ _ (by decide +kernel) ?_; clear hQ hA)
       | (((first | refine RunQ.call rfl rfl rfl rfl rfl ?_ (b2) ?_ ?_ | refine RunX.call rfl rfl rfl rfl ?_ (b2) ?_ ?_); (focus (simp (maxDischargeDepth := 120) [gFault, Inst.enc, inst0, wideZ, uI_zero, *]; done))); (focus (simp [gFault, Inst.enc, inst0, wideZ, uI_zero, *]; done)); (first | refine RunQ.evalH ?_ | refine RunX.evalY ?_); simp [gFault, Inst.enc, inst0, wideZ, uI_zero, *])
       | (refine WK.ret Tryz.func56 ?_ ?_ <;> simp (maxDischargeDepth := 120) [Tryz.results56, gFault, Inst.enc, inst0, wideZ, uI_zero, *])
       | fail)
    · have j : (bI (nth b 4) == 255) = false := by rw [eb, beq_eq_false_iff_ne]; omega
      rw [inOf0_none (by rw [e, if_neg h255]), ← eb]
      obtain ⟨z, hz⟩ : ∃ z, bI (nth b 4) = z := ⟨_, rfl⟩
      rw [hz] at x4 w4 j ⊢
      unfold byS
      clear hz eb e h255 b4
      refine FnP.intro Tryz.func56 rfl rfl fun G w => ?_
      repeat' (first
       | refine WK.seq ?_
       | refine WK.block ?_
       | refine WK.inBlock ?_
       | refine WK.skip ?_
       | refine WK.label ?_
       | refine WK.scope ?_
       | refine WK.inScope ?_
       | refine WK.exit rfl ?_
       | refine WK.condT rfl ?_
       | refine WK.condF rfl ?_
       | (refine Hid.h hQ _ _ ?_; clear hQ hA)
       | refine WK.condAny rfl ?_ ?_
       | ((first | refine WK.cond2 rfl (fun h => ?_) (fun h => ?_)) <;> (first | (simp [*] at h; done) | (have h2 := h; simp at h2; exfalso; omega) | (have h2 := h; simp at h2; try simp only [Bool.not_eq_true', Bool.not_eq_false'] at h) | skip))
       | ((first | refine WK.regH Tryz.ntmps56 (by kernel_rfl) ?_ | refine WK.regX (by kernel_rfl) Tryz.ntmps56 (by kernel_rfl) ?_); intro A hA Q hQ; simp [gFault, Inst.enc, wideZ, uI_zero, *])
       | (refine Hid.h hQ _ _ _ (by decide +kernel) ?_; clear hQ hA)
       | (refine WK.ret Tryz.func56 ?_ ?_ <;> simp (maxDischargeDepth := 120) [Tryz.results56, gFault, Inst.enc, wideZ, uI_zero, *])
       | fail)
  have j1 : (k == 1) = false := by simpa using k1
  by_cases k2 : k = 2
  · subst k2
    have hb24 := h2 rfl
    have e : inOf 2 b = (⟨2, 0, (wGet (b.drop 8) 8).1, (wGet (b.drop 16) 8).1, []⟩, if inMeta (wGet (b.drop 8) 8).1 (wGet (b.drop 16) 8).1 = true then none else some (3, 4)) := by unfold inOf; rw [if_neg (by decide), if_pos rfl]
    have g1 := rwget_c (b.drop 8) 8 (by omega) (by rw [List.length_drop]; omega)
    have g2 := rwget_c (b.drop 16) 8 (by omega) (by rw [List.length_drop]; omega)
    have s8 : ((byL b).drop 8).take (b.length - 8) = byL (b.drop 8) := by rw [byL_drop]; exact by_full _ _ (by rw [List.length_drop])
    have s16 : ((byL b).drop 16).take (b.length - 16) = byL (b.drop 16) := by rw [byL_drop]; exact by_full _ _ (by rw [List.length_drop])
    have u8 : (8 : Int) ≤ b.length := by omega
    have u16 : (16 : Int) ≤ b.length := by omega
    obtain ⟨v, hv⟩ : ∃ v, wGet (b.drop 8) 8 = v := ⟨_, rfl⟩
    obtain ⟨m, hm⟩ : ∃ v, wGet (b.drop 16) 8 = v := ⟨_, rfl⟩
    obtain ⟨B8, h8'⟩ : ∃ v, b.drop 8 = v := ⟨_, rfl⟩
    obtain ⟨B16, h16'⟩ : ∃ v, b.drop 16 = v := ⟨_, rfl⟩
    rw [hv] at g1 e
    rw [hm] at g2 e
    rw [h8'] at g1 s8
    rw [h16'] at g2 s16
    have l8 : B8.length = b.length - 8 := by rw [← h8', List.length_drop]
    have l16 : B16.length = b.length - 16 := by rw [← h16', List.length_drop]
    have hme := rimeta_c ⟨2, 0, v.1, m.1, []⟩
    obtain ⟨v, vb⟩ := v
    obtain ⟨m, mb⟩ := m
    simp only at hme g1 g2 e
    obtain ⟨z, hz⟩ : ∃ z, inMeta v m = z := ⟨_, rfl⟩
    rw [hz] at hme e
    unfold Wide.enc at g1 g2
    unfold byS at *
    rw [l8] at g1
    rw [l16] at g2
    simp only [Inst.enc, List.length_nil, actL_nil] at hme
    clear hz hv hm h8' h16' l8 l16
    cases z
    · rw [inOf0_some (by rw [e, if_neg Bool.false_ne_true])]
      clear e
      refine FnP.intro Tryz.func56 rfl rfl fun G w => ?_
      repeat' (first
       | refine WK.seq ?_
       | refine WK.block ?_
       | refine WK.inBlock ?_
       | refine WK.skip ?_
       | refine WK.label ?_
       | refine WK.scope ?_
       | refine WK.inScope ?_
       | refine WK.exit rfl ?_
       | refine WK.condT rfl ?_
       | refine WK.condF rfl ?_
       | (refine Hid.h hQ _ _ ?_; clear hQ hA)
       | refine WK.condAny rfl ?_ ?_
       | ((first | refine WK.cond2 rfl (fun h => ?_) (fun h => ?_)) <;> (first | (simp [*] at h; done) | (have h2 := h; simp at h2; exfalso; omega) | (have h2 := h; simp at h2; try simp only [Bool.not_eq_true', Bool.not_eq_false'] at h) | skip))
       | ((first | refine WK.regH Tryz.ntmps56 (by kernel_rfl) ?_ | refine WK.regX (by kernel_rfl) Tryz.ntmps56 (by kernel_rfl) ?_); intro A hA Q hQ; simp [gFault, Inst.enc, inst0, wideZ, uI_zero, *])
       | (refine Hid.h hQ _ _ _ (by decide +kernel) ?_; clear hQ hA)
       | ((first | ((first | refine RunQ.call rfl rfl rfl rfl rfl ?_ (g1) ?_ ?_ | refine RunX.call rfl rfl rfl rfl ?_ (g1) ?_ ?_); (focus (simp (maxDischargeDepth := 120) [gFault, Inst.enc, inst0, wideZ, uI_zero, *]; done))) | ((first | refine RunQ.call rfl rfl rfl rfl rfl ?_ (g2) ?_ ?_ | refine RunX.call rfl rfl rfl rfl ?_ (g2) ?_ ?_); (focus (simp (maxDischargeDepth := 120) [gFault, Inst.enc, inst0, wideZ, uI_zero, *]; done))) | ((first | refine RunQ.call rfl rfl rfl rfl rfl ?_ (hme) ?_ ?_ | refine RunX.call rfl rfl rfl rfl ?_ (hme) ?_ ?_); (focus (simp (maxDischargeDepth := 120) [gFault, Inst.enc, inst0, wideZ, uI_zero, *]; done))) | ((first | refine RunQ.call rfl rfl rfl rfl rfl ?_ (b4) ?_ ?_ | refine RunX.call rfl rfl rfl rfl ?_ (b4) ?_ ?_); (focus (simp (maxDischargeDepth := 120) [gFault, Inst.enc, inst0, wideZ, uI_zero, *]; done)))); (focus (simp [gFault, Inst.enc, inst0, wideZ, uI_zero, *]; done)); (first | refine RunQ.evalH ?_ | refine RunX.evalY ?_); simp [gFault, Inst.enc, inst0, wideZ, uI_zero, *])
       | (refine WK.ret Tryz.func56 ?_ ?_ <;> simp (maxDischargeDepth := 120) [Tryz.results56, gFault, Inst.enc, inst0, wideZ, uI_zero, *])
       | fail)
    · rw [inOf0_none (by rw [e, if_pos rfl])]
      clear e
      refine FnP.intro Tryz.func56 rfl rfl fun G w => ?_
      repeat' (first
       | refine WK.seq ?_
       | refine WK.block ?_
       | refine WK.inBlock ?_
       | refine WK.skip ?_
       | refine WK.label ?_
       | refine WK.scope ?_
       | refine WK.inScope ?_
       | refine WK.exit rfl ?_
       | refine WK.condT rfl ?_
       | refine WK.condF rfl ?_
       | (refine Hid.h hQ _ _ ?_; clear hQ hA)
       | refine WK.condAny rfl ?_ ?_
       | ((first | refine WK.cond2 rfl (fun h => ?_) (fun h => ?_)) <;> (first | (simp [*] at h; done) | (have h2 := h; simp at h2; exfalso; omega) | (have h2 := h; simp at h2; try simp only [Bool.not_eq_true', Bool.not_eq_false'] at h) | skip))
       | ((first | refine WK.regH Tryz.ntmps56 (by kernel_rfl) ?_ | refine WK.regX (by kernel_rfl) Tryz.ntmps56 (by kernel_rfl) ?_); intro A hA Q hQ; simp [gFault, Inst.enc, *])
       | (refine Hid.h hQ _ _ _ (by decide +kernel) ?_; clear hQ hA)
       | ((first | ((first | refine RunQ.call rfl rfl rfl rfl rfl ?_ (g1) ?_ ?_ | refine RunX.call rfl rfl rfl rfl ?_ (g1) ?_ ?_); (focus (simp (maxDischargeDepth := 120) [gFault, Inst.enc, *]; done))) | ((first | refine RunQ.call rfl rfl rfl rfl rfl ?_ (g2) ?_ ?_ | refine RunX.call rfl rfl rfl rfl ?_ (g2) ?_ ?_); (focus (simp (maxDischargeDepth := 120) [gFault, Inst.enc, *]; done))) | ((first | refine RunQ.call rfl rfl rfl rfl rfl ?_ (hme) ?_ ?_ | refine RunX.call rfl rfl rfl rfl ?_ (hme) ?_ ?_); (focus (simp (maxDischargeDepth := 120) [gFault, Inst.enc, *]; done)))); (focus (simp [gFault, Inst.enc, *]; done)); (first | refine RunQ.evalH ?_ | refine RunX.evalY ?_); simp [gFault, Inst.enc, *])
       | (refine WK.ret Tryz.func56 ?_ ?_ <;> simp (maxDischargeDepth := 120) [Tryz.results56, gFault, Inst.enc, *])
       | fail)
  have j2 : (k == 2) = false := by simpa using k2
  have ha := racdecP_c (b.drop 8) (by rw [List.length_drop]; omega)
  have s8 : ((byL b).drop 8).take (b.length - 8) = byL (b.drop 8) := by rw [byL_drop]; exact by_full _ _ (by rw [List.length_drop])
  have u8 : (8 : Int) ≤ b.length := by omega
  have l8 : (b.drop 8).length = b.length - 8 := by rw [List.length_drop]
  have e34 : k = 3 ∨ k = 4 → inOf k b = (⟨k, 0, wideZ, wideZ, (acDec (b.drop 8)).1⟩, (acDec (b.drop 8)).2.map fun c => (2, c)) := fun h => by unfold inOf; rw [if_neg k1, if_neg k2, if_pos h]
  have e5 : ¬ (k = 3 ∨ k = 4) → inOf k b = (⟨k, 0, wideZ, wideZ, []⟩, none) := fun h => by unfold inOf; rw [if_neg k1, if_neg k2, if_neg h]
  obtain ⟨B8, h8'⟩ : ∃ v, b.drop 8 = v := ⟨_, rfl⟩
  obtain ⟨R, hR⟩ : ∃ R, acDec (b.drop 8) = R := ⟨_, rfl⟩
  rw [hR] at ha e34
  rw [h8'] at ha s8 l8
  obtain ⟨l, f⟩ := R
  rw [aFault_g] at ha
  simp only [byS, actS, l8] at ha ⊢
  clear hR h8' l8 b2 b4
  by_cases k3 : k = 3
  · subst k3
    have e := e34 (.inl rfl)
    clear e34 e5
    cases f with
    | some c =>
      rw [inOf0_some e]
      clear e
      refine FnP.intro Tryz.func56 rfl rfl fun G w => ?_
      repeat' (first
       | refine WK.seq ?_
       | refine WK.block ?_
       | refine WK.inBlock ?_
       | refine WK.skip ?_
       | refine WK.label ?_
       | refine WK.scope ?_
       | refine WK.inScope ?_
       | refine WK.exit rfl ?_
       | refine WK.condT rfl ?_
       | refine WK.condF rfl ?_
       | (refine Hid.h hQ _ _ ?_; clear hQ hA)
       | refine WK.condAny rfl ?_ ?_
       | ((first | refine WK.cond2 rfl (fun h => ?_) (fun h => ?_)) <;> (first | (simp [*] at h; done) | (have h2 := h; simp at h2; exfalso; omega) | (have h2 := h; simp at h2; try simp only [Bool.not_eq_true', Bool.not_eq_false'] at h) | skip))
       | ((first | refine WK.regH Tryz.ntmps56 (by kernel_rfl) ?_ | refine WK.regX (by kernel_rfl) Tryz.ntmps56 (by kernel_rfl) ?_); intro A hA Q hQ; simp [gFault, Inst.enc, inst0, wideZ, uI_zero, *])
       | (refine Hid.h hQ _ _ _ (by decide +kernel) ?_; clear hQ hA)
       | (((first | refine RunQ.call rfl rfl rfl rfl rfl ?_ (ha) ?_ ?_ | refine RunX.call rfl rfl rfl rfl ?_ (ha) ?_ ?_); (focus (simp (maxDischargeDepth := 120) [gFault, Inst.enc, inst0, wideZ, uI_zero, *]; done))); (focus (simp [gFault, Inst.enc, inst0, wideZ, uI_zero, *]; done)); (first | refine RunQ.evalH ?_ | refine RunX.evalY ?_); simp [gFault, Inst.enc, inst0, wideZ, uI_zero, *])
       | (refine WK.ret Tryz.func56 ?_ ?_ <;> simp (maxDischargeDepth := 120) [Tryz.results56, gFault, Inst.enc, inst0, wideZ, uI_zero, *])
       | fail)
    | none =>
      rw [inOf0_none e]
      clear e
      refine FnP.intro Tryz.func56 rfl rfl fun G w => ?_
      repeat' (first
       | refine WK.seq ?_
       | refine WK.block ?_
       | refine WK.inBlock ?_
       | refine WK.skip ?_
       | refine WK.label ?_
       | refine WK.scope ?_
       | refine WK.inScope ?_
       | refine WK.exit rfl ?_
       | refine WK.condT rfl ?_
       | refine WK.condF rfl ?_
       | (refine Hid.h hQ _ _ ?_; clear hQ hA)
       | refine WK.condAny rfl ?_ ?_
       | ((first | refine WK.cond2 rfl (fun h => ?_) (fun h => ?_)) <;> (first | (simp [*] at h; done) | (have h2 := h; simp at h2; exfalso; omega) | (have h2 := h; simp at h2; try simp only [Bool.not_eq_true', Bool.not_eq_false'] at h) | skip))
       | ((first | refine WK.regH Tryz.ntmps56 (by kernel_rfl) ?_ | refine WK.regX (by kernel_rfl) Tryz.ntmps56 (by kernel_rfl) ?_); intro A hA Q hQ; simp [gFault, Inst.enc, wideZ, uI_zero, *])
       | (refine Hid.h hQ _ _ _ (by decide +kernel) ?_; clear hQ hA)
       | (((first | refine RunQ.call rfl rfl rfl rfl rfl ?_ (ha) ?_ ?_ | refine RunX.call rfl rfl rfl rfl ?_ (ha) ?_ ?_); (focus (simp (maxDischargeDepth := 120) [gFault, Inst.enc, wideZ, uI_zero, *]; done))); (focus (simp [gFault, Inst.enc, wideZ, uI_zero, *]; done)); (first | refine RunQ.evalH ?_ | refine RunX.evalY ?_); simp [gFault, Inst.enc, wideZ, uI_zero, *])
       | (refine WK.ret Tryz.func56 ?_ ?_ <;> simp (maxDischargeDepth := 120) [Tryz.results56, gFault, Inst.enc, wideZ, uI_zero, *])
       | fail)
  have j3 : (k == 3) = false := by simpa using k3
  by_cases k4 : k = 4
  · subst k4
    have e := e34 (.inr rfl)
    clear e34 e5
    cases f with
    | some c =>
      rw [inOf0_some e]
      clear e
      refine FnP.intro Tryz.func56 rfl rfl fun G w => ?_
      repeat' (first
       | refine WK.seq ?_
       | refine WK.block ?_
       | refine WK.inBlock ?_
       | refine WK.skip ?_
       | refine WK.label ?_
       | refine WK.scope ?_
       | refine WK.inScope ?_
       | refine WK.exit rfl ?_
       | refine WK.condT rfl ?_
       | refine WK.condF rfl ?_
       | (refine Hid.h hQ _ _ ?_; clear hQ hA)
       | refine WK.condAny rfl ?_ ?_
       | ((first | refine WK.cond2 rfl (fun h => ?_) (fun h => ?_)) <;> (first | (simp [*] at h; done) | (have h2 := h; simp at h2; exfalso; omega) | (have h2 := h; simp at h2; try simp only [Bool.not_eq_true', Bool.not_eq_false'] at h) | skip))
       | ((first | refine WK.regH Tryz.ntmps56 (by kernel_rfl) ?_ | refine WK.regX (by kernel_rfl) Tryz.ntmps56 (by kernel_rfl) ?_); intro A hA Q hQ; simp [gFault, Inst.enc, inst0, wideZ, uI_zero, *])
       | (refine Hid.h hQ _ _ _ (by decide +kernel) ?_; clear hQ hA)
       | (((first | refine RunQ.call rfl rfl rfl rfl rfl ?_ (ha) ?_ ?_ | refine RunX.call rfl rfl rfl rfl ?_ (ha) ?_ ?_); (focus (simp (maxDischargeDepth := 120) [gFault, Inst.enc, inst0, wideZ, uI_zero, *]; done))); (focus (simp [gFault, Inst.enc, inst0, wideZ, uI_zero, *]; done)); (first | refine RunQ.evalH ?_ | refine RunX.evalY ?_); simp [gFault, Inst.enc, inst0, wideZ, uI_zero, *])
       | (refine WK.ret Tryz.func56 ?_ ?_ <;> simp (maxDischargeDepth := 120) [Tryz.results56, gFault, Inst.enc, inst0, wideZ, uI_zero, *])
       | fail)
    | none =>
      rw [inOf0_none e]
      clear e
      refine FnP.intro Tryz.func56 rfl rfl fun G w => ?_
      repeat' (first
       | refine WK.seq ?_
       | refine WK.block ?_
       | refine WK.inBlock ?_
       | refine WK.skip ?_
       | refine WK.label ?_
       | refine WK.scope ?_
       | refine WK.inScope ?_
       | refine WK.exit rfl ?_
       | refine WK.condT rfl ?_
       | refine WK.condF rfl ?_
       | (refine Hid.h hQ _ _ ?_; clear hQ hA)
       | refine WK.condAny rfl ?_ ?_
       | ((first | refine WK.cond2 rfl (fun h => ?_) (fun h => ?_)) <;> (first | (simp [*] at h; done) | (have h2 := h; simp at h2; exfalso; omega) | (have h2 := h; simp at h2; try simp only [Bool.not_eq_true', Bool.not_eq_false'] at h) | skip))
       | ((first | refine WK.regH Tryz.ntmps56 (by kernel_rfl) ?_ | refine WK.regX (by kernel_rfl) Tryz.ntmps56 (by kernel_rfl) ?_); intro A hA Q hQ; simp [gFault, Inst.enc, wideZ, uI_zero, *])
       | (refine Hid.h hQ _ _ _ (by decide +kernel) ?_; clear hQ hA)
       | (((first | refine RunQ.call rfl rfl rfl rfl rfl ?_ (ha) ?_ ?_ | refine RunX.call rfl rfl rfl rfl ?_ (ha) ?_ ?_); (focus (simp (maxDischargeDepth := 120) [gFault, Inst.enc, wideZ, uI_zero, *]; done))); (focus (simp [gFault, Inst.enc, wideZ, uI_zero, *]; done)); (first | refine RunQ.evalH ?_ | refine RunX.evalY ?_); simp [gFault, Inst.enc, wideZ, uI_zero, *])
       | (refine WK.ret Tryz.func56 ?_ ?_ <;> simp (maxDischargeDepth := 120) [Tryz.results56, gFault, Inst.enc, wideZ, uI_zero, *])
       | fail)
  have j4 : (k == 4) = false := by simpa using k4
  rw [inOf0_none (e5 (by omega))]
  clear e34 e5 ha s8
  refine FnP.intro Tryz.func56 rfl rfl fun G w => ?_
  repeat' (first
   | refine WK.seq ?_
   | refine WK.block ?_
   | refine WK.inBlock ?_
   | refine WK.skip ?_
   | refine WK.label ?_
   | refine WK.scope ?_
   | refine WK.inScope ?_
   | refine WK.exit rfl ?_
   | refine WK.condT rfl ?_
   | refine WK.condF rfl ?_
   | (refine Hid.h hQ _ _ ?_; clear hQ hA)
   | refine WK.condAny rfl ?_ ?_
   | ((first | refine WK.cond2 rfl (fun h => ?_) (fun h => ?_)) <;> (first | (simp [*] at h; done) | (have h2 := h; simp at h2; exfalso; omega) | (have h2 := h; simp at h2; try simp only [Bool.not_eq_true', Bool.not_eq_false'] at h) | skip))
   | ((first | refine WK.regH Tryz.ntmps56 (by kernel_rfl) ?_ | refine WK.regX (by kernel_rfl) Tryz.ntmps56 (by kernel_rfl) ?_); intro A hA Q hQ; simp [gFault, Inst.enc, wideZ, uI_zero, *])
   | (refine Hid.h hQ _ _ _ (by decide +kernel) ?_; clear hQ hA)
   | (refine WK.ret Tryz.func56 ?_ ?_ <;> simp (maxDischargeDepth := 120) [Tryz.results56, gFault, Inst.enc, wideZ, uI_zero, *])
   | fail)
theorem inFind_hit {l : List Inst} {k : Int} {i : Nat} (h : i < l.length) (hk : (nth l i).kind = k) (hn : ∀ j, j < i → ¬ (nth l j).kind = k) : inFind l k = (nth l i, true) := by
  unfold inFind
  have : l.find? (fun i => i.kind == k) = some (nth l i) := by
    rw [List.find?_eq_some_iff_getElem]
    refine ⟨by simpa using hk, i, h, by rw [nth_eq h], fun j hj => ?_⟩
    have := hn j hj
    rw [nth_eq (by omega)] at this
    simpa using this
  rw [this]
theorem inFind_miss {l : List Inst} {k : Int} (hn : ∀ j, j < l.length → ¬ (nth l j).kind = k) : inFind l k = (inst0, false) := by
  unfold inFind
  have : l.find? (fun i => i.kind == k) = none := by
    rw [List.find?_eq_none]
    intro x hx
    obtain ⟨j, hj, rfl⟩ := mem_nth hx
    simpa using hn j hj
  rw [this]
end Go.Proofs.YteonfhnljphbpaaGreat
end

section
set_option linter.unusedVariables false
set_option linter.unusedSimpArgs false
namespace Go.Proofs.YteonfhnljphbpaaGreat
open Go Go.AI Go.Proofs
attribute [local irreducible] FnP FnO FnB FnT FnSeq WK RunQ RunQW RunX RunXW

theorem inFind_snd (l : List Inst) (k : Int) : (inFind l k).2 = decide (k ∈ inKinds l) := by
  unfold inFind
  cases h : l.find? (fun i => i.kind == k) with
  | none =>
    rw [List.find?_eq_none] at h
    have : k ∉ inKinds l := by
      intro hk
      unfold inKinds at hk
      obtain ⟨x, hx, rfl⟩ := List.mem_map.1 hk
      exact h x hx (by simp)
    simp [this]
  | some i =>
    have hm := List.mem_of_find?_eq_some h
    have hp := List.find?_some h
    have : k ∈ inKinds l := List.mem_map.2 ⟨i, hm, by simpa using hp⟩
    simp [this]
end Go.Proofs.YteonfhnljphbpaaGreat
end
