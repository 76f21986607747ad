/- Matches: read by the reference. -/
import Derived.Test.YtiifjagnhnchoaaGreatWk10
import Derived.Test.YtiifjagnhnchoaaGreatWk8
import Derived.Test.YtiifjagnhnchoaaGreatAf
set_option linter.all false
set_option linter.unnecessarySimpa false
section
set_option linter.unusedVariables false
set_option linter.unusedSimpArgs false
namespace Go.Proofs.YtiifjagnhnchoaaGreat
open Go Go.AI Go.Proofs
attribute [local irreducible] FnP FnO FnB FnT FnSeq WK RunQ RunQW RunX RunXW

theorem two_val {b : List (BitVec 8)} {p : Nat} (h : p + 2 ≤ b.length) : bI (nth b p) * 256 + bI (nth b (p + 1)) = ((valN ((b.drop p).take 2) : Nat) : Int) := by
  have h1 := getN_two h
  rw [getN_val h] at h1
  exact (congrArg Prod.fst h1).symm
theorem kind_val {b : List (BitVec 8)} (h : 2 ≤ b.length) : mKind b = 1 ↔ nth b 0 = 0#8 ∧ nth b 1 = 1#8 := by
  have h1 := two_val (b := b) (p := 0) h
  have h0 : ((mKind b : Nat) : Int) = bI (nth b 0) * 256 + bI (nth b 1) := h1.symm
  have r0 := (nth b 0).isLt
  have r1 := (nth b 1).isLt
  unfold bI at h0
  constructor
  · intro h
    rw [h] at h0
    exact ⟨BitVec.eq_of_toNat_eq (by simp; omega), BitVec.eq_of_toNat_eq (by simp; omega)⟩
  · rintro ⟨h1, h2⟩
    rw [h1, h2] at h0
    have : ((0#8 : BitVec 8).toNat : Int) * 256 + ((1#8 : BitVec 8).toNat : Int) = 1 := by decide
    omega
set_option maxHeartbeats 8000000 in
theorem rmdec_c (b : List (BitVec 8)) (hb : b.length ≤ 1000000) : FnP Tryz.prog 27 [byS b] (.tup [oxmS (mDec b).1, .int .i64 (mDec b).2.1, .agg (gFault (mDec b).2.2)]) := by
  have b1 := rmbad_c 1
  have b0 := rmbad_c 0
  unfold oxmS
  by_cases c4 : b.length < 4
  · have c4' : (b.length : Int) < 4 := by omega
    have e : mDec b = ([], 0, some (4, 1)) := by unfold mDec; rw [if_pos c4]
    rw [e]
    unfold byS
    clear b0
    refine FnP.intro Tryz.func27 rfl rfl fun G w => ?_
    repeat' (first
     | refine WK.seq ?_
     | refine WK.condT rfl ?_
     | (refine Hid.h hQ _ _ ?_; clear hQ hA)
     | (refine WK.regH Tryz.ntmps27 (by kernel_rfl) ?_; intro A hA Q hQ; simp [gFault, oxmL_nil, *])
     | (refine RunQ.call rfl rfl rfl rfl rfl ?_ (b1) ?_ ?_; (focus (simp (maxDischargeDepth := 120) [gFault, oxmL_nil, *]; done)); (focus (simp [gFault, oxmL_nil, *]; done)); refine RunQ.evalH ?_; simp [gFault, oxmL_nil, *])
     | (refine WK.ret Tryz.func27 ?_ ?_ <;> simp (maxDischargeDepth := 120) [Tryz.results27, gFault, oxmL_nil, *])
     | fail)
  have c4' : ¬ (b.length : Int) < 4 := by omega
  have x0 := by_get b 0 (by omega)
  have x1 := by_get b 1 (by omega)
  have x2 := by_get b 2 (by omega)
  have x3 := by_get b 3 (by omega)
  have u0 : (0 : Int) < b.length := by omega
  have u1 : (1 : Int) < b.length := by omega
  have u2 : (2 : Int) < b.length := by omega
  have u3 : (3 : Int) < b.length := by omega
  have v0 : 0 < b.length := by omega
  have v1 : 1 < b.length := by omega
  have v2 : 2 < b.length := by omega
  have v3 : 3 < b.length := by omega
  have r2 := bI_range (nth b 2)
  have r3 := bI_range (nth b 3)
  have hv2 : bI (nth b 2) * 256 + bI (nth b 3) = ((mVal b : Nat) : Int) := two_val (by omega)
  have hvl : mVal b < 65536 := valN_lt 2 _ (by rw [List.length_take, List.length_drop]; omega)
  have w2 := u8_i64' (nth b 2)
  have w3 := u8_i64' (nth b 3)
  have w23 : IntKind.i64.wrap (bI (nth b 2) * 256) = bI (nth b 2) * 256 := wrap_i64 (by omega) (by omega)
  have w24 : IntKind.i64.wrap (bI (nth b 2) * 256 + bI (nth b 3)) = ((mVal b : Nat) : Int) := by rw [hv2]; exact wrap_i64 (by omega) (by omega)
  have w7 : IntKind.i64.wrap ((mVal b : Int) + 7) = (mVal b : Int) + 7 := wrap_i64 (by omega) (by omega)
  have w8 : IntKind.i64.wrap (((mVal b : Int) + 7).tdiv 8) = (((mVal b + 7) / 8 : Nat) : Int) := by rw [Int.tdiv_eq_ediv_of_nonneg (by omega), wrap_i64 (by omega) (by omega)]; omega
  have w9 : IntKind.i64.wrap ((((mVal b + 7) / 8 : Nat) : Int) * 8) = ((mPad (mVal b) : Nat) : Int) := by rw [wrap_i64 (by omega) (by omega)]; unfold mPad; omega
  have hk := kind_val (b := b) (by omega)
  have k0 := bI_zero (nth b 0)
  have k1 : (bI (nth b 1) == 1) = (nth b 1 == 1#8) := by
    rw [Bool.eq_iff_iff, beq_iff_eq, beq_iff_eq]
    unfold bI
    constructor
    · intro h; exact BitVec.eq_of_toNat_eq (by simp; omega)
    · intro h; rw [h]; rfl
  have hde := mDec_eq b
  have hmh : mHead b = if mVal b < 4 ∨ b.length < mPad (mVal b) then (0, some 1) else if ¬ mKind b = 1 then (0, some 0) else if 1004 < mVal b then (0, some 1) else (mVal b, none) := by unfold mHead; rw [if_neg c4]
  obtain ⟨X2, hX2⟩ : ∃ X, bI (nth b 2) = X := ⟨_, rfl⟩
  obtain ⟨X3, hX3⟩ : ∃ X, bI (nth b 3) = X := ⟨_, rfl⟩
  obtain ⟨X0, hX0⟩ : ∃ X, bI (nth b 0) = X := ⟨_, rfl⟩
  obtain ⟨X1, hX1⟩ : ∃ X, bI (nth b 1) = X := ⟨_, rfl⟩
  rw [hX2] at x2 w2 w23 w24
  rw [hX3] at x3 w3 w24
  rw [hX0] at x0 k0
  rw [hX1] at x1 k1
  obtain ⟨z0, hz0⟩ : ∃ z, (nth b 0 == 0#8) = z := ⟨_, rfl⟩
  obtain ⟨z1, hz1⟩ : ∃ z, (nth b 1 == 1#8) = z := ⟨_, rfl⟩
  have hk' : mKind b = 1 ↔ z0 = true ∧ z1 = true := by rw [hk, ← hz0, ← hz1, beq_iff_eq, beq_iff_eq]
  rw [hz0] at k0
  rw [hz1] at k1
  obtain ⟨n, hn⟩ : ∃ n, mVal b = n := ⟨_, rfl⟩
  obtain ⟨kd, hkd⟩ : ∃ n, mKind b = n := ⟨_, rfl⟩
  rw [hn] at w24 w7 w8 w9 hmh hvl
  rw [hkd] at hmh hk'
  obtain ⟨Q8, hQ8⟩ : ∃ q, (n + 7) / 8 = q := ⟨_, rfl⟩
  rw [hQ8] at w8 w9
  have hp := mPad_ge n
  unfold byS
  clear hX0 hX1 hX2 hX3 hz0 hz1 hk hv2 r2 r3 hkd hQ8
  by_cases h2 : n < 4
  · have h2' : (n : Int) < 4 := by omega
    rw [if_pos (.inl h2)] at hmh
    rw [hmh] at hde
    simp only at hde
    rw [hde]
    clear hde hmh hk' b0 hn
    refine FnP.intro Tryz.func27 rfl rfl fun G w => ?_
    repeat' (first
     | refine WK.seq ?_
     | refine WK.block ?_
     | refine WK.skip ?_
     | refine WK.condT rfl ?_
     | refine WK.condF rfl ?_
     | (refine Hid.h hQ _ _ ?_; clear hQ hA)
     | (refine WK.regH Tryz.ntmps27 (by kernel_rfl) ?_; intro A hA Q hQ; simp [gFault, oxmL_nil, *])
     | (refine WK.regX (by kernel_rfl) Tryz.ntmps27 (by kernel_rfl) ?_; intro A hA Q hQ; simp [gFault, oxmL_nil, *])
     | (refine Hid.h hQ _ _ _ (by decide +kernel) ?_; clear hQ hA)
     | (refine RunQ.gd rfl (by rw [hA.h]; rfl) ?_; simp [gFault, oxmL_nil, *])
     | (refine RunQ.call rfl rfl rfl rfl rfl ?_ (b1) ?_ ?_; (focus (simp (maxDischargeDepth := 120) [gFault, oxmL_nil, *]; done)); (focus (simp [gFault, oxmL_nil, *]; done)); refine RunQ.evalH ?_; simp [gFault, oxmL_nil, *])
     | (refine WK.ret Tryz.func27 ?_ ?_ <;> simp (maxDischargeDepth := 120) [Tryz.results27, gFault, oxmL_nil, *])
     | fail)
  have h2' : ¬ (n : Int) < 4 := by omega
  by_cases h3 : b.length < mPad n
  · have h3' : (b.length : Int) < (mPad n : Nat) := by omega
    rw [if_pos (.inr h3)] at hmh
    rw [hmh] at hde
    simp only at hde
    rw [hde]
    clear hde hmh hk' b0 hn
    refine FnP.intro Tryz.func27 rfl rfl fun G w => ?_
    repeat' (first
     | refine WK.seq ?_
     | refine WK.block ?_
     | refine WK.skip ?_
     | refine WK.condT rfl ?_
     | refine WK.condF rfl ?_
     | (refine Hid.h hQ _ _ ?_; clear hQ hA)
     | (refine WK.regH Tryz.ntmps27 (by kernel_rfl) ?_; intro A hA Q hQ; simp [gFault, oxmL_nil, *])
     | (refine WK.regX (by kernel_rfl) Tryz.ntmps27 (by kernel_rfl) ?_; intro A hA Q hQ; simp [gFault, oxmL_nil, *])
     | (refine Hid.h hQ _ _ _ (by decide +kernel) ?_; clear hQ hA)
     | (refine RunQ.gd rfl (by rw [hA.h]; rfl) ?_; simp [gFault, oxmL_nil, *])
     | (refine RunQ.call rfl rfl rfl rfl rfl ?_ (b1) ?_ ?_; (focus (simp (maxDischargeDepth := 120) [gFault, oxmL_nil, *]; done)); (focus (simp [gFault, oxmL_nil, *]; done)); refine RunQ.evalH ?_; simp [gFault, oxmL_nil, *])
     | (refine WK.ret Tryz.func27 ?_ ?_ <;> simp (maxDischargeDepth := 120) [Tryz.results27, gFault, oxmL_nil, *])
     | fail)
  have h3' : ¬ (b.length : Int) < (mPad n : Nat) := by omega
  rw [if_neg (by omega)] at hmh
  cases z0
  case false =>
    rw [if_pos (by rw [hk']; simp)] at hmh
    rw [hmh] at hde
    simp only at hde
    rw [hde]
    clear hde hmh hk' b1 hn
    refine FnP.intro Tryz.func27 rfl rfl fun G w => ?_
    repeat' (first
     | refine WK.seq ?_
     | refine WK.block ?_
     | refine WK.skip ?_
     | refine WK.condT rfl ?_
     | refine WK.condF rfl ?_
     | (refine Hid.h hQ _ _ ?_; clear hQ hA)
     | (refine WK.regH Tryz.ntmps27 (by kernel_rfl) ?_; intro A hA Q hQ; simp [gFault, oxmL_nil, bne, *])
     | (refine WK.regX (by kernel_rfl) Tryz.ntmps27 (by kernel_rfl) ?_; intro A hA Q hQ; simp [gFault, oxmL_nil, bne, *])
     | (refine Hid.h hQ _ _ _ (by decide +kernel) ?_; clear hQ hA)
     | (refine RunQ.gd rfl (by rw [hA.h]; rfl) ?_; simp [gFault, oxmL_nil, bne, *])
     | (refine RunQ.call rfl rfl rfl rfl rfl ?_ (b0) ?_ ?_; (focus (simp (maxDischargeDepth := 120) [gFault, oxmL_nil, bne, *]; done)); (focus (simp [gFault, oxmL_nil, bne, *]; done)); refine RunQ.evalH ?_; simp [gFault, oxmL_nil, bne, *])
     | (refine WK.ret Tryz.func27 ?_ ?_ <;> simp (maxDischargeDepth := 120) [Tryz.results27, gFault, oxmL_nil, bne, *])
     | fail)
  cases z1
  case false =>
    rw [if_pos (by rw [hk']; simp)] at hmh
    rw [hmh] at hde
    simp only at hde
    rw [hde]
    clear hde hmh hk' b1 hn
    refine FnP.intro Tryz.func27 rfl rfl fun G w => ?_
    repeat' (first
     | refine WK.seq ?_
     | refine WK.block ?_
     | refine WK.skip ?_
     | refine WK.condT rfl ?_
     | refine WK.condF rfl ?_
     | (refine Hid.h hQ _ _ ?_; clear hQ hA)
     | (refine WK.regH Tryz.ntmps27 (by kernel_rfl) ?_; intro A hA Q hQ; simp [gFault, oxmL_nil, bne, *])
     | (refine WK.regX (by kernel_rfl) Tryz.ntmps27 (by kernel_rfl) ?_; intro A hA Q hQ; simp [gFault, oxmL_nil, bne, *])
     | (refine Hid.h hQ _ _ _ (by decide +kernel) ?_; clear hQ hA)
     | (refine RunQ.gd rfl (by rw [hA.h]; rfl) ?_; simp [gFault, oxmL_nil, bne, *])
     | (refine RunQ.call rfl rfl rfl rfl rfl ?_ (b0) ?_ ?_; (focus (simp (maxDischargeDepth := 120) [gFault, oxmL_nil, bne, *]; done)); (focus (simp [gFault, oxmL_nil, bne, *]; done)); refine RunQ.evalH ?_; simp [gFault, oxmL_nil, bne, *])
     | (refine WK.ret Tryz.func27 ?_ ?_ <;> simp (maxDischargeDepth := 120) [Tryz.results27, gFault, oxmL_nil, bne, *])
     | fail)
  rw [if_neg (by rw [hk']; simp)] at hmh
  clear hk' b0
  by_cases h5 : 1004 < n
  · have h5' : (1004 : Int) < n := by omega
    rw [if_pos h5] at hmh
    rw [hmh] at hde
    simp only at hde
    rw [hde]
    clear hde hmh hn
    refine FnP.intro Tryz.func27 rfl rfl fun G w => ?_
    repeat' (first
     | refine WK.seq ?_
     | refine WK.block ?_
     | refine WK.skip ?_
     | refine WK.condT rfl ?_
     | refine WK.condF rfl ?_
     | (refine Hid.h hQ _ _ ?_; clear hQ hA)
     | (refine WK.regH Tryz.ntmps27 (by kernel_rfl) ?_; intro A hA Q hQ; simp [gFault, oxmL_nil, bne, *])
     | (refine WK.regX (by kernel_rfl) Tryz.ntmps27 (by kernel_rfl) ?_; intro A hA Q hQ; simp [gFault, oxmL_nil, bne, *])
     | (refine Hid.h hQ _ _ _ (by decide +kernel) ?_; clear hQ hA)
     | (refine RunQ.gd rfl (by rw [hA.h]; rfl) ?_; simp [gFault, oxmL_nil, bne, *])
     | (refine RunQ.call rfl rfl rfl rfl rfl ?_ (b1) ?_ ?_; (focus (simp (maxDischargeDepth := 120) [gFault, oxmL_nil, bne, *]; done)); (focus (simp [gFault, oxmL_nil, bne, *]; done)); refine RunQ.evalH ?_; simp [gFault, oxmL_nil, bne, *])
     | (refine WK.ret Tryz.func27 ?_ ?_ <;> simp (maxDischargeDepth := 120) [Tryz.results27, gFault, oxmL_nil, bne, *])
     | fail)
  have h5' : ¬ (1004 : Int) < n := by omega
  rw [if_neg h5] at hmh
  rw [hmh] at hde
  simp only at hde
  unfold mBody at hde
  have hRl : ((b.drop 4).take (n - 4)).length = n - 4 := by rw [List.length_take, List.length_drop]; omega
  obtain ⟨R, hR⟩ : ∃ R, (b.drop 4).take (n - 4) = R := ⟨_, rfl⟩
  rw [hR] at hRl hde
  have hst := RwAt.start oRd 4 R
  clear hn hmh
  refine FnP.intro Tryz.func27 rfl rfl fun G w => ?_
  repeat' (first
   | refine WK.seq ?_
   | refine WK.block ?_
   | refine WK.inBlock ?_
   | refine WK.skip ?_
   | refine WK.condF rfl ?_
   | (refine Hid.h hQ _ _ ?_; clear hQ hA)
   | (refine WK.regH Tryz.ntmps27 (by kernel_rfl) ?_; intro A hA Q hQ; simp [bne, *])
   | (refine WK.regX (by kernel_rfl) Tryz.ntmps27 (by kernel_rfl) ?_; intro A hA Q hQ; simp [bne, *])
   | (refine Hid.h hQ _ _ _ (by decide +kernel) ?_; clear hQ hA)
   | (refine RunQ.gd rfl (by rw [hA.h]; rfl) ?_; simp [bne, *])
   | fail)
  refine WK.ghost (Ghost.own 7 900 6 rfl rfl) ?_
  refine WK.loopI (fun n => if n = 0 then 2 else if n = 1 then 900 else n) (fun x : Nat × Nat × List Oxm => (⟨(upd (upd (upd (upd (upd (upd J 0 (.sl false b.length (byL b))) 4 (.ptr 0 0)) 5 (.int .i64 n)) 6 (.int .i64 (mPad n : Nat))) 7 (.msl 1 0 x.2.2.length)) 8 (.int .i64 (4 + x.2.1 : Nat))), (upd (upd B0 0 (.var [.junk, .junk, .junk])) 1 (.buf 6 (oxmL x.2.2))), 0⟩ : St)) (fun x => RwAt oRd 4 R x) (fun x => R.length - x.2.1) ((R.length, 0, [])) (by repeat (first | exact TmW.nil | refine TmW.upd ?_ (by simp (maxDischargeDepth := 120) [oxmL_nil]))) (by repeat (first | exact BxW.nil | refine BxW.upd ?_ (by simp (maxDischargeDepth := 120) [oxmL_nil]))) (by first | exact InjW.id | exact InjW.nil | exact InjW.one | exact InjW.two (by simp) | exact InjW.three (by simp) (by simp) (by simp)) (hst) (fun i hi IH => ?_)
  clear x0 x1 x2 x3 u0 u1 u2 u3 v0 v1 v2 v3 w2 w3 w23 w24 w7 w8 w9 k0 k1 hst
  obtain ⟨f, p, acc⟩ := i
  have hle := hi.le
  have hsm := hi.small
  simp only at hle hsm hi ⊢
  obtain ⟨t, ht⟩ : ∃ t, 4 + p = t := ⟨_, rfl⟩
  rw [ht]
  by_cases h1 : p < R.length
  · have hd := rodec_c (R.drop p) (by rw [List.length_drop]; omega)
    obtain ⟨o, k, c, ho⟩ : ∃ o k c, oDec (R.drop p) = (o, k, c) := ⟨_, _, _, rfl⟩
    rw [ho] at hd
    have hrd := oRd_eq ho
    unfold byS at hd
    rw [List.length_drop, hRl] at hd
    have hpos : t < n := by omega
    have hpos' : (t : Int) < n := by omega
    have hlen : n - 4 - p = n - t := by omega
    rw [hlen] at hd
    have hsl : ((byL b).drop t).take (n - t) = byL (R.drop p) := by
      rw [byL_drop, byL_take, ← hR, List.drop_take, List.drop_drop, ht, hlen]
    have hn1 : (t : Int) ≤ n := by omega
    have hn2 : (n : Int) ≤ b.length := by omega
    have hn3 : t ≤ n := by omega
    have hn4 : n ≤ b.length := by omega
    by_cases hc : c = 0
    case neg =>
      rw [if_neg hc] at hrd
      have e := RwAt.bad hi h1 hrd
      rw [e] at hde
      simp only at hde
      rw [hde]
      obtain ⟨B, hB⟩ : ∃ B, R.drop p = B := ⟨_, rfl⟩
      rw [hB] at hd hsl
      have hfc : oFault c = [.bool true, .int .i64 4, .int .i64 c] := by unfold oFault; rw [if_neg hc]
      rw [hfc] at hd
      unfold Oxm.enc at hd
      clear hde hB ho hrd e hi hfc b1 hR
      repeat' (first
       | refine WK.seq ?_
       | refine WK.block ?_
       | refine WK.skip ?_
       | refine WK.condT rfl ?_
       | (refine Hid.h hQ _ _ ?_; clear hQ hA)
       | (refine WK.regH Tryz.ntmps27 (by kernel_rfl) ?_; intro A hA Q hQ; simp [gFault, oxmL_nil, *])
       | (refine WK.regX (by kernel_rfl) Tryz.ntmps27 (by kernel_rfl) ?_; intro A hA Q hQ; simp [gFault, oxmL_nil, *])
       | (refine Hid.h hQ _ _ _ (by decide +kernel) ?_; clear hQ hA)
       | (refine RunQ.call rfl rfl rfl rfl rfl ?_ (hd) ?_ ?_; (focus (simp (maxDischargeDepth := 120) [gFault, oxmL_nil, *]; done)); (focus (simp [gFault, oxmL_nil, *]; done)); refine RunQ.evalH ?_; simp [gFault, oxmL_nil, *])
       | (refine WK.ret Tryz.func27 ?_ ?_ <;> simp (maxDischargeDepth := 120) [Tryz.results27, gFault, oxmL_nil, *])
       | fail)
    subst hc
    rw [if_pos rfl] at hrd
    obtain ⟨m, hm, hml, hm0, hn⟩ := RwAt.next (by omega) oRd_keeps hi h1 hrd
    simp only at hml hn
    subst hm
    have wt : IntKind.i64.wrap ((t : Int) + (m : Int)) = ((4 + (p + m) : Nat) : Int) := by rw [wrap_i64 (by omega) (by omega)]; omega
    have hbd : (acc.length + 1) * 48 ≤ 140737488355328 := by omega
    have hsq := oxmL_snoc acc o
    obtain ⟨B, hB⟩ : ∃ B, R.drop p = B := ⟨_, rfl⟩
    rw [hB] at hd hsl
    have hfc : oFault 0 = [.bool false, .int .i64 0, .int .i64 0] := rfl
    rw [hfc] at hd
    unfold Oxm.enc at hd hsq
    clear hde hB ho hrd hi hfc b1 hR
    repeat' (first
     | refine WK.seq ?_
     | refine WK.block ?_
     | refine WK.inBlock ?_
     | refine WK.skip ?_
     | refine WK.condT rfl ?_
     | refine WK.condF rfl ?_
     | (refine Hid.h hQ _ _ ?_; clear hQ hA)
     | (refine WK.regH Tryz.ntmps27 (by kernel_rfl) ?_; intro A hA Q hQ; simp [*])
     | (refine RunQ.append 902 app_oxm rfl rfl rfl rfl rfl rfl rfl rfl rfl ?_ ?_ ?_ ?_ ?_; (focus (first | omega | (simp [*]; done); done)); (focus (first | omega | (simp [*]; done); done)); (focus (first | omega | (simp [*]; done); done)); (focus (first | omega | (simp [*]; done); done)); refine RunQ.evalH ?_; simp [*])
     | (refine RunQ.call rfl rfl rfl rfl rfl ?_ (hd) ?_ ?_; (focus (simp (maxDischargeDepth := 120) [*]; done)); (focus (simp [*]; done)); refine RunQ.evalH ?_; simp [*])
     | fail)
    refine WK.next (fun n => if n = 1 then 902 else n) (IH ((f - 1, p + m, acc ++ [o])) (hn) (by first | omega | (dsimp only; omega))) (by repeat (first | exact TmW.nil | refine TmW.upd ?_ (by simp (maxDischargeDepth := 120) [hsq]))) (by repeat (first | exact BxW.nil | refine BxW.upd ?_ (by simp (maxDischargeDepth := 120) [hsq]))) (by first | exact InjW.id | exact InjW.nil | exact InjW.one | exact InjW.two (by simp) | exact InjW.three (by simp) (by simp) (by simp))
  · have hstop := RwAt.stop hi h1
    simp only at hstop
    rw [hstop] at hde
    simp only at hde
    have htn : t = n := by omega
    rw [htn]
    have hpos : ¬ n < n := by omega
    have hcl : ClL (oxmL acc) = true := oxmL_cl _
    have hT := oxmL_take acc
    have ck := rmcheck_c acc (by omega)
    unfold oxmS at ck
    clear hi hstop ht htn
    repeat' (first
     | refine WK.seq ?_
     | refine WK.exit rfl ?_
     | refine WK.condF rfl ?_
     | (refine Hid.h hQ _ _ ?_; clear hQ hA)
     | (refine WK.regH (id := 0) Tryz.ntmps27 (by kernel_rfl) ?_; intro A hA Q hQ; simp [*])
     | (refine WK.regH (id := 1) Tryz.ntmps27 (by kernel_rfl) ?_; intro A hA Q hQ; simp [*])
     | (refine WK.regH (id := 2) Tryz.ntmps27 (by kernel_rfl) ?_; intro A hA Q hQ; simp [*])
     | (refine WK.regH (id := 3) Tryz.ntmps27 (by kernel_rfl) ?_; intro A hA Q hQ; simp [*])
     | (refine WK.regH (id := 4) Tryz.ntmps27 (by kernel_rfl) ?_; intro A hA Q hQ; simp [*])
     | (refine WK.regH (id := 5) Tryz.ntmps27 (by kernel_rfl) ?_; intro A hA Q hQ; simp [*])
     | (refine WK.regH (id := 6) Tryz.ntmps27 (by kernel_rfl) ?_; intro A hA Q hQ; simp [*])
     | (refine WK.regH (id := 7) Tryz.ntmps27 (by kernel_rfl) ?_; intro A hA Q hQ; simp [*])
     | (refine WK.regH (id := 8) Tryz.ntmps27 (by kernel_rfl) ?_; intro A hA Q hQ; simp [*])
     | (refine WK.regH (id := 9) Tryz.ntmps27 (by kernel_rfl) ?_; intro A hA Q hQ; simp [*])
     | (refine WK.regH (id := 10) Tryz.ntmps27 (by kernel_rfl) ?_; intro A hA Q hQ; simp [*])
     | (refine WK.regH (id := 11) Tryz.ntmps27 (by kernel_rfl) ?_; intro A hA Q hQ; simp [*])
     | (refine WK.regH (id := 12) Tryz.ntmps27 (by kernel_rfl) ?_; intro A hA Q hQ; simp [*])
     | (refine WK.regH (id := 13) Tryz.ntmps27 (by kernel_rfl) ?_; intro A hA Q hQ; simp [*])
     | fail)
    refine WK.ghost (Ghost.frzSl 7 6 rfl rfl) ?_
    cases hck : mCheck acc with
    | some c =>
      rw [hck] at ck hde
      simp only at hde
      rw [hde]
      clear hde hck b1
      repeat' (first
       | refine WK.seq ?_
       | refine WK.condT rfl ?_
       | (refine Hid.h hQ _ _ ?_; clear hQ hA)
       | (refine WK.regH Tryz.ntmps27 (by kernel_rfl) ?_; intro A hA Q hQ; simp [mF, gFault, oxmL_nil, *])
       | (refine WK.regX (by kernel_rfl) Tryz.ntmps27 (by kernel_rfl) ?_; intro A hA Q hQ; simp [mF, gFault, oxmL_nil, *])
       | (refine Hid.h hQ _ _ _ (by decide +kernel) ?_; clear hQ hA)
       | (refine RunQ.call rfl rfl rfl rfl rfl ?_ (ck) ?_ ?_; (focus (simp (maxDischargeDepth := 120) [mF, gFault, oxmL_nil, *]; done)); (focus (simp [mF, gFault, oxmL_nil, *]; done)); refine RunQ.evalH ?_; simp [mF, gFault, oxmL_nil, *])
       | (refine WK.ret Tryz.func27 ?_ ?_ <;> simp (maxDischargeDepth := 120) [Tryz.results27, mF, gFault, oxmL_nil, *])
       | fail)
    | none =>
    rw [hck] at ck hde
    simp only at hde
    have hlen : ((b.drop n).take (mPad n - n)).length = mPad n - n := by rw [List.length_take, List.length_drop]; omega
    have hnth : ∀ j, n + j < mPad n → nth ((b.drop n).take (mPad n - n)) j = nth b (n + j) := fun j hj => by
      rw [nth_take' (by omega)]
      unfold nth
      rw [List.getD_eq_getElem?_getD, List.getD_eq_getElem?_getD, List.getElem?_drop]
    have hzF : ∀ j, n + j < mPad n → (nth b (n + j) == 0#8) = false → allZ ((b.drop n).take (mPad n - n)) = false := fun j hj h => by
      unfold allZ
      exact all_false (i := j) (by omega) (by rw [hnth j hj]; exact h)
    have hzT : (∀ j, n + j < mPad n → (nth b (n + j) == 0#8) = true) → allZ ((b.drop n).take (mPad n - n)) = true := fun h => by
      unfold allZ
      exact all_true fun j hj => by rw [hnth j (by omega)]; exact h j (by omega)
    obtain ⟨Z, hZ⟩ : ∃ Z, (b.drop n).take (mPad n - n) = Z := ⟨_, rfl⟩
    rw [hZ] at hzF hzT hde
    clear hZ hlen hnth hck hRl
    repeat' (first
     | refine WK.seq ?_
     | refine WK.block ?_
     | refine WK.skip ?_
     | refine WK.condF rfl ?_
     | (refine Hid.h hQ _ _ ?_; clear hQ hA)
     | (refine WK.regH Tryz.ntmps27 (by kernel_rfl) ?_; intro A hA Q hQ; simp [mF, gFault, *])
     | (refine RunQ.call rfl rfl rfl rfl rfl ?_ (ck) ?_ ?_; (focus (simp (maxDischargeDepth := 120) [mF, gFault, *]; done)); (focus (simp [mF, gFault, *]; done)); refine RunQ.evalH ?_; simp [mF, gFault, *])
     | fail)
    refine WK.loopI (fun n => n) (fun k : Nat => (⟨(upd (upd (upd (upd (upd (upd J 0 (.sl false b.length (byL b))) 4 (.ptr 0 0)) 5 (.int .i64 n)) 6 (.int .i64 (mPad n : Nat))) 7 (.sl false acc.length (oxmL acc))) 13 (.int .i64 k)), (upd B0 0 (.var [.junk, .junk, .junk])), 0⟩ : St)) (fun k => n ≤ k ∧ k ≤ mPad n ∧ ∀ j, n + j < k → (nth b (n + j) == 0#8) = true) (fun k => mPad n - k) (n) (by repeat (first | exact TmW.nil | refine TmW.upd ?_ (by simp (maxDischargeDepth := 120) [hT]))) (by repeat (first | exact BxW.nil | refine BxW.upd ?_ (by simp (maxDischargeDepth := 120) [hT]))) (by first | exact InjW.id | exact InjW.nil | exact InjW.one | exact InjW.two (by simp) | exact InjW.three (by simp) (by simp) (by simp)) (⟨Nat.le_refl _, hp.1, fun j hj => by omega⟩) (fun k hk IHk => ?_)
    obtain ⟨hk1, hk2, hk3⟩ := hk
    by_cases g1 : k < mPad n
    · have g1' : (k : Int) < (mPad n : Nat) := by omega
      have y4 := by_get b k (by omega)
      have y5 : k < b.length := by omega
      have y5' : (k : Int) < b.length := by omega
      have g6 : IntKind.i64.wrap ((k : Int) + 1) = k + 1 := wrap_i64 (by omega) (by omega)
      have y7 := bI_zero (nth b k)
      cases h5 : nth b k == 0#8
      · rw [h5] at y7
        have e := hzF (k - n) (by omega) (by rw [show n + (k - n) = k by omega]; exact h5)
        rw [if_pos e] at hde
        rw [hde]
        clear hde hzT hzF ck e
        repeat' (first
         | refine WK.seq ?_
         | refine WK.block ?_
         | refine WK.skip ?_
         | refine WK.condT rfl ?_
         | (refine Hid.h hQ _ _ ?_; clear hQ hA)
         | (refine WK.regH Tryz.ntmps27 (by kernel_rfl) ?_; intro A hA Q hQ; simp [bne, gFault, oxmL_nil, *])
         | (refine RunQ.call rfl rfl rfl rfl rfl ?_ (b1) ?_ ?_; (focus (simp (maxDischargeDepth := 120) [bne, gFault, oxmL_nil, *]; done)); (focus (simp [bne, gFault, oxmL_nil, *]; done)); refine RunQ.evalH ?_; simp [bne, gFault, oxmL_nil, *])
         | (refine WK.ret Tryz.func27 ?_ ?_ <;> simp (maxDischargeDepth := 120) [Tryz.results27, bne, gFault, oxmL_nil, *])
         | fail)
      · rw [h5] at y7
        clear hde hzT hzF ck b1
        repeat' (first
         | refine WK.seq ?_
         | refine WK.block ?_
         | refine WK.inBlock ?_
         | refine WK.skip ?_
         | refine WK.condT rfl ?_
         | refine WK.condF rfl ?_
         | (refine Hid.h hQ _ _ ?_; clear hQ hA)
         | (refine WK.regH Tryz.ntmps27 (by kernel_rfl) ?_; intro A hA Q hQ; simp [bne, *])
         | fail)
        refine WK.next (fun n => n) (IHk (k + 1) (⟨by omega, by omega, fun j hj => by by_cases h7 : n + j = k; (rw [h7]; exact h5); exact hk3 j (by omega)⟩) (by first | omega | (dsimp only; omega))) (by repeat (first | exact TmW.nil | refine TmW.upd ?_ (by simp (maxDischargeDepth := 120) [hT]))) (by repeat (first | exact BxW.nil | refine BxW.upd ?_ (by simp (maxDischargeDepth := 120) [hT]))) (by first | exact InjW.id | exact InjW.nil | exact InjW.one | exact InjW.two (by simp) | exact InjW.three (by simp) (by simp) (by simp))
    · have g1' : ¬ (k : Int) < (mPad n : Nat) := by omega
      have e := hzT fun j hj => hk3 j (by omega)
      rw [if_neg (by rw [e]; simp)] at hde
      rw [hde]
      clear hde hzT hzF ck b1
      repeat' (first
       | refine WK.seq ?_
       | refine WK.exit rfl ?_
       | refine WK.condF rfl ?_
       | (refine Hid.h hQ _ _ ?_; clear hQ hA)
       | (refine WK.regH Tryz.ntmps27 (by kernel_rfl) ?_; intro A hA Q hQ; simp [gFault, *])
       | (refine WK.ret Tryz.func27 ?_ ?_ <;> simp (maxDischargeDepth := 120) [Tryz.results27, gFault, *])
       | fail)
end Go.Proofs.YtiifjagnhnchoaaGreat
end

section
set_option linter.unusedVariables false
set_option linter.unusedSimpArgs false
namespace Go.Proofs.YtiifjagnhnchoaaGreat
open Go Go.AI Go.Proofs
attribute [local irreducible] FnP FnO FnB FnT FnSeq WK RunQ RunQW RunX RunXW

theorem ibad_c (c : Int) : FnP Tryz.prog 57 [.int .i64 c] (.agg (gFault (some (3, c)))) := by
  refine FnP.intro Tryz.func57 rfl rfl fun G w => ?_
  repeat' (first
   | refine WK.seq ?_
   | (refine Hid.h hQ _ _ ?_; clear hQ hA)
   | (refine WK.regH Tryz.ntmps57 (by kernel_rfl) ?_; intro A hA Q hQ; simp [*])
   | (refine WK.ret Tryz.func57 ?_ ?_ <;> simp (maxDischargeDepth := 120) [Tryz.results57, gFault, *])
   | fail)
theorem or_zero64 (x y : BitVec 64) : ((x ||| y) == 0#64) = (x == 0#64 && y == 0#64) := by
  rw [Bool.eq_iff_iff, Bool.and_eq_true, beq_iff_eq, beq_iff_eq, beq_iff_eq]
  exact BitVec.or_eq_zero_iff
theorem imeta_c (i : Inst) : FnP Tryz.prog 94 [.agg i.enc] (.bool (inMeta i.value i.mask)) := by
  have l := less_c i.value i.mask
  have z := zero_c (i.value.less i.mask)
  have e : inMeta i.value i.mask = ((i.value.hi ||| i.mask.hi) == 0#64 && (i.value.less i.mask).zero) := by
    unfold inMeta; rw [or_zero64, Bool.and_assoc]
  obtain ⟨r, hr⟩ : ∃ r, (i.value.less i.mask).zero = r := ⟨_, rfl⟩
  rw [hr] at z e
  obtain ⟨q, hq⟩ : ∃ q, ((i.value.hi ||| i.mask.hi) == 0#64) = q := ⟨_, rfl⟩
  rw [hq] at e
  unfold Wide.enc at l z
  refine FnP.intro Tryz.func94 rfl rfl fun G w => ?_
  repeat' (first
   | refine WK.seq ?_
   | (refine Hid.h hQ _ _ ?_; clear hQ hA)
   | (refine Fork.mk (fun h => ?_) (fun h => ?_) <;> (first | (simp [*] at h; done) | (have h2 := h; simp at h2; exfalso; omega) | (have h2 := h; simp at h2; try simp only [Bool.not_eq_true', Bool.not_eq_false'] at h) | skip))
   | (refine WK.regH Tryz.ntmps94 (by kernel_rfl) ?_; intro A hA Q hQ; simp [Inst.enc, *])
   | (refine RunQ.gd rfl (by rw [hA.h]; rfl) ?_; simp [Inst.enc, *])
   | (refine RunQW.call rfl rfl rfl rfl ?_ (l) ?_ ?_; (focus (simp (maxDischargeDepth := 120) [Inst.enc, *]; done)); (focus (simp [Inst.enc, *]; done)); refine RunQ.evalH ?_; simp [Inst.enc, *])
   | (refine RunQW.call rfl rfl rfl rfl ?_ (z) ?_ ?_; (focus (simp (maxDischargeDepth := 120) [Inst.enc, *]; done)); (focus (simp [Inst.enc, *]; done)); refine RunQ.evalH ?_; simp [Inst.enc, *])
   | (refine WK.ret Tryz.func94 ?_ ?_ <;> simp (maxDischargeDepth := 120) [Tryz.results94, Inst.enc, *])
   | fail)
theorem iempty1_c (x : BitVec 8) : FnP Tryz.prog 147 [.int .u8 (bI x)] (.bool (!(x == 0#8))) := by
  have e := bI_zero x
  refine FnP.intro Tryz.func147 rfl rfl fun G w => ?_
  repeat' (first
   | refine WK.seq ?_
   | (refine Hid.h hQ _ _ ?_; clear hQ hA)
   | (refine WK.regH Tryz.ntmps147 (by kernel_rfl) ?_; intro A hA Q hQ; simp [bne, *])
   | (refine WK.ret Tryz.func147 ?_ ?_ <;> simp (maxDischargeDepth := 120) [Tryz.results147, bne, *])
   | fail)
theorem iempty_c (b : List (BitVec 8)) (hb : b.length ≤ 9223372036854775807) : FnP Tryz.prog 129 [byS b] (.bool (allZ b)) := by
  have hco := containsf_by 147 [] (fun x => !(x == 0#8)) b rfl hb (fun x _ => iempty1_c x)
  have e : allZ b = !(b.any fun x => !(x == 0#8)) := by rw [any_allZ]; simp
  rw [e]
  refine FnP.intro Tryz.func129 rfl rfl fun G w => ?_
  repeat' (first
   | refine WK.seq ?_
   | (refine Hid.h hQ _ _ ?_; clear hQ hA)
   | (refine WK.regH Tryz.ntmps129 (by kernel_rfl) ?_; intro A hA Q hQ; simp [*])
   | (refine RunQ.call rfl rfl rfl rfl rfl ?_ (hco) ?_ ?_; (focus (simp (maxDischargeDepth := 120) [*]; done)); (focus (simp [*]; done)); refine RunQ.evalH ?_; simp [*])
   | (refine WK.ret Tryz.func129 ?_ ?_ <;> simp (maxDischargeDepth := 120) [Tryz.results129, *])
   | fail)
theorem ilaid_c (k : Int) (b : List (BitVec 8)) (hb : b.length ≤ 1000000) (h8 : 8 ≤ b.length) : FnP Tryz.prog 93 [.int .i64 k, byS b] (.bool (inLaid k b)) := by
  have p5 := iempty_c (b.drop 5) (by rw [List.length_drop]; omega)
  have p4 := iempty_c (b.drop 4) (by rw [List.length_drop]; omega)
  have p44 := iempty_c ((b.drop 4).take 4) (by rw [List.length_take, List.length_drop]; omega)
  have s5 : ((byL b).drop 5).take (b.length - 5) = byL (b.drop 5) := by rw [byL_drop]; exact by_full _ _ (by rw [List.length_drop])
  have s4 : ((byL b).drop 4).take (b.length - 4) = byL (b.drop 4) := by rw [byL_drop]; exact by_full _ _ (by rw [List.length_drop])
  have s44 : ((byL b).drop 4).take 4 = byL ((b.drop 4).take 4) := by rw [byL_drop, byL_take]
  have l44 : ((b.drop 4).take 4).length = 4 := by rw [List.length_take, List.length_drop]; omega
  have u5 : (5 : Int) ≤ b.length := by omega
  have u4 : (4 : Int) ≤ b.length := by omega
  have u8 : (8 : Int) ≤ b.length := by omega
  have z8 : ((b.length : Int) == 8) = (b.length == 8) := by rw [Bool.eq_iff_iff, beq_iff_eq, beq_iff_eq]; omega
  have z24 : ((b.length : Int) == 24) = (b.length == 24) := by rw [Bool.eq_iff_iff, beq_iff_eq, beq_iff_eq]; omega
  obtain ⟨q8, hq8⟩ : ∃ q, (b.length == 8) = q := ⟨_, rfl⟩
  obtain ⟨q24, hq24⟩ : ∃ q, (b.length == 24) = q := ⟨_, rfl⟩
  have hdef : inLaid k b = if k = 1 then q8 && allZ (b.drop 5) else if k = 2 then q24 && allZ ((b.drop 4).take 4) else if k = 5 then q8 && allZ (b.drop 4) else allZ ((b.drop 4).take 4) := by
    unfold inLaid; rw [hq8, hq24]
  rw [hq8] at z8
  rw [hq24] at z24
  simp only [byS, List.length_drop, l44] at p5 p4 p44 ⊢
  obtain ⟨a5, ha5⟩ : ∃ q, allZ (b.drop 5) = q := ⟨_, rfl⟩
  obtain ⟨a4, ha4⟩ : ∃ q, allZ (b.drop 4) = q := ⟨_, rfl⟩
  obtain ⟨a44, ha44⟩ : ∃ q, allZ ((b.drop 4).take 4) = q := ⟨_, rfl⟩
  rw [ha5] at p5 hdef
  rw [ha4] at p4 hdef
  rw [ha44] at p44 hdef
  obtain ⟨B5, hB5⟩ : ∃ q, b.drop 5 = q := ⟨_, rfl⟩
  obtain ⟨B44, hB44⟩ : ∃ q, (b.drop 4).take 4 = q := ⟨_, rfl⟩
  rw [hB44] at p44 s44
  obtain ⟨B4, hB4⟩ : ∃ q, b.drop 4 = q := ⟨_, rfl⟩
  rw [hB5] at p5 s5
  rw [hB4] at p4 s4
  rw [hdef]
  clear ha5 ha4 ha44 hdef l44 hq8 hq24 hB5 hB4 hB44
  refine FnP.intro Tryz.func93 rfl rfl fun G w => ?_
  by_cases k1 : k = 1
  · subst k1
    repeat' (first
     | refine WK.seq ?_
     | refine WK.block ?_
     | refine WK.condT rfl ?_
     | (refine Hid.h hQ _ _ ?_; clear hQ hA)
     | (refine Fork.mk (fun h => ?_) (fun h => ?_) <;> (first | (simp [*] at h; done) | (have h2 := h; simp at h2; exfalso; omega) | (have h2 := h; simp at h2; try simp only [Bool.not_eq_true', Bool.not_eq_false'] at h) | skip))
     | (refine WK.regH Tryz.ntmps93 (by kernel_rfl) ?_; intro A hA Q hQ; simp [*])
     | (refine RunQ.gd rfl (by rw [hA.h]; rfl) ?_; simp [*])
     | (refine RunQW.call rfl rfl rfl rfl ?_ (p5) ?_ ?_; (focus (simp (maxDischargeDepth := 120) [*]; done)); (focus (simp [*]; done)); refine RunQ.evalH ?_; simp [*])
     | (refine WK.ret Tryz.func93 ?_ ?_ <;> simp (maxDischargeDepth := 120) [Tryz.results93, *])
     | fail)
  have j1 : (k == 1) = false := by simpa using k1
  by_cases k2 : k = 2
  · subst k2
    repeat' (first
     | refine WK.seq ?_
     | refine WK.block ?_
     | refine WK.condT rfl ?_
     | refine WK.condF rfl ?_
     | (refine Hid.h hQ _ _ ?_; clear hQ hA)
     | (refine Fork.mk (fun h => ?_) (fun h => ?_) <;> (first | (simp [*] at h; done) | (have h2 := h; simp at h2; exfalso; omega) | (have h2 := h; simp at h2; try simp only [Bool.not_eq_true', Bool.not_eq_false'] at h) | skip))
     | (refine WK.regH Tryz.ntmps93 (by kernel_rfl) ?_; intro A hA Q hQ; simp [*])
     | (refine RunQ.gd rfl (by rw [hA.h]; rfl) ?_; simp [*])
     | (refine RunQW.call rfl rfl rfl rfl ?_ (p44) ?_ ?_; (focus (simp (maxDischargeDepth := 120) [*]; done)); (focus (simp [*]; done)); refine RunQ.evalH ?_; simp [*])
     | (refine WK.ret Tryz.func93 ?_ ?_ <;> simp (maxDischargeDepth := 120) [Tryz.results93, *])
     | fail)
  have j2 : (k == 2) = false := by simpa using k2
  by_cases k5 : k = 5
  · subst k5
    repeat' (first
     | refine WK.seq ?_
     | refine WK.block ?_
     | refine WK.condT rfl ?_
     | refine WK.condF rfl ?_
     | (refine Hid.h hQ _ _ ?_; clear hQ hA)
     | (refine Fork.mk (fun h => ?_) (fun h => ?_) <;> (first | (simp [*] at h; done) | (have h2 := h; simp at h2; exfalso; omega) | (have h2 := h; simp at h2; try simp only [Bool.not_eq_true', Bool.not_eq_false'] at h) | skip))
     | (refine WK.regH Tryz.ntmps93 (by kernel_rfl) ?_; intro A hA Q hQ; simp [*])
     | (refine RunQ.gd rfl (by rw [hA.h]; rfl) ?_; simp [*])
     | (refine RunQW.call rfl rfl rfl rfl ?_ (p4) ?_ ?_; (focus (simp (maxDischargeDepth := 120) [*]; done)); (focus (simp [*]; done)); refine RunQ.evalH ?_; simp [*])
     | (refine WK.ret Tryz.func93 ?_ ?_ <;> simp (maxDischargeDepth := 120) [Tryz.results93, *])
     | fail)
  have j5 : (k == 5) = false := by simpa using k5
  repeat' (first
   | refine WK.seq ?_
   | refine WK.block ?_
   | refine WK.inBlock ?_
   | refine WK.skip ?_
   | refine WK.condF rfl ?_
   | (refine Hid.h hQ _ _ ?_; clear hQ hA)
   | (refine WK.regH Tryz.ntmps93 (by kernel_rfl) ?_; intro A hA Q hQ; simp [*])
   | (refine RunQ.call rfl rfl rfl rfl rfl ?_ (p44) ?_ ?_; (focus (simp (maxDischargeDepth := 120) [*]; done)); (focus (simp [*]; done)); refine RunQ.evalH ?_; simp [*])
   | (refine WK.ret Tryz.func93 ?_ ?_ <;> simp (maxDischargeDepth := 120) [Tryz.results93, *])
   | fail)
set_option maxHeartbeats 4000000 in
theorem icut_c (b : List (BitVec 8)) (hb : b.length ≤ 1000000) : FnP Tryz.prog 56 [byS b] (.tup [.int .i64 (inCut b).1, byS (b.take (inCut b).2.1), .agg (gFault (inCut b).2.2)]) := by
  have b7 := ibad_c 7
  have b1 := ibad_c 1
  have b0 := ibad_c 0
  have g0 := nget_c b 0 2 Sz2 (by omega) (by omega)
  have g1 := nget_c b 2 2 Sz2 (by omega) (by omega)
  by_cases c0 : b.length < 8
  · have e : inCut b = (0, 0, some (3, 7)) := by unfold inCut; rw [if_pos c0]
    have c0' : (b.length : Int) < 8 := by omega
    obtain ⟨q0, hq0⟩ : ∃ q, getN b 0 2 = q := ⟨_, rfl⟩
    obtain ⟨q1, hq1⟩ : ∃ q, getN b 2 2 = q := ⟨_, rfl⟩
    rw [hq0] at g0
    rw [hq1] at g1
    rw [e]
    simp only [byS, List.take_zero, List.length_nil, byL_nil] at *
    clear b1 b0 hq0 hq1
    refine FnP.intro Tryz.func56 rfl rfl fun G w => ?_
    repeat' (first
     | refine WK.seq ?_
     | refine WK.block ?_
     | refine WK.condT rfl ?_
     | (refine Hid.h hQ _ _ ?_; clear hQ hA)
     | (refine WK.regH Tryz.ntmps56 (by kernel_rfl) ?_; intro A hA Q hQ; simp [gFault, *])
     | (refine RunQ.gd rfl (by rw [hA.h]; rfl) ?_; simp [gFault, *])
     | (refine RunQ.call rfl rfl rfl rfl rfl ?_ (g0) ?_ ?_; (focus (simp (maxDischargeDepth := 120) [gFault, *]; done)); (focus (simp [gFault, *]; done)); refine RunQ.evalH ?_; simp [gFault, *])
     | (refine RunQ.call rfl rfl rfl rfl rfl ?_ (g1) ?_ ?_; (focus (simp (maxDischargeDepth := 120) [gFault, *]; done)); (focus (simp [gFault, *]; done)); refine RunQ.evalH ?_; simp [gFault, *])
     | (refine RunQ.call rfl rfl rfl rfl rfl ?_ (b7) ?_ ?_; (focus (simp (maxDischargeDepth := 120) [gFault, *]; done)); (focus (simp [gFault, *]; done)); refine RunQ.evalH ?_; simp [gFault, *])
     | (refine WK.ret Tryz.func56 ?_ ?_ <;> simp (maxDischargeDepth := 120) [Tryz.results56, gFault, *])
     | fail)
  have c0' : ¬ (b.length : Int) < 8 := by omega
  have hlt : valN ((b.drop 2).take 2) < 65536 := valN_lt 2 _ (by simp; omega)
  have hlk : valN ((b.drop 0).take 2) < 65536 := valN_lt 2 _ (by simp; omega)
  have hdef : inCut b = if valN ((b.drop 2).take 2) < 8 ∨ ¬ valN ((b.drop 2).take 2) % 8 = 0 ∨ b.length < valN ((b.drop 2).take 2) then (0, 0, some (3, 7))
    else if valN ((b.drop 0).take 2) = 6 then (0, 0, some (3, 1))
    else if valN ((b.drop 0).take 2) < 1 ∨ 5 < valN ((b.drop 0).take 2) then (0, 0, some (3, 0))
    else if inLaid (valN ((b.drop 0).take 2)) (b.take (valN ((b.drop 2).take 2))) = false then (0, 0, some (3, 7))
    else ((valN ((b.drop 0).take 2) : Int), valN ((b.drop 2).take 2), none) := by unfold inCut; rw [if_neg c0]
  rw [getN_val (by omega)] at g0 g1
  obtain ⟨n, hn⟩ : ∃ n, valN ((b.drop 2).take 2) = n := ⟨_, rfl⟩
  obtain ⟨k, hk⟩ : ∃ k, valN ((b.drop 0).take 2) = k := ⟨_, rfl⟩
  rw [hn] at g1 hdef hlt
  rw [hk] at g0 hdef hlk
  clear hn hk
  have m7 := bAnd7 n hlt
  have z7 : (((n % 8 : Nat) : Int) == 0) = (n % 8 == 0) := by rw [Bool.eq_iff_iff, beq_iff_eq, beq_iff_eq]; omega
  by_cases c1 : n < 8
  · have e : inCut b = (0, 0, some (3, 7)) := by rw [hdef, if_pos (.inl (by omega))]
    have d1 : (n : Int) < 8 := by omega
    rw [e]
    simp only [byS, List.take_zero, List.length_nil, byL_nil] at *
    clear hdef b1 b0
    refine FnP.intro Tryz.func56 rfl rfl fun G w => ?_
    repeat' (first
     | refine WK.seq ?_
     | refine WK.block ?_
     | refine WK.condT rfl ?_
     | (refine Hid.h hQ _ _ ?_; clear hQ hA)
     | (refine WK.regH Tryz.ntmps56 (by kernel_rfl) ?_; intro A hA Q hQ; simp [gFault, *])
     | (refine RunQ.gd rfl (by rw [hA.h]; rfl) ?_; simp [gFault, *])
     | (refine RunQ.call rfl rfl rfl rfl rfl ?_ (g0) ?_ ?_; (focus (simp (maxDischargeDepth := 120) [gFault, *]; done)); (focus (simp [gFault, *]; done)); refine RunQ.evalH ?_; simp [gFault, *])
     | (refine RunQ.call rfl rfl rfl rfl rfl ?_ (g1) ?_ ?_; (focus (simp (maxDischargeDepth := 120) [gFault, *]; done)); (focus (simp [gFault, *]; done)); refine RunQ.evalH ?_; simp [gFault, *])
     | (refine RunQ.call rfl rfl rfl rfl rfl ?_ (b7) ?_ ?_; (focus (simp (maxDischargeDepth := 120) [gFault, *]; done)); (focus (simp [gFault, *]; done)); refine RunQ.evalH ?_; simp [gFault, *])
     | (refine WK.ret Tryz.func56 ?_ ?_ <;> simp (maxDischargeDepth := 120) [Tryz.results56, gFault, *])
     | fail)
  have d1 : ¬ (n : Int) < 8 := by omega
  by_cases c2 : n % 8 = 0
  case neg =>
    have e : inCut b = (0, 0, some (3, 7)) := by rw [hdef, if_pos (.inr (.inl (by omega)))]
    have d2 : (n % 8 == 0) = false := by simpa using c2
    rw [d2] at z7
    rw [e]
    simp only [byS, List.take_zero, List.length_nil, byL_nil] at *
    obtain ⟨r, hr⟩ : ∃ r, n % 8 = r := ⟨_, rfl⟩
    rw [hr] at m7 z7
    clear hdef hr c2 d2 b1 b0
    refine FnP.intro Tryz.func56 rfl rfl fun G w => ?_
    repeat' (first
     | refine WK.seq ?_
     | refine WK.block ?_
     | refine WK.condT rfl ?_
     | (refine Hid.h hQ _ _ ?_; clear hQ hA)
     | (refine WK.regH Tryz.ntmps56 (by kernel_rfl) ?_; intro A hA Q hQ; simp [gFault, bne, *])
     | (refine RunQ.gd rfl (by rw [hA.h]; rfl) ?_; simp [gFault, bne, *])
     | (refine RunQ.call rfl rfl rfl rfl rfl ?_ (g0) ?_ ?_; (focus (simp (maxDischargeDepth := 120) [gFault, bne, *]; done)); (focus (simp [gFault, bne, *]; done)); refine RunQ.evalH ?_; simp [gFault, bne, *])
     | (refine RunQ.call rfl rfl rfl rfl rfl ?_ (g1) ?_ ?_; (focus (simp (maxDischargeDepth := 120) [gFault, bne, *]; done)); (focus (simp [gFault, bne, *]; done)); refine RunQ.evalH ?_; simp [gFault, bne, *])
     | (refine RunQ.call rfl rfl rfl rfl rfl ?_ (b7) ?_ ?_; (focus (simp (maxDischargeDepth := 120) [gFault, bne, *]; done)); (focus (simp [gFault, bne, *]; done)); refine RunQ.evalH ?_; simp [gFault, bne, *])
     | (refine WK.ret Tryz.func56 ?_ ?_ <;> simp (maxDischargeDepth := 120) [Tryz.results56, gFault, bne, *])
     | fail)
  have d2 : (n % 8 == 0) = true := by simpa using c2
  rw [d2] at z7
  by_cases c3 : b.length < n
  · have e : inCut b = (0, 0, some (3, 7)) := by rw [hdef, if_pos (.inr (.inr (by omega)))]
    have d3 : (b.length : Int) < n := by omega
    rw [e]
    simp only [byS, List.take_zero, List.length_nil, byL_nil] at *
    obtain ⟨r, hr⟩ : ∃ r, n % 8 = r := ⟨_, rfl⟩
    rw [hr] at m7 z7
    clear hdef hr c2 d2 b1 b0
    refine FnP.intro Tryz.func56 rfl rfl fun G w => ?_
    repeat' (first
     | refine WK.seq ?_
     | refine WK.block ?_
     | refine WK.condT rfl ?_
     | (refine Hid.h hQ _ _ ?_; clear hQ hA)
     | (refine WK.regH Tryz.ntmps56 (by kernel_rfl) ?_; intro A hA Q hQ; simp [gFault, bne, *])
     | (refine RunQ.gd rfl (by rw [hA.h]; rfl) ?_; simp [gFault, bne, *])
     | (refine RunQ.call rfl rfl rfl rfl rfl ?_ (g0) ?_ ?_; (focus (simp (maxDischargeDepth := 120) [gFault, bne, *]; done)); (focus (simp [gFault, bne, *]; done)); refine RunQ.evalH ?_; simp [gFault, bne, *])
     | (refine RunQ.call rfl rfl rfl rfl rfl ?_ (g1) ?_ ?_; (focus (simp (maxDischargeDepth := 120) [gFault, bne, *]; done)); (focus (simp [gFault, bne, *]; done)); refine RunQ.evalH ?_; simp [gFault, bne, *])
     | (refine RunQ.call rfl rfl rfl rfl rfl ?_ (b7) ?_ ?_; (focus (simp (maxDischargeDepth := 120) [gFault, bne, *]; done)); (focus (simp [gFault, bne, *]; done)); refine RunQ.evalH ?_; simp [gFault, bne, *])
     | (refine WK.ret Tryz.func56 ?_ ?_ <;> simp (maxDischargeDepth := 120) [Tryz.results56, gFault, bne, *])
     | fail)
  have d3 : ¬ (b.length : Int) < n := by omega
  rw [if_neg (by rintro (h | h | h); omega; exact h c2; omega)] at hdef
  obtain ⟨r, hr⟩ : ∃ r, n % 8 = r := ⟨_, rfl⟩
  rw [hr] at m7 z7
  clear hr c2 d2
  by_cases k6 : k = 6
  · subst k6
    rw [if_pos rfl] at hdef
    rw [hdef]
    simp only [byS, List.take_zero, List.length_nil, byL_nil] at *
    clear hdef b0 b7
    refine FnP.intro Tryz.func56 rfl rfl fun G w => ?_
    repeat' (first
     | refine WK.seq ?_
     | refine WK.block ?_
     | refine WK.condT rfl ?_
     | refine WK.condF rfl ?_
     | (refine Hid.h hQ _ _ ?_; clear hQ hA)
     | (refine WK.regH Tryz.ntmps56 (by kernel_rfl) ?_; intro A hA Q hQ; simp [gFault, bne, *])
     | (refine RunQ.gd rfl (by rw [hA.h]; rfl) ?_; simp [gFault, bne, *])
     | (refine RunQ.call rfl rfl rfl rfl rfl ?_ (g0) ?_ ?_; (focus (simp (maxDischargeDepth := 120) [gFault, bne, *]; done)); (focus (simp [gFault, bne, *]; done)); refine RunQ.evalH ?_; simp [gFault, bne, *])
     | (refine RunQ.call rfl rfl rfl rfl rfl ?_ (g1) ?_ ?_; (focus (simp (maxDischargeDepth := 120) [gFault, bne, *]; done)); (focus (simp [gFault, bne, *]; done)); refine RunQ.evalH ?_; simp [gFault, bne, *])
     | (refine RunQ.call rfl rfl rfl rfl rfl ?_ (b1) ?_ ?_; (focus (simp (maxDischargeDepth := 120) [gFault, bne, *]; done)); (focus (simp [gFault, bne, *]; done)); refine RunQ.evalH ?_; simp [gFault, bne, *])
     | (refine WK.ret Tryz.func56 ?_ ?_ <;> simp (maxDischargeDepth := 120) [Tryz.results56, gFault, bne, *])
     | fail)
  have j6 : ((k : Int) == 6) = false := by rw [beq_eq_false_iff_ne]; omega
  rw [if_neg k6] at hdef
  by_cases k0 : k < 1
  · rw [if_pos (.inl k0)] at hdef
    have j0 : (k : Int) < 1 := by omega
    rw [hdef]
    simp only [byS, List.take_zero, List.length_nil, byL_nil] at *
    clear hdef b1 b7 k6
    refine FnP.intro Tryz.func56 rfl rfl fun G w => ?_
    repeat' (first
     | refine WK.seq ?_
     | refine WK.block ?_
     | refine WK.condT rfl ?_
     | refine WK.condF rfl ?_
     | (refine Hid.h hQ _ _ ?_; clear hQ hA)
     | (refine WK.regH Tryz.ntmps56 (by kernel_rfl) ?_; intro A hA Q hQ; simp [gFault, bne, *])
     | (refine RunQ.gd rfl (by rw [hA.h]; rfl) ?_; simp [gFault, bne, *])
     | (refine RunQ.call rfl rfl rfl rfl rfl ?_ (g0) ?_ ?_; (focus (simp (maxDischargeDepth := 120) [gFault, bne, *]; done)); (focus (simp [gFault, bne, *]; done)); refine RunQ.evalH ?_; simp [gFault, bne, *])
     | (refine RunQ.call rfl rfl rfl rfl rfl ?_ (g1) ?_ ?_; (focus (simp (maxDischargeDepth := 120) [gFault, bne, *]; done)); (focus (simp [gFault, bne, *]; done)); refine RunQ.evalH ?_; simp [gFault, bne, *])
     | (refine RunQ.call rfl rfl rfl rfl rfl ?_ (b0) ?_ ?_; (focus (simp (maxDischargeDepth := 120) [gFault, bne, *]; done)); (focus (simp [gFault, bne, *]; done)); refine RunQ.evalH ?_; simp [gFault, bne, *])
     | (refine WK.ret Tryz.func56 ?_ ?_ <;> simp (maxDischargeDepth := 120) [Tryz.results56, gFault, bne, *])
     | fail)
  have j0 : ¬ (k : Int) < 1 := by omega
  by_cases k5 : 5 < k
  · rw [if_pos (.inr k5)] at hdef
    have j5 : (5 : Int) < k := by omega
    rw [hdef]
    simp only [byS, List.take_zero, List.length_nil, byL_nil] at *
    clear hdef b1 b7 k6
    refine FnP.intro Tryz.func56 rfl rfl fun G w => ?_
    repeat' (first
     | refine WK.seq ?_
     | refine WK.block ?_
     | refine WK.condT rfl ?_
     | refine WK.condF rfl ?_
     | (refine Hid.h hQ _ _ ?_; clear hQ hA)
     | (refine WK.regH Tryz.ntmps56 (by kernel_rfl) ?_; intro A hA Q hQ; simp [gFault, bne, *])
     | (refine RunQ.gd rfl (by rw [hA.h]; rfl) ?_; simp [gFault, bne, *])
     | (refine RunQ.call rfl rfl rfl rfl rfl ?_ (g0) ?_ ?_; (focus (simp (maxDischargeDepth := 120) [gFault, bne, *]; done)); (focus (simp [gFault, bne, *]; done)); refine RunQ.evalH ?_; simp [gFault, bne, *])
     | (refine RunQ.call rfl rfl rfl rfl rfl ?_ (g1) ?_ ?_; (focus (simp (maxDischargeDepth := 120) [gFault, bne, *]; done)); (focus (simp [gFault, bne, *]; done)); refine RunQ.evalH ?_; simp [gFault, bne, *])
     | (refine RunQ.call rfl rfl rfl rfl rfl ?_ (b0) ?_ ?_; (focus (simp (maxDischargeDepth := 120) [gFault, bne, *]; done)); (focus (simp [gFault, bne, *]; done)); refine RunQ.evalH ?_; simp [gFault, bne, *])
     | (refine WK.ret Tryz.func56 ?_ ?_ <;> simp (maxDischargeDepth := 120) [Tryz.results56, gFault, bne, *])
     | fail)
  have j5 : ¬ (5 : Int) < k := by omega
  rw [if_neg (by omega)] at hdef
  have hl := ilaid_c k (b.take n) (by rw [List.length_take]; omega) (by rw [List.length_take]; omega)
  have hs : (byL b).take n = byL (b.take n) := byL_take _ _
  have hsl : (b.take n).length = n := by rw [List.length_take]; omega
  obtain ⟨q, hq⟩ : ∃ q, inLaid k (b.take n) = q := ⟨_, rfl⟩
  rw [hq] at hl hdef
  have d4 : (n : Int) ≤ b.length := by omega
  cases q
  · rw [if_pos rfl] at hdef
    rw [hdef]
    simp only [byS, List.take_zero, List.length_nil, byL_nil, hsl] at *
    clear hdef b1 b0 k6 hq k0 k5
    refine FnP.intro Tryz.func56 rfl rfl fun G w => ?_
    repeat' (first
     | refine WK.seq ?_
     | refine WK.block ?_
     | refine WK.condT rfl ?_
     | refine WK.condF rfl ?_
     | (refine Hid.h hQ _ _ ?_; clear hQ hA)
     | (refine WK.regH Tryz.ntmps56 (by kernel_rfl) ?_; intro A hA Q hQ; simp [gFault, bne, *])
     | (refine RunQ.gd rfl (by rw [hA.h]; rfl) ?_; simp [gFault, bne, *])
     | (refine RunQ.call rfl rfl rfl rfl rfl ?_ (g0) ?_ ?_; (focus (simp (maxDischargeDepth := 120) [gFault, bne, *]; done)); (focus (simp [gFault, bne, *]; done)); refine RunQ.evalH ?_; simp [gFault, bne, *])
     | (refine RunQ.call rfl rfl rfl rfl rfl ?_ (g1) ?_ ?_; (focus (simp (maxDischargeDepth := 120) [gFault, bne, *]; done)); (focus (simp [gFault, bne, *]; done)); refine RunQ.evalH ?_; simp [gFault, bne, *])
     | (refine RunQ.call rfl rfl rfl rfl rfl ?_ (hl) ?_ ?_; (focus (simp (maxDischargeDepth := 120) [gFault, bne, *]; done)); (focus (simp [gFault, bne, *]; done)); refine RunQ.evalH ?_; simp [gFault, bne, *])
     | (refine RunQ.call rfl rfl rfl rfl rfl ?_ (b7) ?_ ?_; (focus (simp (maxDischargeDepth := 120) [gFault, bne, *]; done)); (focus (simp [gFault, bne, *]; done)); refine RunQ.evalH ?_; simp [gFault, bne, *])
     | (refine WK.ret Tryz.func56 ?_ ?_ <;> simp (maxDischargeDepth := 120) [Tryz.results56, gFault, bne, *])
     | fail)
  · rw [if_neg (by simp)] at hdef
    rw [hdef]
    simp only [byS, hsl] at *
    clear hdef b1 b0 k6 hq k0 k5 b7
    refine FnP.intro Tryz.func56 rfl rfl fun G w => ?_
    repeat' (first
     | refine WK.seq ?_
     | refine WK.block ?_
     | refine WK.inBlock ?_
     | refine WK.skip ?_
     | refine WK.condF rfl ?_
     | (refine Hid.h hQ _ _ ?_; clear hQ hA)
     | (refine WK.regH Tryz.ntmps56 (by kernel_rfl) ?_; intro A hA Q hQ; simp [gFault, bne, *])
     | (refine WK.regX (by kernel_rfl) Tryz.ntmps56 (by kernel_rfl) ?_; intro A hA Q hQ; simp [gFault, bne, *])
     | (refine Hid.h hQ _ _ _ (by decide +kernel) ?_; clear hQ hA)
     | (refine RunQ.gd rfl (by rw [hA.h]; rfl) ?_; simp [gFault, bne, *])
     | (refine RunQ.call rfl rfl rfl rfl rfl ?_ (g0) ?_ ?_; (focus (simp (maxDischargeDepth := 120) [gFault, bne, *]; done)); (focus (simp [gFault, bne, *]; done)); refine RunQ.evalH ?_; simp [gFault, bne, *])
     | (refine RunQ.call rfl rfl rfl rfl rfl ?_ (g1) ?_ ?_; (focus (simp (maxDischargeDepth := 120) [gFault, bne, *]; done)); (focus (simp [gFault, bne, *]; done)); refine RunQ.evalH ?_; simp [gFault, bne, *])
     | (refine RunQ.call rfl rfl rfl rfl rfl ?_ (hl) ?_ ?_; (focus (simp (maxDischargeDepth := 120) [gFault, bne, *]; done)); (focus (simp [gFault, bne, *]; done)); refine RunQ.evalH ?_; simp [gFault, bne, *])
     | (refine WK.ret Tryz.func56 ?_ ?_ <;> simp (maxDischargeDepth := 120) [Tryz.results56, gFault, bne, *])
     | fail)
end Go.Proofs.YtiifjagnhnchoaaGreat
end

section
set_option linter.unusedVariables false
set_option linter.unusedSimpArgs false
namespace Go.Proofs.YtiifjagnhnchoaaGreat
open Go Go.AI Go.Proofs
attribute [local irreducible] FnP FnO FnB FnT FnSeq WK RunQ RunQW RunX RunXW

theorem u8_i64 (x : BitVec 8) : IntKind.i64.wrap (bI x) = bI x := by
  have := x.isLt
  unfold bI
  exact wrap_i64 (by omega) (by omega)
set_option maxHeartbeats 4000000 in
theorem ione_c (k : Int) (b : List (BitVec 8)) (hb : b.length ≤ 1000000) (h8 : 8 ≤ b.length) (h2 : k = 2 → 24 ≤ b.length) : FnP Tryz.prog 58 [.int .i64 k, byS b] (.tup [.agg (inOf k b).1.enc, .agg (gFault (inOf k b).2)]) := by
  have b2 := ibad_c 2
  have b4 := ibad_c 4
  by_cases k1 : k = 1
  · subst k1
    have x4 := by_get b 4 (by omega)
    have w4 := u8_i64 (nth b 4)
    have u4 : (4 : Int) < b.length := by omega
    have v4 : 4 < b.length := by omega
    have e : inOf 1 b = (⟨1, (nth b 4).toNat, wideZ, wideZ, []⟩, if (nth b 4).toNat = 255 then some (3, 2) else none) := by unfold inOf; rw [if_pos rfl]
    have eb : bI (nth b 4) = ((nth b 4).toNat : Int) := rfl
    rw [e]
    by_cases h255 : (nth b 4).toNat = 255
    · have j : (bI (nth b 4) == 255) = true := by rw [eb, h255]; rfl
      rw [if_pos h255, ← eb]
      obtain ⟨z, hz⟩ : ∃ z, bI (nth b 4) = z := ⟨_, rfl⟩
      rw [hz] at x4 w4 j ⊢
      unfold byS
      clear hz eb e h255 b4
      refine FnP.intro Tryz.func58 rfl rfl fun G w => ?_
      repeat' (first
       | refine WK.seq ?_
       | refine WK.block ?_
       | refine WK.inBlock ?_
       | refine WK.condT rfl ?_
       | (refine Hid.h hQ _ _ ?_; clear hQ hA)
       | (refine WK.regH Tryz.ntmps58 (by kernel_rfl) ?_; intro A hA Q hQ; simp [gFault, Inst.enc, wideZ, uI_zero, *])
       | (refine WK.regX (by kernel_rfl) Tryz.ntmps58 (by kernel_rfl) ?_; intro A hA Q hQ; simp [gFault, Inst.enc, wideZ, uI_zero, *])
       | (refine Hid.h hQ _ _ _ (by decide +kernel) ?_; clear hQ hA)
       | (refine RunQ.call rfl rfl rfl rfl rfl ?_ (b2) ?_ ?_; (focus (simp (maxDischargeDepth := 120) [gFault, Inst.enc, wideZ, uI_zero, *]; done)); (focus (simp [gFault, Inst.enc, wideZ, uI_zero, *]; done)); refine RunQ.evalH ?_; simp [gFault, Inst.enc, wideZ, uI_zero, *])
       | (refine WK.ret Tryz.func58 ?_ ?_ <;> simp (maxDischargeDepth := 120) [Tryz.results58, gFault, Inst.enc, wideZ, uI_zero, *])
       | fail)
    · have j : (bI (nth b 4) == 255) = false := by rw [eb, beq_eq_false_iff_ne]; omega
      rw [if_neg h255, ← eb]
      obtain ⟨z, hz⟩ : ∃ z, bI (nth b 4) = z := ⟨_, rfl⟩
      rw [hz] at x4 w4 j ⊢
      unfold byS
      clear hz eb e h255 b4
      refine FnP.intro Tryz.func58 rfl rfl fun G w => ?_
      repeat' (first
       | refine WK.seq ?_
       | refine WK.block ?_
       | refine WK.inBlock ?_
       | refine WK.skip ?_
       | refine WK.condT rfl ?_
       | refine WK.condF rfl ?_
       | (refine Hid.h hQ _ _ ?_; clear hQ hA)
       | (refine WK.regH Tryz.ntmps58 (by kernel_rfl) ?_; intro A hA Q hQ; simp [gFault, Inst.enc, wideZ, uI_zero, *])
       | (refine WK.regX (by kernel_rfl) Tryz.ntmps58 (by kernel_rfl) ?_; intro A hA Q hQ; simp [gFault, Inst.enc, wideZ, uI_zero, *])
       | (refine Hid.h hQ _ _ _ (by decide +kernel) ?_; clear hQ hA)
       | (refine WK.ret Tryz.func58 ?_ ?_ <;> simp (maxDischargeDepth := 120) [Tryz.results58, gFault, Inst.enc, wideZ, uI_zero, *])
       | fail)
  have j1 : (k == 1) = false := by simpa using k1
  by_cases k2 : k = 2
  · subst k2
    have hb24 := h2 rfl
    have e : inOf 2 b = (⟨2, 0, (wGet (b.drop 8) 8).1, (wGet (b.drop 16) 8).1, []⟩, if inMeta (wGet (b.drop 8) 8).1 (wGet (b.drop 16) 8).1 = true then none else some (3, 4)) := by unfold inOf; rw [if_neg (by decide), if_pos rfl]
    have g1 := wget_c (b.drop 8) 8 (by omega) (by rw [List.length_drop]; omega)
    have g2 := wget_c (b.drop 16) 8 (by omega) (by rw [List.length_drop]; omega)
    have s8 : ((byL b).drop 8).take (b.length - 8) = byL (b.drop 8) := by rw [byL_drop]; exact by_full _ _ (by rw [List.length_drop])
    have s16 : ((byL b).drop 16).take (b.length - 16) = byL (b.drop 16) := by rw [byL_drop]; exact by_full _ _ (by rw [List.length_drop])
    have u8 : (8 : Int) ≤ b.length := by omega
    have u16 : (16 : Int) ≤ b.length := by omega
    obtain ⟨v, hv⟩ : ∃ v, wGet (b.drop 8) 8 = v := ⟨_, rfl⟩
    obtain ⟨m, hm⟩ : ∃ v, wGet (b.drop 16) 8 = v := ⟨_, rfl⟩
    obtain ⟨B8, h8'⟩ : ∃ v, b.drop 8 = v := ⟨_, rfl⟩
    obtain ⟨B16, h16'⟩ : ∃ v, b.drop 16 = v := ⟨_, rfl⟩
    rw [hv] at g1 e
    rw [hm] at g2 e
    rw [h8'] at g1 s8
    rw [h16'] at g2 s16
    have l8 : B8.length = b.length - 8 := by rw [← h8', List.length_drop]
    have l16 : B16.length = b.length - 16 := by rw [← h16', List.length_drop]
    have hme := imeta_c ⟨2, 0, v.1, m.1, []⟩
    rw [e]
    obtain ⟨v, vb⟩ := v
    obtain ⟨m, mb⟩ := m
    simp only at hme g1 g2 ⊢
    obtain ⟨z, hz⟩ : ∃ z, inMeta v m = z := ⟨_, rfl⟩
    rw [hz] at hme ⊢
    unfold Wide.enc at g1 g2
    unfold byS at *
    rw [l8] at g1
    rw [l16] at g2
    simp only [Inst.enc, List.length_nil, actL_nil] at hme
    clear hz hv hm h8' h16' l8 l16 e
    refine FnP.intro Tryz.func58 rfl rfl fun G w => ?_
    cases z
    · repeat' (first
       | refine WK.seq ?_
       | refine WK.block ?_
       | refine WK.inBlock ?_
       | refine WK.condT rfl ?_
       | refine WK.condF rfl ?_
       | (refine Hid.h hQ _ _ ?_; clear hQ hA)
       | (refine WK.regH Tryz.ntmps58 (by kernel_rfl) ?_; intro A hA Q hQ; simp [gFault, Inst.enc, *])
       | (refine WK.regX (by kernel_rfl) Tryz.ntmps58 (by kernel_rfl) ?_; intro A hA Q hQ; simp [gFault, Inst.enc, *])
       | (refine Hid.h hQ _ _ _ (by decide +kernel) ?_; clear hQ hA)
       | (refine RunQ.call rfl rfl rfl rfl rfl ?_ (g1) ?_ ?_; (focus (simp (maxDischargeDepth := 120) [gFault, Inst.enc, *]; done)); (focus (simp [gFault, Inst.enc, *]; done)); refine RunQ.evalH ?_; simp [gFault, Inst.enc, *])
       | (refine RunQ.call rfl rfl rfl rfl rfl ?_ (g2) ?_ ?_; (focus (simp (maxDischargeDepth := 120) [gFault, Inst.enc, *]; done)); (focus (simp [gFault, Inst.enc, *]; done)); refine RunQ.evalH ?_; simp [gFault, Inst.enc, *])
       | (refine RunQ.call rfl rfl rfl rfl rfl ?_ (hme) ?_ ?_; (focus (simp (maxDischargeDepth := 120) [gFault, Inst.enc, *]; done)); (focus (simp [gFault, Inst.enc, *]; done)); refine RunQ.evalH ?_; simp [gFault, Inst.enc, *])
       | (refine RunQ.call rfl rfl rfl rfl rfl ?_ (b4) ?_ ?_; (focus (simp (maxDischargeDepth := 120) [gFault, Inst.enc, *]; done)); (focus (simp [gFault, Inst.enc, *]; done)); refine RunQ.evalH ?_; simp [gFault, Inst.enc, *])
       | (refine WK.ret Tryz.func58 ?_ ?_ <;> simp (maxDischargeDepth := 120) [Tryz.results58, gFault, Inst.enc, *])
       | fail)
    · repeat' (first
       | refine WK.seq ?_
       | refine WK.block ?_
       | refine WK.inBlock ?_
       | refine WK.skip ?_
       | refine WK.condT rfl ?_
       | refine WK.condF rfl ?_
       | (refine Hid.h hQ _ _ ?_; clear hQ hA)
       | (refine WK.regH Tryz.ntmps58 (by kernel_rfl) ?_; intro A hA Q hQ; simp [gFault, Inst.enc, *])
       | (refine WK.regX (by kernel_rfl) Tryz.ntmps58 (by kernel_rfl) ?_; intro A hA Q hQ; simp [gFault, Inst.enc, *])
       | (refine Hid.h hQ _ _ _ (by decide +kernel) ?_; clear hQ hA)
       | (refine RunQ.call rfl rfl rfl rfl rfl ?_ (g1) ?_ ?_; (focus (simp (maxDischargeDepth := 120) [gFault, Inst.enc, *]; done)); (focus (simp [gFault, Inst.enc, *]; done)); refine RunQ.evalH ?_; simp [gFault, Inst.enc, *])
       | (refine RunQ.call rfl rfl rfl rfl rfl ?_ (g2) ?_ ?_; (focus (simp (maxDischargeDepth := 120) [gFault, Inst.enc, *]; done)); (focus (simp [gFault, Inst.enc, *]; done)); refine RunQ.evalH ?_; simp [gFault, Inst.enc, *])
       | (refine RunQ.call rfl rfl rfl rfl rfl ?_ (hme) ?_ ?_; (focus (simp (maxDischargeDepth := 120) [gFault, Inst.enc, *]; done)); (focus (simp [gFault, Inst.enc, *]; done)); refine RunQ.evalH ?_; simp [gFault, Inst.enc, *])
       | (refine WK.ret Tryz.func58 ?_ ?_ <;> simp (maxDischargeDepth := 120) [Tryz.results58, gFault, Inst.enc, *])
       | fail)
  have j2 : (k == 2) = false := by simpa using k2
  have ha := acdecP_c (b.drop 8) (by rw [List.length_drop]; omega)
  have s8 : ((byL b).drop 8).take (b.length - 8) = byL (b.drop 8) := by rw [byL_drop]; exact by_full _ _ (by rw [List.length_drop])
  have u8 : (8 : Int) ≤ b.length := by omega
  have l8 : (b.drop 8).length = b.length - 8 := by rw [List.length_drop]
  have e34 : k = 3 ∨ k = 4 → inOf k b = (⟨k, 0, wideZ, wideZ, (acDec (b.drop 8)).1⟩, (acDec (b.drop 8)).2.map fun c => (2, c)) := fun h => by unfold inOf; rw [if_neg k1, if_neg k2, if_pos h]
  have e5 : ¬ (k = 3 ∨ k = 4) → inOf k b = (⟨k, 0, wideZ, wideZ, []⟩, none) := fun h => by unfold inOf; rw [if_neg k1, if_neg k2, if_neg h]
  obtain ⟨B8, h8'⟩ : ∃ v, b.drop 8 = v := ⟨_, rfl⟩
  obtain ⟨R, hR⟩ : ∃ R, acDec (b.drop 8) = R := ⟨_, rfl⟩
  rw [hR] at ha e34
  rw [h8'] at ha s8 l8
  obtain ⟨l, f⟩ := R
  rw [aFault_g] at ha
  simp only [byS, actS, l8] at ha ⊢
  clear hR h8' l8 b2 b4
  by_cases k3 : k = 3
  · subst k3
    rw [e34 (.inl rfl)]
    clear e34 e5
    refine FnP.intro Tryz.func58 rfl rfl fun G w => ?_
    cases f <;>
    · repeat' (first
       | refine WK.seq ?_
       | refine WK.block ?_
       | refine WK.inBlock ?_
       | refine WK.skip ?_
       | refine WK.condT rfl ?_
       | refine WK.condF rfl ?_
       | (refine Hid.h hQ _ _ ?_; clear hQ hA)
       | (refine WK.regH Tryz.ntmps58 (by kernel_rfl) ?_; intro A hA Q hQ; simp [gFault, Inst.enc, wideZ, uI_zero, *])
       | (refine WK.regX (by kernel_rfl) Tryz.ntmps58 (by kernel_rfl) ?_; intro A hA Q hQ; simp [gFault, Inst.enc, wideZ, uI_zero, *])
       | (refine Hid.h hQ _ _ _ (by decide +kernel) ?_; clear hQ hA)
       | (refine RunQ.call rfl rfl rfl rfl rfl ?_ (ha) ?_ ?_; (focus (simp (maxDischargeDepth := 120) [gFault, Inst.enc, wideZ, uI_zero, *]; done)); (focus (simp [gFault, Inst.enc, wideZ, uI_zero, *]; done)); refine RunQ.evalH ?_; simp [gFault, Inst.enc, wideZ, uI_zero, *])
       | (refine WK.ret Tryz.func58 ?_ ?_ <;> simp (maxDischargeDepth := 120) [Tryz.results58, gFault, Inst.enc, wideZ, uI_zero, *])
       | fail)
  have j3 : (k == 3) = false := by simpa using k3
  by_cases k4 : k = 4
  · subst k4
    rw [e34 (.inr rfl)]
    clear e34 e5
    refine FnP.intro Tryz.func58 rfl rfl fun G w => ?_
    cases f <;>
    · repeat' (first
       | refine WK.seq ?_
       | refine WK.block ?_
       | refine WK.inBlock ?_
       | refine WK.condT rfl ?_
       | refine WK.condF rfl ?_
       | (refine Hid.h hQ _ _ ?_; clear hQ hA)
       | (refine WK.regH Tryz.ntmps58 (by kernel_rfl) ?_; intro A hA Q hQ; simp [gFault, Inst.enc, wideZ, uI_zero, *])
       | (refine WK.regX (by kernel_rfl) Tryz.ntmps58 (by kernel_rfl) ?_; intro A hA Q hQ; simp [gFault, Inst.enc, wideZ, uI_zero, *])
       | (refine Hid.h hQ _ _ _ (by decide +kernel) ?_; clear hQ hA)
       | (refine RunQ.call rfl rfl rfl rfl rfl ?_ (ha) ?_ ?_; (focus (simp (maxDischargeDepth := 120) [gFault, Inst.enc, wideZ, uI_zero, *]; done)); (focus (simp [gFault, Inst.enc, wideZ, uI_zero, *]; done)); refine RunQ.evalH ?_; simp [gFault, Inst.enc, wideZ, uI_zero, *])
       | (refine WK.ret Tryz.func58 ?_ ?_ <;> simp (maxDischargeDepth := 120) [Tryz.results58, gFault, Inst.enc, wideZ, uI_zero, *])
       | fail)
  have j4 : (k == 4) = false := by simpa using k4
  rw [e5 (by omega)]
  clear e34 e5 ha s8
  refine FnP.intro Tryz.func58 rfl rfl fun G w => ?_
  repeat' (first
   | refine WK.seq ?_
   | refine WK.block ?_
   | refine WK.inBlock ?_
   | refine WK.skip ?_
   | refine WK.condF rfl ?_
   | (refine Hid.h hQ _ _ ?_; clear hQ hA)
   | (refine WK.regH Tryz.ntmps58 (by kernel_rfl) ?_; intro A hA Q hQ; simp [gFault, Inst.enc, wideZ, uI_zero, *])
   | (refine WK.regX (by kernel_rfl) Tryz.ntmps58 (by kernel_rfl) ?_; intro A hA Q hQ; simp [gFault, Inst.enc, wideZ, uI_zero, *])
   | (refine Hid.h hQ _ _ _ (by decide +kernel) ?_; clear hQ hA)
   | (refine WK.ret Tryz.func58 ?_ ?_ <;> simp (maxDischargeDepth := 120) [Tryz.results58, gFault, Inst.enc, wideZ, uI_zero, *])
   | fail)
set_option maxHeartbeats 4000000 in
theorem iright_c (i : Inst) (hi : i.acts.length ≤ 1000000) : FnP Tryz.prog 73 [.agg i.enc] (.bool (inRight i)) := by
  have p := acencP_c i.acts hi
  have s := isame_c i (inBare i) hi
  have m := imeta_c i
  have e : inRight i = (inOk i && Inst.same i (inBare i)) := rfl
  obtain ⟨z, hz⟩ : ∃ z, Inst.same i (inBare i) = z := ⟨_, rfl⟩
  rw [hz] at s e
  clear hz
  unfold inBare at s
  unfold inOk at e
  obtain ⟨R, hR⟩ : ∃ R, acEnc i.acts = R := ⟨_, rfl⟩
  rw [hR] at p e
  simp only [byS, actS] at p
  clear hR
  obtain ⟨kk, t, v, mm, l⟩ := i
  simp only at hi p s m e
  by_cases k1 : kk = 1
  · subst k1
    rw [if_pos rfl] at s e
    simp only [Inst.enc, wideZ, uI_zero, List.length_nil, actL_nil] at s
    refine FnP.intro Tryz.func73 rfl rfl fun G w => ?_
    repeat' (first
     | refine WK.seq ?_
     | refine WK.block ?_
     | refine WK.inBlock ?_
     | refine WK.condT rfl ?_
     | (refine Hid.h hQ _ _ ?_; clear hQ hA)
     | (refine Fork.mk (fun h => ?_) (fun h => ?_) <;> (first | (simp [*] at h; done) | (have h2 := h; simp at h2; exfalso; omega) | (have h2 := h; simp at h2; try simp only [Bool.not_eq_true', Bool.not_eq_false'] at h) | skip))
     | (refine WK.regH Tryz.ntmps73 (by kernel_rfl) ?_; intro A hA Q hQ; simp [Inst.enc, wideZ, uI_zero, *])
     | (refine WK.regX (by kernel_rfl) Tryz.ntmps73 (by kernel_rfl) ?_; intro A hA Q hQ; simp [Inst.enc, wideZ, uI_zero, *])
     | (refine Hid.h hQ _ _ _ (by decide +kernel) ?_; clear hQ hA)
     | (refine RunQ.gd rfl (by rw [hA.h]; rfl) ?_; simp [Inst.enc, wideZ, uI_zero, *])
     | (refine RunX.gd rfl (by rw [hA.h]; rfl) ?_; simp [Inst.enc, wideZ, uI_zero, *])
     | (refine RunQ.call rfl rfl rfl rfl rfl ?_ (p) ?_ ?_; (focus (simp (maxDischargeDepth := 120) [Inst.enc, wideZ, uI_zero, *]; done)); (focus (simp [Inst.enc, wideZ, uI_zero, *]; done)); refine RunQ.evalH ?_; simp [Inst.enc, wideZ, uI_zero, *])
     | (refine RunQW.call rfl rfl rfl rfl ?_ (s) ?_ ?_; (focus (simp (maxDischargeDepth := 120) [Inst.enc, wideZ, uI_zero, *]; done)); (focus (simp [Inst.enc, wideZ, uI_zero, *]; done)); refine RunQ.evalH ?_; simp [Inst.enc, wideZ, uI_zero, *])
     | (refine WK.ret Tryz.func73 ?_ ?_ <;> simp (maxDischargeDepth := 120) [Tryz.results73, Inst.enc, wideZ, uI_zero, *])
     | fail)
  have j1 : (kk == 1) = false := by simpa using k1
  by_cases k2 : kk = 2
  · subst k2
    rw [if_neg (by decide), if_pos rfl] at s e
    simp only [Inst.enc, wideZ, uI_zero, List.length_nil, actL_nil] at s m
    refine FnP.intro Tryz.func73 rfl rfl fun G w => ?_
    repeat' (first
     | refine WK.seq ?_
     | refine WK.block ?_
     | refine WK.inBlock ?_
     | refine WK.condT rfl ?_
     | refine WK.condF rfl ?_
     | (refine Hid.h hQ _ _ ?_; clear hQ hA)
     | (refine Fork.mk (fun h => ?_) (fun h => ?_) <;> (first | (simp [*] at h; done) | (have h2 := h; simp at h2; exfalso; omega) | (have h2 := h; simp at h2; try simp only [Bool.not_eq_true', Bool.not_eq_false'] at h) | skip))
     | (refine WK.regH Tryz.ntmps73 (by kernel_rfl) ?_; intro A hA Q hQ; simp [Inst.enc, wideZ, uI_zero, *])
     | (refine WK.regX (by kernel_rfl) Tryz.ntmps73 (by kernel_rfl) ?_; intro A hA Q hQ; simp [Inst.enc, wideZ, uI_zero, *])
     | (refine Hid.h hQ _ _ _ (by decide +kernel) ?_; clear hQ hA)
     | (refine RunQ.gd rfl (by rw [hA.h]; rfl) ?_; simp [Inst.enc, wideZ, uI_zero, *])
     | (refine RunQ.call rfl rfl rfl rfl rfl ?_ (p) ?_ ?_; (focus (simp (maxDischargeDepth := 120) [Inst.enc, wideZ, uI_zero, *]; done)); (focus (simp [Inst.enc, wideZ, uI_zero, *]; done)); refine RunQ.evalH ?_; simp [Inst.enc, wideZ, uI_zero, *])
     | (refine RunQW.call rfl rfl rfl rfl ?_ (s) ?_ ?_; (focus (simp (maxDischargeDepth := 120) [Inst.enc, wideZ, uI_zero, *]; done)); (focus (simp [Inst.enc, wideZ, uI_zero, *]; done)); refine RunQ.evalH ?_; simp [Inst.enc, wideZ, uI_zero, *])
     | (refine RunX.call rfl rfl rfl rfl ?_ (m) ?_ ?_; (focus (simp (maxDischargeDepth := 120) [Inst.enc, wideZ, uI_zero, *]; done)); (focus (simp [Inst.enc, wideZ, uI_zero, *]; done)); refine RunX.evalY ?_; simp [Inst.enc, wideZ, uI_zero, *])
     | (refine WK.ret Tryz.func73 ?_ ?_ <;> simp (maxDischargeDepth := 120) [Tryz.results73, Inst.enc, wideZ, uI_zero, *])
     | fail)
  have j2 : (kk == 2) = false := by simpa using k2
  by_cases k3 : kk = 3
  · subst k3
    rw [if_neg (by decide), if_neg (by decide), if_pos (.inl rfl)] at s e
    simp only [Inst.enc, wideZ, uI_zero] at s
    refine FnP.intro Tryz.func73 rfl rfl fun G w => ?_
    repeat' (first
     | refine WK.seq ?_
     | refine WK.block ?_
     | refine WK.inBlock ?_
     | refine WK.skip ?_
     | refine WK.condT rfl ?_
     | refine WK.condF rfl ?_
     | (refine Hid.h hQ _ _ ?_; clear hQ hA)
     | (refine Fork.mk (fun h => ?_) (fun h => ?_) <;> (first | (simp [*] at h; done) | (have h2 := h; simp at h2; exfalso; omega) | (have h2 := h; simp at h2; try simp only [Bool.not_eq_true', Bool.not_eq_false'] at h) | skip))
     | (refine WK.regH Tryz.ntmps73 (by kernel_rfl) ?_; intro A hA Q hQ; simp [Inst.enc, wideZ, uI_zero, *])
     | (refine RunQ.gd rfl (by rw [hA.h]; rfl) ?_; simp [Inst.enc, wideZ, uI_zero, *])
     | (refine RunQ.call rfl rfl rfl rfl rfl ?_ (p) ?_ ?_; (focus (simp (maxDischargeDepth := 120) [Inst.enc, wideZ, uI_zero, *]; done)); (focus (simp [Inst.enc, wideZ, uI_zero, *]; done)); refine RunQ.evalH ?_; simp [Inst.enc, wideZ, uI_zero, *])
     | (refine RunQW.call rfl rfl rfl rfl ?_ (s) ?_ ?_; (focus (simp (maxDischargeDepth := 120) [Inst.enc, wideZ, uI_zero, *]; done)); (focus (simp [Inst.enc, wideZ, uI_zero, *]; done)); refine RunQ.evalH ?_; simp [Inst.enc, wideZ, uI_zero, *])
     | (refine WK.ret Tryz.func73 ?_ ?_ <;> simp (maxDischargeDepth := 120) [Tryz.results73, Inst.enc, wideZ, uI_zero, *])
     | fail)
  have j3 : (kk == 3) = false := by simpa using k3
  by_cases k4 : kk = 4
  · subst k4
    rw [if_neg (by decide), if_neg (by decide), if_pos (.inr rfl)] at s e
    simp only [Inst.enc, wideZ, uI_zero] at s
    refine FnP.intro Tryz.func73 rfl rfl fun G w => ?_
    repeat' (first
     | refine WK.seq ?_
     | refine WK.block ?_
     | refine WK.inBlock ?_
     | refine WK.condT rfl ?_
     | refine WK.condF rfl ?_
     | (refine Hid.h hQ _ _ ?_; clear hQ hA)
     | (refine Fork.mk (fun h => ?_) (fun h => ?_) <;> (first | (simp [*] at h; done) | (have h2 := h; simp at h2; exfalso; omega) | (have h2 := h; simp at h2; try simp only [Bool.not_eq_true', Bool.not_eq_false'] at h) | skip))
     | (refine WK.regH Tryz.ntmps73 (by kernel_rfl) ?_; intro A hA Q hQ; simp [Inst.enc, wideZ, uI_zero, *])
     | (refine RunQ.gd rfl (by rw [hA.h]; rfl) ?_; simp [Inst.enc, wideZ, uI_zero, *])
     | (refine RunQ.call rfl rfl rfl rfl rfl ?_ (p) ?_ ?_; (focus (simp (maxDischargeDepth := 120) [Inst.enc, wideZ, uI_zero, *]; done)); (focus (simp [Inst.enc, wideZ, uI_zero, *]; done)); refine RunQ.evalH ?_; simp [Inst.enc, wideZ, uI_zero, *])
     | (refine RunQW.call rfl rfl rfl rfl ?_ (s) ?_ ?_; (focus (simp (maxDischargeDepth := 120) [Inst.enc, wideZ, uI_zero, *]; done)); (focus (simp [Inst.enc, wideZ, uI_zero, *]; done)); refine RunQ.evalH ?_; simp [Inst.enc, wideZ, uI_zero, *])
     | (refine WK.ret Tryz.func73 ?_ ?_ <;> simp (maxDischargeDepth := 120) [Tryz.results73, Inst.enc, wideZ, uI_zero, *])
     | fail)
  have j4 : (kk == 4) = false := by simpa using k4
  rw [if_neg k1, if_neg k2, if_neg (by omega)] at s e
  by_cases k5 : kk = 5
  · subst k5
    simp only [Inst.enc, wideZ, uI_zero, List.length_nil, actL_nil] at s
    refine FnP.intro Tryz.func73 rfl rfl fun G w => ?_
    repeat' (first
     | refine WK.seq ?_
     | refine WK.block ?_
     | refine WK.inBlock ?_
     | refine WK.skip ?_
     | refine WK.condT rfl ?_
     | refine WK.condF rfl ?_
     | (refine Hid.h hQ _ _ ?_; clear hQ hA)
     | (refine WK.regH Tryz.ntmps73 (by kernel_rfl) ?_; intro A hA Q hQ; simp [Inst.enc, wideZ, uI_zero, *])
     | (refine RunQ.gd rfl (by rw [hA.h]; rfl) ?_; simp [Inst.enc, wideZ, uI_zero, *])
     | (refine RunQ.call rfl rfl rfl rfl rfl ?_ (p) ?_ ?_; (focus (simp (maxDischargeDepth := 120) [Inst.enc, wideZ, uI_zero, *]; done)); (focus (simp [Inst.enc, wideZ, uI_zero, *]; done)); refine RunQ.evalH ?_; simp [Inst.enc, wideZ, uI_zero, *])
     | (refine RunQW.call rfl rfl rfl rfl ?_ (s) ?_ ?_; (focus (simp (maxDischargeDepth := 120) [Inst.enc, wideZ, uI_zero, *]; done)); (focus (simp [Inst.enc, wideZ, uI_zero, *]; done)); refine RunQ.evalH ?_; simp [Inst.enc, wideZ, uI_zero, *])
     | (refine WK.ret Tryz.func73 ?_ ?_ <;> simp (maxDischargeDepth := 120) [Tryz.results73, Inst.enc, wideZ, uI_zero, *])
     | fail)
  have j5 : (kk == 5) = false := by simpa using k5
  refine FnP.intro Tryz.func73 rfl rfl fun G w => ?_
  repeat' (first
   | refine WK.seq ?_
   | refine WK.block ?_
   | refine WK.condF rfl ?_
   | (refine Hid.h hQ _ _ ?_; clear hQ hA)
   | (refine WK.regH Tryz.ntmps73 (by kernel_rfl) ?_; intro A hA Q hQ; simp [Inst.enc, wideZ, uI_zero, *])
   | (refine RunQ.call rfl rfl rfl rfl rfl ?_ (p) ?_ ?_; (focus (simp (maxDischargeDepth := 120) [Inst.enc, wideZ, uI_zero, *]; done)); (focus (simp [Inst.enc, wideZ, uI_zero, *]; done)); refine RunQ.evalH ?_; simp [Inst.enc, wideZ, uI_zero, *])
   | (refine WK.ret Tryz.func73 ?_ ?_ <;> simp (maxDischargeDepth := 120) [Tryz.results73, Inst.enc, wideZ, uI_zero, *])
   | fail)
def inFind (l : List Inst) (k : Int) : Inst × Bool := match l.find? (fun i => i.kind == k) with | some i => (i, true) | none => (inst0, false)
end Go.Proofs.YtiifjagnhnchoaaGreat
end
