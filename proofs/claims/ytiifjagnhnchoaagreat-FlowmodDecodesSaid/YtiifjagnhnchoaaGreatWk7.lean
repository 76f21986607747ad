/- Actions: read by the reference. -/
import Derived.Test.YtiifjagnhnchoaaGreatWk6
import Derived.Test.YtiifjagnhnchoaaGreatDa
set_option linter.all false
set_option linter.unnecessarySimpa false
section
set_option linter.unusedVariables false
set_option linter.unusedSimpArgs false
namespace Go.Proofs.YtiifjagnhnchoaaGreat
open Go Go.AI Go.Proofs
attribute [local irreducible] FnP FnO FnB FnT FnSeq WK RunQ RunQW RunX RunXW

/-- one that was read whole, as the reference finds it -/
theorem aright_group {g : Int} (h : 0 ≤ g) : Action.right ⟨22, 0, 0, g, 0, oxm0⟩ = decide (g ≤ 4294967040) := by
  unfold Action.right Action.fine Action.bare
  simp [h]
theorem getN_nonneg (b : List (BitVec 8)) (p s : Nat) : 0 ≤ (getN b p s).1 := by unfold getN; split <;> simp
set_option maxHeartbeats 8000000 in
theorem radec_c (b : List (BitVec 8)) (hb : b.length ≤ 9223372036854775807) : FnP Tryz.prog 134 [byS b] (aRes (aDec b)) := by
  have b1 := rabad_c 1
  have b0 := rabad_c 0
  have b5 := rabad_c 5
  have b4 := rabad_c 4
  have b9 := rabad_c 9
  by_cases h8 : b.length < 8
  · have e : aDec b = aBad 1 := by unfold aDec; rw [if_pos h8]
    have j8 : (b.length : Int) < 8 := by omega
    unfold byS
    refine FnP.intro Tryz.func134 rfl rfl fun G w => ?_
    repeat' (first
     | refine WK.seq ?_
     | refine WK.condT rfl ?_
     | (refine Hid.h hQ _ _ ?_; clear hQ hA)
     | (refine WK.regH Tryz.ntmps134 (by kernel_rfl) ?_; intro A hA Q hQ; simp [aRes, aBad, act0, Action.enc, oxm0, wideZ, uI_zero, aFault, *])
     | (refine RunQ.call rfl rfl rfl rfl rfl ?_ (b1) ?_ ?_; (focus (simp (maxDischargeDepth := 120) [aRes, aBad, act0, Action.enc, oxm0, wideZ, uI_zero, aFault, *]; done)); (focus (simp [aRes, aBad, act0, Action.enc, oxm0, wideZ, uI_zero, aFault, *]; done)); refine RunQ.evalH ?_; simp [aRes, aBad, act0, Action.enc, oxm0, wideZ, uI_zero, aFault, *])
     | (refine WK.ret Tryz.func134 ?_ ?_ <;> simp (maxDischargeDepth := 120) [Tryz.results134, aRes, aBad, act0, Action.enc, oxm0, wideZ, uI_zero, aFault, *])
     | fail)
  have h8' : 8 ≤ b.length := by omega
  have j8 : ¬ (b.length : Int) < 8 := by omega
  have g1 := rnumber_c b 0 2 Sz2 hb (by omega)
  have g2 := rnumber_c b 2 2 Sz2 hb (by omega)
  rw [aK_get b h8'] at g1
  rw [aN_get b h8'] at g2
  have hlt := aN_lt b h8'
  have hdef : aDec b = if aN b < 8 ∨ ¬ aN b % 8 = 0 ∨ b.length < aN b then aBad 1 else
    if aK b = 25 then aSetD (b.take (aN b)) else if (aLength (aK b)).1 = 0 then aBad 0 else if ¬ aN b = (aLength (aK b)).1 then aBad 1 else
    if allZ ((b.take (aN b)).drop (aLength (aK b)).2) = true then aPlain (aK b) (b.take (aN b)) else aBad 5 := by
    rw [aDec, if_neg h8]
  have hge : ∀ p s, p + s ≤ aN b → aN b ≤ b.length → getN b p s = getN (b.take (aN b)) p s := fun p s h1 h2 => by
    unfold getN
    rw [if_pos (by omega), if_pos (by rw [List.length_take]; omega), List.drop_take, List.take_take, Nat.min_eq_left (by omega)]
  have g3 := rnumber_c b 4 4 Sz4 hb (by omega)
  have g4 := rnumber_c b 8 2 Sz2 hb (by omega)
  have g5 := rnumber_c b 4 2 Sz2 hb (by omega)
  obtain ⟨n, hn⟩ : ∃ n, aN b = n := ⟨_, rfl⟩
  obtain ⟨k, hk⟩ : ∃ k, aK b = k := ⟨_, rfl⟩
  simp only [hn] at g2 hlt hdef hge
  simp only [hk] at g1 hdef
  clear hn hk
  have z7 : (((n : Int)) % 8 == 0) = (n % 8 == 0) := by rw [Bool.eq_iff_iff, beq_iff_eq, beq_iff_eq]; omega
  have z7' : (((n : Int)).tmod 8 == 0) = (n % 8 == 0) := by rw [Int.tmod_eq_emod_of_nonneg (by omega)]; exact z7
  obtain ⟨r, hr⟩ : ∃ r, n % 8 = r := ⟨_, rfl⟩
  rw [hr] at z7 z7' hdef
  by_cases c1 : n < 8
  · have e : aDec b = aBad 1 := by rw [hdef, if_pos (.inl c1)]
    have d1 : (n : Int) < 8 := by omega
    unfold byS at *
    clear hdef hr hge
    refine FnP.intro Tryz.func134 rfl rfl fun G w => ?_
    repeat' (first
     | refine WK.seq ?_
     | refine WK.skip ?_
     | refine WK.condT rfl ?_
     | refine WK.condF rfl ?_
     | (refine Hid.h hQ _ _ ?_; clear hQ hA)
     | (refine WK.regH Tryz.ntmps134 (by kernel_rfl) ?_; intro A hA Q hQ; simp [aRes, aBad, act0, Action.enc, oxm0, wideZ, uI_zero, aFault, *])
     | (refine RunQ.gd rfl (by rw [hA.h]; rfl) ?_; simp [aRes, aBad, act0, Action.enc, oxm0, wideZ, uI_zero, aFault, *])
     | (refine RunQ.call rfl rfl rfl rfl rfl ?_ (g1) ?_ ?_; (focus (simp (maxDischargeDepth := 120) [aRes, aBad, act0, Action.enc, oxm0, wideZ, uI_zero, aFault, *]; done)); (focus (simp [aRes, aBad, act0, Action.enc, oxm0, wideZ, uI_zero, aFault, *]; done)); refine RunQ.evalH ?_; simp [aRes, aBad, act0, Action.enc, oxm0, wideZ, uI_zero, aFault, *])
     | (refine RunQ.call rfl rfl rfl rfl rfl ?_ (g2) ?_ ?_; (focus (simp (maxDischargeDepth := 120) [aRes, aBad, act0, Action.enc, oxm0, wideZ, uI_zero, aFault, *]; done)); (focus (simp [aRes, aBad, act0, Action.enc, oxm0, wideZ, uI_zero, aFault, *]; done)); refine RunQ.evalH ?_; simp [aRes, aBad, act0, Action.enc, oxm0, wideZ, uI_zero, aFault, *])
     | (refine RunQ.call rfl rfl rfl rfl rfl ?_ (b1) ?_ ?_; (focus (simp (maxDischargeDepth := 120) [aRes, aBad, act0, Action.enc, oxm0, wideZ, uI_zero, aFault, *]; done)); (focus (simp [aRes, aBad, act0, Action.enc, oxm0, wideZ, uI_zero, aFault, *]; done)); refine RunQ.evalH ?_; simp [aRes, aBad, act0, Action.enc, oxm0, wideZ, uI_zero, aFault, *])
     | (refine WK.ret Tryz.func134 ?_ ?_ <;> simp (maxDischargeDepth := 120) [Tryz.results134, aRes, aBad, act0, Action.enc, oxm0, wideZ, uI_zero, aFault, *])
     | fail)
  have d1 : ¬ (n : Int) < 8 := by omega
  by_cases c2 : r = 0
  case neg =>
    have e : aDec b = aBad 1 := by rw [hdef, if_pos (.inr (.inl c2))]
    have d2 : (r == 0) = false := by simpa using c2
    rw [d2] at z7 z7'
    unfold byS at *
    clear hdef hr hge
    refine FnP.intro Tryz.func134 rfl rfl fun G w => ?_
    repeat' (first
     | refine WK.seq ?_
     | refine WK.skip ?_
     | refine WK.condT rfl ?_
     | refine WK.condF rfl ?_
     | (refine Hid.h hQ _ _ ?_; clear hQ hA)
     | (refine WK.regH Tryz.ntmps134 (by kernel_rfl) ?_; intro A hA Q hQ; simp [aRes, aBad, act0, Action.enc, oxm0, wideZ, uI_zero, aFault, bne, *])
     | (refine RunQ.gd rfl (by rw [hA.h]; rfl) ?_; simp [aRes, aBad, act0, Action.enc, oxm0, wideZ, uI_zero, aFault, bne, *])
     | (refine RunQ.call rfl rfl rfl rfl rfl ?_ (g1) ?_ ?_; (focus (simp (maxDischargeDepth := 120) [aRes, aBad, act0, Action.enc, oxm0, wideZ, uI_zero, aFault, bne, *]; done)); (focus (simp [aRes, aBad, act0, Action.enc, oxm0, wideZ, uI_zero, aFault, bne, *]; done)); refine RunQ.evalH ?_; simp [aRes, aBad, act0, Action.enc, oxm0, wideZ, uI_zero, aFault, bne, *])
     | (refine RunQ.call rfl rfl rfl rfl rfl ?_ (g2) ?_ ?_; (focus (simp (maxDischargeDepth := 120) [aRes, aBad, act0, Action.enc, oxm0, wideZ, uI_zero, aFault, bne, *]; done)); (focus (simp [aRes, aBad, act0, Action.enc, oxm0, wideZ, uI_zero, aFault, bne, *]; done)); refine RunQ.evalH ?_; simp [aRes, aBad, act0, Action.enc, oxm0, wideZ, uI_zero, aFault, bne, *])
     | (refine RunQ.call rfl rfl rfl rfl rfl ?_ (b1) ?_ ?_; (focus (simp (maxDischargeDepth := 120) [aRes, aBad, act0, Action.enc, oxm0, wideZ, uI_zero, aFault, bne, *]; done)); (focus (simp [aRes, aBad, act0, Action.enc, oxm0, wideZ, uI_zero, aFault, bne, *]; done)); refine RunQ.evalH ?_; simp [aRes, aBad, act0, Action.enc, oxm0, wideZ, uI_zero, aFault, bne, *])
     | (refine WK.ret Tryz.func134 ?_ ?_ <;> simp (maxDischargeDepth := 120) [Tryz.results134, aRes, aBad, act0, Action.enc, oxm0, wideZ, uI_zero, aFault, bne, *])
     | fail)
  have d2 : (r == 0) = true := by simpa using c2
  rw [d2] at z7 z7'
  by_cases c3 : b.length < n
  · have e : aDec b = aBad 1 := by rw [hdef, if_pos (.inr (.inr c3))]
    have d3 : (b.length : Int) < n := by omega
    unfold byS at *
    clear hdef hr c2 hge
    refine FnP.intro Tryz.func134 rfl rfl fun G w => ?_
    repeat' (first
     | refine WK.seq ?_
     | refine WK.skip ?_
     | refine WK.condT rfl ?_
     | refine WK.condF rfl ?_
     | (refine Hid.h hQ _ _ ?_; clear hQ hA)
     | (refine WK.regH Tryz.ntmps134 (by kernel_rfl) ?_; intro A hA Q hQ; simp [aRes, aBad, act0, Action.enc, oxm0, wideZ, uI_zero, aFault, bne, *])
     | (refine RunQ.gd rfl (by rw [hA.h]; rfl) ?_; simp [aRes, aBad, act0, Action.enc, oxm0, wideZ, uI_zero, aFault, bne, *])
     | (refine RunQ.call rfl rfl rfl rfl rfl ?_ (g1) ?_ ?_; (focus (simp (maxDischargeDepth := 120) [aRes, aBad, act0, Action.enc, oxm0, wideZ, uI_zero, aFault, bne, *]; done)); (focus (simp [aRes, aBad, act0, Action.enc, oxm0, wideZ, uI_zero, aFault, bne, *]; done)); refine RunQ.evalH ?_; simp [aRes, aBad, act0, Action.enc, oxm0, wideZ, uI_zero, aFault, bne, *])
     | (refine RunQ.call rfl rfl rfl rfl rfl ?_ (g2) ?_ ?_; (focus (simp (maxDischargeDepth := 120) [aRes, aBad, act0, Action.enc, oxm0, wideZ, uI_zero, aFault, bne, *]; done)); (focus (simp [aRes, aBad, act0, Action.enc, oxm0, wideZ, uI_zero, aFault, bne, *]; done)); refine RunQ.evalH ?_; simp [aRes, aBad, act0, Action.enc, oxm0, wideZ, uI_zero, aFault, bne, *])
     | (refine RunQ.call rfl rfl rfl rfl rfl ?_ (b1) ?_ ?_; (focus (simp (maxDischargeDepth := 120) [aRes, aBad, act0, Action.enc, oxm0, wideZ, uI_zero, aFault, bne, *]; done)); (focus (simp [aRes, aBad, act0, Action.enc, oxm0, wideZ, uI_zero, aFault, bne, *]; done)); refine RunQ.evalH ?_; simp [aRes, aBad, act0, Action.enc, oxm0, wideZ, uI_zero, aFault, bne, *])
     | (refine WK.ret Tryz.func134 ?_ ?_ <;> simp (maxDischargeDepth := 120) [Tryz.results134, aRes, aBad, act0, Action.enc, oxm0, wideZ, uI_zero, aFault, bne, *])
     | fail)
  rw [if_neg (by omega)] at hdef
  have hnb : n ≤ b.length := by omega
  have d3 : ¬ (b.length : Int) < n := by omega
  have j1 : (n : Int) ≤ b.length := by omega
  have hBl : (b.take n).length = n := by rw [List.length_take]; omega
  obtain ⟨B, hB⟩ : ∃ B, b.take n = B := ⟨_, rfl⟩
  have t1 : (byL b).take n = byL B := by rw [byL_take, hB]
  have hdt : ∀ p q, q = n → ((byL b).drop p).take (q - p) = byL (B.drop p) := fun p q h => by
    subst h; rw [byL_drop, byL_take, ← hB, List.drop_take]
  rw [hB] at hdef hBl hge
  have hs := raset_c B (by omega) (by omega)
  have kn := raknown_c (k : Int)
  by_cases k5 : k = 25
  · subst k5
    rw [if_pos rfl] at hdef
    unfold byS at *
    rw [hBl] at hs
    obtain ⟨R, hR⟩ : ∃ R, aSetD B = R := ⟨_, rfl⟩
    rw [hR] at hs hdef
    obtain ⟨ra, rn, rf⟩ := R
    clear hR hge hdt hB hr
    refine FnP.intro Tryz.func134 rfl rfl fun G w => ?_
    cases rf <;>
    · repeat' (first
       | refine WK.seq ?_
       | refine WK.skip ?_
       | refine WK.condT rfl ?_
       | refine WK.condF rfl ?_
       | (refine Hid.h hQ _ _ ?_; clear hQ hA)
       | (refine WK.regH Tryz.ntmps134 (by kernel_rfl) ?_; intro A hA Q hQ; simp [aRes, Action.enc, Oxm.enc, oxm0, wideZ, uI_zero, aFault, aKnown, bne, *])
       | (refine RunQ.gd rfl (by rw [hA.h]; rfl) ?_; simp [aRes, Action.enc, Oxm.enc, oxm0, wideZ, uI_zero, aFault, aKnown, bne, *])
       | (refine RunQ.call rfl rfl rfl rfl rfl ?_ (g1) ?_ ?_; (focus (simp (maxDischargeDepth := 120) [aRes, Action.enc, Oxm.enc, oxm0, wideZ, uI_zero, aFault, aKnown, bne, *]; done)); (focus (simp [aRes, Action.enc, Oxm.enc, oxm0, wideZ, uI_zero, aFault, aKnown, bne, *]; done)); refine RunQ.evalH ?_; simp [aRes, Action.enc, Oxm.enc, oxm0, wideZ, uI_zero, aFault, aKnown, bne, *])
       | (refine RunQ.call rfl rfl rfl rfl rfl ?_ (g2) ?_ ?_; (focus (simp (maxDischargeDepth := 120) [aRes, Action.enc, Oxm.enc, oxm0, wideZ, uI_zero, aFault, aKnown, bne, *]; done)); (focus (simp [aRes, Action.enc, Oxm.enc, oxm0, wideZ, uI_zero, aFault, aKnown, bne, *]; done)); refine RunQ.evalH ?_; simp [aRes, Action.enc, Oxm.enc, oxm0, wideZ, uI_zero, aFault, aKnown, bne, *])
       | (refine RunQ.call rfl rfl rfl rfl rfl ?_ (kn) ?_ ?_; (focus (simp (maxDischargeDepth := 120) [aRes, Action.enc, Oxm.enc, oxm0, wideZ, uI_zero, aFault, aKnown, bne, *]; done)); (focus (simp [aRes, Action.enc, Oxm.enc, oxm0, wideZ, uI_zero, aFault, aKnown, bne, *]; done)); refine RunQ.evalH ?_; simp [aRes, Action.enc, Oxm.enc, oxm0, wideZ, uI_zero, aFault, aKnown, bne, *])
       | (refine RunQ.call rfl rfl rfl rfl rfl ?_ (hs) ?_ ?_; (focus (simp (maxDischargeDepth := 120) [aRes, Action.enc, Oxm.enc, oxm0, wideZ, uI_zero, aFault, aKnown, bne, *]; done)); (focus (simp [aRes, Action.enc, Oxm.enc, oxm0, wideZ, uI_zero, aFault, aKnown, bne, *]; done)); refine RunQ.evalH ?_; simp [aRes, Action.enc, Oxm.enc, oxm0, wideZ, uI_zero, aFault, aKnown, bne, *])
       | (refine WK.ret Tryz.func134 ?_ ?_ <;> simp (maxDischargeDepth := 120) [Tryz.results134, aRes, Action.enc, Oxm.enc, oxm0, wideZ, uI_zero, aFault, aKnown, bne, *])
       | fail)
  have d5 : ((k : Int) == 25) = false := by rw [beq_eq_false_iff_ne]; omega
  have d5' : ¬ (k : Int) = 25 := by omega
  rw [if_neg k5] at hdef
  by_cases k0 : k = 0
  · subst k0
    have hdef' : aDec b = if ¬ n = 16 then aBad 1 else if allZ (B.drop 10) = true then aPlain 0 B else aBad 5 := by rw [hdef, if_neg (by decide)]; rfl
    clear hdef hs
    have z16 : ((n : Int) == 16) = (n == 16) := by rw [Bool.eq_iff_iff, beq_iff_eq, beq_iff_eq]; omega
    by_cases k1 : n = 16
    case neg =>
      rw [if_pos k1] at hdef'
      have z16b : (n == 16) = false := by simpa using k1
      rw [z16b] at z16
      clear k1 hge hdt
      unfold byS at *
      refine FnP.intro Tryz.func134 rfl rfl fun G w => ?_
      repeat' (first
       | refine WK.seq ?_
       | refine WK.skip ?_
       | refine WK.condT rfl ?_
       | refine WK.condF rfl ?_
       | (refine Hid.h hQ _ _ ?_; clear hQ hA)
       | (refine WK.regH Tryz.ntmps134 (by kernel_rfl) ?_; intro A hA Q hQ; simp [aRes, aBad, act0, Action.enc, oxm0, wideZ, uI_zero, aFault, aKnown, bne, *])
       | (refine RunQ.gd rfl (by rw [hA.h]; rfl) ?_; simp [aRes, aBad, act0, Action.enc, oxm0, wideZ, uI_zero, aFault, aKnown, bne, *])
       | (refine RunQ.call rfl rfl rfl rfl rfl ?_ (g1) ?_ ?_; (focus (simp (maxDischargeDepth := 120) [aRes, aBad, act0, Action.enc, oxm0, wideZ, uI_zero, aFault, aKnown, bne, *]; done)); (focus (simp [aRes, aBad, act0, Action.enc, oxm0, wideZ, uI_zero, aFault, aKnown, bne, *]; done)); refine RunQ.evalH ?_; simp [aRes, aBad, act0, Action.enc, oxm0, wideZ, uI_zero, aFault, aKnown, bne, *])
       | (refine RunQ.call rfl rfl rfl rfl rfl ?_ (g2) ?_ ?_; (focus (simp (maxDischargeDepth := 120) [aRes, aBad, act0, Action.enc, oxm0, wideZ, uI_zero, aFault, aKnown, bne, *]; done)); (focus (simp [aRes, aBad, act0, Action.enc, oxm0, wideZ, uI_zero, aFault, aKnown, bne, *]; done)); refine RunQ.evalH ?_; simp [aRes, aBad, act0, Action.enc, oxm0, wideZ, uI_zero, aFault, aKnown, bne, *])
       | (refine RunQ.call rfl rfl rfl rfl rfl ?_ (kn) ?_ ?_; (focus (simp (maxDischargeDepth := 120) [aRes, aBad, act0, Action.enc, oxm0, wideZ, uI_zero, aFault, aKnown, bne, *]; done)); (focus (simp [aRes, aBad, act0, Action.enc, oxm0, wideZ, uI_zero, aFault, aKnown, bne, *]; done)); refine RunQ.evalH ?_; simp [aRes, aBad, act0, Action.enc, oxm0, wideZ, uI_zero, aFault, aKnown, bne, *])
       | (refine RunQ.call rfl rfl rfl rfl rfl ?_ (b1) ?_ ?_; (focus (simp (maxDischargeDepth := 120) [aRes, aBad, act0, Action.enc, oxm0, wideZ, uI_zero, aFault, aKnown, bne, *]; done)); (focus (simp [aRes, aBad, act0, Action.enc, oxm0, wideZ, uI_zero, aFault, aKnown, bne, *]; done)); refine RunQ.evalH ?_; simp [aRes, aBad, act0, Action.enc, oxm0, wideZ, uI_zero, aFault, aKnown, bne, *])
       | (refine WK.ret Tryz.func134 ?_ ?_ <;> simp (maxDischargeDepth := 120) [Tryz.results134, aRes, aBad, act0, Action.enc, oxm0, wideZ, uI_zero, aFault, aKnown, bne, *])
       | fail)
    subst k1
    rw [if_neg (by simp)] at hdef'
    have hz := rnoughts_c (B.drop 10) (by rw [List.length_drop]; omega)
    have hsl := hdt 10 16 rfl
    have e3 := hge 4 4 (by omega) hnb
    have e4 := hge 8 2 (by omega) hnb
    rw [e3] at g3
    rw [e4] at g4
    have hr := raright_c (aOf 0 B)
    unfold byS at *
    rw [List.length_drop, hBl] at hz
    obtain ⟨E5, hE5⟩ : ∃ E5, B.drop 10 = E5 := ⟨_, rfl⟩
    rw [hE5] at hz hsl hdef'
    clear hge hdt hE5 e3 e4 hB z16
    refine FnP.intro Tryz.func134 rfl rfl fun G w => ?_
    cases kz : allZ E5
    · rw [kz, if_neg Bool.false_ne_true] at hdef'
      clear hr
      repeat' (first
       | refine WK.seq ?_
       | refine WK.block ?_
       | refine WK.skip ?_
       | refine WK.condT rfl ?_
       | refine WK.condF rfl ?_
       | (refine Hid.h hQ _ _ ?_; clear hQ hA)
       | (refine WK.cond2 rfl (fun h => ?_) (fun h => ?_) <;> (first | (simp [*] at h; done) | (have h2 := h; simp at h2; exfalso; omega) | (have h2 := h; simp at h2; try simp only [Bool.not_eq_true', Bool.not_eq_false'] at h) | skip))
       | (refine WK.regH Tryz.ntmps134 (by kernel_rfl) ?_; intro A hA Q hQ; simp [aRes, aBad, act0, Action.enc, oxm0, wideZ, uI_zero, aFault, aKnown, bne, *])
       | (refine RunQ.gd rfl (by rw [hA.h]; rfl) ?_; simp [aRes, aBad, act0, Action.enc, oxm0, wideZ, uI_zero, aFault, aKnown, bne, *])
       | (refine RunQ.call rfl rfl rfl rfl rfl ?_ (g1) ?_ ?_; (focus (simp (maxDischargeDepth := 120) [aRes, aBad, act0, Action.enc, oxm0, wideZ, uI_zero, aFault, aKnown, bne, *]; done)); (focus (simp [aRes, aBad, act0, Action.enc, oxm0, wideZ, uI_zero, aFault, aKnown, bne, *]; done)); refine RunQ.evalH ?_; simp [aRes, aBad, act0, Action.enc, oxm0, wideZ, uI_zero, aFault, aKnown, bne, *])
       | (refine RunQ.call rfl rfl rfl rfl rfl ?_ (g2) ?_ ?_; (focus (simp (maxDischargeDepth := 120) [aRes, aBad, act0, Action.enc, oxm0, wideZ, uI_zero, aFault, aKnown, bne, *]; done)); (focus (simp [aRes, aBad, act0, Action.enc, oxm0, wideZ, uI_zero, aFault, aKnown, bne, *]; done)); refine RunQ.evalH ?_; simp [aRes, aBad, act0, Action.enc, oxm0, wideZ, uI_zero, aFault, aKnown, bne, *])
       | (refine RunQ.call rfl rfl rfl rfl rfl ?_ (kn) ?_ ?_; (focus (simp (maxDischargeDepth := 120) [aRes, aBad, act0, Action.enc, oxm0, wideZ, uI_zero, aFault, aKnown, bne, *]; done)); (focus (simp [aRes, aBad, act0, Action.enc, oxm0, wideZ, uI_zero, aFault, aKnown, bne, *]; done)); refine RunQ.evalH ?_; simp [aRes, aBad, act0, Action.enc, oxm0, wideZ, uI_zero, aFault, aKnown, bne, *])
       | (refine RunQ.call rfl rfl rfl rfl rfl ?_ (b5) ?_ ?_; (focus (simp (maxDischargeDepth := 120) [aRes, aBad, act0, Action.enc, oxm0, wideZ, uI_zero, aFault, aKnown, bne, *]; done)); (focus (simp [aRes, aBad, act0, Action.enc, oxm0, wideZ, uI_zero, aFault, aKnown, bne, *]; done)); refine RunQ.evalH ?_; simp [aRes, aBad, act0, Action.enc, oxm0, wideZ, uI_zero, aFault, aKnown, bne, *])
       | (refine RunQW.call rfl rfl rfl rfl ?_ (hz) ?_ ?_; (focus (simp (maxDischargeDepth := 120) [aRes, aBad, act0, Action.enc, oxm0, wideZ, uI_zero, aFault, aKnown, bne, *]; done)); (focus (simp [aRes, aBad, act0, Action.enc, oxm0, wideZ, uI_zero, aFault, aKnown, bne, *]; done)); refine RunQ.evalH ?_; simp [aRes, aBad, act0, Action.enc, oxm0, wideZ, uI_zero, aFault, aKnown, bne, *])
       | (refine WK.ret Tryz.func134 ?_ ?_ <;> simp (maxDischargeDepth := 120) [Tryz.results134, aRes, aBad, act0, Action.enc, oxm0, wideZ, uI_zero, aFault, aKnown, bne, *])
       | fail)
    rw [kz, if_pos rfl] at hdef'
    cases hg : aGoes (getN B 4 4).1
    · have e : aDec b = aBad 4 := by rw [hdef']; unfold aPlain; rw [if_pos ⟨rfl, hg⟩]
      clear hr hdef'
      repeat' (first
       | refine WK.seq ?_
       | refine WK.block ?_
       | refine WK.skip ?_
       | refine WK.condT rfl ?_
       | refine WK.condF rfl ?_
       | (refine Hid.h hQ _ _ ?_; clear hQ hA)
       | (refine WK.cond2 rfl (fun h => ?_) (fun h => ?_) <;> (first | (simp [*] at h; done) | (have h2 := h; simp at h2; exfalso; omega) | (have h2 := h; simp at h2; try simp only [Bool.not_eq_true', Bool.not_eq_false'] at h) | skip))
       | (refine WK.regH Tryz.ntmps134 (by kernel_rfl) ?_; intro A hA Q hQ; simp [aRes, aBad, act0, Action.enc, oxm0, wideZ, uI_zero, aFault, aKnown, bne, *])
       | (refine RunQ.gd rfl (by rw [hA.h]; rfl) ?_; simp [aRes, aBad, act0, Action.enc, oxm0, wideZ, uI_zero, aFault, aKnown, bne, *])
       | (refine RunQ.call rfl rfl rfl rfl rfl ?_ (g1) ?_ ?_; (focus (simp (maxDischargeDepth := 120) [aRes, aBad, act0, Action.enc, oxm0, wideZ, uI_zero, aFault, aKnown, bne, *]; done)); (focus (simp [aRes, aBad, act0, Action.enc, oxm0, wideZ, uI_zero, aFault, aKnown, bne, *]; done)); refine RunQ.evalH ?_; simp [aRes, aBad, act0, Action.enc, oxm0, wideZ, uI_zero, aFault, aKnown, bne, *])
       | (refine RunQ.call rfl rfl rfl rfl rfl ?_ (g2) ?_ ?_; (focus (simp (maxDischargeDepth := 120) [aRes, aBad, act0, Action.enc, oxm0, wideZ, uI_zero, aFault, aKnown, bne, *]; done)); (focus (simp [aRes, aBad, act0, Action.enc, oxm0, wideZ, uI_zero, aFault, aKnown, bne, *]; done)); refine RunQ.evalH ?_; simp [aRes, aBad, act0, Action.enc, oxm0, wideZ, uI_zero, aFault, aKnown, bne, *])
       | (refine RunQ.call rfl rfl rfl rfl rfl ?_ (kn) ?_ ?_; (focus (simp (maxDischargeDepth := 120) [aRes, aBad, act0, Action.enc, oxm0, wideZ, uI_zero, aFault, aKnown, bne, *]; done)); (focus (simp [aRes, aBad, act0, Action.enc, oxm0, wideZ, uI_zero, aFault, aKnown, bne, *]; done)); refine RunQ.evalH ?_; simp [aRes, aBad, act0, Action.enc, oxm0, wideZ, uI_zero, aFault, aKnown, bne, *])
       | (refine RunQ.call rfl rfl rfl rfl rfl ?_ (g3) ?_ ?_; (focus (simp (maxDischargeDepth := 120) [aRes, aBad, act0, Action.enc, oxm0, wideZ, uI_zero, aFault, aKnown, bne, *]; done)); (focus (simp [aRes, aBad, act0, Action.enc, oxm0, wideZ, uI_zero, aFault, aKnown, bne, *]; done)); refine RunQ.evalH ?_; simp [aRes, aBad, act0, Action.enc, oxm0, wideZ, uI_zero, aFault, aKnown, bne, *])
       | (refine RunQ.call rfl rfl rfl rfl rfl ?_ (g4) ?_ ?_; (focus (simp (maxDischargeDepth := 120) [aRes, aBad, act0, Action.enc, oxm0, wideZ, uI_zero, aFault, aKnown, bne, *]; done)); (focus (simp [aRes, aBad, act0, Action.enc, oxm0, wideZ, uI_zero, aFault, aKnown, bne, *]; done)); refine RunQ.evalH ?_; simp [aRes, aBad, act0, Action.enc, oxm0, wideZ, uI_zero, aFault, aKnown, bne, *])
       | (refine RunQ.call rfl rfl rfl rfl rfl ?_ (ragoes_c (getN B 4 4).1) ?_ ?_; (focus (simp (maxDischargeDepth := 120) [aRes, aBad, act0, Action.enc, oxm0, wideZ, uI_zero, aFault, aKnown, bne, *]; done)); (focus (simp [aRes, aBad, act0, Action.enc, oxm0, wideZ, uI_zero, aFault, aKnown, bne, *]; done)); refine RunQ.evalH ?_; simp [aRes, aBad, act0, Action.enc, oxm0, wideZ, uI_zero, aFault, aKnown, bne, *])
       | (refine RunQ.call rfl rfl rfl rfl rfl ?_ (b4) ?_ ?_; (focus (simp (maxDischargeDepth := 120) [aRes, aBad, act0, Action.enc, oxm0, wideZ, uI_zero, aFault, aKnown, bne, *]; done)); (focus (simp [aRes, aBad, act0, Action.enc, oxm0, wideZ, uI_zero, aFault, aKnown, bne, *]; done)); refine RunQ.evalH ?_; simp [aRes, aBad, act0, Action.enc, oxm0, wideZ, uI_zero, aFault, aKnown, bne, *])
       | (refine RunQW.call rfl rfl rfl rfl ?_ (hz) ?_ ?_; (focus (simp (maxDischargeDepth := 120) [aRes, aBad, act0, Action.enc, oxm0, wideZ, uI_zero, aFault, aKnown, bne, *]; done)); (focus (simp [aRes, aBad, act0, Action.enc, oxm0, wideZ, uI_zero, aFault, aKnown, bne, *]; done)); refine RunQ.evalH ?_; simp [aRes, aBad, act0, Action.enc, oxm0, wideZ, uI_zero, aFault, aKnown, bne, *])
       | (refine WK.ret Tryz.func134 ?_ ?_ <;> simp (maxDischargeDepth := 120) [Tryz.results134, aRes, aBad, act0, Action.enc, oxm0, wideZ, uI_zero, aFault, aKnown, bne, *])
       | fail)
    obtain ⟨q, hre⟩ : ∃ q, Action.right (aOf 0 B) = q := ⟨_, rfl⟩
    have e : aDec b = if q = true then (aOf 0 B, (B.length : Int), none) else aBad 5 := by rw [hdef']; unfold aPlain; rw [if_neg (by simp [hg]), hre]; rfl
    rw [hre] at hr
    simp only [aOf, if_pos rfl, Action.enc, oxm0, wideZ, uI_zero] at hr
    clear hre hdef'
    cases q
    · repeat' (first
       | refine WK.seq ?_
       | refine WK.block ?_
       | refine WK.inBlock ?_
       | refine WK.skip ?_
       | refine WK.condT rfl ?_
       | refine WK.condF rfl ?_
       | (refine Hid.h hQ _ _ ?_; clear hQ hA)
       | (refine WK.cond2 rfl (fun h => ?_) (fun h => ?_) <;> (first | (simp [*] at h; done) | (have h2 := h; simp at h2; exfalso; omega) | (have h2 := h; simp at h2; try simp only [Bool.not_eq_true', Bool.not_eq_false'] at h) | skip))
       | (refine WK.regH Tryz.ntmps134 (by kernel_rfl) ?_; intro A hA Q hQ; simp [aRes, aBad, act0, Action.enc, oxm0, wideZ, uI_zero, aFault, aKnown, bne, *])
       | (refine RunQ.gd rfl (by rw [hA.h]; rfl) ?_; simp [aRes, aBad, act0, Action.enc, oxm0, wideZ, uI_zero, aFault, aKnown, bne, *])
       | (refine RunQ.call rfl rfl rfl rfl rfl ?_ (g1) ?_ ?_; (focus (simp (maxDischargeDepth := 120) [aRes, aBad, act0, Action.enc, oxm0, wideZ, uI_zero, aFault, aKnown, bne, *]; done)); (focus (simp [aRes, aBad, act0, Action.enc, oxm0, wideZ, uI_zero, aFault, aKnown, bne, *]; done)); refine RunQ.evalH ?_; simp [aRes, aBad, act0, Action.enc, oxm0, wideZ, uI_zero, aFault, aKnown, bne, *])
       | (refine RunQ.call rfl rfl rfl rfl rfl ?_ (g2) ?_ ?_; (focus (simp (maxDischargeDepth := 120) [aRes, aBad, act0, Action.enc, oxm0, wideZ, uI_zero, aFault, aKnown, bne, *]; done)); (focus (simp [aRes, aBad, act0, Action.enc, oxm0, wideZ, uI_zero, aFault, aKnown, bne, *]; done)); refine RunQ.evalH ?_; simp [aRes, aBad, act0, Action.enc, oxm0, wideZ, uI_zero, aFault, aKnown, bne, *])
       | (refine RunQ.call rfl rfl rfl rfl rfl ?_ (kn) ?_ ?_; (focus (simp (maxDischargeDepth := 120) [aRes, aBad, act0, Action.enc, oxm0, wideZ, uI_zero, aFault, aKnown, bne, *]; done)); (focus (simp [aRes, aBad, act0, Action.enc, oxm0, wideZ, uI_zero, aFault, aKnown, bne, *]; done)); refine RunQ.evalH ?_; simp [aRes, aBad, act0, Action.enc, oxm0, wideZ, uI_zero, aFault, aKnown, bne, *])
       | (refine RunQ.call rfl rfl rfl rfl rfl ?_ (g3) ?_ ?_; (focus (simp (maxDischargeDepth := 120) [aRes, aBad, act0, Action.enc, oxm0, wideZ, uI_zero, aFault, aKnown, bne, *]; done)); (focus (simp [aRes, aBad, act0, Action.enc, oxm0, wideZ, uI_zero, aFault, aKnown, bne, *]; done)); refine RunQ.evalH ?_; simp [aRes, aBad, act0, Action.enc, oxm0, wideZ, uI_zero, aFault, aKnown, bne, *])
       | (refine RunQ.call rfl rfl rfl rfl rfl ?_ (g4) ?_ ?_; (focus (simp (maxDischargeDepth := 120) [aRes, aBad, act0, Action.enc, oxm0, wideZ, uI_zero, aFault, aKnown, bne, *]; done)); (focus (simp [aRes, aBad, act0, Action.enc, oxm0, wideZ, uI_zero, aFault, aKnown, bne, *]; done)); refine RunQ.evalH ?_; simp [aRes, aBad, act0, Action.enc, oxm0, wideZ, uI_zero, aFault, aKnown, bne, *])
       | (refine RunQ.call rfl rfl rfl rfl rfl ?_ (ragoes_c (getN B 4 4).1) ?_ ?_; (focus (simp (maxDischargeDepth := 120) [aRes, aBad, act0, Action.enc, oxm0, wideZ, uI_zero, aFault, aKnown, bne, *]; done)); (focus (simp [aRes, aBad, act0, Action.enc, oxm0, wideZ, uI_zero, aFault, aKnown, bne, *]; done)); refine RunQ.evalH ?_; simp [aRes, aBad, act0, Action.enc, oxm0, wideZ, uI_zero, aFault, aKnown, bne, *])
       | (refine RunQ.call rfl rfl rfl rfl rfl ?_ (hr) ?_ ?_; (focus (simp (maxDischargeDepth := 120) [aRes, aBad, act0, Action.enc, oxm0, wideZ, uI_zero, aFault, aKnown, bne, *]; done)); (focus (simp [aRes, aBad, act0, Action.enc, oxm0, wideZ, uI_zero, aFault, aKnown, bne, *]; done)); refine RunQ.evalH ?_; simp [aRes, aBad, act0, Action.enc, oxm0, wideZ, uI_zero, aFault, aKnown, bne, *])
       | (refine RunQ.call rfl rfl rfl rfl rfl ?_ (b5) ?_ ?_; (focus (simp (maxDischargeDepth := 120) [aRes, aBad, act0, Action.enc, oxm0, wideZ, uI_zero, aFault, aKnown, bne, *]; done)); (focus (simp [aRes, aBad, act0, Action.enc, oxm0, wideZ, uI_zero, aFault, aKnown, bne, *]; done)); refine RunQ.evalH ?_; simp [aRes, aBad, act0, Action.enc, oxm0, wideZ, uI_zero, aFault, aKnown, bne, *])
       | (refine RunQW.call rfl rfl rfl rfl ?_ (hz) ?_ ?_; (focus (simp (maxDischargeDepth := 120) [aRes, aBad, act0, Action.enc, oxm0, wideZ, uI_zero, aFault, aKnown, bne, *]; done)); (focus (simp [aRes, aBad, act0, Action.enc, oxm0, wideZ, uI_zero, aFault, aKnown, bne, *]; done)); refine RunQ.evalH ?_; simp [aRes, aBad, act0, Action.enc, oxm0, wideZ, uI_zero, aFault, aKnown, bne, *])
       | (refine WK.ret Tryz.func134 ?_ ?_ <;> simp (maxDischargeDepth := 120) [Tryz.results134, aRes, aBad, act0, Action.enc, oxm0, wideZ, uI_zero, aFault, aKnown, bne, *])
       | fail)
    · repeat' (first
       | refine WK.seq ?_
       | refine WK.block ?_
       | refine WK.inBlock ?_
       | refine WK.skip ?_
       | refine WK.condT rfl ?_
       | refine WK.condF rfl ?_
       | (refine Hid.h hQ _ _ ?_; clear hQ hA)
       | (refine WK.cond2 rfl (fun h => ?_) (fun h => ?_) <;> (first | (simp [*] at h; done) | (have h2 := h; simp at h2; exfalso; omega) | (have h2 := h; simp at h2; try simp only [Bool.not_eq_true', Bool.not_eq_false'] at h) | skip))
       | (refine WK.regH Tryz.ntmps134 (by kernel_rfl) ?_; intro A hA Q hQ; simp [aRes, aBad, act0, Action.enc, oxm0, wideZ, uI_zero, aFault, aKnown, bne, *])
       | (refine RunQ.gd rfl (by rw [hA.h]; rfl) ?_; simp [aRes, aBad, act0, Action.enc, oxm0, wideZ, uI_zero, aFault, aKnown, bne, *])
       | (refine RunQ.call rfl rfl rfl rfl rfl ?_ (g1) ?_ ?_; (focus (simp (maxDischargeDepth := 120) [aRes, aBad, act0, Action.enc, oxm0, wideZ, uI_zero, aFault, aKnown, bne, *]; done)); (focus (simp [aRes, aBad, act0, Action.enc, oxm0, wideZ, uI_zero, aFault, aKnown, bne, *]; done)); refine RunQ.evalH ?_; simp [aRes, aBad, act0, Action.enc, oxm0, wideZ, uI_zero, aFault, aKnown, bne, *])
       | (refine RunQ.call rfl rfl rfl rfl rfl ?_ (g2) ?_ ?_; (focus (simp (maxDischargeDepth := 120) [aRes, aBad, act0, Action.enc, oxm0, wideZ, uI_zero, aFault, aKnown, bne, *]; done)); (focus (simp [aRes, aBad, act0, Action.enc, oxm0, wideZ, uI_zero, aFault, aKnown, bne, *]; done)); refine RunQ.evalH ?_; simp [aRes, aBad, act0, Action.enc, oxm0, wideZ, uI_zero, aFault, aKnown, bne, *])
       | (refine RunQ.call rfl rfl rfl rfl rfl ?_ (kn) ?_ ?_; (focus (simp (maxDischargeDepth := 120) [aRes, aBad, act0, Action.enc, oxm0, wideZ, uI_zero, aFault, aKnown, bne, *]; done)); (focus (simp [aRes, aBad, act0, Action.enc, oxm0, wideZ, uI_zero, aFault, aKnown, bne, *]; done)); refine RunQ.evalH ?_; simp [aRes, aBad, act0, Action.enc, oxm0, wideZ, uI_zero, aFault, aKnown, bne, *])
       | (refine RunQ.call rfl rfl rfl rfl rfl ?_ (g3) ?_ ?_; (focus (simp (maxDischargeDepth := 120) [aRes, aBad, act0, Action.enc, oxm0, wideZ, uI_zero, aFault, aKnown, bne, *]; done)); (focus (simp [aRes, aBad, act0, Action.enc, oxm0, wideZ, uI_zero, aFault, aKnown, bne, *]; done)); refine RunQ.evalH ?_; simp [aRes, aBad, act0, Action.enc, oxm0, wideZ, uI_zero, aFault, aKnown, bne, *])
       | (refine RunQ.call rfl rfl rfl rfl rfl ?_ (g4) ?_ ?_; (focus (simp (maxDischargeDepth := 120) [aRes, aBad, act0, Action.enc, oxm0, wideZ, uI_zero, aFault, aKnown, bne, *]; done)); (focus (simp [aRes, aBad, act0, Action.enc, oxm0, wideZ, uI_zero, aFault, aKnown, bne, *]; done)); refine RunQ.evalH ?_; simp [aRes, aBad, act0, Action.enc, oxm0, wideZ, uI_zero, aFault, aKnown, bne, *])
       | (refine RunQ.call rfl rfl rfl rfl rfl ?_ (ragoes_c (getN B 4 4).1) ?_ ?_; (focus (simp (maxDischargeDepth := 120) [aRes, aBad, act0, Action.enc, oxm0, wideZ, uI_zero, aFault, aKnown, bne, *]; done)); (focus (simp [aRes, aBad, act0, Action.enc, oxm0, wideZ, uI_zero, aFault, aKnown, bne, *]; done)); refine RunQ.evalH ?_; simp [aRes, aBad, act0, Action.enc, oxm0, wideZ, uI_zero, aFault, aKnown, bne, *])
       | (refine RunQ.call rfl rfl rfl rfl rfl ?_ (hr) ?_ ?_; (focus (simp (maxDischargeDepth := 120) [aRes, aBad, act0, Action.enc, oxm0, wideZ, uI_zero, aFault, aKnown, bne, *]; done)); (focus (simp [aRes, aBad, act0, Action.enc, oxm0, wideZ, uI_zero, aFault, aKnown, bne, *]; done)); refine RunQ.evalH ?_; simp [aRes, aBad, act0, Action.enc, oxm0, wideZ, uI_zero, aFault, aKnown, bne, *])
       | (refine RunQW.call rfl rfl rfl rfl ?_ (hz) ?_ ?_; (focus (simp (maxDischargeDepth := 120) [aRes, aBad, act0, Action.enc, oxm0, wideZ, uI_zero, aFault, aKnown, bne, *]; done)); (focus (simp [aRes, aBad, act0, Action.enc, oxm0, wideZ, uI_zero, aFault, aKnown, bne, *]; done)); refine RunQ.evalH ?_; simp [aRes, aBad, act0, Action.enc, oxm0, wideZ, uI_zero, aFault, aKnown, bne, *])
       | (refine WK.ret Tryz.func134 ?_ ?_ <;> simp (maxDischargeDepth := 120) [Tryz.results134, aRes, aBad, act0, Action.enc, oxm0, wideZ, uI_zero, aFault, aKnown, bne, aOf, *])
       | fail)
  have d0 : ((k : Int) == 0) = false := by rw [beq_eq_false_iff_ne]; omega
  have d0' : ¬ (k : Int) = 0 := by omega
  have z8 : ((n : Int) == 8) = (n == 8) := by rw [Bool.eq_iff_iff, beq_iff_eq, beq_iff_eq]; omega
  by_cases hw : (aLength (k : Int)).1 = 8
  case neg =>
    have hkk : ¬ k = 22 ∧ ¬ k = 17 ∧ ¬ k = 18 := by
      refine ⟨?_, ?_, ?_⟩ <;> (intro h; subst h; exact hw rfl)
    have hw0 : (aLength (k : Int)).1 = 0 := by
      unfold aLength; rw [if_neg (by omega), if_neg (by omega), if_neg (by omega), if_neg (by omega)]
    have hkn : aKnown k = false := by
      unfold aKnown
      have e1 : ((k : Int) == 22) = false := by rw [beq_eq_false_iff_ne]; omega
      have e2 : ((k : Int) == 17) = false := by rw [beq_eq_false_iff_ne]; omega
      have e3 : ((k : Int) == 18) = false := by rw [beq_eq_false_iff_ne]; omega
      rw [d0, e1, e2, e3, d5]; rfl
    rw [if_pos hw0] at hdef
    rw [hkn] at kn
    clear hge hdt hs hw hw0
    unfold byS at *
    refine FnP.intro Tryz.func134 rfl rfl fun G w => ?_
    repeat' (first
     | refine WK.seq ?_
     | refine WK.skip ?_
     | refine WK.condT rfl ?_
     | refine WK.condF rfl ?_
     | (refine Hid.h hQ _ _ ?_; clear hQ hA)
     | (refine WK.regH Tryz.ntmps134 (by kernel_rfl) ?_; intro A hA Q hQ; simp [aRes, aBad, act0, Action.enc, oxm0, wideZ, uI_zero, aFault, bne, *])
     | (refine RunQ.gd rfl (by rw [hA.h]; rfl) ?_; simp [aRes, aBad, act0, Action.enc, oxm0, wideZ, uI_zero, aFault, bne, *])
     | (refine RunQ.call rfl rfl rfl rfl rfl ?_ (g1) ?_ ?_; (focus (simp (maxDischargeDepth := 120) [aRes, aBad, act0, Action.enc, oxm0, wideZ, uI_zero, aFault, bne, *]; done)); (focus (simp [aRes, aBad, act0, Action.enc, oxm0, wideZ, uI_zero, aFault, bne, *]; done)); refine RunQ.evalH ?_; simp [aRes, aBad, act0, Action.enc, oxm0, wideZ, uI_zero, aFault, bne, *])
     | (refine RunQ.call rfl rfl rfl rfl rfl ?_ (g2) ?_ ?_; (focus (simp (maxDischargeDepth := 120) [aRes, aBad, act0, Action.enc, oxm0, wideZ, uI_zero, aFault, bne, *]; done)); (focus (simp [aRes, aBad, act0, Action.enc, oxm0, wideZ, uI_zero, aFault, bne, *]; done)); refine RunQ.evalH ?_; simp [aRes, aBad, act0, Action.enc, oxm0, wideZ, uI_zero, aFault, bne, *])
     | (refine RunQ.call rfl rfl rfl rfl rfl ?_ (kn) ?_ ?_; (focus (simp (maxDischargeDepth := 120) [aRes, aBad, act0, Action.enc, oxm0, wideZ, uI_zero, aFault, bne, *]; done)); (focus (simp [aRes, aBad, act0, Action.enc, oxm0, wideZ, uI_zero, aFault, bne, *]; done)); refine RunQ.evalH ?_; simp [aRes, aBad, act0, Action.enc, oxm0, wideZ, uI_zero, aFault, bne, *])
     | (refine RunQ.call rfl rfl rfl rfl rfl ?_ (b0) ?_ ?_; (focus (simp (maxDischargeDepth := 120) [aRes, aBad, act0, Action.enc, oxm0, wideZ, uI_zero, aFault, bne, *]; done)); (focus (simp [aRes, aBad, act0, Action.enc, oxm0, wideZ, uI_zero, aFault, bne, *]; done)); refine RunQ.evalH ?_; simp [aRes, aBad, act0, Action.enc, oxm0, wideZ, uI_zero, aFault, bne, *])
     | (refine WK.ret Tryz.func134 ?_ ?_ <;> simp (maxDischargeDepth := 120) [Tryz.results134, aRes, aBad, act0, Action.enc, oxm0, wideZ, uI_zero, aFault, bne, *])
     | fail)
  have hkk : k = 22 ∨ k = 17 ∨ k = 18 := by
    unfold aLength at hw
    rw [if_neg (by omega)] at hw
    split at hw
    · omega
    split at hw
    · omega
    split at hw
    · omega
    · cases hw
  rw [hw, if_neg (by decide)] at hdef
  by_cases k1 : n = 8
  case neg =>
    rw [if_pos k1] at hdef
    have z8b : (n == 8) = false := by simpa using k1
    rw [z8b] at z8
    have hkn : aKnown k = true := by rcases hkk with rfl | rfl | rfl <;> rfl
    rw [hkn] at kn
    clear k1 hge hdt hs hw hkk
    unfold byS at *
    refine FnP.intro Tryz.func134 rfl rfl fun G w => ?_
    repeat' (first
     | refine WK.seq ?_
     | refine WK.skip ?_
     | refine WK.condT rfl ?_
     | refine WK.condF rfl ?_
     | (refine Hid.h hQ _ _ ?_; clear hQ hA)
     | (refine WK.regH Tryz.ntmps134 (by kernel_rfl) ?_; intro A hA Q hQ; simp [aRes, aBad, act0, Action.enc, oxm0, wideZ, uI_zero, aFault, bne, *])
     | (refine RunQ.gd rfl (by rw [hA.h]; rfl) ?_; simp [aRes, aBad, act0, Action.enc, oxm0, wideZ, uI_zero, aFault, bne, *])
     | (refine RunQ.call rfl rfl rfl rfl rfl ?_ (g1) ?_ ?_; (focus (simp (maxDischargeDepth := 120) [aRes, aBad, act0, Action.enc, oxm0, wideZ, uI_zero, aFault, bne, *]; done)); (focus (simp [aRes, aBad, act0, Action.enc, oxm0, wideZ, uI_zero, aFault, bne, *]; done)); refine RunQ.evalH ?_; simp [aRes, aBad, act0, Action.enc, oxm0, wideZ, uI_zero, aFault, bne, *])
     | (refine RunQ.call rfl rfl rfl rfl rfl ?_ (g2) ?_ ?_; (focus (simp (maxDischargeDepth := 120) [aRes, aBad, act0, Action.enc, oxm0, wideZ, uI_zero, aFault, bne, *]; done)); (focus (simp [aRes, aBad, act0, Action.enc, oxm0, wideZ, uI_zero, aFault, bne, *]; done)); refine RunQ.evalH ?_; simp [aRes, aBad, act0, Action.enc, oxm0, wideZ, uI_zero, aFault, bne, *])
     | (refine RunQ.call rfl rfl rfl rfl rfl ?_ (kn) ?_ ?_; (focus (simp (maxDischargeDepth := 120) [aRes, aBad, act0, Action.enc, oxm0, wideZ, uI_zero, aFault, bne, *]; done)); (focus (simp [aRes, aBad, act0, Action.enc, oxm0, wideZ, uI_zero, aFault, bne, *]; done)); refine RunQ.evalH ?_; simp [aRes, aBad, act0, Action.enc, oxm0, wideZ, uI_zero, aFault, bne, *])
     | (refine RunQ.call rfl rfl rfl rfl rfl ?_ (b1) ?_ ?_; (focus (simp (maxDischargeDepth := 120) [aRes, aBad, act0, Action.enc, oxm0, wideZ, uI_zero, aFault, bne, *]; done)); (focus (simp [aRes, aBad, act0, Action.enc, oxm0, wideZ, uI_zero, aFault, bne, *]; done)); refine RunQ.evalH ?_; simp [aRes, aBad, act0, Action.enc, oxm0, wideZ, uI_zero, aFault, bne, *])
     | (refine WK.ret Tryz.func134 ?_ ?_ <;> simp (maxDischargeDepth := 120) [Tryz.results134, aRes, aBad, act0, Action.enc, oxm0, wideZ, uI_zero, aFault, bne, *])
     | fail)
  subst k1
  rw [if_neg (by simp)] at hdef
  have e3 := hge 4 4 (by omega) hnb
  have e5 := hge 4 2 (by omega) hnb
  rw [e3] at g3
  rw [e5] at g5
  have hr := raright_c (aOf k B)
  obtain ⟨q, hre⟩ : ∃ q, Action.right (aOf k B) = q := ⟨_, rfl⟩
  rw [hre] at hr
  have hgn := getN_nonneg B 4 4
  have s6 := hdt 6 8 rfl
  have s4 := hdt 4 8 rfl
  have hz6 := rnoughts_c (B.drop 6) (by rw [List.length_drop]; omega)
  have hz4 := rnoughts_c (B.drop 4) (by rw [List.length_drop]; omega)
  unfold byS at *
  rw [List.length_drop, hBl] at hz4 hz6
  clear hge hdt hs hw e3 e5 hB z8
  have j8b : (8 : Int) ≤ b.length := by omega
  rcases hkk with rfl | rfl | rfl
  · have hz8 : allZ (B.drop 8) = true := by rw [List.drop_of_length_le (by omega)]; rfl
    have hrg : q = decide ((getN B 4 4).1 ≤ 4294967040) := by rw [← hre]; exact aright_group hgn
    have e : aDec b = if q = true then (aOf 22 B, (B.length : Int), none) else aBad 9 := by
      rw [hdef]
      show (if allZ (B.drop 8) = true then aPlain 22 B else aBad 5) = _
      have hre' : Action.right (aOf 22 B) = q := hre
      rw [hz8, if_pos rfl]; unfold aPlain; rw [if_neg (by simp), hre']; rfl
    simp only [aOf, if_neg k0, if_pos rfl, Action.enc, oxm0, wideZ, uI_zero] at hr
    clear hdef hre hz6 hz4 s6 s4 hz8
    refine FnP.intro Tryz.func134 rfl rfl fun G w => ?_
    cases q
    · have hgt : 4294967040 < (getN B 4 4).1 := by have := of_decide_eq_false hrg.symm; omega
      clear hrg
      repeat' (first
       | refine WK.seq ?_
       | refine WK.block ?_
       | refine WK.skip ?_
       | refine WK.condT rfl ?_
       | refine WK.condF rfl ?_
       | (refine Hid.h hQ _ _ ?_; clear hQ hA)
       | (refine WK.regH Tryz.ntmps134 (by kernel_rfl) ?_; intro A hA Q hQ; simp [aRes, aBad, act0, Action.enc, oxm0, wideZ, uI_zero, aFault, aKnown, bne, *])
       | (refine RunQ.gd rfl (by rw [hA.h]; rfl) ?_; simp [aRes, aBad, act0, Action.enc, oxm0, wideZ, uI_zero, aFault, aKnown, bne, *])
       | (refine RunQ.call rfl rfl rfl rfl rfl ?_ (g1) ?_ ?_; (focus (simp (maxDischargeDepth := 120) [aRes, aBad, act0, Action.enc, oxm0, wideZ, uI_zero, aFault, aKnown, bne, *]; done)); (focus (simp [aRes, aBad, act0, Action.enc, oxm0, wideZ, uI_zero, aFault, aKnown, bne, *]; done)); refine RunQ.evalH ?_; simp [aRes, aBad, act0, Action.enc, oxm0, wideZ, uI_zero, aFault, aKnown, bne, *])
       | (refine RunQ.call rfl rfl rfl rfl rfl ?_ (g2) ?_ ?_; (focus (simp (maxDischargeDepth := 120) [aRes, aBad, act0, Action.enc, oxm0, wideZ, uI_zero, aFault, aKnown, bne, *]; done)); (focus (simp [aRes, aBad, act0, Action.enc, oxm0, wideZ, uI_zero, aFault, aKnown, bne, *]; done)); refine RunQ.evalH ?_; simp [aRes, aBad, act0, Action.enc, oxm0, wideZ, uI_zero, aFault, aKnown, bne, *])
       | (refine RunQ.call rfl rfl rfl rfl rfl ?_ (kn) ?_ ?_; (focus (simp (maxDischargeDepth := 120) [aRes, aBad, act0, Action.enc, oxm0, wideZ, uI_zero, aFault, aKnown, bne, *]; done)); (focus (simp [aRes, aBad, act0, Action.enc, oxm0, wideZ, uI_zero, aFault, aKnown, bne, *]; done)); refine RunQ.evalH ?_; simp [aRes, aBad, act0, Action.enc, oxm0, wideZ, uI_zero, aFault, aKnown, bne, *])
       | (refine RunQ.call rfl rfl rfl rfl rfl ?_ (g3) ?_ ?_; (focus (simp (maxDischargeDepth := 120) [aRes, aBad, act0, Action.enc, oxm0, wideZ, uI_zero, aFault, aKnown, bne, *]; done)); (focus (simp [aRes, aBad, act0, Action.enc, oxm0, wideZ, uI_zero, aFault, aKnown, bne, *]; done)); refine RunQ.evalH ?_; simp [aRes, aBad, act0, Action.enc, oxm0, wideZ, uI_zero, aFault, aKnown, bne, *])
       | (refine RunQ.call rfl rfl rfl rfl rfl ?_ (b9) ?_ ?_; (focus (simp (maxDischargeDepth := 120) [aRes, aBad, act0, Action.enc, oxm0, wideZ, uI_zero, aFault, aKnown, bne, *]; done)); (focus (simp [aRes, aBad, act0, Action.enc, oxm0, wideZ, uI_zero, aFault, aKnown, bne, *]; done)); refine RunQ.evalH ?_; simp [aRes, aBad, act0, Action.enc, oxm0, wideZ, uI_zero, aFault, aKnown, bne, *])
       | (refine WK.ret Tryz.func134 ?_ ?_ <;> simp (maxDischargeDepth := 120) [Tryz.results134, aRes, aBad, act0, Action.enc, oxm0, wideZ, uI_zero, aFault, aKnown, bne, *])
       | fail)
    · have hgt : ¬ 4294967040 < (getN B 4 4).1 := by have := of_decide_eq_true hrg.symm; omega
      clear hrg
      repeat' (first
       | refine WK.seq ?_
       | refine WK.block ?_
       | refine WK.inBlock ?_
       | refine WK.skip ?_
       | refine WK.condT rfl ?_
       | refine WK.condF rfl ?_
       | (refine Hid.h hQ _ _ ?_; clear hQ hA)
       | (refine WK.regH Tryz.ntmps134 (by kernel_rfl) ?_; intro A hA Q hQ; simp [aRes, aBad, act0, Action.enc, oxm0, wideZ, uI_zero, aFault, aKnown, bne, *])
       | (refine RunQ.gd rfl (by rw [hA.h]; rfl) ?_; simp [aRes, aBad, act0, Action.enc, oxm0, wideZ, uI_zero, aFault, aKnown, bne, *])
       | (refine RunQ.call rfl rfl rfl rfl rfl ?_ (g1) ?_ ?_; (focus (simp (maxDischargeDepth := 120) [aRes, aBad, act0, Action.enc, oxm0, wideZ, uI_zero, aFault, aKnown, bne, *]; done)); (focus (simp [aRes, aBad, act0, Action.enc, oxm0, wideZ, uI_zero, aFault, aKnown, bne, *]; done)); refine RunQ.evalH ?_; simp [aRes, aBad, act0, Action.enc, oxm0, wideZ, uI_zero, aFault, aKnown, bne, *])
       | (refine RunQ.call rfl rfl rfl rfl rfl ?_ (g2) ?_ ?_; (focus (simp (maxDischargeDepth := 120) [aRes, aBad, act0, Action.enc, oxm0, wideZ, uI_zero, aFault, aKnown, bne, *]; done)); (focus (simp [aRes, aBad, act0, Action.enc, oxm0, wideZ, uI_zero, aFault, aKnown, bne, *]; done)); refine RunQ.evalH ?_; simp [aRes, aBad, act0, Action.enc, oxm0, wideZ, uI_zero, aFault, aKnown, bne, *])
       | (refine RunQ.call rfl rfl rfl rfl rfl ?_ (kn) ?_ ?_; (focus (simp (maxDischargeDepth := 120) [aRes, aBad, act0, Action.enc, oxm0, wideZ, uI_zero, aFault, aKnown, bne, *]; done)); (focus (simp [aRes, aBad, act0, Action.enc, oxm0, wideZ, uI_zero, aFault, aKnown, bne, *]; done)); refine RunQ.evalH ?_; simp [aRes, aBad, act0, Action.enc, oxm0, wideZ, uI_zero, aFault, aKnown, bne, *])
       | (refine RunQ.call rfl rfl rfl rfl rfl ?_ (g3) ?_ ?_; (focus (simp (maxDischargeDepth := 120) [aRes, aBad, act0, Action.enc, oxm0, wideZ, uI_zero, aFault, aKnown, bne, *]; done)); (focus (simp [aRes, aBad, act0, Action.enc, oxm0, wideZ, uI_zero, aFault, aKnown, bne, *]; done)); refine RunQ.evalH ?_; simp [aRes, aBad, act0, Action.enc, oxm0, wideZ, uI_zero, aFault, aKnown, bne, *])
       | (refine RunQ.call rfl rfl rfl rfl rfl ?_ (hr) ?_ ?_; (focus (simp (maxDischargeDepth := 120) [aRes, aBad, act0, Action.enc, oxm0, wideZ, uI_zero, aFault, aKnown, bne, *]; done)); (focus (simp [aRes, aBad, act0, Action.enc, oxm0, wideZ, uI_zero, aFault, aKnown, bne, *]; done)); refine RunQ.evalH ?_; simp [aRes, aBad, act0, Action.enc, oxm0, wideZ, uI_zero, aFault, aKnown, bne, *])
       | (refine WK.ret Tryz.func134 ?_ ?_ <;> simp (maxDischargeDepth := 120) [Tryz.results134, aRes, aBad, act0, Action.enc, oxm0, wideZ, uI_zero, aFault, aKnown, bne, aOf, *])
       | fail)
  · have e : aDec b = if allZ (B.drop 6) = true then (if q = true then (aOf 17 B, (B.length : Int), none) else aBad 5) else aBad 5 := by
      rw [hdef]
      have hre' : Action.right (aOf 17 B) = q := hre
      have hpl : aPlain 17 B = if q = true then (aOf 17 B, (B.length : Int), none) else aBad 5 := by unfold aPlain; rw [if_neg (by simp), hre']; rfl
      show (if allZ (B.drop 6) = true then aPlain 17 B else aBad 5) = _
      rw [hpl]
    simp only [aOf, if_neg k0, if_neg (show ¬ ((17 : Nat) : Int) = 22 by decide), if_pos rfl, Action.enc, oxm0, wideZ, uI_zero] at hr
    obtain ⟨E6, hE6⟩ : ∃ E6, B.drop 6 = E6 := ⟨_, rfl⟩
    rw [hE6] at hz6 s6 e
    clear hdef hre hz4 s4 hE6
    refine FnP.intro Tryz.func134 rfl rfl fun G w => ?_
    cases kz : allZ E6
    · rw [kz, if_neg Bool.false_ne_true] at e
      repeat' (first
       | refine WK.seq ?_
       | refine WK.block ?_
       | refine WK.skip ?_
       | refine WK.condT rfl ?_
       | refine WK.condF rfl ?_
       | (refine Hid.h hQ _ _ ?_; clear hQ hA)
       | (refine WK.regH Tryz.ntmps134 (by kernel_rfl) ?_; intro A hA Q hQ; simp [aRes, aBad, act0, Action.enc, oxm0, wideZ, uI_zero, aFault, aKnown, bne, *])
       | (refine RunQ.gd rfl (by rw [hA.h]; rfl) ?_; simp [aRes, aBad, act0, Action.enc, oxm0, wideZ, uI_zero, aFault, aKnown, bne, *])
       | (refine RunQ.call rfl rfl rfl rfl rfl ?_ (g1) ?_ ?_; (focus (simp (maxDischargeDepth := 120) [aRes, aBad, act0, Action.enc, oxm0, wideZ, uI_zero, aFault, aKnown, bne, *]; done)); (focus (simp [aRes, aBad, act0, Action.enc, oxm0, wideZ, uI_zero, aFault, aKnown, bne, *]; done)); refine RunQ.evalH ?_; simp [aRes, aBad, act0, Action.enc, oxm0, wideZ, uI_zero, aFault, aKnown, bne, *])
       | (refine RunQ.call rfl rfl rfl rfl rfl ?_ (g2) ?_ ?_; (focus (simp (maxDischargeDepth := 120) [aRes, aBad, act0, Action.enc, oxm0, wideZ, uI_zero, aFault, aKnown, bne, *]; done)); (focus (simp [aRes, aBad, act0, Action.enc, oxm0, wideZ, uI_zero, aFault, aKnown, bne, *]; done)); refine RunQ.evalH ?_; simp [aRes, aBad, act0, Action.enc, oxm0, wideZ, uI_zero, aFault, aKnown, bne, *])
       | (refine RunQ.call rfl rfl rfl rfl rfl ?_ (kn) ?_ ?_; (focus (simp (maxDischargeDepth := 120) [aRes, aBad, act0, Action.enc, oxm0, wideZ, uI_zero, aFault, aKnown, bne, *]; done)); (focus (simp [aRes, aBad, act0, Action.enc, oxm0, wideZ, uI_zero, aFault, aKnown, bne, *]; done)); refine RunQ.evalH ?_; simp [aRes, aBad, act0, Action.enc, oxm0, wideZ, uI_zero, aFault, aKnown, bne, *])
       | (refine RunQ.call rfl rfl rfl rfl rfl ?_ (b5) ?_ ?_; (focus (simp (maxDischargeDepth := 120) [aRes, aBad, act0, Action.enc, oxm0, wideZ, uI_zero, aFault, aKnown, bne, *]; done)); (focus (simp [aRes, aBad, act0, Action.enc, oxm0, wideZ, uI_zero, aFault, aKnown, bne, *]; done)); refine RunQ.evalH ?_; simp [aRes, aBad, act0, Action.enc, oxm0, wideZ, uI_zero, aFault, aKnown, bne, *])
       | (refine RunQW.call rfl rfl rfl rfl ?_ (hz6) ?_ ?_; (focus (simp (maxDischargeDepth := 120) [aRes, aBad, act0, Action.enc, oxm0, wideZ, uI_zero, aFault, aKnown, bne, *]; done)); (focus (simp [aRes, aBad, act0, Action.enc, oxm0, wideZ, uI_zero, aFault, aKnown, bne, *]; done)); refine RunQ.evalH ?_; simp [aRes, aBad, act0, Action.enc, oxm0, wideZ, uI_zero, aFault, aKnown, bne, *])
       | (refine WK.ret Tryz.func134 ?_ ?_ <;> simp (maxDischargeDepth := 120) [Tryz.results134, aRes, aBad, act0, Action.enc, oxm0, wideZ, uI_zero, aFault, aKnown, bne, *])
       | fail)
    rw [kz, if_pos rfl] at e
    cases q
    · repeat' (first
       | refine WK.seq ?_
       | refine WK.block ?_
       | refine WK.inBlock ?_
       | refine WK.skip ?_
       | refine WK.condT rfl ?_
       | refine WK.condF rfl ?_
       | (refine Hid.h hQ _ _ ?_; clear hQ hA)
       | (refine WK.regH Tryz.ntmps134 (by kernel_rfl) ?_; intro A hA Q hQ; simp [aRes, aBad, act0, Action.enc, oxm0, wideZ, uI_zero, aFault, aKnown, bne, *])
       | (refine RunQ.gd rfl (by rw [hA.h]; rfl) ?_; simp [aRes, aBad, act0, Action.enc, oxm0, wideZ, uI_zero, aFault, aKnown, bne, *])
       | (refine RunQ.call rfl rfl rfl rfl rfl ?_ (g1) ?_ ?_; (focus (simp (maxDischargeDepth := 120) [aRes, aBad, act0, Action.enc, oxm0, wideZ, uI_zero, aFault, aKnown, bne, *]; done)); (focus (simp [aRes, aBad, act0, Action.enc, oxm0, wideZ, uI_zero, aFault, aKnown, bne, *]; done)); refine RunQ.evalH ?_; simp [aRes, aBad, act0, Action.enc, oxm0, wideZ, uI_zero, aFault, aKnown, bne, *])
       | (refine RunQ.call rfl rfl rfl rfl rfl ?_ (g2) ?_ ?_; (focus (simp (maxDischargeDepth := 120) [aRes, aBad, act0, Action.enc, oxm0, wideZ, uI_zero, aFault, aKnown, bne, *]; done)); (focus (simp [aRes, aBad, act0, Action.enc, oxm0, wideZ, uI_zero, aFault, aKnown, bne, *]; done)); refine RunQ.evalH ?_; simp [aRes, aBad, act0, Action.enc, oxm0, wideZ, uI_zero, aFault, aKnown, bne, *])
       | (refine RunQ.call rfl rfl rfl rfl rfl ?_ (kn) ?_ ?_; (focus (simp (maxDischargeDepth := 120) [aRes, aBad, act0, Action.enc, oxm0, wideZ, uI_zero, aFault, aKnown, bne, *]; done)); (focus (simp [aRes, aBad, act0, Action.enc, oxm0, wideZ, uI_zero, aFault, aKnown, bne, *]; done)); refine RunQ.evalH ?_; simp [aRes, aBad, act0, Action.enc, oxm0, wideZ, uI_zero, aFault, aKnown, bne, *])
       | (refine RunQ.call rfl rfl rfl rfl rfl ?_ (g5) ?_ ?_; (focus (simp (maxDischargeDepth := 120) [aRes, aBad, act0, Action.enc, oxm0, wideZ, uI_zero, aFault, aKnown, bne, *]; done)); (focus (simp [aRes, aBad, act0, Action.enc, oxm0, wideZ, uI_zero, aFault, aKnown, bne, *]; done)); refine RunQ.evalH ?_; simp [aRes, aBad, act0, Action.enc, oxm0, wideZ, uI_zero, aFault, aKnown, bne, *])
       | (refine RunQ.call rfl rfl rfl rfl rfl ?_ (hr) ?_ ?_; (focus (simp (maxDischargeDepth := 120) [aRes, aBad, act0, Action.enc, oxm0, wideZ, uI_zero, aFault, aKnown, bne, *]; done)); (focus (simp [aRes, aBad, act0, Action.enc, oxm0, wideZ, uI_zero, aFault, aKnown, bne, *]; done)); refine RunQ.evalH ?_; simp [aRes, aBad, act0, Action.enc, oxm0, wideZ, uI_zero, aFault, aKnown, bne, *])
       | (refine RunQ.call rfl rfl rfl rfl rfl ?_ (b5) ?_ ?_; (focus (simp (maxDischargeDepth := 120) [aRes, aBad, act0, Action.enc, oxm0, wideZ, uI_zero, aFault, aKnown, bne, *]; done)); (focus (simp [aRes, aBad, act0, Action.enc, oxm0, wideZ, uI_zero, aFault, aKnown, bne, *]; done)); refine RunQ.evalH ?_; simp [aRes, aBad, act0, Action.enc, oxm0, wideZ, uI_zero, aFault, aKnown, bne, *])
       | (refine RunQW.call rfl rfl rfl rfl ?_ (hz6) ?_ ?_; (focus (simp (maxDischargeDepth := 120) [aRes, aBad, act0, Action.enc, oxm0, wideZ, uI_zero, aFault, aKnown, bne, *]; done)); (focus (simp [aRes, aBad, act0, Action.enc, oxm0, wideZ, uI_zero, aFault, aKnown, bne, *]; done)); refine RunQ.evalH ?_; simp [aRes, aBad, act0, Action.enc, oxm0, wideZ, uI_zero, aFault, aKnown, bne, *])
       | (refine WK.ret Tryz.func134 ?_ ?_ <;> simp (maxDischargeDepth := 120) [Tryz.results134, aRes, aBad, act0, Action.enc, oxm0, wideZ, uI_zero, aFault, aKnown, bne, *])
       | fail)
    · repeat' (first
       | refine WK.seq ?_
       | refine WK.block ?_
       | refine WK.inBlock ?_
       | refine WK.skip ?_
       | refine WK.condT rfl ?_
       | refine WK.condF rfl ?_
       | (refine Hid.h hQ _ _ ?_; clear hQ hA)
       | (refine WK.regH Tryz.ntmps134 (by kernel_rfl) ?_; intro A hA Q hQ; simp [aRes, aBad, act0, Action.enc, oxm0, wideZ, uI_zero, aFault, aKnown, bne, *])
       | (refine RunQ.gd rfl (by rw [hA.h]; rfl) ?_; simp [aRes, aBad, act0, Action.enc, oxm0, wideZ, uI_zero, aFault, aKnown, bne, *])
       | (refine RunQ.call rfl rfl rfl rfl rfl ?_ (g1) ?_ ?_; (focus (simp (maxDischargeDepth := 120) [aRes, aBad, act0, Action.enc, oxm0, wideZ, uI_zero, aFault, aKnown, bne, *]; done)); (focus (simp [aRes, aBad, act0, Action.enc, oxm0, wideZ, uI_zero, aFault, aKnown, bne, *]; done)); refine RunQ.evalH ?_; simp [aRes, aBad, act0, Action.enc, oxm0, wideZ, uI_zero, aFault, aKnown, bne, *])
       | (refine RunQ.call rfl rfl rfl rfl rfl ?_ (g2) ?_ ?_; (focus (simp (maxDischargeDepth := 120) [aRes, aBad, act0, Action.enc, oxm0, wideZ, uI_zero, aFault, aKnown, bne, *]; done)); (focus (simp [aRes, aBad, act0, Action.enc, oxm0, wideZ, uI_zero, aFault, aKnown, bne, *]; done)); refine RunQ.evalH ?_; simp [aRes, aBad, act0, Action.enc, oxm0, wideZ, uI_zero, aFault, aKnown, bne, *])
       | (refine RunQ.call rfl rfl rfl rfl rfl ?_ (kn) ?_ ?_; (focus (simp (maxDischargeDepth := 120) [aRes, aBad, act0, Action.enc, oxm0, wideZ, uI_zero, aFault, aKnown, bne, *]; done)); (focus (simp [aRes, aBad, act0, Action.enc, oxm0, wideZ, uI_zero, aFault, aKnown, bne, *]; done)); refine RunQ.evalH ?_; simp [aRes, aBad, act0, Action.enc, oxm0, wideZ, uI_zero, aFault, aKnown, bne, *])
       | (refine RunQ.call rfl rfl rfl rfl rfl ?_ (g5) ?_ ?_; (focus (simp (maxDischargeDepth := 120) [aRes, aBad, act0, Action.enc, oxm0, wideZ, uI_zero, aFault, aKnown, bne, *]; done)); (focus (simp [aRes, aBad, act0, Action.enc, oxm0, wideZ, uI_zero, aFault, aKnown, bne, *]; done)); refine RunQ.evalH ?_; simp [aRes, aBad, act0, Action.enc, oxm0, wideZ, uI_zero, aFault, aKnown, bne, *])
       | (refine RunQ.call rfl rfl rfl rfl rfl ?_ (hr) ?_ ?_; (focus (simp (maxDischargeDepth := 120) [aRes, aBad, act0, Action.enc, oxm0, wideZ, uI_zero, aFault, aKnown, bne, *]; done)); (focus (simp [aRes, aBad, act0, Action.enc, oxm0, wideZ, uI_zero, aFault, aKnown, bne, *]; done)); refine RunQ.evalH ?_; simp [aRes, aBad, act0, Action.enc, oxm0, wideZ, uI_zero, aFault, aKnown, bne, *])
       | (refine RunQW.call rfl rfl rfl rfl ?_ (hz6) ?_ ?_; (focus (simp (maxDischargeDepth := 120) [aRes, aBad, act0, Action.enc, oxm0, wideZ, uI_zero, aFault, aKnown, bne, *]; done)); (focus (simp [aRes, aBad, act0, Action.enc, oxm0, wideZ, uI_zero, aFault, aKnown, bne, *]; done)); refine RunQ.evalH ?_; simp [aRes, aBad, act0, Action.enc, oxm0, wideZ, uI_zero, aFault, aKnown, bne, *])
       | (refine WK.ret Tryz.func134 ?_ ?_ <;> simp (maxDischargeDepth := 120) [Tryz.results134, aRes, aBad, act0, Action.enc, oxm0, wideZ, uI_zero, aFault, aKnown, bne, aOf, *])
       | fail)
  · have e : aDec b = if allZ (B.drop 4) = true then (if q = true then (aOf 18 B, (B.length : Int), none) else aBad 5) else aBad 5 := by
      rw [hdef]
      have hre' : Action.right (aOf 18 B) = q := hre
      have hpl : aPlain 18 B = if q = true then (aOf 18 B, (B.length : Int), none) else aBad 5 := by unfold aPlain; rw [if_neg (by simp), hre']; rfl
      show (if allZ (B.drop 4) = true then aPlain 18 B else aBad 5) = _
      rw [hpl]
    simp only [aOf, if_neg k0, if_neg (show ¬ ((18 : Nat) : Int) = 22 by decide), if_neg (show ¬ ((18 : Nat) : Int) = 17 by decide), Action.enc, oxm0, wideZ, uI_zero] at hr
    obtain ⟨E6, hE6⟩ : ∃ E6, B.drop 4 = E6 := ⟨_, rfl⟩
    rw [hE6] at hz4 s4 e
    clear hdef hre hz6 s6 hE6
    refine FnP.intro Tryz.func134 rfl rfl fun G w => ?_
    cases kz : allZ E6
    · rw [kz, if_neg Bool.false_ne_true] at e
      repeat' (first
       | refine WK.seq ?_
       | refine WK.block ?_
       | refine WK.skip ?_
       | refine WK.condT rfl ?_
       | refine WK.condF rfl ?_
       | (refine Hid.h hQ _ _ ?_; clear hQ hA)
       | (refine WK.regH Tryz.ntmps134 (by kernel_rfl) ?_; intro A hA Q hQ; simp [aRes, aBad, act0, Action.enc, oxm0, wideZ, uI_zero, aFault, aKnown, bne, *])
       | (refine RunQ.gd rfl (by rw [hA.h]; rfl) ?_; simp [aRes, aBad, act0, Action.enc, oxm0, wideZ, uI_zero, aFault, aKnown, bne, *])
       | (refine RunQ.call rfl rfl rfl rfl rfl ?_ (g1) ?_ ?_; (focus (simp (maxDischargeDepth := 120) [aRes, aBad, act0, Action.enc, oxm0, wideZ, uI_zero, aFault, aKnown, bne, *]; done)); (focus (simp [aRes, aBad, act0, Action.enc, oxm0, wideZ, uI_zero, aFault, aKnown, bne, *]; done)); refine RunQ.evalH ?_; simp [aRes, aBad, act0, Action.enc, oxm0, wideZ, uI_zero, aFault, aKnown, bne, *])
       | (refine RunQ.call rfl rfl rfl rfl rfl ?_ (g2) ?_ ?_; (focus (simp (maxDischargeDepth := 120) [aRes, aBad, act0, Action.enc, oxm0, wideZ, uI_zero, aFault, aKnown, bne, *]; done)); (focus (simp [aRes, aBad, act0, Action.enc, oxm0, wideZ, uI_zero, aFault, aKnown, bne, *]; done)); refine RunQ.evalH ?_; simp [aRes, aBad, act0, Action.enc, oxm0, wideZ, uI_zero, aFault, aKnown, bne, *])
       | (refine RunQ.call rfl rfl rfl rfl rfl ?_ (kn) ?_ ?_; (focus (simp (maxDischargeDepth := 120) [aRes, aBad, act0, Action.enc, oxm0, wideZ, uI_zero, aFault, aKnown, bne, *]; done)); (focus (simp [aRes, aBad, act0, Action.enc, oxm0, wideZ, uI_zero, aFault, aKnown, bne, *]; done)); refine RunQ.evalH ?_; simp [aRes, aBad, act0, Action.enc, oxm0, wideZ, uI_zero, aFault, aKnown, bne, *])
       | (refine RunQ.call rfl rfl rfl rfl rfl ?_ (b5) ?_ ?_; (focus (simp (maxDischargeDepth := 120) [aRes, aBad, act0, Action.enc, oxm0, wideZ, uI_zero, aFault, aKnown, bne, *]; done)); (focus (simp [aRes, aBad, act0, Action.enc, oxm0, wideZ, uI_zero, aFault, aKnown, bne, *]; done)); refine RunQ.evalH ?_; simp [aRes, aBad, act0, Action.enc, oxm0, wideZ, uI_zero, aFault, aKnown, bne, *])
       | (refine RunQW.call rfl rfl rfl rfl ?_ (hz4) ?_ ?_; (focus (simp (maxDischargeDepth := 120) [aRes, aBad, act0, Action.enc, oxm0, wideZ, uI_zero, aFault, aKnown, bne, *]; done)); (focus (simp [aRes, aBad, act0, Action.enc, oxm0, wideZ, uI_zero, aFault, aKnown, bne, *]; done)); refine RunQ.evalH ?_; simp [aRes, aBad, act0, Action.enc, oxm0, wideZ, uI_zero, aFault, aKnown, bne, *])
       | (refine WK.ret Tryz.func134 ?_ ?_ <;> simp (maxDischargeDepth := 120) [Tryz.results134, aRes, aBad, act0, Action.enc, oxm0, wideZ, uI_zero, aFault, aKnown, bne, *])
       | fail)
    rw [kz, if_pos rfl] at e
    cases q
    · repeat' (first
       | refine WK.seq ?_
       | refine WK.block ?_
       | refine WK.inBlock ?_
       | refine WK.skip ?_
       | refine WK.condT rfl ?_
       | refine WK.condF rfl ?_
       | (refine Hid.h hQ _ _ ?_; clear hQ hA)
       | (refine WK.regH Tryz.ntmps134 (by kernel_rfl) ?_; intro A hA Q hQ; simp [aRes, aBad, act0, Action.enc, oxm0, wideZ, uI_zero, aFault, aKnown, bne, *])
       | (refine RunQ.gd rfl (by rw [hA.h]; rfl) ?_; simp [aRes, aBad, act0, Action.enc, oxm0, wideZ, uI_zero, aFault, aKnown, bne, *])
       | (refine RunQ.call rfl rfl rfl rfl rfl ?_ (g1) ?_ ?_; (focus (simp (maxDischargeDepth := 120) [aRes, aBad, act0, Action.enc, oxm0, wideZ, uI_zero, aFault, aKnown, bne, *]; done)); (focus (simp [aRes, aBad, act0, Action.enc, oxm0, wideZ, uI_zero, aFault, aKnown, bne, *]; done)); refine RunQ.evalH ?_; simp [aRes, aBad, act0, Action.enc, oxm0, wideZ, uI_zero, aFault, aKnown, bne, *])
       | (refine RunQ.call rfl rfl rfl rfl rfl ?_ (g2) ?_ ?_; (focus (simp (maxDischargeDepth := 120) [aRes, aBad, act0, Action.enc, oxm0, wideZ, uI_zero, aFault, aKnown, bne, *]; done)); (focus (simp [aRes, aBad, act0, Action.enc, oxm0, wideZ, uI_zero, aFault, aKnown, bne, *]; done)); refine RunQ.evalH ?_; simp [aRes, aBad, act0, Action.enc, oxm0, wideZ, uI_zero, aFault, aKnown, bne, *])
       | (refine RunQ.call rfl rfl rfl rfl rfl ?_ (kn) ?_ ?_; (focus (simp (maxDischargeDepth := 120) [aRes, aBad, act0, Action.enc, oxm0, wideZ, uI_zero, aFault, aKnown, bne, *]; done)); (focus (simp [aRes, aBad, act0, Action.enc, oxm0, wideZ, uI_zero, aFault, aKnown, bne, *]; done)); refine RunQ.evalH ?_; simp [aRes, aBad, act0, Action.enc, oxm0, wideZ, uI_zero, aFault, aKnown, bne, *])
       | (refine RunQ.call rfl rfl rfl rfl rfl ?_ (hr) ?_ ?_; (focus (simp (maxDischargeDepth := 120) [aRes, aBad, act0, Action.enc, oxm0, wideZ, uI_zero, aFault, aKnown, bne, *]; done)); (focus (simp [aRes, aBad, act0, Action.enc, oxm0, wideZ, uI_zero, aFault, aKnown, bne, *]; done)); refine RunQ.evalH ?_; simp [aRes, aBad, act0, Action.enc, oxm0, wideZ, uI_zero, aFault, aKnown, bne, *])
       | (refine RunQ.call rfl rfl rfl rfl rfl ?_ (b5) ?_ ?_; (focus (simp (maxDischargeDepth := 120) [aRes, aBad, act0, Action.enc, oxm0, wideZ, uI_zero, aFault, aKnown, bne, *]; done)); (focus (simp [aRes, aBad, act0, Action.enc, oxm0, wideZ, uI_zero, aFault, aKnown, bne, *]; done)); refine RunQ.evalH ?_; simp [aRes, aBad, act0, Action.enc, oxm0, wideZ, uI_zero, aFault, aKnown, bne, *])
       | (refine RunQW.call rfl rfl rfl rfl ?_ (hz4) ?_ ?_; (focus (simp (maxDischargeDepth := 120) [aRes, aBad, act0, Action.enc, oxm0, wideZ, uI_zero, aFault, aKnown, bne, *]; done)); (focus (simp [aRes, aBad, act0, Action.enc, oxm0, wideZ, uI_zero, aFault, aKnown, bne, *]; done)); refine RunQ.evalH ?_; simp [aRes, aBad, act0, Action.enc, oxm0, wideZ, uI_zero, aFault, aKnown, bne, *])
       | (refine WK.ret Tryz.func134 ?_ ?_ <;> simp (maxDischargeDepth := 120) [Tryz.results134, aRes, aBad, act0, Action.enc, oxm0, wideZ, uI_zero, aFault, aKnown, bne, *])
       | fail)
    · repeat' (first
       | refine WK.seq ?_
       | refine WK.block ?_
       | refine WK.inBlock ?_
       | refine WK.skip ?_
       | refine WK.condF rfl ?_
       | (refine Hid.h hQ _ _ ?_; clear hQ hA)
       | (refine WK.regH Tryz.ntmps134 (by kernel_rfl) ?_; intro A hA Q hQ; simp [aRes, aBad, act0, Action.enc, oxm0, wideZ, uI_zero, aFault, aKnown, bne, *])
       | (refine RunQ.gd rfl (by rw [hA.h]; rfl) ?_; simp [aRes, aBad, act0, Action.enc, oxm0, wideZ, uI_zero, aFault, aKnown, bne, *])
       | (refine RunQ.call rfl rfl rfl rfl rfl ?_ (g1) ?_ ?_; (focus (simp (maxDischargeDepth := 120) [aRes, aBad, act0, Action.enc, oxm0, wideZ, uI_zero, aFault, aKnown, bne, *]; done)); (focus (simp [aRes, aBad, act0, Action.enc, oxm0, wideZ, uI_zero, aFault, aKnown, bne, *]; done)); refine RunQ.evalH ?_; simp [aRes, aBad, act0, Action.enc, oxm0, wideZ, uI_zero, aFault, aKnown, bne, *])
       | (refine RunQ.call rfl rfl rfl rfl rfl ?_ (g2) ?_ ?_; (focus (simp (maxDischargeDepth := 120) [aRes, aBad, act0, Action.enc, oxm0, wideZ, uI_zero, aFault, aKnown, bne, *]; done)); (focus (simp [aRes, aBad, act0, Action.enc, oxm0, wideZ, uI_zero, aFault, aKnown, bne, *]; done)); refine RunQ.evalH ?_; simp [aRes, aBad, act0, Action.enc, oxm0, wideZ, uI_zero, aFault, aKnown, bne, *])
       | (refine RunQ.call rfl rfl rfl rfl rfl ?_ (kn) ?_ ?_; (focus (simp (maxDischargeDepth := 120) [aRes, aBad, act0, Action.enc, oxm0, wideZ, uI_zero, aFault, aKnown, bne, *]; done)); (focus (simp [aRes, aBad, act0, Action.enc, oxm0, wideZ, uI_zero, aFault, aKnown, bne, *]; done)); refine RunQ.evalH ?_; simp [aRes, aBad, act0, Action.enc, oxm0, wideZ, uI_zero, aFault, aKnown, bne, *])
       | (refine RunQ.call rfl rfl rfl rfl rfl ?_ (hr) ?_ ?_; (focus (simp (maxDischargeDepth := 120) [aRes, aBad, act0, Action.enc, oxm0, wideZ, uI_zero, aFault, aKnown, bne, *]; done)); (focus (simp [aRes, aBad, act0, Action.enc, oxm0, wideZ, uI_zero, aFault, aKnown, bne, *]; done)); refine RunQ.evalH ?_; simp [aRes, aBad, act0, Action.enc, oxm0, wideZ, uI_zero, aFault, aKnown, bne, *])
       | (refine RunQW.call rfl rfl rfl rfl ?_ (hz4) ?_ ?_; (focus (simp (maxDischargeDepth := 120) [aRes, aBad, act0, Action.enc, oxm0, wideZ, uI_zero, aFault, aKnown, bne, *]; done)); (focus (simp [aRes, aBad, act0, Action.enc, oxm0, wideZ, uI_zero, aFault, aKnown, bne, *]; done)); refine RunQ.evalH ?_; simp [aRes, aBad, act0, Action.enc, oxm0, wideZ, uI_zero, aFault, aKnown, bne, *])
       | (refine WK.ret Tryz.func134 ?_ ?_ <;> simp (maxDischargeDepth := 120) [Tryz.results134, aRes, aBad, act0, Action.enc, oxm0, wideZ, uI_zero, aFault, aKnown, bne, aOf, *])
       | fail)
end Go.Proofs.YtiifjagnhnchoaaGreat
end

section
set_option linter.unusedVariables false
set_option linter.unusedSimpArgs false
namespace Go.Proofs.YtiifjagnhnchoaaGreat
open Go Go.AI Go.Proofs
attribute [local irreducible] FnP FnO FnB FnT FnSeq WK RunQ RunQW RunX RunXW

theorem aencP_c (a : Action) : FnP Tryz.prog 137 [.agg a.enc] (.tup [byS (aEnc a).1, .int .i64 (aEnc a).2]) := by
  have h := (aenc_c a).toP (by simp [byL_take]) (by rfl)
  rwa [Nat.mul_one, by_full _ _ rfl] at h
theorem aEnc_len (a : Action) : (aEnc a).1.length ≤ 60 := by
  unfold aEnc
  split
  · have h1 := aPad_len a
    have h2 := aLen_le _ (aBody_len a)
    have l1 := putN_len [] a.kind 2
    have l2 := putN_len (putN [] a.kind 2) (aLen (aBody a).length : Nat) 2
    simp only [List.length_append, List.length_nil] at l1 ⊢
    omega
  · simp
end Go.Proofs.YtiifjagnhnchoaaGreat
end

section
set_option linter.unusedVariables false
set_option linter.unusedSimpArgs false
namespace Go.Proofs.YtiifjagnhnchoaaGreat
open Go Go.AI Go.Proofs

theorem beN_snoc (n : Int) (x : BitVec 8) (s : Nat) : beN (n * 256 + x.toNat) (s + 1) = beN n s ++ [x] := by
  have hx := x.isLt
  unfold beN
  rw [List.range_succ, List.map_append]
  congr 1
  · refine List.map_congr_left fun i hi => ?_
    rw [List.mem_range] at hi
    congr 1
    have e : (2 : Int) ^ (8 * (s + 1 - 1 - i)) = 256 * 2 ^ (8 * (s - 1 - i)) := by
      rw [show 8 * (s + 1 - 1 - i) = 8 + 8 * (s - 1 - i) by omega, Int.pow_add]; rfl
    rw [e, ← Int.ediv_ediv_of_nonneg (by decide)]
    congr 1; omega
  · simp only [List.map_cons, List.map_nil, Nat.add_sub_cancel, Nat.sub_self, Nat.mul_zero, Int.pow_zero, Int.ediv_one]
    congr 1
    apply BitVec.eq_of_toNat_eq
    rw [BitVec.toNat_ofInt]; omega
theorem beN_valN : ∀ (s : Nat) (l : List (BitVec 8)), l.length = s → beN (valN l) s = l
  | 0, l, h => by rw [List.eq_nil_of_length_eq_zero h]; rfl
  | s + 1, l, h => by
    have hne : l ≠ [] := by intro e; subst e; simp at h
    have h1 : valN l = valN l.dropLast * 256 + (l.getLast hne).toNat := by
      rw [← valN_snoc, List.dropLast_concat_getLast hne]
    rw [h1]
    have := beN_snoc (valN l.dropLast) (l.getLast hne) s
    rw [show ((valN l.dropLast * 256 + (l.getLast hne).toNat : Nat) : Int) = (valN l.dropLast : Int) * 256 + ((l.getLast hne).toNat : Int) by omega, this,
      beN_valN s l.dropLast (by rw [List.length_dropLast]; omega), List.dropLast_concat_getLast hne]
theorem valN_beN : ∀ (s : Nat) (n : Int), 0 ≤ n → n < 256 ^ s → (valN (beN n s) : Int) = n
  | 0, n, h0, h => by
    rw [Int.pow_zero] at h
    have : n = 0 := by omega
    subst this; rfl
  | s + 1, n, h0, h => by
    obtain ⟨x, hx⟩ : ∃ x : BitVec 8, (x.toNat : Int) = n % 256 := ⟨BitVec.ofInt 8 n, by rw [BitVec.toNat_ofInt]; omega⟩
    have hn : n = n / 256 * 256 + x.toNat := by omega
    rw [Int.pow_succ] at h
    have h2 : n / 256 < 256 ^ s := by
      apply Int.ediv_lt_of_lt_mul (by decide); exact h
    have := valN_beN s (n / 256) (by omega) h2
    rw [hn, beN_snoc, valN_snoc]; omega
theorem numOk_iff (n : Int) (s : Nat) : numOk n s = true ↔ 0 ≤ n ∧ n < 256 ^ s := by unfold numOk; simp
theorem numOk_valN {l : List (BitVec 8)} {s : Nat} (h : l.length = s) : numOk (valN l) s = true := by
  rw [numOk_iff]
  have := valN_lt s l h
  refine ⟨by omega, ?_⟩
  have h2 : ((256 ^ s : Nat) : Int) = (256 : Int) ^ s := by rw [Int.natCast_pow]; rfl
  omega
theorem putN_valN {b l : List (BitVec 8)} {s : Nat} (h : l.length = s) : putN b (valN l) s = b ++ l := by
  unfold putN; rw [numOk_valN h, if_pos rfl, beN_valN s l h]
theorem beN_at {n : Int} {s i : Nat} (h : i < (beN n s).length) : (beN n s)[i] = BitVec.ofInt 8 (n / 2 ^ (8 * (s - 1 - i))) := by simp [beN]
theorem beN_drop (n : Int) (s t : Nat) (h : s ≤ t) : (beN n t).drop (t - s) = beN n s := by
  refine List.ext_getElem (by simp [beN_len]; omega) fun i h1 h2 => ?_
  rw [beN_len] at h2
  rw [List.getElem_drop, beN_at, beN_at, show t - 1 - (t - s + i) = s - 1 - i by omega]
/-- a wide number as one number -/
def wN (a : Wide) : Nat := a.hi.toNat * 18446744073709551616 + a.lo.toNat
theorem wN_inj {a b : Wide} (h : wN a = wN b) : a = b := by
  obtain ⟨ah, al⟩ := a
  obtain ⟨bh, bl⟩ := b
  have h1 := ah.isLt; have h2 := al.isLt; have h3 := bh.isLt; have h4 := bl.isLt
  unfold wN at h
  simp only at h
  have e1 : ah = bh := BitVec.eq_of_toNat_eq (by omega)
  have e2 : al = bl := BitVec.eq_of_toNat_eq (by omega)
  rw [e1, e2]
theorem hb_toNat (x : BitVec 64) (k : Nat) : (hb x k).toNat = x.toNat / 2 ^ k % 256 := by
  unfold hb; rw [BitVec.toNat_setWidth, BitVec.toNat_ushiftRight, Nat.shiftRight_eq_div_pow]
theorem wBytes_beN (a : Wide) : wBytes a = beN (wN a) 16 := by
  have h1 := a.hi.isLt; have h2 := a.lo.isLt
  unfold wBytes beN
  refine List.map_congr_left fun j hj => ?_
  rw [List.mem_range] at hj
  apply BitVec.eq_of_toNat_eq
  rw [BitVec.toNat_ofInt]
  have h16 : j = 0 ∨ j = 1 ∨ j = 2 ∨ j = 3 ∨ j = 4 ∨ j = 5 ∨ j = 6 ∨ j = 7 ∨ j = 8 ∨ j = 9 ∨ j = 10 ∨ j = 11 ∨ j = 12 ∨ j = 13 ∨ j = 14 ∨ j = 15 := by omega
  unfold wN
  rcases h16 with rfl | rfl | rfl | rfl | rfl | rfl | rfl | rfl | rfl | rfl | rfl | rfl | rfl | rfl | rfl | rfl <;>
  · simp only [Nat.reduceLT, if_true, if_false, Nat.reduceMul, Nat.reduceSub, hb_toNat, Nat.reducePow, Int.reducePow]
    omega
theorem wStep_wN {a : Wide} (x : BitVec 8) (h : wN a < 1329227995784915872903807060280344576) : wN (wStep a x) = wN a * 256 + x.toNat := by
  obtain ⟨ah, al⟩ := a
  have h1 := ah.isLt; have h2 := al.isLt; have h3 := x.isLt
  unfold wN at h
  simp only at h
  unfold wStep wN
  simp only [BitVec.toNat_or, BitVec.toNat_shiftLeft, BitVec.toNat_ushiftRight, BitVec.toNat_setWidth]
  have e1 : x.toNat % 2 ^ 64 = x.toNat := by omega
  have e2 : ah.toNat <<< 8 % 2 ^ 64 = (ah.toNat) <<< 8 := by rw [Nat.shiftLeft_eq]; omega
  have e3 : al.toNat <<< 8 % 2 ^ 64 = (al.toNat % 72057594037927936) <<< 8 := by rw [Nat.shiftLeft_eq, Nat.shiftLeft_eq]; omega
  rw [e1, e2, e3, ← Nat.shiftLeft_add_eq_or_of_lt (i := 8) (b := al.toNat >>> 56) (by rw [Nat.shiftRight_eq_div_pow]; omega), ← Nat.shiftLeft_add_eq_or_of_lt (i := 8) (b := x.toNat) h3,
    Nat.shiftLeft_eq, Nat.shiftLeft_eq, Nat.shiftRight_eq_div_pow]
  omega
set_option maxRecDepth 100000 in
theorem wVal_wN : ∀ (s : Nat) (l : List (BitVec 8)), l.length = s → s ≤ 16 → wN (wVal l) = valN l
  | 0, l, h, _ => by rw [List.eq_nil_of_length_eq_zero h]; rfl
  | s + 1, l, h, hs => by
    have hne : l ≠ [] := by intro e; subst e; simp at h
    have hd : l.dropLast.length = s := by rw [List.length_dropLast]; omega
    have ih := wVal_wN s l.dropLast hd (by omega)
    have hlt := valN_lt s l.dropLast hd
    have h15 : 256 ^ s ≤ 1329227995784915872903807060280344576 := by
      have e15 : 256 ^ 15 = 1329227995784915872903807060280344576 := by rfl
      rw [← e15]; exact Nat.pow_le_pow_right (by decide) (by omega)
    have hlt2 : wN (wVal l.dropLast) < 1329227995784915872903807060280344576 := by rw [ih]; exact Nat.lt_of_lt_of_le hlt h15
    rw [← List.dropLast_concat_getLast hne, wVal_snoc, valN_snoc, wStep_wN _ hlt2, ih]
theorem wPut_beN (b : List (BitVec 8)) (a : Wide) (s : Nat) (h : s ≤ 16) : wPut b a s = b ++ beN (wN a) s := by
  unfold wPut; rw [wBytes_beN, beN_drop _ s 16 h]
theorem wGet_beN (a : Wide) (s : Nat) (r : List (BitVec 8)) (h : s ≤ 16) (ha : (wN a : Int) < 256 ^ s) : wGet (beN (wN a) s ++ r) s = (a, true) := by
  unfold wGet
  rw [if_pos (by rw [List.length_append, beN_len]; omega), List.take_append_of_le_length (by rw [beN_len]; omega), List.take_of_length_le (by rw [beN_len]; omega)]
  congr 1
  apply wN_inj
  rw [wVal_wN s _ (beN_len _ _) h]
  have := valN_beN s (wN a) (by omega) ha
  omega
theorem wPut_wGet (b p : List (BitVec 8)) (s : Nat) (h : s ≤ 16) (hb : s ≤ b.length) : wPut p (wGet b s).1 s = p ++ b.take s := by
  have hl : (b.take s).length = s := by rw [List.length_take]; omega
  rw [wPut_beN _ _ _ h]
  unfold wGet
  rw [if_pos hb]
  simp only
  rw [wVal_wN s _ hl h, beN_valN s _ hl]
theorem and_le {n : Nat} {x m : BitVec n} (h : x &&& ~~~m = 0#n) : x.toNat ≤ m.toNat := by
  rw [b_less] at h
  have e : x &&& m = x := by
    apply BitVec.eq_of_getLsbD_eq; intro i hi
    rw [BitVec.getLsbD_and]
    cases hx : x.getLsbD i
    · rfl
    · rw [h i hx]; rfl
  rw [← e, BitVec.toNat_and]; exact Nat.and_le_right
theorem lowW_wN_all : ((List.range 129).all fun n => decide (wN (lowW (n : Int)) + 1 = 2 ^ n)) = true := by kernel_rfl
theorem low_lt {w : Wide} {n : Nat} (hn : n ≤ 128) (h : (w.less (lowW (n : Int))).zero = true) : wN w < 2 ^ n := by
  have h1 := List.all_eq_true.1 lowW_wN_all n (by simp; omega)
  rw [decide_eq_true_eq] at h1
  rw [Wide.zero_iff] at h
  have a1 := and_le h.1
  have a2 := and_le h.2
  unfold wN at h1 ⊢
  have : w.hi.toNat * 18446744073709551616 ≤ (lowW (n : Int)).hi.toNat * 18446744073709551616 := Nat.mul_le_mul_right _ a1
  omega
theorem bits_size (f : Int) : 2 ^ (fBits f).toNat ≤ 256 ^ (fSize f) := by
  rw [show (256 : Nat) = 2 ^ 8 from rfl, ← Nat.pow_mul]
  refine Nat.pow_le_pow_right (by decide) ?_
  unfold fSize; omega
/-- a value that is not beyond its field's bits has so many bytes -/
theorem within_size {o : Oxm} {w : Wide} (h : Oxm.beyond o w = false) : (wN w : Int) < 256 ^ (fSize o.field) := by
  unfold Oxm.beyond at h
  rw [Bool.not_eq_false'] at h
  have hr := (fRow_ok o.field).2
  have hb : fBits o.field = ((fBits o.field).toNat : Int) := by unfold fBits; omega
  rw [hb] at h
  have h1 := low_lt (by unfold fBits; omega) h
  have h2 := bits_size o.field
  have h3 : ((256 ^ fSize o.field : Nat) : Int) = (256 : Int) ^ fSize o.field := by rw [Int.natCast_pow]; rfl
  omega
end Go.Proofs.YtiifjagnhnchoaaGreat
end

section
set_option linter.unusedVariables false
set_option linter.unusedSimpArgs false
namespace Go.Proofs.YtiifjagnhnchoaaGreat
open Go Go.AI Go.Proofs

theorem fIndex_all : ((List.range 24).all fun f => decide (fIndex (fID (f : Int)) = ((f : Int), true))) = true := by kernel_rfl
theorem fIndex_ID {f : Int} (h : fRight f = true) : fIndex (fID f) = (f, true) := by
  unfold fRight at h
  rw [Bool.and_eq_true, decide_eq_true_eq, decide_eq_true_eq] at h
  obtain ⟨n, rfl⟩ : ∃ n : Nat, f = n := ⟨f.toNat, by omega⟩
  have := List.all_eq_true.1 fIndex_all n (by simp; omega)
  simpa using this
theorem fIndex_back {id : Int} (h : (fIndex id).2 = true) : fID (fIndex id).1 = id ∧ fRight (fIndex id).1 = true := by
  unfold fIndex at h ⊢
  cases hf : fIndexN id 24 with
  | none => rw [hf] at h; cases h
  | some f =>
    unfold fIndexN at hf
    have h1 := List.find?_some hf
    have h2 := List.mem_of_find?_eq_some hf
    rw [List.mem_range] at h2
    simp only [beq_iff_eq] at h1
    refine ⟨?_, ?_⟩
    · show fID (f : Int) = id
      unfold fID; rw [fRow_nat f h2]; exact h1
    · unfold fRight; simp; omega
theorem putN_one {b : List (BitVec 8)} {n : Int} (h0 : 0 ≤ n) (h : n < 256) : putN b n 1 = b ++ [BitVec.ofInt 8 n] := by
  unfold putN
  rw [if_pos (by rw [numOk_iff]; omega)]
  congr 1
  show [BitVec.ofInt 8 (n / 2 ^ (8 * (1 - 1 - 0)))] = _
  rw [show 8 * (1 - 1 - 0) = 0 from rfl, Int.pow_zero, Int.ediv_one]
theorem fID_range {f : Int} (h : fRight f = true) : 0 ≤ fID f ∧ fID f ≤ 34 := by
  unfold fRight at h
  rw [Bool.and_eq_true, decide_eq_true_eq, decide_eq_true_eq] at h
  unfold fID fRow
  rw [if_pos ⟨h.1, h.2⟩]
  have hl : f.toNat < fRows.length := by show f.toNat < 24; omega
  have : ∀ r, r ∈ fRows → 0 ≤ r.1 ∧ r.1 ≤ 34 := by decide
  exact this _ (nth_mem hl)
theorem oHead_eq {o : Oxm} (h : fRight o.field = true) : oHead o = [128#8, 0#8, BitVec.ofInt 8 (oNum o), BitVec.ofInt 8 (oBody o).length] := by
  have hr := fID_range h
  have hn : 0 ≤ oNum o ∧ oNum o < 256 := by unfold oNum; split <;> omega
  have hb := oBody_len o
  have hs := fSize_le o.field
  have hb2 : (oBody o).length ≤ 32 := by rw [hb]; split <;> omega
  unfold oHead
  rw [putN_one (n := ((oBody o).length : Int)) (by omega) (by omega), putN_one hn.1 hn.2]
  rfl
theorem toNat_ofInt8 {n : Int} (h0 : 0 ≤ n) (h : n < 256) : (BitVec.ofInt 8 n).toNat = n.toNat := by
  rw [BitVec.toNat_ofInt]; omega
theorem ofInt8_nat (x : BitVec 8) : BitVec.ofInt 8 (x.toNat : Int) = x := by
  apply BitVec.eq_of_toNat_eq; have := x.isLt; rw [toNat_ofInt8 (by omega) (by omega)]; omega
theorem zero_wide {w : Wide} (h : w.zero = true) : w = wideZ := by
  rw [Wide.zero_iff] at h
  obtain ⟨a, b⟩ := w
  simp only at h
  rw [h.1, h.2]; rfl
structure ORight (o : Oxm) : Prop where
  field : fRight o.field = true
  masks : o.masked = true → fMasks o.field = true
  mask0 : o.masked = false → o.mask = wideZ
  form : Oxm.form o = 0
  value : Oxm.beyond o o.value = false
  mask : o.masked = true → Oxm.beyond o o.mask = false
theorem oRight_facts {o : Oxm} (h : Oxm.right o = true) : ORight o := by
  unfold Oxm.right at h
  rw [Bool.and_eq_true, Bool.not_eq_true', Bool.or_eq_false_iff, Bool.or_eq_false_iff, Bool.not_eq_false', beq_iff_eq] at h
  obtain ⟨⟨h1, h2, h3⟩, h4⟩ := h
  have hv : Oxm.beyond o o.value = false := by
    cases hb : Oxm.beyond o o.value
    · rfl
    · unfold Oxm.form at h4; rw [hb, if_pos rfl] at h4; cases h4
  refine ⟨h1, fun hm => ?_, fun hm => ?_, h4, hv, fun hm => ?_⟩
  · rw [hm] at h2; simpa using h2
  · rw [hm] at h3; exact zero_wide (by simpa using h3)
  · unfold Oxm.form at h4
    rw [hv, hm] at h4
    cases hb : Oxm.beyond o o.mask
    · rfl
    · rw [hb] at h4; simp at h4
theorem oRight_of {o : Oxm} (h1 : fRight o.field = true) (h2 : o.masked = true → fMasks o.field = true) (h3 : o.masked = false → o.mask = wideZ) (h4 : Oxm.form o = 0) : Oxm.right o = true := by
  unfold Oxm.right
  rw [h1, h4]
  cases hm : o.masked
  · rw [h3 hm]; rfl
  · rw [h2 hm]; rfl
theorem oNum_div (o : Oxm) (h : fRight o.field = true) : (oNum o).toNat / 2 = (fID o.field).toNat ∧ ((oNum o).toNat % 2 == 1) = o.masked ∧ 0 ≤ oNum o ∧ oNum o < 256 := by
  have hr := fID_range h
  unfold oNum
  cases o.masked
  · refine ⟨?_, ?_, ?_, ?_⟩
    · simp only [Bool.false_eq_true, if_false]; omega
    · simp only [Bool.false_eq_true, if_false]; rw [beq_eq_false_iff_ne]; omega
    · simp only [Bool.false_eq_true, if_false]; omega
    · simp only [Bool.false_eq_true, if_false]; omega
  · refine ⟨?_, ?_, ?_, ?_⟩
    · simp only [if_true]; omega
    · simp only [if_true]; rw [beq_iff_eq]; omega
    · simp only [if_true]; omega
    · simp only [if_true]; omega
theorem oEnc_back {o : Oxm} (h : Oxm.right o = true) (r : List (BitVec 8)) : oDec ((oEnc o).1 ++ r) = (o, ((oEnc o).1.length : Int), 0) := by
  have hf := oRight_facts h
  have hs := fSize_le o.field
  have hbl := oBody_len o
  have hb2 : (oBody o).length ≤ 32 := by rw [hbl]; split <;> omega
  have hh := oHead_eq hf.field
  obtain ⟨n1, n2, n3, n4⟩ := oNum_div o hf.field
  have hid := fID_range hf.field
  have e : (oEnc o).1 ++ r = 128#8 :: 0#8 :: BitVec.ofInt 8 (oNum o) :: BitVec.ofInt 8 (oBody o).length :: (oBody o ++ r) := by
    unfold oEnc; rw [if_pos h, hh]; simp
  have hel : (oEnc o).1.length = 4 + (oBody o).length := by unfold oEnc; rw [if_pos h, hh]; simp; omega
  obtain ⟨B, hB⟩ : ∃ B, (oEnc o).1 ++ r = B := ⟨_, rfl⟩
  have hBl : B.length = 4 + (oBody o).length + r.length := by rw [← hB, List.length_append, hel]
  rw [hB] at e ⊢
  rw [hel]
  have b0 : bAt B 0 = 128 := by rw [e]; rfl
  have b1 : bAt B 1 = 0 := by rw [e]; rfl
  have b2 : bAt B 2 = (oNum o).toNat := by
    rw [e]; show (BitVec.ofInt 8 (oNum o)).toNat = _; exact toNat_ofInt8 n3 n4
  have b3 : bAt B 3 = (oBody o).length := by
    rw [e]; show (BitVec.ofInt 8 ((oBody o).length : Int)).toNat = _; rw [toNat_ofInt8 (by omega) (by omega)]; omega
  have d4 : B.drop 4 = oBody o ++ r := by rw [e]; rfl
  clear e hB
  have hF : hField B = (o.field, true) := by
    unfold hField; rw [b2, n1, show (((fID o.field).toNat : Nat) : Int) = fID o.field by omega]; exact fIndex_ID hf.field
  have hM : hMasked B = o.masked := by unfold hMasked; rw [b2]; exact n2
  have hW : hWant B = (oBody o).length := by
    unfold hWant; rw [hM, hF, hbl]; split
    · simp only; omega
    · rfl
  have hC : hCode B = 0 := by
    unfold hCode
    rw [if_neg (by omega), if_neg (by omega), b0, b1, hF, hM, b3, hW]
    have hm : (o.masked && !fMasks o.field) = false := by
      cases hm : o.masked
      · rfl
      · rw [hf.masks hm]; rfl
    simp [hm]
  have hR : oRead B = o := by
    have hv := within_size hf.value
    unfold oRead
    rw [hF, hM, d4]
    simp only
    have hdd : B.drop (4 + fSize o.field) = (oBody o ++ r).drop (fSize o.field) := by rw [← d4, List.drop_drop]
    rw [hdd]
    cases hm : o.masked
    · have hz := hf.mask0 hm
      have hob : oBody o = beN (wN o.value) (fSize o.field) := by unfold oBody; rw [hm]; exact (wPut_beN _ _ _ hs).trans (List.nil_append _)
      rw [hob, wGet_beN _ _ _ hs hv]
      obtain ⟨a1, a2, a3, a4⟩ := o
      simp only at hm hz ⊢
      rw [hm, hz]; rfl
    · have hmk := within_size (hf.mask hm)
      have hob : oBody o = beN (wN o.value) (fSize o.field) ++ beN (wN o.mask) (fSize o.field) := by
        unfold oBody; rw [hm, if_pos rfl, wPut_beN _ _ _ hs, wPut_beN _ _ _ hs, List.nil_append]
      rw [hob, List.append_assoc, wGet_beN _ _ _ hs hv, if_pos rfl, List.drop_append_of_le_length (by rw [beN_len]; omega), List.drop_of_length_le (by rw [beN_len]; omega), List.nil_append, wGet_beN _ _ _ hs hmk]
      obtain ⟨a1, a2, a3, a4⟩ := o
      simp only at hm ⊢
      rw [hm]
  unfold oDec
  rw [if_pos hC, hR, if_pos hf.form, b3]
  congr 1
theorem oDec_back {b : List (BitVec 8)} {o : Oxm} {n : Int} (h : oDec b = (o, n, 0)) : Oxm.right o = true ∧ ∃ k : Nat, n = (k : Int) ∧ 4 ≤ k ∧ k ≤ b.length ∧ oEnc o = (b.take k, 0) := by
  unfold oDec at h
  split at h
  case isFalse hc => simp only [Prod.mk.injEq] at h; exact absurd h.2.2 hc
  rename_i hc
  split at h
  case isFalse hfm => simp only [Prod.mk.injEq] at h; exact absurd h.2.2 hfm
  rename_i hfm
  simp only [Prod.mk.injEq, and_true] at h
  obtain ⟨rfl, rfl⟩ := h
  have l2 := bAt_lt b 2
  have l3 := bAt_lt b 3
  unfold hCode at hc
  split at hc
  · cases hc
  rename_i c1
  split at hc
  · cases hc
  rename_i c2
  split at hc
  · cases hc
  rename_i c3
  split at hc
  · cases hc
  rename_i c4
  split at hc
  · cases hc
  rename_i c5
  simp only [Bool.or_eq_true, bne_iff_ne, ne_eq, Bool.not_eq_true', not_or, Decidable.not_not, Bool.not_eq_false, Bool.and_eq_true, not_and] at c3 c4 c5
  obtain ⟨b0, b1, hF2⟩ := c3
  have hfb := fIndex_back (id := ((bAt b 2 / 2 : Nat) : Int)) hF2
  have hff : (oRead b).field = (hField b).1 := rfl
  have hfm2 : (oRead b).masked = hMasked b := rfl
  have hr : Oxm.right (oRead b) = true := oRight_of hfb.2 (fun hm => c4 hm) (fun hm => by
    have hm' : hMasked b = false := hm
    unfold oRead; simp only [hm']; rfl) hfm
  refine ⟨hr, 4 + bAt b 3, by omega, by omega, by omega, ?_⟩
  have hs := fSize_le (hField b).1
  have hbl := oBody_len (oRead b)
  have hlen : (oBody (oRead b)).length = bAt b 3 := by
    rw [hbl, hff, hfm2, c5]; unfold hWant; split
    · omega
    · rfl
  have hnum : oNum (oRead b) = (bAt b 2 : Int) := by
    have e1 : fID (hField b).1 = ((bAt b 2 / 2 : Nat) : Int) := hfb.1
    unfold oNum; rw [hff, hfm2, e1]
    unfold hMasked
    split
    · rename_i hm; rw [beq_iff_eq] at hm; omega
    · rename_i hm; rw [beq_iff_eq] at hm; omega
  have hbody : oBody (oRead b) = (b.drop 4).take (bAt b 3) := by
    have hdl : (b.drop 4).length = b.length - 4 := List.length_drop
    unfold oBody
    rw [hff, hfm2]
    cases hm : hMasked b
    · have hw : bAt b 3 = fSize (hField b).1 := by rw [c5]; unfold hWant; rw [hm]; rfl
      show wPut [] (wGet (b.drop 4) (fSize (hField b).1)).1 (fSize (hField b).1) = _
      rw [wPut_wGet _ _ _ hs (by rw [hdl]; omega), List.nil_append, hw]
    · have hw : bAt b 3 = fSize (hField b).1 * 2 := by rw [c5]; unfold hWant; rw [hm]; rfl
      have ev : (oRead b).value = (wGet (b.drop 4) (fSize (hField b).1)).1 := rfl
      have em : (oRead b).mask = (wGet (b.drop (4 + fSize (hField b).1)) (fSize (hField b).1)).1 := by unfold oRead; rw [hm]; rfl
      rw [if_pos rfl, ev, em, wPut_wGet _ _ _ hs (by rw [List.length_drop]; omega), wPut_wGet _ _ _ hs (by rw [List.length_drop]; omega), List.nil_append, hw, ← List.drop_drop,
        show fSize (hField b).1 * 2 = fSize (hField b).1 + fSize (hField b).1 by omega, List.take_add]
  have hb4 : b.take 4 = [128#8, 0#8, nth b 2, nth b 3] := by
    match b, c1, b0, b1 with
    | x0 :: x1 :: x2 :: x3 :: r, _, b0, b1 =>
      have e0 : x0 = 128#8 := BitVec.eq_of_toNat_eq b0
      have e1 : x1 = 0#8 := BitVec.eq_of_toNat_eq b1
      rw [e0, e1]; rfl
    | [], c1, _, _ => simp at c1
    | [_], c1, _, _ => simp at c1
    | [_, _], c1, _, _ => simp at c1
    | [_, _, _], c1, _, _ => simp at c1
  unfold oEnc
  rw [if_pos hr, oHead_eq hfb.2, hnum, hlen, hbody, List.take_add, hb4]
  have e2 : BitVec.ofInt 8 (bAt b 2 : Int) = nth b 2 := ofInt8_nat _
  have e3 : BitVec.ofInt 8 (bAt b 3 : Int) = nth b 3 := ofInt8_nat _
  rw [e2, e3]
end Go.Proofs.YtiifjagnhnchoaaGreat
end
