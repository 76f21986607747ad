/- Actions: read by the reference. -/
import Derived.Test.YtbncoeoamjcjjaaWk8
set_option linter.all false
set_option linter.unnecessarySimpa false
section
set_option linter.unusedVariables false
set_option linter.unusedSimpArgs false
namespace Go.Proofs.Ytbncoeoamjcjjaa
open Go Go.AI Go.Proofs
attribute [local irreducible] FnP FnO FnB FnT FnSeq WK RunQ RunQW RunX RunXW

/-- one that was read whole, as the reference finds it -/
theorem aright_group {g : Int} (h : 0 ≤ g) : Action.right ⟨22, 0, 0, g, 0, oxm0⟩ = decide (g ≤ 4294967040) := by
  unfold Action.right Action.fine Action.bare
  simp [h]
theorem getN_nonneg (b : List (BitVec 8)) (p s : Nat) : 0 ≤ (getN b p s).1 := by unfold getN; split <;> simp
set_option maxHeartbeats 8000000 in
theorem radec_c (b : List (BitVec 8)) (hb : b.length ≤ 9223372036854775807) : FnP Try.prog 14 [byS b] (aRes (aDec b)) := by
  have b1 := rabad_c 1
  have b0 := rabad_c 0
  have b5 := rabad_c 5
  have b4 := rabad_c 4
  have b9 := rabad_c 9
  by_cases h8 : b.length < 8
  · have e : aDec b = aBad 1 := by unfold aDec; rw [if_pos h8]
    have j8 : (b.length : Int) < 8 := by omega
    unfold byS
    refine FnP.intro Try.func14 rfl rfl fun G w => ?_
    repeat' (first
     | refine WK.seq ?_
     | refine WK.block ?_
     | refine WK.inBlock ?_
     | refine WK.skip ?_
     | refine WK.label ?_
     | refine WK.scope ?_
     | refine WK.inScope ?_
     | refine WK.exit rfl ?_
     | refine WK.condT rfl ?_
     | refine WK.condF rfl ?_
     | (refine Hid.h hQ _ _ ?_; clear hQ hA)
     | refine WK.condAny rfl ?_ ?_
     | ((first | refine WK.cond2 rfl (fun h => ?_) (fun h => ?_) | refine Fork.mk (fun h => ?_) (fun h => ?_)) <;> (first | (simp [*] at h; done) | (have h2 := h; simp at h2; exfalso; omega) | (have h2 := h; simp at h2; try simp only [Bool.not_eq_true', Bool.not_eq_false'] at h) | skip))
     | (refine WK.regH Try.ntmps14 (by kernel_rfl) ?_; intro A hA Q hQ; simp [aRes, aBad, act0, Action.enc, oxm0, wideZ, uI_zero, aFault, *])
     | (refine RunQ.gd rfl (by rw [hA.h]; rfl) ?_; simp [aRes, aBad, act0, Action.enc, oxm0, wideZ, uI_zero, aFault, *])
     | (((first | refine RunQ.call rfl rfl rfl rfl rfl ?_ (b1) ?_ ?_ | refine RunQW.call rfl rfl rfl rfl ?_ (b1) ?_ ?_); (focus (simp [aRes, aBad, act0, Action.enc, oxm0, wideZ, uI_zero, aFault, *]; done))); (focus (simp [aRes, aBad, act0, Action.enc, oxm0, wideZ, uI_zero, aFault, *]; done)); refine RunQ.evalH ?_; simp [aRes, aBad, act0, Action.enc, oxm0, wideZ, uI_zero, aFault, *])
     | (refine WK.ret Try.func14 ?_ ?_ <;> simp (maxDischargeDepth := 120) [Try.results14, aRes, aBad, act0, Action.enc, oxm0, wideZ, uI_zero, aFault, *])
     | fail)
  have h8' : 8 ≤ b.length := by omega
  have j8 : ¬ (b.length : Int) < 8 := by omega
  have g1 := rnumber_c b 0 2 Sz2 hb (by omega)
  have g2 := rnumber_c b 2 2 Sz2 hb (by omega)
  rw [aK_get b h8'] at g1
  rw [aN_get b h8'] at g2
  have hlt := aN_lt b h8'
  have hdef : aDec b = if aN b < 8 ∨ ¬ aN b % 8 = 0 ∨ b.length < aN b then aBad 1 else
    if aK b = 25 then aSetD (b.take (aN b)) else if (aLength (aK b)).1 = 0 then aBad 0 else if ¬ aN b = (aLength (aK b)).1 then aBad 1 else
    if allZ ((b.take (aN b)).drop (aLength (aK b)).2) = true then aPlain (aK b) (b.take (aN b)) else aBad 5 := by
    rw [aDec, if_neg h8]
  have hge : ∀ p s, p + s ≤ aN b → aN b ≤ b.length → getN b p s = getN (b.take (aN b)) p s := fun p s h1 h2 => by
    unfold getN
    rw [if_pos (by omega), if_pos (by rw [List.length_take]; omega), List.drop_take, List.take_take, Nat.min_eq_left (by omega)]
  have g3 := rnumber_c b 4 4 Sz4 hb (by omega)
  have g4 := rnumber_c b 8 2 Sz2 hb (by omega)
  have g5 := rnumber_c b 4 2 Sz2 hb (by omega)
  obtain ⟨n, hn⟩ : ∃ n, aN b = n := ⟨_, rfl⟩
  obtain ⟨k, hk⟩ : ∃ k, aK b = k := ⟨_, rfl⟩
  simp only [hn] at g2 hlt hdef hge
  simp only [hk] at g1 hdef
  clear hn hk
  have z7 : (((n : Int)) % 8 == 0) = (n % 8 == 0) := by rw [Bool.eq_iff_iff, beq_iff_eq, beq_iff_eq]; omega
  have z7' : (((n : Int)).tmod 8 == 0) = (n % 8 == 0) := by rw [Int.tmod_eq_emod_of_nonneg (by omega)]; exact z7
  obtain ⟨r, hr⟩ : ∃ r, n % 8 = r := ⟨_, rfl⟩
  rw [hr] at z7 z7' hdef
  by_cases c1 : n < 8
  · have e : aDec b = aBad 1 := by rw [hdef, if_pos (.inl c1)]
    have d1 : (n : Int) < 8 := by omega
    unfold byS at *
    clear hdef hr hge
    refine FnP.intro Try.func14 rfl rfl fun G w => ?_
    repeat' (first
     | refine WK.seq ?_
     | refine WK.block ?_
     | refine WK.inBlock ?_
     | refine WK.skip ?_
     | refine WK.label ?_
     | refine WK.scope ?_
     | refine WK.inScope ?_
     | refine WK.exit rfl ?_
     | refine WK.condT rfl ?_
     | refine WK.condF rfl ?_
     | (refine Hid.h hQ _ _ ?_; clear hQ hA)
     | refine WK.condAny rfl ?_ ?_
     | ((first | refine WK.cond2 rfl (fun h => ?_) (fun h => ?_) | refine Fork.mk (fun h => ?_) (fun h => ?_)) <;> (first | (simp [*] at h; done) | (have h2 := h; simp at h2; exfalso; omega) | (have h2 := h; simp at h2; try simp only [Bool.not_eq_true', Bool.not_eq_false'] at h) | skip))
     | (refine WK.regH Try.ntmps14 (by kernel_rfl) ?_; intro A hA Q hQ; simp [aRes, aBad, act0, Action.enc, oxm0, wideZ, uI_zero, aFault, *])
     | (refine RunQ.gd rfl (by rw [hA.h]; rfl) ?_; simp [aRes, aBad, act0, Action.enc, oxm0, wideZ, uI_zero, aFault, *])
     | ((first | ((first | refine RunQ.call rfl rfl rfl rfl rfl ?_ (g1) ?_ ?_ | refine RunQW.call rfl rfl rfl rfl ?_ (g1) ?_ ?_); (focus (simp [aRes, aBad, act0, Action.enc, oxm0, wideZ, uI_zero, aFault, *]; done))) | ((first | refine RunQ.call rfl rfl rfl rfl rfl ?_ (g2) ?_ ?_ | refine RunQW.call rfl rfl rfl rfl ?_ (g2) ?_ ?_); (focus (simp [aRes, aBad, act0, Action.enc, oxm0, wideZ, uI_zero, aFault, *]; done))) | ((first | refine RunQ.call rfl rfl rfl rfl rfl ?_ (b1) ?_ ?_ | refine RunQW.call rfl rfl rfl rfl ?_ (b1) ?_ ?_); (focus (simp [aRes, aBad, act0, Action.enc, oxm0, wideZ, uI_zero, aFault, *]; done)))); (focus (simp [aRes, aBad, act0, Action.enc, oxm0, wideZ, uI_zero, aFault, *]; done)); refine RunQ.evalH ?_; simp [aRes, aBad, act0, Action.enc, oxm0, wideZ, uI_zero, aFault, *])
     | (refine WK.ret Try.func14 ?_ ?_ <;> simp (maxDischargeDepth := 120) [Try.results14, aRes, aBad, act0, Action.enc, oxm0, wideZ, uI_zero, aFault, *])
     | fail)
  have d1 : ¬ (n : Int) < 8 := by omega
  by_cases c2 : r = 0
  case neg =>
    have e : aDec b = aBad 1 := by rw [hdef, if_pos (.inr (.inl c2))]
    have d2 : (r == 0) = false := by simpa using c2
    rw [d2] at z7 z7'
    unfold byS at *
    clear hdef hr hge
    refine FnP.intro Try.func14 rfl rfl fun G w => ?_
    repeat' (first
     | refine WK.seq ?_
     | refine WK.block ?_
     | refine WK.inBlock ?_
     | refine WK.skip ?_
     | refine WK.label ?_
     | refine WK.scope ?_
     | refine WK.inScope ?_
     | refine WK.exit rfl ?_
     | refine WK.condT rfl ?_
     | refine WK.condF rfl ?_
     | (refine Hid.h hQ _ _ ?_; clear hQ hA)
     | refine WK.condAny rfl ?_ ?_
     | ((first | refine WK.cond2 rfl (fun h => ?_) (fun h => ?_) | refine Fork.mk (fun h => ?_) (fun h => ?_)) <;> (first | (simp [*] at h; done) | (have h2 := h; simp at h2; exfalso; omega) | (have h2 := h; simp at h2; try simp only [Bool.not_eq_true', Bool.not_eq_false'] at h) | skip))
     | (refine WK.regH Try.ntmps14 (by kernel_rfl) ?_; intro A hA Q hQ; simp [aRes, aBad, act0, Action.enc, oxm0, wideZ, uI_zero, aFault, bne, *])
     | (refine RunQ.gd rfl (by rw [hA.h]; rfl) ?_; simp [aRes, aBad, act0, Action.enc, oxm0, wideZ, uI_zero, aFault, bne, *])
     | ((first | ((first | refine RunQ.call rfl rfl rfl rfl rfl ?_ (g1) ?_ ?_ | refine RunQW.call rfl rfl rfl rfl ?_ (g1) ?_ ?_); (focus (simp [aRes, aBad, act0, Action.enc, oxm0, wideZ, uI_zero, aFault, bne, *]; done))) | ((first | refine RunQ.call rfl rfl rfl rfl rfl ?_ (g2) ?_ ?_ | refine RunQW.call rfl rfl rfl rfl ?_ (g2) ?_ ?_); (focus (simp [aRes, aBad, act0, Action.enc, oxm0, wideZ, uI_zero, aFault, bne, *]; done))) | ((first | refine RunQ.call rfl rfl rfl rfl rfl ?_ (b1) ?_ ?_ | refine RunQW.call rfl rfl rfl rfl ?_ (b1) ?_ ?_); (focus (simp [aRes, aBad, act0, Action.enc, oxm0, wideZ, uI_zero, aFault, bne, *]; done)))); (focus (simp [aRes, aBad, act0, Action.enc, oxm0, wideZ, uI_zero, aFault, bne, *]; done)); refine RunQ.evalH ?_; simp [aRes, aBad, act0, Action.enc, oxm0, wideZ, uI_zero, aFault, bne, *])
     | (refine WK.ret Try.func14 ?_ ?_ <;> simp (maxDischargeDepth := 120) [Try.results14, aRes, aBad, act0, Action.enc, oxm0, wideZ, uI_zero, aFault, bne, *])
     | fail)
  have d2 : (r == 0) = true := by simpa using c2
  rw [d2] at z7 z7'
  by_cases c3 : b.length < n
  · have e : aDec b = aBad 1 := by rw [hdef, if_pos (.inr (.inr c3))]
    have d3 : (b.length : Int) < n := by omega
    unfold byS at *
    clear hdef hr c2 hge
    refine FnP.intro Try.func14 rfl rfl fun G w => ?_
    repeat' (first
     | refine WK.seq ?_
     | refine WK.block ?_
     | refine WK.inBlock ?_
     | refine WK.skip ?_
     | refine WK.label ?_
     | refine WK.scope ?_
     | refine WK.inScope ?_
     | refine WK.exit rfl ?_
     | refine WK.condT rfl ?_
     | refine WK.condF rfl ?_
     | (refine Hid.h hQ _ _ ?_; clear hQ hA)
     | refine WK.condAny rfl ?_ ?_
     | ((first | refine WK.cond2 rfl (fun h => ?_) (fun h => ?_) | refine Fork.mk (fun h => ?_) (fun h => ?_)) <;> (first | (simp [*] at h; done) | (have h2 := h; simp at h2; exfalso; omega) | (have h2 := h; simp at h2; try simp only [Bool.not_eq_true', Bool.not_eq_false'] at h) | skip))
     | (refine WK.regH Try.ntmps14 (by kernel_rfl) ?_; intro A hA Q hQ; simp [aRes, aBad, act0, Action.enc, oxm0, wideZ, uI_zero, aFault, bne, *])
     | (refine RunQ.gd rfl (by rw [hA.h]; rfl) ?_; simp [aRes, aBad, act0, Action.enc, oxm0, wideZ, uI_zero, aFault, bne, *])
     | ((first | ((first | refine RunQ.call rfl rfl rfl rfl rfl ?_ (g1) ?_ ?_ | refine RunQW.call rfl rfl rfl rfl ?_ (g1) ?_ ?_); (focus (simp [aRes, aBad, act0, Action.enc, oxm0, wideZ, uI_zero, aFault, bne, *]; done))) | ((first | refine RunQ.call rfl rfl rfl rfl rfl ?_ (g2) ?_ ?_ | refine RunQW.call rfl rfl rfl rfl ?_ (g2) ?_ ?_); (focus (simp [aRes, aBad, act0, Action.enc, oxm0, wideZ, uI_zero, aFault, bne, *]; done))) | ((first | refine RunQ.call rfl rfl rfl rfl rfl ?_ (b1) ?_ ?_ | refine RunQW.call rfl rfl rfl rfl ?_ (b1) ?_ ?_); (focus (simp [aRes, aBad, act0, Action.enc, oxm0, wideZ, uI_zero, aFault, bne, *]; done)))); (focus (simp [aRes, aBad, act0, Action.enc, oxm0, wideZ, uI_zero, aFault, bne, *]; done)); refine RunQ.evalH ?_; simp [aRes, aBad, act0, Action.enc, oxm0, wideZ, uI_zero, aFault, bne, *])
     | (refine WK.ret Try.func14 ?_ ?_ <;> simp (maxDischargeDepth := 120) [Try.results14, aRes, aBad, act0, Action.enc, oxm0, wideZ, uI_zero, aFault, bne, *])
     | fail)
  rw [if_neg (by omega)] at hdef
  have hnb : n ≤ b.length := by omega
  have d3 : ¬ (b.length : Int) < n := by omega
  have j1 : (n : Int) ≤ b.length := by omega
  have hBl : (b.take n).length = n := by rw [List.length_take]; omega
  obtain ⟨B, hB⟩ : ∃ B, b.take n = B := ⟨_, rfl⟩
  have t1 : (byL b).take n = byL B := by rw [byL_take, hB]
  have hdt : ∀ p q, q = n → ((byL b).drop p).take (q - p) = byL (B.drop p) := fun p q h => by
    subst h; rw [byL_drop, byL_take, ← hB, List.drop_take]
  rw [hB] at hdef hBl hge
  have hs := raset_c B (by omega) (by omega)
  have kn := raknown_c (k : Int)
  by_cases k5 : k = 25
  · subst k5
    rw [if_pos rfl] at hdef
    unfold byS at *
    rw [hBl] at hs
    obtain ⟨R, hR⟩ : ∃ R, aSetD B = R := ⟨_, rfl⟩
    rw [hR] at hs hdef
    obtain ⟨ra, rn, rf⟩ := R
    clear hR hge hdt hB hr
    refine FnP.intro Try.func14 rfl rfl fun G w => ?_
    cases rf <;>
    · repeat' (first
       | refine WK.seq ?_
       | refine WK.block ?_
       | refine WK.inBlock ?_
       | refine WK.skip ?_
       | refine WK.label ?_
       | refine WK.scope ?_
       | refine WK.inScope ?_
       | refine WK.exit rfl ?_
       | refine WK.condT rfl ?_
       | refine WK.condF rfl ?_
       | (refine Hid.h hQ _ _ ?_; clear hQ hA)
       | refine WK.condAny rfl ?_ ?_
       | ((first | refine WK.cond2 rfl (fun h => ?_) (fun h => ?_) | refine Fork.mk (fun h => ?_) (fun h => ?_)) <;> (first | (simp [*] at h; done) | (have h2 := h; simp at h2; exfalso; omega) | (have h2 := h; simp at h2; try simp only [Bool.not_eq_true', Bool.not_eq_false'] at h) | skip))
       | (refine WK.regH Try.ntmps14 (by kernel_rfl) ?_; intro A hA Q hQ; simp [aRes, Action.enc, Oxm.enc, oxm0, wideZ, uI_zero, aFault, aKnown, bne, *])
       | (refine RunQ.gd rfl (by rw [hA.h]; rfl) ?_; simp [aRes, Action.enc, Oxm.enc, oxm0, wideZ, uI_zero, aFault, aKnown, bne, *])
       | ((first | ((first | refine RunQ.call rfl rfl rfl rfl rfl ?_ (g1) ?_ ?_ | refine RunQW.call rfl rfl rfl rfl ?_ (g1) ?_ ?_); (focus (simp [aRes, Action.enc, Oxm.enc, oxm0, wideZ, uI_zero, aFault, aKnown, bne, *]; done))) | ((first | refine RunQ.call rfl rfl rfl rfl rfl ?_ (g2) ?_ ?_ | refine RunQW.call rfl rfl rfl rfl ?_ (g2) ?_ ?_); (focus (simp [aRes, Action.enc, Oxm.enc, oxm0, wideZ, uI_zero, aFault, aKnown, bne, *]; done))) | ((first | refine RunQ.call rfl rfl rfl rfl rfl ?_ (kn) ?_ ?_ | refine RunQW.call rfl rfl rfl rfl ?_ (kn) ?_ ?_); (focus (simp [aRes, Action.enc, Oxm.enc, oxm0, wideZ, uI_zero, aFault, aKnown, bne, *]; done))) | ((first | refine RunQ.call rfl rfl rfl rfl rfl ?_ (hs) ?_ ?_ | refine RunQW.call rfl rfl rfl rfl ?_ (hs) ?_ ?_); (focus (simp [aRes, Action.enc, Oxm.enc, oxm0, wideZ, uI_zero, aFault, aKnown, bne, *]; done)))); (focus (simp [aRes, Action.enc, Oxm.enc, oxm0, wideZ, uI_zero, aFault, aKnown, bne, *]; done)); refine RunQ.evalH ?_; simp [aRes, Action.enc, Oxm.enc, oxm0, wideZ, uI_zero, aFault, aKnown, bne, *])
       | (refine WK.ret Try.func14 ?_ ?_ <;> simp (maxDischargeDepth := 120) [Try.results14, aRes, Action.enc, Oxm.enc, oxm0, wideZ, uI_zero, aFault, aKnown, bne, *])
       | fail)
  have d5 : ((k : Int) == 25) = false := by rw [beq_eq_false_iff_ne]; omega
  have d5' : ¬ (k : Int) = 25 := by omega
  rw [if_neg k5] at hdef
  by_cases k0 : k = 0
  · subst k0
    have hdef' : aDec b = if ¬ n = 16 then aBad 1 else if allZ (B.drop 10) = true then aPlain 0 B else aBad 5 := by rw [hdef, if_neg (by decide)]; rfl
    clear hdef hs
    have z16 : ((n : Int) == 16) = (n == 16) := by rw [Bool.eq_iff_iff, beq_iff_eq, beq_iff_eq]; omega
    by_cases k1 : n = 16
    case neg =>
      rw [if_pos k1] at hdef'
      have z16b : (n == 16) = false := by simpa using k1
      rw [z16b] at z16
      clear k1 hge hdt
      unfold byS at *
      refine FnP.intro Try.func14 rfl rfl fun G w => ?_
      repeat' (first
       | refine WK.seq ?_
       | refine WK.block ?_
       | refine WK.inBlock ?_
       | refine WK.skip ?_
       | refine WK.label ?_
       | refine WK.scope ?_
       | refine WK.inScope ?_
       | refine WK.exit rfl ?_
       | refine WK.condT rfl ?_
       | refine WK.condF rfl ?_
       | (refine Hid.h hQ _ _ ?_; clear hQ hA)
       | refine WK.condAny rfl ?_ ?_
       | ((first | refine WK.cond2 rfl (fun h => ?_) (fun h => ?_) | refine Fork.mk (fun h => ?_) (fun h => ?_)) <;> (first | (simp [*] at h; done) | (have h2 := h; simp at h2; exfalso; omega) | (have h2 := h; simp at h2; try simp only [Bool.not_eq_true', Bool.not_eq_false'] at h) | skip))
       | (refine WK.regH Try.ntmps14 (by kernel_rfl) ?_; intro A hA Q hQ; simp [aRes, aBad, act0, Action.enc, oxm0, wideZ, uI_zero, aFault, aKnown, bne, *])
       | (refine RunQ.gd rfl (by rw [hA.h]; rfl) ?_; simp [aRes, aBad, act0, Action.enc, oxm0, wideZ, uI_zero, aFault, aKnown, bne, *])
       | ((first | ((first | refine RunQ.call rfl rfl rfl rfl rfl ?_ (g1) ?_ ?_ | refine RunQW.call rfl rfl rfl rfl ?_ (g1) ?_ ?_); (focus (simp [aRes, aBad, act0, Action.enc, oxm0, wideZ, uI_zero, aFault, aKnown, bne, *]; done))) | ((first | refine RunQ.call rfl rfl rfl rfl rfl ?_ (g2) ?_ ?_ | refine RunQW.call rfl rfl rfl rfl ?_ (g2) ?_ ?_); (focus (simp [aRes, aBad, act0, Action.enc, oxm0, wideZ, uI_zero, aFault, aKnown, bne, *]; done))) | ((first | refine RunQ.call rfl rfl rfl rfl rfl ?_ (kn) ?_ ?_ | refine RunQW.call rfl rfl rfl rfl ?_ (kn) ?_ ?_); (focus (simp [aRes, aBad, act0, Action.enc, oxm0, wideZ, uI_zero, aFault, aKnown, bne, *]; done))) | ((first | refine RunQ.call rfl rfl rfl rfl rfl ?_ (b1) ?_ ?_ | refine RunQW.call rfl rfl rfl rfl ?_ (b1) ?_ ?_); (focus (simp [aRes, aBad, act0, Action.enc, oxm0, wideZ, uI_zero, aFault, aKnown, bne, *]; done)))); (focus (simp [aRes, aBad, act0, Action.enc, oxm0, wideZ, uI_zero, aFault, aKnown, bne, *]; done)); refine RunQ.evalH ?_; simp [aRes, aBad, act0, Action.enc, oxm0, wideZ, uI_zero, aFault, aKnown, bne, *])
       | (refine WK.ret Try.func14 ?_ ?_ <;> simp (maxDischargeDepth := 120) [Try.results14, aRes, aBad, act0, Action.enc, oxm0, wideZ, uI_zero, aFault, aKnown, bne, *])
       | fail)
    subst k1
    rw [if_neg (by simp)] at hdef'
    have hz := rnoughts_c (B.drop 10) (by rw [List.length_drop]; omega)
    have hsl := hdt 10 16 rfl
    have e3 := hge 4 4 (by omega) hnb
    have e4 := hge 8 2 (by omega) hnb
    rw [e3] at g3
    rw [e4] at g4
    have hr := raright_c (aOf 0 B)
    unfold byS at *
    rw [List.length_drop, hBl] at hz
    obtain ⟨E5, hE5⟩ : ∃ E5, B.drop 10 = E5 := ⟨_, rfl⟩
    rw [hE5] at hz hsl hdef'
    clear hge hdt hE5 e3 e4 hB z16
    refine FnP.intro Try.func14 rfl rfl fun G w => ?_
    cases kz : allZ E5
    · rw [kz, if_neg Bool.false_ne_true] at hdef'
      clear hr
      repeat' (first
       | refine WK.seq ?_
       | refine WK.block ?_
       | refine WK.inBlock ?_
       | refine WK.skip ?_
       | refine WK.label ?_
       | refine WK.scope ?_
       | refine WK.inScope ?_
       | refine WK.exit rfl ?_
       | refine WK.condT rfl ?_
       | refine WK.condF rfl ?_
       | (refine Hid.h hQ _ _ ?_; clear hQ hA)
       | refine WK.condAny rfl ?_ ?_
       | ((first | refine WK.cond2 rfl (fun h => ?_) (fun h => ?_) | refine Fork.mk (fun h => ?_) (fun h => ?_)) <;> (first | (simp [*] at h; done) | (have h2 := h; simp at h2; exfalso; omega) | (have h2 := h; simp at h2; try simp only [Bool.not_eq_true', Bool.not_eq_false'] at h) | skip))
       | (refine WK.regH Try.ntmps14 (by kernel_rfl) ?_; intro A hA Q hQ; simp [aRes, aBad, act0, Action.enc, oxm0, wideZ, uI_zero, aFault, aKnown, bne, *])
       | (refine RunQ.gd rfl (by rw [hA.h]; rfl) ?_; simp [aRes, aBad, act0, Action.enc, oxm0, wideZ, uI_zero, aFault, aKnown, bne, *])
       | ((first | ((first | refine RunQ.call rfl rfl rfl rfl rfl ?_ (g1) ?_ ?_ | refine RunQW.call rfl rfl rfl rfl ?_ (g1) ?_ ?_); (focus (simp [aRes, aBad, act0, Action.enc, oxm0, wideZ, uI_zero, aFault, aKnown, bne, *]; done))) | ((first | refine RunQ.call rfl rfl rfl rfl rfl ?_ (g2) ?_ ?_ | refine RunQW.call rfl rfl rfl rfl ?_ (g2) ?_ ?_); (focus (simp [aRes, aBad, act0, Action.enc, oxm0, wideZ, uI_zero, aFault, aKnown, bne, *]; done))) | ((first | refine RunQ.call rfl rfl rfl rfl rfl ?_ (kn) ?_ ?_ | refine RunQW.call rfl rfl rfl rfl ?_ (kn) ?_ ?_); (focus (simp [aRes, aBad, act0, Action.enc, oxm0, wideZ, uI_zero, aFault, aKnown, bne, *]; done))) | ((first | refine RunQ.call rfl rfl rfl rfl rfl ?_ (hz) ?_ ?_ | refine RunQW.call rfl rfl rfl rfl ?_ (hz) ?_ ?_); (focus (simp [aRes, aBad, act0, Action.enc, oxm0, wideZ, uI_zero, aFault, aKnown, bne, *]; done))) | ((first | refine RunQ.call rfl rfl rfl rfl rfl ?_ (b5) ?_ ?_ | refine RunQW.call rfl rfl rfl rfl ?_ (b5) ?_ ?_); (focus (simp [aRes, aBad, act0, Action.enc, oxm0, wideZ, uI_zero, aFault, aKnown, bne, *]; done)))); (focus (simp [aRes, aBad, act0, Action.enc, oxm0, wideZ, uI_zero, aFault, aKnown, bne, *]; done)); refine RunQ.evalH ?_; simp [aRes, aBad, act0, Action.enc, oxm0, wideZ, uI_zero, aFault, aKnown, bne, *])
       | (refine WK.ret Try.func14 ?_ ?_ <;> simp (maxDischargeDepth := 120) [Try.results14, aRes, aBad, act0, Action.enc, oxm0, wideZ, uI_zero, aFault, aKnown, bne, *])
       | fail)
    rw [kz, if_pos rfl] at hdef'
    cases hg : aGoes (getN B 4 4).1
    · have e : aDec b = aBad 4 := by rw [hdef']; unfold aPlain; rw [if_pos ⟨rfl, hg⟩]
      clear hr hdef'
      repeat' (first
       | refine WK.seq ?_
       | refine WK.block ?_
       | refine WK.inBlock ?_
       | refine WK.skip ?_
       | refine WK.label ?_
       | refine WK.scope ?_
       | refine WK.inScope ?_
       | refine WK.exit rfl ?_
       | refine WK.condT rfl ?_
       | refine WK.condF rfl ?_
       | (refine Hid.h hQ _ _ ?_; clear hQ hA)
       | refine WK.condAny rfl ?_ ?_
       | ((first | refine WK.cond2 rfl (fun h => ?_) (fun h => ?_) | refine Fork.mk (fun h => ?_) (fun h => ?_)) <;> (first | (simp [*] at h; done) | (have h2 := h; simp at h2; exfalso; omega) | (have h2 := h; simp at h2; try simp only [Bool.not_eq_true', Bool.not_eq_false'] at h) | skip))
       | (refine WK.regH Try.ntmps14 (by kernel_rfl) ?_; intro A hA Q hQ; simp [aRes, aBad, act0, Action.enc, oxm0, wideZ, uI_zero, aFault, aKnown, bne, *])
       | (refine RunQ.gd rfl (by rw [hA.h]; rfl) ?_; simp [aRes, aBad, act0, Action.enc, oxm0, wideZ, uI_zero, aFault, aKnown, bne, *])
       | ((first | ((first | refine RunQ.call rfl rfl rfl rfl rfl ?_ (g1) ?_ ?_ | refine RunQW.call rfl rfl rfl rfl ?_ (g1) ?_ ?_); (focus (simp [aRes, aBad, act0, Action.enc, oxm0, wideZ, uI_zero, aFault, aKnown, bne, *]; done))) | ((first | refine RunQ.call rfl rfl rfl rfl rfl ?_ (g2) ?_ ?_ | refine RunQW.call rfl rfl rfl rfl ?_ (g2) ?_ ?_); (focus (simp [aRes, aBad, act0, Action.enc, oxm0, wideZ, uI_zero, aFault, aKnown, bne, *]; done))) | ((first | refine RunQ.call rfl rfl rfl rfl rfl ?_ (kn) ?_ ?_ | refine RunQW.call rfl rfl rfl rfl ?_ (kn) ?_ ?_); (focus (simp [aRes, aBad, act0, Action.enc, oxm0, wideZ, uI_zero, aFault, aKnown, bne, *]; done))) | ((first | refine RunQ.call rfl rfl rfl rfl rfl ?_ (hz) ?_ ?_ | refine RunQW.call rfl rfl rfl rfl ?_ (hz) ?_ ?_); (focus (simp [aRes, aBad, act0, Action.enc, oxm0, wideZ, uI_zero, aFault, aKnown, bne, *]; done))) | ((first | refine RunQ.call rfl rfl rfl rfl rfl ?_ (g3) ?_ ?_ | refine RunQW.call rfl rfl rfl rfl ?_ (g3) ?_ ?_); (focus (simp [aRes, aBad, act0, Action.enc, oxm0, wideZ, uI_zero, aFault, aKnown, bne, *]; done))) | ((first | refine RunQ.call rfl rfl rfl rfl rfl ?_ (g4) ?_ ?_ | refine RunQW.call rfl rfl rfl rfl ?_ (g4) ?_ ?_); (focus (simp [aRes, aBad, act0, Action.enc, oxm0, wideZ, uI_zero, aFault, aKnown, bne, *]; done))) | ((first | refine RunQ.call rfl rfl rfl rfl rfl ?_ (ragoes_c (getN B 4 4).1) ?_ ?_ | refine RunQW.call rfl rfl rfl rfl ?_ (ragoes_c (getN B 4 4).1) ?_ ?_); (focus (simp [aRes, aBad, act0, Action.enc, oxm0, wideZ, uI_zero, aFault, aKnown, bne, *]; done))) | ((first | refine RunQ.call rfl rfl rfl rfl rfl ?_ (b4) ?_ ?_ | refine RunQW.call rfl rfl rfl rfl ?_ (b4) ?_ ?_); (focus (simp [aRes, aBad, act0, Action.enc, oxm0, wideZ, uI_zero, aFault, aKnown, bne, *]; done)))); (focus (simp [aRes, aBad, act0, Action.enc, oxm0, wideZ, uI_zero, aFault, aKnown, bne, *]; done)); refine RunQ.evalH ?_; simp [aRes, aBad, act0, Action.enc, oxm0, wideZ, uI_zero, aFault, aKnown, bne, *])
       | (refine WK.ret Try.func14 ?_ ?_ <;> simp (maxDischargeDepth := 120) [Try.results14, aRes, aBad, act0, Action.enc, oxm0, wideZ, uI_zero, aFault, aKnown, bne, *])
       | fail)
    obtain ⟨q, hre⟩ : ∃ q, Action.right (aOf 0 B) = q := ⟨_, rfl⟩
    have e : aDec b = if q = true then (aOf 0 B, (B.length : Int), none) else aBad 5 := by rw [hdef']; unfold aPlain; rw [if_neg (by simp [hg]), hre]; rfl
    rw [hre] at hr
    simp only [aOf, if_pos rfl, Action.enc, oxm0, wideZ, uI_zero] at hr
    clear hre hdef'
    cases q
    · repeat' (first
       | refine WK.seq ?_
       | refine WK.block ?_
       | refine WK.inBlock ?_
       | refine WK.skip ?_
       | refine WK.label ?_
       | refine WK.scope ?_
       | refine WK.inScope ?_
       | refine WK.exit rfl ?_
       | refine WK.condT rfl ?_
       | refine WK.condF rfl ?_
       | (refine Hid.h hQ _ _ ?_; clear hQ hA)
       | refine WK.condAny rfl ?_ ?_
       | ((first | refine WK.cond2 rfl (fun h => ?_) (fun h => ?_) | refine Fork.mk (fun h => ?_) (fun h => ?_)) <;> (first | (simp [*] at h; done) | (have h2 := h; simp at h2; exfalso; omega) | (have h2 := h; simp at h2; try simp only [Bool.not_eq_true', Bool.not_eq_false'] at h) | skip))
       | (refine WK.regH Try.ntmps14 (by kernel_rfl) ?_; intro A hA Q hQ; simp [aRes, aBad, act0, Action.enc, oxm0, wideZ, uI_zero, aFault, aKnown, bne, *])
       | (refine RunQ.gd rfl (by rw [hA.h]; rfl) ?_; simp [aRes, aBad, act0, Action.enc, oxm0, wideZ, uI_zero, aFault, aKnown, bne, *])
       | ((first | ((first | refine RunQ.call rfl rfl rfl rfl rfl ?_ (g1) ?_ ?_ | refine RunQW.call rfl rfl rfl rfl ?_ (g1) ?_ ?_); (focus (simp [aRes, aBad, act0, Action.enc, oxm0, wideZ, uI_zero, aFault, aKnown, bne, *]; done))) | ((first | refine RunQ.call rfl rfl rfl rfl rfl ?_ (g2) ?_ ?_ | refine RunQW.call rfl rfl rfl rfl ?_ (g2) ?_ ?_); (focus (simp [aRes, aBad, act0, Action.enc, oxm0, wideZ, uI_zero, aFault, aKnown, bne, *]; done))) | ((first | refine RunQ.call rfl rfl rfl rfl rfl ?_ (kn) ?_ ?_ | refine RunQW.call rfl rfl rfl rfl ?_ (kn) ?_ ?_); (focus (simp [aRes, aBad, act0, Action.enc, oxm0, wideZ, uI_zero, aFault, aKnown, bne, *]; done))) | ((first | refine RunQ.call rfl rfl rfl rfl rfl ?_ (hz) ?_ ?_ | refine RunQW.call rfl rfl rfl rfl ?_ (hz) ?_ ?_); (focus (simp [aRes, aBad, act0, Action.enc, oxm0, wideZ, uI_zero, aFault, aKnown, bne, *]; done))) | ((first | refine RunQ.call rfl rfl rfl rfl rfl ?_ (g3) ?_ ?_ | refine RunQW.call rfl rfl rfl rfl ?_ (g3) ?_ ?_); (focus (simp [aRes, aBad, act0, Action.enc, oxm0, wideZ, uI_zero, aFault, aKnown, bne, *]; done))) | ((first | refine RunQ.call rfl rfl rfl rfl rfl ?_ (g4) ?_ ?_ | refine RunQW.call rfl rfl rfl rfl ?_ (g4) ?_ ?_); (focus (simp [aRes, aBad, act0, Action.enc, oxm0, wideZ, uI_zero, aFault, aKnown, bne, *]; done))) | ((first | refine RunQ.call rfl rfl rfl rfl rfl ?_ (ragoes_c (getN B 4 4).1) ?_ ?_ | refine RunQW.call rfl rfl rfl rfl ?_ (ragoes_c (getN B 4 4).1) ?_ ?_); (focus (simp [aRes, aBad, act0, Action.enc, oxm0, wideZ, uI_zero, aFault, aKnown, bne, *]; done))) | ((first | refine RunQ.call rfl rfl rfl rfl rfl ?_ (hr) ?_ ?_ | refine RunQW.call rfl rfl rfl rfl ?_ (hr) ?_ ?_); (focus (simp [aRes, aBad, act0, Action.enc, oxm0, wideZ, uI_zero, aFault, aKnown, bne, *]; done))) | ((first | refine RunQ.call rfl rfl rfl rfl rfl ?_ (b5) ?_ ?_ | refine RunQW.call rfl rfl rfl rfl ?_ (b5) ?_ ?_); (focus (simp [aRes, aBad, act0, Action.enc, oxm0, wideZ, uI_zero, aFault, aKnown, bne, *]; done)))); (focus (simp [aRes, aBad, act0, Action.enc, oxm0, wideZ, uI_zero, aFault, aKnown, bne, *]; done)); refine RunQ.evalH ?_; simp [aRes, aBad, act0, Action.enc, oxm0, wideZ, uI_zero, aFault, aKnown, bne, *])
       | (refine WK.ret Try.func14 ?_ ?_ <;> simp (maxDischargeDepth := 120) [Try.results14, aRes, aBad, act0, Action.enc, oxm0, wideZ, uI_zero, aFault, aKnown, bne, *])
       | fail)
    · repeat' (first
       | refine WK.seq ?_
       | refine WK.block ?_
       | refine WK.inBlock ?_
       | refine WK.skip ?_
       | refine WK.label ?_
       | refine WK.scope ?_
       | refine WK.inScope ?_
       | refine WK.exit rfl ?_
       | refine WK.condT rfl ?_
       | refine WK.condF rfl ?_
       | (refine Hid.h hQ _ _ ?_; clear hQ hA)
       | refine WK.condAny rfl ?_ ?_
       | ((first | refine WK.cond2 rfl (fun h => ?_) (fun h => ?_) | refine Fork.mk (fun h => ?_) (fun h => ?_)) <;> (first | (simp [*] at h; done) | (have h2 := h; simp at h2; exfalso; omega) | (have h2 := h; simp at h2; try simp only [Bool.not_eq_true', Bool.not_eq_false'] at h) | skip))
       | (refine WK.regH Try.ntmps14 (by kernel_rfl) ?_; intro A hA Q hQ; simp [aRes, aBad, act0, Action.enc, oxm0, wideZ, uI_zero, aFault, aKnown, bne, *])
       | (refine RunQ.gd rfl (by rw [hA.h]; rfl) ?_; simp [aRes, aBad, act0, Action.enc, oxm0, wideZ, uI_zero, aFault, aKnown, bne, *])
       | ((first | ((first | refine RunQ.call rfl rfl rfl rfl rfl ?_ (g1) ?_ ?_ | refine RunQW.call rfl rfl rfl rfl ?_ (g1) ?_ ?_); (focus (simp [aRes, aBad, act0, Action.enc, oxm0, wideZ, uI_zero, aFault, aKnown, bne, *]; done))) | ((first | refine RunQ.call rfl rfl rfl rfl rfl ?_ (g2) ?_ ?_ | refine RunQW.call rfl rfl rfl rfl ?_ (g2) ?_ ?_); (focus (simp [aRes, aBad, act0, Action.enc, oxm0, wideZ, uI_zero, aFault, aKnown, bne, *]; done))) | ((first | refine RunQ.call rfl rfl rfl rfl rfl ?_ (kn) ?_ ?_ | refine RunQW.call rfl rfl rfl rfl ?_ (kn) ?_ ?_); (focus (simp [aRes, aBad, act0, Action.enc, oxm0, wideZ, uI_zero, aFault, aKnown, bne, *]; done))) | ((first | refine RunQ.call rfl rfl rfl rfl rfl ?_ (hz) ?_ ?_ | refine RunQW.call rfl rfl rfl rfl ?_ (hz) ?_ ?_); (focus (simp [aRes, aBad, act0, Action.enc, oxm0, wideZ, uI_zero, aFault, aKnown, bne, *]; done))) | ((first | refine RunQ.call rfl rfl rfl rfl rfl ?_ (g3) ?_ ?_ | refine RunQW.call rfl rfl rfl rfl ?_ (g3) ?_ ?_); (focus (simp [aRes, aBad, act0, Action.enc, oxm0, wideZ, uI_zero, aFault, aKnown, bne, *]; done))) | ((first | refine RunQ.call rfl rfl rfl rfl rfl ?_ (g4) ?_ ?_ | refine RunQW.call rfl rfl rfl rfl ?_ (g4) ?_ ?_); (focus (simp [aRes, aBad, act0, Action.enc, oxm0, wideZ, uI_zero, aFault, aKnown, bne, *]; done))) | ((first | refine RunQ.call rfl rfl rfl rfl rfl ?_ (ragoes_c (getN B 4 4).1) ?_ ?_ | refine RunQW.call rfl rfl rfl rfl ?_ (ragoes_c (getN B 4 4).1) ?_ ?_); (focus (simp [aRes, aBad, act0, Action.enc, oxm0, wideZ, uI_zero, aFault, aKnown, bne, *]; done))) | ((first | refine RunQ.call rfl rfl rfl rfl rfl ?_ (hr) ?_ ?_ | refine RunQW.call rfl rfl rfl rfl ?_ (hr) ?_ ?_); (focus (simp [aRes, aBad, act0, Action.enc, oxm0, wideZ, uI_zero, aFault, aKnown, bne, *]; done)))); (focus (simp [aRes, aBad, act0, Action.enc, oxm0, wideZ, uI_zero, aFault, aKnown, bne, *]; done)); refine RunQ.evalH ?_; simp [aRes, aBad, act0, Action.enc, oxm0, wideZ, uI_zero, aFault, aKnown, bne, *])
       | (refine WK.ret Try.func14 ?_ ?_ <;> simp (maxDischargeDepth := 120) [Try.results14, aRes, aBad, act0, Action.enc, oxm0, wideZ, uI_zero, aFault, aKnown, bne, aOf, *])
       | fail)
  have d0 : ((k : Int) == 0) = false := by rw [beq_eq_false_iff_ne]; omega
  have d0' : ¬ (k : Int) = 0 := by omega
  have z8 : ((n : Int) == 8) = (n == 8) := by rw [Bool.eq_iff_iff, beq_iff_eq, beq_iff_eq]; omega
  by_cases hw : (aLength (k : Int)).1 = 8
  case neg =>
    have hkk : ¬ k = 22 ∧ ¬ k = 17 ∧ ¬ k = 18 := by
      refine ⟨?_, ?_, ?_⟩ <;> (intro h; subst h; exact hw rfl)
    have hw0 : (aLength (k : Int)).1 = 0 := by
      unfold aLength; rw [if_neg (by omega), if_neg (by omega), if_neg (by omega), if_neg (by omega)]
    have hkn : aKnown k = false := by
      unfold aKnown
      have e1 : ((k : Int) == 22) = false := by rw [beq_eq_false_iff_ne]; omega
      have e2 : ((k : Int) == 17) = false := by rw [beq_eq_false_iff_ne]; omega
      have e3 : ((k : Int) == 18) = false := by rw [beq_eq_false_iff_ne]; omega
      rw [d0, e1, e2, e3, d5]; rfl
    rw [if_pos hw0] at hdef
    rw [hkn] at kn
    clear hge hdt hs hw hw0
    unfold byS at *
    refine FnP.intro Try.func14 rfl rfl fun G w => ?_
    repeat' (first
     | refine WK.seq ?_
     | refine WK.block ?_
     | refine WK.inBlock ?_
     | refine WK.skip ?_
     | refine WK.label ?_
     | refine WK.scope ?_
     | refine WK.inScope ?_
     | refine WK.exit rfl ?_
     | refine WK.condT rfl ?_
     | refine WK.condF rfl ?_
     | (refine Hid.h hQ _ _ ?_; clear hQ hA)
     | refine WK.condAny rfl ?_ ?_
     | ((first | refine WK.cond2 rfl (fun h => ?_) (fun h => ?_) | refine Fork.mk (fun h => ?_) (fun h => ?_)) <;> (first | (simp [*] at h; done) | (have h2 := h; simp at h2; exfalso; omega) | (have h2 := h; simp at h2; try simp only [Bool.not_eq_true', Bool.not_eq_false'] at h) | skip))
     | (refine WK.regH Try.ntmps14 (by kernel_rfl) ?_; intro A hA Q hQ; simp [aRes, aBad, act0, Action.enc, oxm0, wideZ, uI_zero, aFault, bne, *])
     | (refine RunQ.gd rfl (by rw [hA.h]; rfl) ?_; simp [aRes, aBad, act0, Action.enc, oxm0, wideZ, uI_zero, aFault, bne, *])
     | ((first | ((first | refine RunQ.call rfl rfl rfl rfl rfl ?_ (g1) ?_ ?_ | refine RunQW.call rfl rfl rfl rfl ?_ (g1) ?_ ?_); (focus (simp [aRes, aBad, act0, Action.enc, oxm0, wideZ, uI_zero, aFault, bne, *]; done))) | ((first | refine RunQ.call rfl rfl rfl rfl rfl ?_ (g2) ?_ ?_ | refine RunQW.call rfl rfl rfl rfl ?_ (g2) ?_ ?_); (focus (simp [aRes, aBad, act0, Action.enc, oxm0, wideZ, uI_zero, aFault, bne, *]; done))) | ((first | refine RunQ.call rfl rfl rfl rfl rfl ?_ (kn) ?_ ?_ | refine RunQW.call rfl rfl rfl rfl ?_ (kn) ?_ ?_); (focus (simp [aRes, aBad, act0, Action.enc, oxm0, wideZ, uI_zero, aFault, bne, *]; done))) | ((first | refine RunQ.call rfl rfl rfl rfl rfl ?_ (b0) ?_ ?_ | refine RunQW.call rfl rfl rfl rfl ?_ (b0) ?_ ?_); (focus (simp [aRes, aBad, act0, Action.enc, oxm0, wideZ, uI_zero, aFault, bne, *]; done)))); (focus (simp [aRes, aBad, act0, Action.enc, oxm0, wideZ, uI_zero, aFault, bne, *]; done)); refine RunQ.evalH ?_; simp [aRes, aBad, act0, Action.enc, oxm0, wideZ, uI_zero, aFault, bne, *])
     | (refine WK.ret Try.func14 ?_ ?_ <;> simp (maxDischargeDepth := 120) [Try.results14, aRes, aBad, act0, Action.enc, oxm0, wideZ, uI_zero, aFault, bne, *])
     | fail)
  have hkk : k = 22 ∨ k = 17 ∨ k = 18 := by
    unfold aLength at hw
    rw [if_neg (by omega)] at hw
    split at hw
    · omega
    split at hw
    · omega
    split at hw
    · omega
    · cases hw
  rw [hw, if_neg (by decide)] at hdef
  by_cases k1 : n = 8
  case neg =>
    rw [if_pos k1] at hdef
    have z8b : (n == 8) = false := by simpa using k1
    rw [z8b] at z8
    have hkn : aKnown k = true := by rcases hkk with rfl | rfl | rfl <;> rfl
    rw [hkn] at kn
    clear k1 hge hdt hs hw hkk
    unfold byS at *
    refine FnP.intro Try.func14 rfl rfl fun G w => ?_
    repeat' (first
     | refine WK.seq ?_
     | refine WK.block ?_
     | refine WK.inBlock ?_
     | refine WK.skip ?_
     | refine WK.label ?_
     | refine WK.scope ?_
     | refine WK.inScope ?_
     | refine WK.exit rfl ?_
     | refine WK.condT rfl ?_
     | refine WK.condF rfl ?_
     | (refine Hid.h hQ _ _ ?_; clear hQ hA)
     | refine WK.condAny rfl ?_ ?_
     | ((first | refine WK.cond2 rfl (fun h => ?_) (fun h => ?_) | refine Fork.mk (fun h => ?_) (fun h => ?_)) <;> (first | (simp [*] at h; done) | (have h2 := h; simp at h2; exfalso; omega) | (have h2 := h; simp at h2; try simp only [Bool.not_eq_true', Bool.not_eq_false'] at h) | skip))
     | (refine WK.regH Try.ntmps14 (by kernel_rfl) ?_; intro A hA Q hQ; simp [aRes, aBad, act0, Action.enc, oxm0, wideZ, uI_zero, aFault, bne, *])
     | (refine RunQ.gd rfl (by rw [hA.h]; rfl) ?_; simp [aRes, aBad, act0, Action.enc, oxm0, wideZ, uI_zero, aFault, bne, *])
     | ((first | ((first | refine RunQ.call rfl rfl rfl rfl rfl ?_ (g1) ?_ ?_ | refine RunQW.call rfl rfl rfl rfl ?_ (g1) ?_ ?_); (focus (simp [aRes, aBad, act0, Action.enc, oxm0, wideZ, uI_zero, aFault, bne, *]; done))) | ((first | refine RunQ.call rfl rfl rfl rfl rfl ?_ (g2) ?_ ?_ | refine RunQW.call rfl rfl rfl rfl ?_ (g2) ?_ ?_); (focus (simp [aRes, aBad, act0, Action.enc, oxm0, wideZ, uI_zero, aFault, bne, *]; done))) | ((first | refine RunQ.call rfl rfl rfl rfl rfl ?_ (kn) ?_ ?_ | refine RunQW.call rfl rfl rfl rfl ?_ (kn) ?_ ?_); (focus (simp [aRes, aBad, act0, Action.enc, oxm0, wideZ, uI_zero, aFault, bne, *]; done))) | ((first | refine RunQ.call rfl rfl rfl rfl rfl ?_ (b1) ?_ ?_ | refine RunQW.call rfl rfl rfl rfl ?_ (b1) ?_ ?_); (focus (simp [aRes, aBad, act0, Action.enc, oxm0, wideZ, uI_zero, aFault, bne, *]; done)))); (focus (simp [aRes, aBad, act0, Action.enc, oxm0, wideZ, uI_zero, aFault, bne, *]; done)); refine RunQ.evalH ?_; simp [aRes, aBad, act0, Action.enc, oxm0, wideZ, uI_zero, aFault, bne, *])
     | (refine WK.ret Try.func14 ?_ ?_ <;> simp (maxDischargeDepth := 120) [Try.results14, aRes, aBad, act0, Action.enc, oxm0, wideZ, uI_zero, aFault, bne, *])
     | fail)
  subst k1
  rw [if_neg (by simp)] at hdef
  have e3 := hge 4 4 (by omega) hnb
  have e5 := hge 4 2 (by omega) hnb
  rw [e3] at g3
  rw [e5] at g5
  have hr := raright_c (aOf k B)
  obtain ⟨q, hre⟩ : ∃ q, Action.right (aOf k B) = q := ⟨_, rfl⟩
  rw [hre] at hr
  have hgn := getN_nonneg B 4 4
  have s6 := hdt 6 8 rfl
  have s4 := hdt 4 8 rfl
  have hz6 := rnoughts_c (B.drop 6) (by rw [List.length_drop]; omega)
  have hz4 := rnoughts_c (B.drop 4) (by rw [List.length_drop]; omega)
  unfold byS at *
  rw [List.length_drop, hBl] at hz4 hz6
  clear hge hdt hs hw e3 e5 hB z8
  have j8b : (8 : Int) ≤ b.length := by omega
  rcases hkk with rfl | rfl | rfl
  · have hz8 : allZ (B.drop 8) = true := by rw [List.drop_of_length_le (by omega)]; rfl
    have hrg : q = decide ((getN B 4 4).1 ≤ 4294967040) := by rw [← hre]; exact aright_group hgn
    have e : aDec b = if q = true then (aOf 22 B, (B.length : Int), none) else aBad 9 := by
      rw [hdef]
      show (if allZ (B.drop 8) = true then aPlain 22 B else aBad 5) = _
      have hre' : Action.right (aOf 22 B) = q := hre
      rw [hz8, if_pos rfl]; unfold aPlain; rw [if_neg (by simp), hre']; rfl
    simp only [aOf, if_neg k0, if_pos rfl, Action.enc, oxm0, wideZ, uI_zero] at hr
    clear hdef hre hz6 hz4 s6 s4 hz8
    refine FnP.intro Try.func14 rfl rfl fun G w => ?_
    cases q
    · have hgt : 4294967040 < (getN B 4 4).1 := by have := of_decide_eq_false hrg.symm; omega
      clear hrg
      repeat' (first
       | refine WK.seq ?_
       | refine WK.block ?_
       | refine WK.inBlock ?_
       | refine WK.skip ?_
       | refine WK.label ?_
       | refine WK.scope ?_
       | refine WK.inScope ?_
       | refine WK.exit rfl ?_
       | refine WK.condT rfl ?_
       | refine WK.condF rfl ?_
       | (refine Hid.h hQ _ _ ?_; clear hQ hA)
       | refine WK.condAny rfl ?_ ?_
       | ((first | refine WK.cond2 rfl (fun h => ?_) (fun h => ?_) | refine Fork.mk (fun h => ?_) (fun h => ?_)) <;> (first | (simp [*] at h; done) | (have h2 := h; simp at h2; exfalso; omega) | (have h2 := h; simp at h2; try simp only [Bool.not_eq_true', Bool.not_eq_false'] at h) | skip))
       | (refine WK.regH Try.ntmps14 (by kernel_rfl) ?_; intro A hA Q hQ; simp [aRes, aBad, act0, Action.enc, oxm0, wideZ, uI_zero, aFault, aKnown, bne, *])
       | (refine RunQ.gd rfl (by rw [hA.h]; rfl) ?_; simp [aRes, aBad, act0, Action.enc, oxm0, wideZ, uI_zero, aFault, aKnown, bne, *])
       | ((first | ((first | refine RunQ.call rfl rfl rfl rfl rfl ?_ (g1) ?_ ?_ | refine RunQW.call rfl rfl rfl rfl ?_ (g1) ?_ ?_); (focus (simp [aRes, aBad, act0, Action.enc, oxm0, wideZ, uI_zero, aFault, aKnown, bne, *]; done))) | ((first | refine RunQ.call rfl rfl rfl rfl rfl ?_ (g2) ?_ ?_ | refine RunQW.call rfl rfl rfl rfl ?_ (g2) ?_ ?_); (focus (simp [aRes, aBad, act0, Action.enc, oxm0, wideZ, uI_zero, aFault, aKnown, bne, *]; done))) | ((first | refine RunQ.call rfl rfl rfl rfl rfl ?_ (kn) ?_ ?_ | refine RunQW.call rfl rfl rfl rfl ?_ (kn) ?_ ?_); (focus (simp [aRes, aBad, act0, Action.enc, oxm0, wideZ, uI_zero, aFault, aKnown, bne, *]; done))) | ((first | refine RunQ.call rfl rfl rfl rfl rfl ?_ (g3) ?_ ?_ | refine RunQW.call rfl rfl rfl rfl ?_ (g3) ?_ ?_); (focus (simp [aRes, aBad, act0, Action.enc, oxm0, wideZ, uI_zero, aFault, aKnown, bne, *]; done))) | ((first | refine RunQ.call rfl rfl rfl rfl rfl ?_ (b9) ?_ ?_ | refine RunQW.call rfl rfl rfl rfl ?_ (b9) ?_ ?_); (focus (simp [aRes, aBad, act0, Action.enc, oxm0, wideZ, uI_zero, aFault, aKnown, bne, *]; done)))); (focus (simp [aRes, aBad, act0, Action.enc, oxm0, wideZ, uI_zero, aFault, aKnown, bne, *]; done)); refine RunQ.evalH ?_; simp [aRes, aBad, act0, Action.enc, oxm0, wideZ, uI_zero, aFault, aKnown, bne, *])
       | (refine WK.ret Try.func14 ?_ ?_ <;> simp (maxDischargeDepth := 120) [Try.results14, aRes, aBad, act0, Action.enc, oxm0, wideZ, uI_zero, aFault, aKnown, bne, *])
       | fail)
    · have hgt : ¬ 4294967040 < (getN B 4 4).1 := by have := of_decide_eq_true hrg.symm; omega
      clear hrg
      repeat' (first
       | refine WK.seq ?_
       | refine WK.block ?_
       | refine WK.inBlock ?_
       | refine WK.skip ?_
       | refine WK.label ?_
       | refine WK.scope ?_
       | refine WK.inScope ?_
       | refine WK.exit rfl ?_
       | refine WK.condT rfl ?_
       | refine WK.condF rfl ?_
       | (refine Hid.h hQ _ _ ?_; clear hQ hA)
       | refine WK.condAny rfl ?_ ?_
       | ((first | refine WK.cond2 rfl (fun h => ?_) (fun h => ?_) | refine Fork.mk (fun h => ?_) (fun h => ?_)) <;> (first | (simp [*] at h; done) | (have h2 := h; simp at h2; exfalso; omega) | (have h2 := h; simp at h2; try simp only [Bool.not_eq_true', Bool.not_eq_false'] at h) | skip))
       | (refine WK.regH Try.ntmps14 (by kernel_rfl) ?_; intro A hA Q hQ; simp [aRes, aBad, act0, Action.enc, oxm0, wideZ, uI_zero, aFault, aKnown, bne, *])
       | (refine RunQ.gd rfl (by rw [hA.h]; rfl) ?_; simp [aRes, aBad, act0, Action.enc, oxm0, wideZ, uI_zero, aFault, aKnown, bne, *])
       | ((first | ((first | refine RunQ.call rfl rfl rfl rfl rfl ?_ (g1) ?_ ?_ | refine RunQW.call rfl rfl rfl rfl ?_ (g1) ?_ ?_); (focus (simp [aRes, aBad, act0, Action.enc, oxm0, wideZ, uI_zero, aFault, aKnown, bne, *]; done))) | ((first | refine RunQ.call rfl rfl rfl rfl rfl ?_ (g2) ?_ ?_ | refine RunQW.call rfl rfl rfl rfl ?_ (g2) ?_ ?_); (focus (simp [aRes, aBad, act0, Action.enc, oxm0, wideZ, uI_zero, aFault, aKnown, bne, *]; done))) | ((first | refine RunQ.call rfl rfl rfl rfl rfl ?_ (kn) ?_ ?_ | refine RunQW.call rfl rfl rfl rfl ?_ (kn) ?_ ?_); (focus (simp [aRes, aBad, act0, Action.enc, oxm0, wideZ, uI_zero, aFault, aKnown, bne, *]; done))) | ((first | refine RunQ.call rfl rfl rfl rfl rfl ?_ (g3) ?_ ?_ | refine RunQW.call rfl rfl rfl rfl ?_ (g3) ?_ ?_); (focus (simp [aRes, aBad, act0, Action.enc, oxm0, wideZ, uI_zero, aFault, aKnown, bne, *]; done))) | ((first | refine RunQ.call rfl rfl rfl rfl rfl ?_ (hr) ?_ ?_ | refine RunQW.call rfl rfl rfl rfl ?_ (hr) ?_ ?_); (focus (simp [aRes, aBad, act0, Action.enc, oxm0, wideZ, uI_zero, aFault, aKnown, bne, *]; done)))); (focus (simp [aRes, aBad, act0, Action.enc, oxm0, wideZ, uI_zero, aFault, aKnown, bne, *]; done)); refine RunQ.evalH ?_; simp [aRes, aBad, act0, Action.enc, oxm0, wideZ, uI_zero, aFault, aKnown, bne, *])
       | (refine WK.ret Try.func14 ?_ ?_ <;> simp (maxDischargeDepth := 120) [Try.results14, aRes, aBad, act0, Action.enc, oxm0, wideZ, uI_zero, aFault, aKnown, bne, aOf, *])
       | fail)
  · have e : aDec b = if allZ (B.drop 6) = true then (if q = true then (aOf 17 B, (B.length : Int), none) else aBad 5) else aBad 5 := by
      rw [hdef]
      have hre' : Action.right (aOf 17 B) = q := hre
      have hpl : aPlain 17 B = if q = true then (aOf 17 B, (B.length : Int), none) else aBad 5 := by unfold aPlain; rw [if_neg (by simp), hre']; rfl
      show (if allZ (B.drop 6) = true then aPlain 17 B else aBad 5) = _
      rw [hpl]
    simp only [aOf, if_neg k0, if_neg (show ¬ ((17 : Nat) : Int) = 22 by decide), if_pos rfl, Action.enc, oxm0, wideZ, uI_zero] at hr
    obtain ⟨E6, hE6⟩ : ∃ E6, B.drop 6 = E6 := ⟨_, rfl⟩
    rw [hE6] at hz6 s6 e
    clear hdef hre hz4 s4 hE6
    refine FnP.intro Try.func14 rfl rfl fun G w => ?_
    cases kz : allZ E6
    · rw [kz, if_neg Bool.false_ne_true] at e
      repeat' (first
       | refine WK.seq ?_
       | refine WK.block ?_
       | refine WK.inBlock ?_
       | refine WK.skip ?_
       | refine WK.label ?_
       | refine WK.scope ?_
       | refine WK.inScope ?_
       | refine WK.exit rfl ?_
       | refine WK.condT rfl ?_
       | refine WK.condF rfl ?_
       | (refine Hid.h hQ _ _ ?_; clear hQ hA)
       | refine WK.condAny rfl ?_ ?_
       | ((first | refine WK.cond2 rfl (fun h => ?_) (fun h => ?_) | refine Fork.mk (fun h => ?_) (fun h => ?_)) <;> (first | (simp [*] at h; done) | (have h2 := h; simp at h2; exfalso; omega) | (have h2 := h; simp at h2; try simp only [Bool.not_eq_true', Bool.not_eq_false'] at h) | skip))
       | (refine WK.regH Try.ntmps14 (by kernel_rfl) ?_; intro A hA Q hQ; simp [aRes, aBad, act0, Action.enc, oxm0, wideZ, uI_zero, aFault, aKnown, bne, *])
       | (refine RunQ.gd rfl (by rw [hA.h]; rfl) ?_; simp [aRes, aBad, act0, Action.enc, oxm0, wideZ, uI_zero, aFault, aKnown, bne, *])
       | ((first | ((first | refine RunQ.call rfl rfl rfl rfl rfl ?_ (g1) ?_ ?_ | refine RunQW.call rfl rfl rfl rfl ?_ (g1) ?_ ?_); (focus (simp [aRes, aBad, act0, Action.enc, oxm0, wideZ, uI_zero, aFault, aKnown, bne, *]; done))) | ((first | refine RunQ.call rfl rfl rfl rfl rfl ?_ (g2) ?_ ?_ | refine RunQW.call rfl rfl rfl rfl ?_ (g2) ?_ ?_); (focus (simp [aRes, aBad, act0, Action.enc, oxm0, wideZ, uI_zero, aFault, aKnown, bne, *]; done))) | ((first | refine RunQ.call rfl rfl rfl rfl rfl ?_ (kn) ?_ ?_ | refine RunQW.call rfl rfl rfl rfl ?_ (kn) ?_ ?_); (focus (simp [aRes, aBad, act0, Action.enc, oxm0, wideZ, uI_zero, aFault, aKnown, bne, *]; done))) | ((first | refine RunQ.call rfl rfl rfl rfl rfl ?_ (hz6) ?_ ?_ | refine RunQW.call rfl rfl rfl rfl ?_ (hz6) ?_ ?_); (focus (simp [aRes, aBad, act0, Action.enc, oxm0, wideZ, uI_zero, aFault, aKnown, bne, *]; done))) | ((first | refine RunQ.call rfl rfl rfl rfl rfl ?_ (b5) ?_ ?_ | refine RunQW.call rfl rfl rfl rfl ?_ (b5) ?_ ?_); (focus (simp [aRes, aBad, act0, Action.enc, oxm0, wideZ, uI_zero, aFault, aKnown, bne, *]; done)))); (focus (simp [aRes, aBad, act0, Action.enc, oxm0, wideZ, uI_zero, aFault, aKnown, bne, *]; done)); refine RunQ.evalH ?_; simp [aRes, aBad, act0, Action.enc, oxm0, wideZ, uI_zero, aFault, aKnown, bne, *])
       | (refine WK.ret Try.func14 ?_ ?_ <;> simp (maxDischargeDepth := 120) [Try.results14, aRes, aBad, act0, Action.enc, oxm0, wideZ, uI_zero, aFault, aKnown, bne, *])
       | fail)
    rw [kz, if_pos rfl] at e
    cases q
    · repeat' (first
       | refine WK.seq ?_
       | refine WK.block ?_
       | refine WK.inBlock ?_
       | refine WK.skip ?_
       | refine WK.label ?_
       | refine WK.scope ?_
       | refine WK.inScope ?_
       | refine WK.exit rfl ?_
       | refine WK.condT rfl ?_
       | refine WK.condF rfl ?_
       | (refine Hid.h hQ _ _ ?_; clear hQ hA)
       | refine WK.condAny rfl ?_ ?_
       | ((first | refine WK.cond2 rfl (fun h => ?_) (fun h => ?_) | refine Fork.mk (fun h => ?_) (fun h => ?_)) <;> (first | (simp [*] at h; done) | (have h2 := h; simp at h2; exfalso; omega) | (have h2 := h; simp at h2; try simp only [Bool.not_eq_true', Bool.not_eq_false'] at h) | skip))
       | (refine WK.regH Try.ntmps14 (by kernel_rfl) ?_; intro A hA Q hQ; simp [aRes, aBad, act0, Action.enc, oxm0, wideZ, uI_zero, aFault, aKnown, bne, *])
       | (refine RunQ.gd rfl (by rw [hA.h]; rfl) ?_; simp [aRes, aBad, act0, Action.enc, oxm0, wideZ, uI_zero, aFault, aKnown, bne, *])
       | ((first | ((first | refine RunQ.call rfl rfl rfl rfl rfl ?_ (g1) ?_ ?_ | refine RunQW.call rfl rfl rfl rfl ?_ (g1) ?_ ?_); (focus (simp [aRes, aBad, act0, Action.enc, oxm0, wideZ, uI_zero, aFault, aKnown, bne, *]; done))) | ((first | refine RunQ.call rfl rfl rfl rfl rfl ?_ (g2) ?_ ?_ | refine RunQW.call rfl rfl rfl rfl ?_ (g2) ?_ ?_); (focus (simp [aRes, aBad, act0, Action.enc, oxm0, wideZ, uI_zero, aFault, aKnown, bne, *]; done))) | ((first | refine RunQ.call rfl rfl rfl rfl rfl ?_ (kn) ?_ ?_ | refine RunQW.call rfl rfl rfl rfl ?_ (kn) ?_ ?_); (focus (simp [aRes, aBad, act0, Action.enc, oxm0, wideZ, uI_zero, aFault, aKnown, bne, *]; done))) | ((first | refine RunQ.call rfl rfl rfl rfl rfl ?_ (hz6) ?_ ?_ | refine RunQW.call rfl rfl rfl rfl ?_ (hz6) ?_ ?_); (focus (simp [aRes, aBad, act0, Action.enc, oxm0, wideZ, uI_zero, aFault, aKnown, bne, *]; done))) | ((first | refine RunQ.call rfl rfl rfl rfl rfl ?_ (g5) ?_ ?_ | refine RunQW.call rfl rfl rfl rfl ?_ (g5) ?_ ?_); (focus (simp [aRes, aBad, act0, Action.enc, oxm0, wideZ, uI_zero, aFault, aKnown, bne, *]; done))) | ((first | refine RunQ.call rfl rfl rfl rfl rfl ?_ (hr) ?_ ?_ | refine RunQW.call rfl rfl rfl rfl ?_ (hr) ?_ ?_); (focus (simp [aRes, aBad, act0, Action.enc, oxm0, wideZ, uI_zero, aFault, aKnown, bne, *]; done))) | ((first | refine RunQ.call rfl rfl rfl rfl rfl ?_ (b5) ?_ ?_ | refine RunQW.call rfl rfl rfl rfl ?_ (b5) ?_ ?_); (focus (simp [aRes, aBad, act0, Action.enc, oxm0, wideZ, uI_zero, aFault, aKnown, bne, *]; done)))); (focus (simp [aRes, aBad, act0, Action.enc, oxm0, wideZ, uI_zero, aFault, aKnown, bne, *]; done)); refine RunQ.evalH ?_; simp [aRes, aBad, act0, Action.enc, oxm0, wideZ, uI_zero, aFault, aKnown, bne, *])
       | (refine WK.ret Try.func14 ?_ ?_ <;> simp (maxDischargeDepth := 120) [Try.results14, aRes, aBad, act0, Action.enc, oxm0, wideZ, uI_zero, aFault, aKnown, bne, *])
       | fail)
    · repeat' (first
       | refine WK.seq ?_
       | refine WK.block ?_
       | refine WK.inBlock ?_
       | refine WK.skip ?_
       | refine WK.label ?_
       | refine WK.scope ?_
       | refine WK.inScope ?_
       | refine WK.exit rfl ?_
       | refine WK.condT rfl ?_
       | refine WK.condF rfl ?_
       | (refine Hid.h hQ _ _ ?_; clear hQ hA)
       | refine WK.condAny rfl ?_ ?_
       | ((first | refine WK.cond2 rfl (fun h => ?_) (fun h => ?_) | refine Fork.mk (fun h => ?_) (fun h => ?_)) <;> (first | (simp [*] at h; done) | (have h2 := h; simp at h2; exfalso; omega) | (have h2 := h; simp at h2; try simp only [Bool.not_eq_true', Bool.not_eq_false'] at h) | skip))
       | (refine WK.regH Try.ntmps14 (by kernel_rfl) ?_; intro A hA Q hQ; simp [aRes, aBad, act0, Action.enc, oxm0, wideZ, uI_zero, aFault, aKnown, bne, *])
       | (refine RunQ.gd rfl (by rw [hA.h]; rfl) ?_; simp [aRes, aBad, act0, Action.enc, oxm0, wideZ, uI_zero, aFault, aKnown, bne, *])
       | ((first | ((first | refine RunQ.call rfl rfl rfl rfl rfl ?_ (g1) ?_ ?_ | refine RunQW.call rfl rfl rfl rfl ?_ (g1) ?_ ?_); (focus (simp [aRes, aBad, act0, Action.enc, oxm0, wideZ, uI_zero, aFault, aKnown, bne, *]; done))) | ((first | refine RunQ.call rfl rfl rfl rfl rfl ?_ (g2) ?_ ?_ | refine RunQW.call rfl rfl rfl rfl ?_ (g2) ?_ ?_); (focus (simp [aRes, aBad, act0, Action.enc, oxm0, wideZ, uI_zero, aFault, aKnown, bne, *]; done))) | ((first | refine RunQ.call rfl rfl rfl rfl rfl ?_ (kn) ?_ ?_ | refine RunQW.call rfl rfl rfl rfl ?_ (kn) ?_ ?_); (focus (simp [aRes, aBad, act0, Action.enc, oxm0, wideZ, uI_zero, aFault, aKnown, bne, *]; done))) | ((first | refine RunQ.call rfl rfl rfl rfl rfl ?_ (hz6) ?_ ?_ | refine RunQW.call rfl rfl rfl rfl ?_ (hz6) ?_ ?_); (focus (simp [aRes, aBad, act0, Action.enc, oxm0, wideZ, uI_zero, aFault, aKnown, bne, *]; done))) | ((first | refine RunQ.call rfl rfl rfl rfl rfl ?_ (g5) ?_ ?_ | refine RunQW.call rfl rfl rfl rfl ?_ (g5) ?_ ?_); (focus (simp [aRes, aBad, act0, Action.enc, oxm0, wideZ, uI_zero, aFault, aKnown, bne, *]; done))) | ((first | refine RunQ.call rfl rfl rfl rfl rfl ?_ (hr) ?_ ?_ | refine RunQW.call rfl rfl rfl rfl ?_ (hr) ?_ ?_); (focus (simp [aRes, aBad, act0, Action.enc, oxm0, wideZ, uI_zero, aFault, aKnown, bne, *]; done)))); (focus (simp [aRes, aBad, act0, Action.enc, oxm0, wideZ, uI_zero, aFault, aKnown, bne, *]; done)); refine RunQ.evalH ?_; simp [aRes, aBad, act0, Action.enc, oxm0, wideZ, uI_zero, aFault, aKnown, bne, *])
       | (refine WK.ret Try.func14 ?_ ?_ <;> simp (maxDischargeDepth := 120) [Try.results14, aRes, aBad, act0, Action.enc, oxm0, wideZ, uI_zero, aFault, aKnown, bne, aOf, *])
       | fail)
  · have e : aDec b = if allZ (B.drop 4) = true then (if q = true then (aOf 18 B, (B.length : Int), none) else aBad 5) else aBad 5 := by
      rw [hdef]
      have hre' : Action.right (aOf 18 B) = q := hre
      have hpl : aPlain 18 B = if q = true then (aOf 18 B, (B.length : Int), none) else aBad 5 := by unfold aPlain; rw [if_neg (by simp), hre']; rfl
      show (if allZ (B.drop 4) = true then aPlain 18 B else aBad 5) = _
      rw [hpl]
    simp only [aOf, if_neg k0, if_neg (show ¬ ((18 : Nat) : Int) = 22 by decide), if_neg (show ¬ ((18 : Nat) : Int) = 17 by decide), Action.enc, oxm0, wideZ, uI_zero] at hr
    obtain ⟨E6, hE6⟩ : ∃ E6, B.drop 4 = E6 := ⟨_, rfl⟩
    rw [hE6] at hz4 s4 e
    clear hdef hre hz6 s6 hE6
    refine FnP.intro Try.func14 rfl rfl fun G w => ?_
    cases kz : allZ E6
    · rw [kz, if_neg Bool.false_ne_true] at e
      repeat' (first
       | refine WK.seq ?_
       | refine WK.block ?_
       | refine WK.inBlock ?_
       | refine WK.skip ?_
       | refine WK.label ?_
       | refine WK.scope ?_
       | refine WK.inScope ?_
       | refine WK.exit rfl ?_
       | refine WK.condT rfl ?_
       | refine WK.condF rfl ?_
       | (refine Hid.h hQ _ _ ?_; clear hQ hA)
       | refine WK.condAny rfl ?_ ?_
       | ((first | refine WK.cond2 rfl (fun h => ?_) (fun h => ?_) | refine Fork.mk (fun h => ?_) (fun h => ?_)) <;> (first | (simp [*] at h; done) | (have h2 := h; simp at h2; exfalso; omega) | (have h2 := h; simp at h2; try simp only [Bool.not_eq_true', Bool.not_eq_false'] at h) | skip))
       | (refine WK.regH Try.ntmps14 (by kernel_rfl) ?_; intro A hA Q hQ; simp [aRes, aBad, act0, Action.enc, oxm0, wideZ, uI_zero, aFault, aKnown, bne, *])
       | (refine RunQ.gd rfl (by rw [hA.h]; rfl) ?_; simp [aRes, aBad, act0, Action.enc, oxm0, wideZ, uI_zero, aFault, aKnown, bne, *])
       | ((first | ((first | refine RunQ.call rfl rfl rfl rfl rfl ?_ (g1) ?_ ?_ | refine RunQW.call rfl rfl rfl rfl ?_ (g1) ?_ ?_); (focus (simp [aRes, aBad, act0, Action.enc, oxm0, wideZ, uI_zero, aFault, aKnown, bne, *]; done))) | ((first | refine RunQ.call rfl rfl rfl rfl rfl ?_ (g2) ?_ ?_ | refine RunQW.call rfl rfl rfl rfl ?_ (g2) ?_ ?_); (focus (simp [aRes, aBad, act0, Action.enc, oxm0, wideZ, uI_zero, aFault, aKnown, bne, *]; done))) | ((first | refine RunQ.call rfl rfl rfl rfl rfl ?_ (kn) ?_ ?_ | refine RunQW.call rfl rfl rfl rfl ?_ (kn) ?_ ?_); (focus (simp [aRes, aBad, act0, Action.enc, oxm0, wideZ, uI_zero, aFault, aKnown, bne, *]; done))) | ((first | refine RunQ.call rfl rfl rfl rfl rfl ?_ (hz4) ?_ ?_ | refine RunQW.call rfl rfl rfl rfl ?_ (hz4) ?_ ?_); (focus (simp [aRes, aBad, act0, Action.enc, oxm0, wideZ, uI_zero, aFault, aKnown, bne, *]; done))) | ((first | refine RunQ.call rfl rfl rfl rfl rfl ?_ (b5) ?_ ?_ | refine RunQW.call rfl rfl rfl rfl ?_ (b5) ?_ ?_); (focus (simp [aRes, aBad, act0, Action.enc, oxm0, wideZ, uI_zero, aFault, aKnown, bne, *]; done)))); (focus (simp [aRes, aBad, act0, Action.enc, oxm0, wideZ, uI_zero, aFault, aKnown, bne, *]; done)); refine RunQ.evalH ?_; simp [aRes, aBad, act0, Action.enc, oxm0, wideZ, uI_zero, aFault, aKnown, bne, *])
       | (refine WK.ret Try.func14 ?_ ?_ <;> simp (maxDischargeDepth := 120) [Try.results14, aRes, aBad, act0, Action.enc, oxm0, wideZ, uI_zero, aFault, aKnown, bne, *])
       | fail)
    rw [kz, if_pos rfl] at e
    cases q
    · repeat' (first
       | refine WK.seq ?_
       | refine WK.block ?_
       | refine WK.inBlock ?_
       | refine WK.skip ?_
       | refine WK.label ?_
       | refine WK.scope ?_
       | refine WK.inScope ?_
       | refine WK.exit rfl ?_
       | refine WK.condT rfl ?_
       | refine WK.condF rfl ?_
       | (refine Hid.h hQ _ _ ?_; clear hQ hA)
       | refine WK.condAny rfl ?_ ?_
       | ((first | refine WK.cond2 rfl (fun h => ?_) (fun h => ?_) | refine Fork.mk (fun h => ?_) (fun h => ?_)) <;> (first | (simp [*] at h; done) | (have h2 := h; simp at h2; exfalso; omega) | (have h2 := h; simp at h2; try simp only [Bool.not_eq_true', Bool.not_eq_false'] at h) | skip))
       | (refine WK.regH Try.ntmps14 (by kernel_rfl) ?_; intro A hA Q hQ; simp [aRes, aBad, act0, Action.enc, oxm0, wideZ, uI_zero, aFault, aKnown, bne, *])
       | (refine RunQ.gd rfl (by rw [hA.h]; rfl) ?_; simp [aRes, aBad, act0, Action.enc, oxm0, wideZ, uI_zero, aFault, aKnown, bne, *])
       | ((first | ((first | refine RunQ.call rfl rfl rfl rfl rfl ?_ (g1) ?_ ?_ | refine RunQW.call rfl rfl rfl rfl ?_ (g1) ?_ ?_); (focus (simp [aRes, aBad, act0, Action.enc, oxm0, wideZ, uI_zero, aFault, aKnown, bne, *]; done))) | ((first | refine RunQ.call rfl rfl rfl rfl rfl ?_ (g2) ?_ ?_ | refine RunQW.call rfl rfl rfl rfl ?_ (g2) ?_ ?_); (focus (simp [aRes, aBad, act0, Action.enc, oxm0, wideZ, uI_zero, aFault, aKnown, bne, *]; done))) | ((first | refine RunQ.call rfl rfl rfl rfl rfl ?_ (kn) ?_ ?_ | refine RunQW.call rfl rfl rfl rfl ?_ (kn) ?_ ?_); (focus (simp [aRes, aBad, act0, Action.enc, oxm0, wideZ, uI_zero, aFault, aKnown, bne, *]; done))) | ((first | refine RunQ.call rfl rfl rfl rfl rfl ?_ (hz4) ?_ ?_ | refine RunQW.call rfl rfl rfl rfl ?_ (hz4) ?_ ?_); (focus (simp [aRes, aBad, act0, Action.enc, oxm0, wideZ, uI_zero, aFault, aKnown, bne, *]; done))) | ((first | refine RunQ.call rfl rfl rfl rfl rfl ?_ (hr) ?_ ?_ | refine RunQW.call rfl rfl rfl rfl ?_ (hr) ?_ ?_); (focus (simp [aRes, aBad, act0, Action.enc, oxm0, wideZ, uI_zero, aFault, aKnown, bne, *]; done))) | ((first | refine RunQ.call rfl rfl rfl rfl rfl ?_ (b5) ?_ ?_ | refine RunQW.call rfl rfl rfl rfl ?_ (b5) ?_ ?_); (focus (simp [aRes, aBad, act0, Action.enc, oxm0, wideZ, uI_zero, aFault, aKnown, bne, *]; done)))); (focus (simp [aRes, aBad, act0, Action.enc, oxm0, wideZ, uI_zero, aFault, aKnown, bne, *]; done)); refine RunQ.evalH ?_; simp [aRes, aBad, act0, Action.enc, oxm0, wideZ, uI_zero, aFault, aKnown, bne, *])
       | (refine WK.ret Try.func14 ?_ ?_ <;> simp (maxDischargeDepth := 120) [Try.results14, aRes, aBad, act0, Action.enc, oxm0, wideZ, uI_zero, aFault, aKnown, bne, *])
       | fail)
    · repeat' (first
       | refine WK.seq ?_
       | refine WK.block ?_
       | refine WK.inBlock ?_
       | refine WK.skip ?_
       | refine WK.label ?_
       | refine WK.scope ?_
       | refine WK.inScope ?_
       | refine WK.exit rfl ?_
       | refine WK.condT rfl ?_
       | refine WK.condF rfl ?_
       | (refine Hid.h hQ _ _ ?_; clear hQ hA)
       | refine WK.condAny rfl ?_ ?_
       | ((first | refine WK.cond2 rfl (fun h => ?_) (fun h => ?_) | refine Fork.mk (fun h => ?_) (fun h => ?_)) <;> (first | (simp [*] at h; done) | (have h2 := h; simp at h2; exfalso; omega) | (have h2 := h; simp at h2; try simp only [Bool.not_eq_true', Bool.not_eq_false'] at h) | skip))
       | (refine WK.regH Try.ntmps14 (by kernel_rfl) ?_; intro A hA Q hQ; simp [aRes, aBad, act0, Action.enc, oxm0, wideZ, uI_zero, aFault, aKnown, bne, *])
       | (refine RunQ.gd rfl (by rw [hA.h]; rfl) ?_; simp [aRes, aBad, act0, Action.enc, oxm0, wideZ, uI_zero, aFault, aKnown, bne, *])
       | ((first | ((first | refine RunQ.call rfl rfl rfl rfl rfl ?_ (g1) ?_ ?_ | refine RunQW.call rfl rfl rfl rfl ?_ (g1) ?_ ?_); (focus (simp [aRes, aBad, act0, Action.enc, oxm0, wideZ, uI_zero, aFault, aKnown, bne, *]; done))) | ((first | refine RunQ.call rfl rfl rfl rfl rfl ?_ (g2) ?_ ?_ | refine RunQW.call rfl rfl rfl rfl ?_ (g2) ?_ ?_); (focus (simp [aRes, aBad, act0, Action.enc, oxm0, wideZ, uI_zero, aFault, aKnown, bne, *]; done))) | ((first | refine RunQ.call rfl rfl rfl rfl rfl ?_ (kn) ?_ ?_ | refine RunQW.call rfl rfl rfl rfl ?_ (kn) ?_ ?_); (focus (simp [aRes, aBad, act0, Action.enc, oxm0, wideZ, uI_zero, aFault, aKnown, bne, *]; done))) | ((first | refine RunQ.call rfl rfl rfl rfl rfl ?_ (hz4) ?_ ?_ | refine RunQW.call rfl rfl rfl rfl ?_ (hz4) ?_ ?_); (focus (simp [aRes, aBad, act0, Action.enc, oxm0, wideZ, uI_zero, aFault, aKnown, bne, *]; done))) | ((first | refine RunQ.call rfl rfl rfl rfl rfl ?_ (hr) ?_ ?_ | refine RunQW.call rfl rfl rfl rfl ?_ (hr) ?_ ?_); (focus (simp [aRes, aBad, act0, Action.enc, oxm0, wideZ, uI_zero, aFault, aKnown, bne, *]; done)))); (focus (simp [aRes, aBad, act0, Action.enc, oxm0, wideZ, uI_zero, aFault, aKnown, bne, *]; done)); refine RunQ.evalH ?_; simp [aRes, aBad, act0, Action.enc, oxm0, wideZ, uI_zero, aFault, aKnown, bne, *])
       | (refine WK.ret Try.func14 ?_ ?_ <;> simp (maxDischargeDepth := 120) [Try.results14, aRes, aBad, act0, Action.enc, oxm0, wideZ, uI_zero, aFault, aKnown, bne, aOf, *])
       | fail)
end Go.Proofs.Ytbncoeoamjcjjaa
end

section
set_option linter.unusedVariables false
set_option linter.unusedSimpArgs false
namespace Go.Proofs.Ytbncoeoamjcjjaa
open Go Go.AI Go.Proofs
attribute [local irreducible] FnP FnO FnB FnT FnSeq WK RunQ RunQW RunX RunXW

theorem aencP_c (a : Action) : FnP Try.prog 22 [.agg a.enc] (.tup [byS (aEnc a).1, .int .i64 (aEnc a).2]) := by
  have h := (aenc_c a).toP (by simp [byL_take]) (by rfl)
  rwa [Nat.mul_one, by_full _ _ rfl] at h
def A12 : Action := ⟨0, 4294967293, 128, 0, 0, oxm0⟩
theorem fA12a : (aEnc A12).1.length = 16 := by kernel_rfl
theorem fA12b : (aEnc A12).2 = 0 := by kernel_rfl
theorem fA12c : aDec (aEnc A12).1 = (A12, 16, none) := by kernel_rfl
theorem fA12d : aDec [] = aBad 1 := by kernel_rfl
theorem fA12e : Action.right A12 = true := by kernel_rfl
theorem awake12_c : FnP Try.prog 12 [] (.bool true) := by
  have p := aencP_c A12
  have d := adec_c (aEnc A12).1 (by rw [fA12a]; omega)
  have d0 := adec_c [] (by simp)
  have r := aright_c A12
  have s := asame_c A12 A12
  rw [fA12c] at d
  rw [fA12d] at d0
  rw [fA12e] at r
  rw [fA12b] at p
  have hl := fA12a
  obtain ⟨B, hB⟩ : ∃ B, (aEnc A12).1 = B := ⟨_, rfl⟩
  rw [hB] at p d hl
  clear hB
  unfold byS at p d d0
  rw [hl] at p d
  have s1 := asets_c 2
  have s2 := asets_c 0
  rw [show aSets 2 = true from rfl] at s1
  rw [show aSets 0 = false from rfl] at s2
  rw [beq_self_eq_true] at s
  simp only [aRes, aBad, aFault, A12, act0, Action.enc, oxm0, wideZ, uI_zero, List.length_nil, byL_nil] at p d d0 r s
  refine FnP.intro Try.func12 rfl rfl fun G w => ?_
  repeat' (first
   | refine WK.seq ?_
   | refine WK.block ?_
   | refine WK.inBlock ?_
   | refine WK.skip ?_
   | refine WK.label ?_
   | refine WK.scope ?_
   | refine WK.inScope ?_
   | refine WK.exit rfl ?_
   | refine WK.condT rfl ?_
   | refine WK.condF rfl ?_
   | (refine Hid.h hQ _ _ ?_; clear hQ hA)
   | refine WK.condAny rfl ?_ ?_
   | ((first | refine WK.cond2 rfl (fun h => ?_) (fun h => ?_) | refine Fork.mk (fun h => ?_) (fun h => ?_)) <;> (first | (simp [*] at h; done) | (have h2 := h; simp at h2; exfalso; omega) | (have h2 := h; simp at h2; try simp only [Bool.not_eq_true', Bool.not_eq_false'] at h) | skip))
   | (refine WK.regH Try.ntmps12 (by kernel_rfl) ?_; intro A hA Q hQ; simp [*])
   | (refine RunQ.gd rfl (by rw [hA.h]; rfl) ?_; simp [*])
   | ((first | ((first | refine RunQ.call rfl rfl rfl rfl rfl ?_ (p) ?_ ?_ | refine RunQW.call rfl rfl rfl rfl ?_ (p) ?_ ?_); (focus (simp [*]; done))) | ((first | refine RunQ.call rfl rfl rfl rfl rfl ?_ (d) ?_ ?_ | refine RunQW.call rfl rfl rfl rfl ?_ (d) ?_ ?_); (focus (simp [*]; done))) | ((first | refine RunQ.call rfl rfl rfl rfl rfl ?_ (d0) ?_ ?_ | refine RunQW.call rfl rfl rfl rfl ?_ (d0) ?_ ?_); (focus (simp [*]; done))) | ((first | refine RunQ.call rfl rfl rfl rfl rfl ?_ (r) ?_ ?_ | refine RunQW.call rfl rfl rfl rfl ?_ (r) ?_ ?_); (focus (simp [*]; done))) | ((first | refine RunQ.call rfl rfl rfl rfl rfl ?_ (s) ?_ ?_ | refine RunQW.call rfl rfl rfl rfl ?_ (s) ?_ ?_); (focus (simp [*]; done))) | ((first | refine RunQ.call rfl rfl rfl rfl rfl ?_ (s1) ?_ ?_ | refine RunQW.call rfl rfl rfl rfl ?_ (s1) ?_ ?_); (focus (simp [*]; done))) | ((first | refine RunQ.call rfl rfl rfl rfl rfl ?_ (s2) ?_ ?_ | refine RunQW.call rfl rfl rfl rfl ?_ (s2) ?_ ?_); (focus (simp [*]; done)))); (focus (simp [*]; done)); refine RunQ.evalH ?_; simp [*])
   | (refine WK.ret Try.func12 ?_ ?_ <;> simp (maxDischargeDepth := 120) [Try.results12, *])
   | fail)
theorem actionDecodes_c (b : List (BitVec 8)) : FnP Try.prog 3 [byS b] (.bool true) := by
  by_cases h : 70000 < b.length
  · have h' : (70000 : Int) < b.length := by omega
    unfold byS
    refine FnP.intro Try.func3 rfl rfl fun G w => ?_
    repeat' (first
     | refine WK.seq ?_
     | refine WK.block ?_
     | refine WK.inBlock ?_
     | refine WK.skip ?_
     | refine WK.label ?_
     | refine WK.scope ?_
     | refine WK.inScope ?_
     | refine WK.exit rfl ?_
     | refine WK.condT rfl ?_
     | refine WK.condF rfl ?_
     | (refine Hid.h hQ _ _ ?_; clear hQ hA)
     | refine WK.condAny rfl ?_ ?_
     | ((first | refine WK.cond2 rfl (fun h => ?_) (fun h => ?_) | refine Fork.mk (fun h => ?_) (fun h => ?_)) <;> (first | (simp [*] at h; done) | (have h2 := h; simp at h2; exfalso; omega) | (have h2 := h; simp at h2; try simp only [Bool.not_eq_true', Bool.not_eq_false'] at h) | skip))
     | (refine WK.regH Try.ntmps3 (by kernel_rfl) ?_; intro A hA Q hQ; simp [*])
     | (refine RunQ.gd rfl (by rw [hA.h]; rfl) ?_; simp [*])
     | (((first | refine RunQ.call rfl rfl rfl rfl rfl ?_ (awake12_c) ?_ ?_ | refine RunQW.call rfl rfl rfl rfl ?_ (awake12_c) ?_ ?_); (focus (simp [*]; done))); (focus (simp [*]; done)); refine RunQ.evalH ?_; simp [*])
     | (refine WK.ret Try.func3 ?_ ?_ <;> simp (maxDischargeDepth := 120) [Try.results3, *])
     | fail)
  · have h' : ¬ (70000 : Int) < b.length := by omega
    have d := adec_c b (by omega)
    have e := radec_c b (by omega)
    obtain ⟨R, hR⟩ : ∃ R, aDec b = R := ⟨_, rfl⟩
    rw [hR] at d e
    obtain ⟨ra, rn, rf⟩ := R
    unfold byS at *
    clear hR
    refine FnP.intro Try.func3 rfl rfl fun G w => ?_
    cases rf <;>
    · repeat' (first
       | refine WK.seq ?_
       | refine WK.block ?_
       | refine WK.inBlock ?_
       | refine WK.skip ?_
       | refine WK.label ?_
       | refine WK.scope ?_
       | refine WK.inScope ?_
       | refine WK.exit rfl ?_
       | refine WK.condT rfl ?_
       | refine WK.condF rfl ?_
       | (refine Hid.h hQ _ _ ?_; clear hQ hA)
       | refine WK.condAny rfl ?_ ?_
       | ((first | refine WK.cond2 rfl (fun h => ?_) (fun h => ?_) | refine Fork.mk (fun h => ?_) (fun h => ?_)) <;> (first | (simp [*] at h; done) | (have h2 := h; simp at h2; exfalso; omega) | (have h2 := h; simp at h2; try simp only [Bool.not_eq_true', Bool.not_eq_false'] at h) | skip))
       | (refine WK.regH Try.ntmps3 (by kernel_rfl) ?_; intro A hA Q hQ; simp [aRes, aFault, *])
       | (refine RunQ.gd rfl (by rw [hA.h]; rfl) ?_; simp [aRes, aFault, *])
       | ((first | ((first | refine RunQ.call rfl rfl rfl rfl rfl ?_ (d) ?_ ?_ | refine RunQW.call rfl rfl rfl rfl ?_ (d) ?_ ?_); (focus (simp [aRes, aFault, *]; done))) | ((first | refine RunQ.call rfl rfl rfl rfl rfl ?_ (e) ?_ ?_ | refine RunQW.call rfl rfl rfl rfl ?_ (e) ?_ ?_); (focus (simp [aRes, aFault, *]; done))) | ((first | refine RunQ.call rfl rfl rfl rfl rfl ?_ (awake12_c) ?_ ?_ | refine RunQW.call rfl rfl rfl rfl ?_ (awake12_c) ?_ ?_); (focus (simp [aRes, aFault, *]; done)))); (focus (simp [aRes, aFault, *]; done)); refine RunQ.evalH ?_; simp [aRes, aFault, *])
       | (refine WK.ret Try.func3 ?_ ?_ <;> simp (maxDischargeDepth := 120) [Try.results3, aRes, aFault, *])
       | fail)
end Go.Proofs.Ytbncoeoamjcjjaa
end
