/- Actions: one that sets a field, read by both sides. -/
import Derived.Test.YtiifjagnhnchoaaGreatWk5
set_option linter.all false
set_option linter.unnecessarySimpa false
section
set_option linter.unusedVariables false
set_option linter.unusedSimpArgs false
namespace Go.Proofs.YtiifjagnhnchoaaGreat
open Go Go.AI Go.Proofs
attribute [local irreducible] FnP FnO FnB FnT FnSeq WK RunQ RunQW RunX RunXW

/-- how many bytes a part's reading takes -/
def oLen (b : List (BitVec 8)) : Nat := (oDec b).2.1.toNat
theorem oLen_eq (b : List (BitVec 8)) : (oDec b).2.1 = (oLen b : Int) ∧ oLen b ≤ 259 := by
  have h : 0 ≤ (oDec b).2.1 ∧ (oDec b).2.1 ≤ 259 := by
    have := bAt_lt b 3
    unfold oDec
    split
    · split <;> (simp only; omega)
    · simp
  unfold oLen; omega
def aSetD (b : List (BitVec 8)) : Action × Int × Option Int :=
  if (oDec (b.drop 4)).2.2 = 1 then aBad 14 else if (oDec (b.drop 4)).2.2 = 6 then aBad 13 else if (oDec (b.drop 4)).2.2 = 0 then
    (if b.length = (4 + oLen (b.drop 4) + 7) / 8 * 8 then (if allZ (b.drop (4 + oLen (b.drop 4))) = true then (if aSets (oDec (b.drop 4)).1.field = true then
      (if (oDec (b.drop 4)).1.masked = true then aBad 15 else (⟨25, 0, 0, 0, 0, (oDec (b.drop 4)).1⟩, (b.length : Int), none)) else aBad 13) else aBad 5) else aBad 1) else aBad 15
set_option maxHeartbeats 4000000 in
theorem aset_c (b : List (BitVec 8)) (hb : b.length ≤ 65536) (h8 : 8 ≤ b.length) : FnP Tryz.prog 149 [byS b] (aRes (aSetD b)) := by
  have hd := odec_c (b.drop 4) (by rw [List.length_drop]; omega)
  have hol := oLen_eq (b.drop 4)
  have hn : aSetD b = if (oDec (b.drop 4)).2.2 = 1 then aBad 14 else if (oDec (b.drop 4)).2.2 = 6 then aBad 13 else if (oDec (b.drop 4)).2.2 = 0 then
    (if b.length = (4 + oLen (b.drop 4) + 7) / 8 * 8 then (if allZ (b.drop (4 + oLen (b.drop 4))) = true then (if aSets (oDec (b.drop 4)).1.field = true then
      (if (oDec (b.drop 4)).1.masked = true then aBad 15 else (⟨25, 0, 0, 0, 0, (oDec (b.drop 4)).1⟩, (b.length : Int), none)) else aBad 13) else aBad 5) else aBad 1) else aBad 15 := rfl
  obtain ⟨x, hx⟩ : ∃ x, oLen (b.drop 4) = x := ⟨_, rfl⟩
  obtain ⟨D, hD⟩ : ∃ D, oDec (b.drop 4) = D := ⟨_, rfl⟩
  rw [hx, hD] at hol
  rw [hx, hD] at hn
  rw [hD, hol.1] at hd
  have hx9 := hol.2
  obtain ⟨o, m, c⟩ := D
  simp only at hn hd
  clear hD hx hol
  have d4 : ((byL b).drop 4).take (b.length - 4) = byL (b.drop 4) := by rw [byL_drop]; exact by_full _ _ (by rw [List.length_drop])
  have j4 : (4 : Int) ≤ b.length := by omega
  unfold byS at *
  rw [List.length_drop] at hd
  have b1 := abad_c 1
  have b5 := abad_c 5
  have b13 := abad_c 13
  have b14 := abad_c 14
  have b15 := abad_c 15
  by_cases c1 : c = 1
  · subst c1
    have e : aSetD b = aBad 14 := by rw [hn, if_pos rfl]
    clear hn
    simp only [oFault, if_neg (show ¬ (1 : Int) = 0 by decide)] at hd
    refine FnP.intro Tryz.func149 rfl rfl fun G w => ?_
    repeat' (first
     | refine WK.seq ?_
     | refine WK.block ?_
     | refine WK.condT rfl ?_
     | (refine Hid.h hQ _ _ ?_; clear hQ hA)
     | (refine WK.regH Tryz.ntmps149 (by kernel_rfl) ?_; intro A hA Q hQ; simp [aRes, aBad, act0, Action.enc, Oxm.enc, oxm0, wideZ, uI_zero, aFault, *])
     | (refine RunQ.gd rfl (by rw [hA.h]; rfl) ?_; simp [aRes, aBad, act0, Action.enc, Oxm.enc, oxm0, wideZ, uI_zero, aFault, *])
     | (refine RunQ.call rfl rfl rfl rfl rfl ?_ (hd) ?_ ?_; (focus (simp (maxDischargeDepth := 120) [aRes, aBad, act0, Action.enc, Oxm.enc, oxm0, wideZ, uI_zero, aFault, *]; done)); (focus (simp [aRes, aBad, act0, Action.enc, Oxm.enc, oxm0, wideZ, uI_zero, aFault, *]; done)); refine RunQ.evalH ?_; simp [aRes, aBad, act0, Action.enc, Oxm.enc, oxm0, wideZ, uI_zero, aFault, *])
     | (refine RunQ.call rfl rfl rfl rfl rfl ?_ (b14) ?_ ?_; (focus (simp (maxDischargeDepth := 120) [aRes, aBad, act0, Action.enc, Oxm.enc, oxm0, wideZ, uI_zero, aFault, *]; done)); (focus (simp [aRes, aBad, act0, Action.enc, Oxm.enc, oxm0, wideZ, uI_zero, aFault, *]; done)); refine RunQ.evalH ?_; simp [aRes, aBad, act0, Action.enc, Oxm.enc, oxm0, wideZ, uI_zero, aFault, *])
     | (refine WK.ret Tryz.func149 ?_ ?_ <;> simp (maxDischargeDepth := 120) [Tryz.results149, aRes, aBad, act0, Action.enc, Oxm.enc, oxm0, wideZ, uI_zero, aFault, *])
     | fail)
  by_cases c6 : c = 6
  · subst c6
    have e : aSetD b = aBad 13 := by rw [hn, if_neg c1, if_pos rfl]
    clear hn
    simp only [oFault, if_neg (show ¬ (6 : Int) = 0 by decide)] at hd
    refine FnP.intro Tryz.func149 rfl rfl fun G w => ?_
    repeat' (first
     | refine WK.seq ?_
     | refine WK.block ?_
     | refine WK.condT rfl ?_
     | refine WK.condF rfl ?_
     | (refine Hid.h hQ _ _ ?_; clear hQ hA)
     | (refine WK.regH Tryz.ntmps149 (by kernel_rfl) ?_; intro A hA Q hQ; simp [aRes, aBad, act0, Action.enc, Oxm.enc, oxm0, wideZ, uI_zero, aFault, *])
     | (refine RunQ.gd rfl (by rw [hA.h]; rfl) ?_; simp [aRes, aBad, act0, Action.enc, Oxm.enc, oxm0, wideZ, uI_zero, aFault, *])
     | (refine RunQ.call rfl rfl rfl rfl rfl ?_ (hd) ?_ ?_; (focus (simp (maxDischargeDepth := 120) [aRes, aBad, act0, Action.enc, Oxm.enc, oxm0, wideZ, uI_zero, aFault, *]; done)); (focus (simp [aRes, aBad, act0, Action.enc, Oxm.enc, oxm0, wideZ, uI_zero, aFault, *]; done)); refine RunQ.evalH ?_; simp [aRes, aBad, act0, Action.enc, Oxm.enc, oxm0, wideZ, uI_zero, aFault, *])
     | (refine RunQ.call rfl rfl rfl rfl rfl ?_ (b13) ?_ ?_; (focus (simp (maxDischargeDepth := 120) [aRes, aBad, act0, Action.enc, Oxm.enc, oxm0, wideZ, uI_zero, aFault, *]; done)); (focus (simp [aRes, aBad, act0, Action.enc, Oxm.enc, oxm0, wideZ, uI_zero, aFault, *]; done)); refine RunQ.evalH ?_; simp [aRes, aBad, act0, Action.enc, Oxm.enc, oxm0, wideZ, uI_zero, aFault, *])
     | (refine WK.ret Tryz.func149 ?_ ?_ <;> simp (maxDischargeDepth := 120) [Tryz.results149, aRes, aBad, act0, Action.enc, Oxm.enc, oxm0, wideZ, uI_zero, aFault, *])
     | fail)
  by_cases c0 : c = 0
  case neg =>
    have e : aSetD b = aBad 15 := by rw [hn, if_neg c1, if_neg c6, if_neg c0]
    clear hn
    simp only [oFault, if_neg c0] at hd
    refine FnP.intro Tryz.func149 rfl rfl fun G w => ?_
    repeat' (first
     | refine WK.seq ?_
     | refine WK.block ?_
     | refine WK.condT rfl ?_
     | (refine Hid.h hQ _ _ ?_; clear hQ hA)
     | (refine WK.cond2 rfl (fun h => ?_) (fun h => ?_) <;> (first | (simp [*] at h; done) | (have h2 := h; simp at h2; exfalso; omega) | (have h2 := h; simp at h2; try simp only [Bool.not_eq_true', Bool.not_eq_false'] at h) | skip))
     | (refine WK.regH Tryz.ntmps149 (by kernel_rfl) ?_; intro A hA Q hQ; simp [aRes, aBad, act0, Action.enc, Oxm.enc, oxm0, wideZ, uI_zero, aFault, *])
     | (refine RunQ.gd rfl (by rw [hA.h]; rfl) ?_; simp [aRes, aBad, act0, Action.enc, Oxm.enc, oxm0, wideZ, uI_zero, aFault, *])
     | (refine RunQ.call rfl rfl rfl rfl rfl ?_ (hd) ?_ ?_; (focus (simp (maxDischargeDepth := 120) [aRes, aBad, act0, Action.enc, Oxm.enc, oxm0, wideZ, uI_zero, aFault, *]; done)); (focus (simp [aRes, aBad, act0, Action.enc, Oxm.enc, oxm0, wideZ, uI_zero, aFault, *]; done)); refine RunQ.evalH ?_; simp [aRes, aBad, act0, Action.enc, Oxm.enc, oxm0, wideZ, uI_zero, aFault, *])
     | (refine RunQ.call rfl rfl rfl rfl rfl ?_ (b15) ?_ ?_; (focus (simp (maxDischargeDepth := 120) [aRes, aBad, act0, Action.enc, Oxm.enc, oxm0, wideZ, uI_zero, aFault, *]; done)); (focus (simp [aRes, aBad, act0, Action.enc, Oxm.enc, oxm0, wideZ, uI_zero, aFault, *]; done)); refine RunQ.evalH ?_; simp [aRes, aBad, act0, Action.enc, Oxm.enc, oxm0, wideZ, uI_zero, aFault, *])
     | (refine WK.ret Tryz.func149 ?_ ?_ <;> simp (maxDischargeDepth := 120) [Tryz.results149, aRes, aBad, act0, Action.enc, Oxm.enc, oxm0, wideZ, uI_zero, aFault, *])
     | fail)
  subst c0
  rw [if_neg c1, if_neg c6, if_pos rfl] at hn
  simp only [oFault, if_pos rfl] at hd
  have w1 : IntKind.i64.wrap (4 + (x : Int)) = ((4 + x : Nat) : Int) := by rw [wrap_i64 (by omega) (by omega)]; omega
  have w2 : IntKind.i64.wrap (((4 + x : Nat) : Int) + 7) = ((4 + x + 7 : Nat) : Int) := by rw [wrap_i64 (by omega) (by omega)]; omega
  have w3 := bNot7b (4 + x + 7) (by omega)
  have z1 : ((b.length : Int) == (((4 + x + 7) / 8 * 8 : Nat) : Int)) = (b.length == (4 + x + 7) / 8 * 8) := by rw [Bool.eq_iff_iff, beq_iff_eq, beq_iff_eq]; omega
  by_cases hl : b.length = (4 + x + 7) / 8 * 8
  case neg =>
    have hlb : (b.length == (4 + x + 7) / 8 * 8) = false := by simpa using hl
    have e : aSetD b = aBad 1 := by rw [hn, if_neg hl]
    clear hn hl
    rw [hlb] at z1
    obtain ⟨y, hy⟩ : ∃ y, (4 + x + 7) / 8 * 8 = y := ⟨_, rfl⟩
    obtain ⟨x4, hx4⟩ : ∃ x4, 4 + x = x4 := ⟨_, rfl⟩
    obtain ⟨x7, hx7⟩ : ∃ x7, 4 + x + 7 = x7 := ⟨_, rfl⟩
    rw [hx4] at hx7 w1 w2 w3 z1
    rw [hx7] at w2 w3 z1
    obtain ⟨y, hy⟩ : ∃ y, x7 / 8 * 8 = y := ⟨_, rfl⟩
    rw [hy] at w3 z1
    clear hy hx4 hx7 hlb
    refine FnP.intro Tryz.func149 rfl rfl fun G w => ?_
    repeat' (first
     | refine WK.seq ?_
     | refine WK.block ?_
     | refine WK.condT rfl ?_
     | refine WK.condF rfl ?_
     | (refine Hid.h hQ _ _ ?_; clear hQ hA)
     | (refine WK.regH Tryz.ntmps149 (by kernel_rfl) ?_; intro A hA Q hQ; simp [aRes, aBad, act0, Action.enc, Oxm.enc, oxm0, wideZ, uI_zero, bne, aFault, *])
     | (refine RunQ.gd rfl (by rw [hA.h]; rfl) ?_; simp [aRes, aBad, act0, Action.enc, Oxm.enc, oxm0, wideZ, uI_zero, bne, aFault, *])
     | (refine RunQ.call rfl rfl rfl rfl rfl ?_ (hd) ?_ ?_; (focus (simp (maxDischargeDepth := 120) [aRes, aBad, act0, Action.enc, Oxm.enc, oxm0, wideZ, uI_zero, bne, aFault, *]; done)); (focus (simp [aRes, aBad, act0, Action.enc, Oxm.enc, oxm0, wideZ, uI_zero, bne, aFault, *]; done)); refine RunQ.evalH ?_; simp [aRes, aBad, act0, Action.enc, Oxm.enc, oxm0, wideZ, uI_zero, bne, aFault, *])
     | (refine RunQ.call rfl rfl rfl rfl rfl ?_ (b1) ?_ ?_; (focus (simp (maxDischargeDepth := 120) [aRes, aBad, act0, Action.enc, Oxm.enc, oxm0, wideZ, uI_zero, bne, aFault, *]; done)); (focus (simp [aRes, aBad, act0, Action.enc, Oxm.enc, oxm0, wideZ, uI_zero, bne, aFault, *]; done)); refine RunQ.evalH ?_; simp [aRes, aBad, act0, Action.enc, Oxm.enc, oxm0, wideZ, uI_zero, bne, aFault, *])
     | (refine WK.ret Tryz.func149 ?_ ?_ <;> simp (maxDischargeDepth := 120) [Tryz.results149, aRes, aBad, act0, Action.enc, Oxm.enc, oxm0, wideZ, uI_zero, bne, aFault, *])
     | fail)
  have hlb : (b.length == (4 + x + 7) / 8 * 8) = true := by simpa using hl
  rw [if_pos hl] at hn
  rw [hlb] at z1
  have hle : 4 + x ≤ b.length := by omega
  have hle' : ((4 + x : Nat) : Int) ≤ b.length := by omega
  have d5 : ((byL b).drop (4 + x)).take (b.length - (4 + x)) = byL (b.drop (4 + x)) := by rw [byL_drop]; exact by_full _ _ (by rw [List.length_drop])
  have he := aempty_c (b.drop (4 + x)) (by rw [List.length_drop]; omega)
  unfold byS at he
  rw [List.length_drop] at he
  obtain ⟨y, hy⟩ : ∃ y, (4 + x + 7) / 8 * 8 = y := ⟨_, rfl⟩
  obtain ⟨x4, hx4⟩ : ∃ x4, 4 + x = x4 := ⟨_, rfl⟩
  obtain ⟨x7, hx7⟩ : ∃ x7, 4 + x + 7 = x7 := ⟨_, rfl⟩
  rw [hx4] at hx7 w1 w2 w3 z1 hle hle' d5 he hn
  rw [hx7] at w2 w3 z1
  obtain ⟨y, hy⟩ : ∃ y, x7 / 8 * 8 = y := ⟨_, rfl⟩
  rw [hy] at w3 z1
  obtain ⟨B5, hB5⟩ : ∃ B5, b.drop x4 = B5 := ⟨_, rfl⟩
  rw [hB5] at d5 he hn
  clear hy hx4 hx7 hlb hl hB5
  refine FnP.intro Tryz.func149 rfl rfl fun G w => ?_
  cases k1 : allZ B5
  · rw [k1, if_neg Bool.false_ne_true] at hn
    repeat' (first
     | refine WK.seq ?_
     | refine WK.block ?_
     | refine WK.condT rfl ?_
     | refine WK.condF rfl ?_
     | (refine Hid.h hQ _ _ ?_; clear hQ hA)
     | (refine WK.regH Tryz.ntmps149 (by kernel_rfl) ?_; intro A hA Q hQ; simp [aRes, aBad, act0, Action.enc, Oxm.enc, oxm0, wideZ, uI_zero, bne, aFault, *])
     | (refine RunQ.gd rfl (by rw [hA.h]; rfl) ?_; simp [aRes, aBad, act0, Action.enc, Oxm.enc, oxm0, wideZ, uI_zero, bne, aFault, *])
     | (refine RunQ.call rfl rfl rfl rfl rfl ?_ (hd) ?_ ?_; (focus (simp (maxDischargeDepth := 120) [aRes, aBad, act0, Action.enc, Oxm.enc, oxm0, wideZ, uI_zero, bne, aFault, *]; done)); (focus (simp [aRes, aBad, act0, Action.enc, Oxm.enc, oxm0, wideZ, uI_zero, bne, aFault, *]; done)); refine RunQ.evalH ?_; simp [aRes, aBad, act0, Action.enc, Oxm.enc, oxm0, wideZ, uI_zero, bne, aFault, *])
     | (refine RunQ.call rfl rfl rfl rfl rfl ?_ (he) ?_ ?_; (focus (simp (maxDischargeDepth := 120) [aRes, aBad, act0, Action.enc, Oxm.enc, oxm0, wideZ, uI_zero, bne, aFault, *]; done)); (focus (simp [aRes, aBad, act0, Action.enc, Oxm.enc, oxm0, wideZ, uI_zero, bne, aFault, *]; done)); refine RunQ.evalH ?_; simp [aRes, aBad, act0, Action.enc, Oxm.enc, oxm0, wideZ, uI_zero, bne, aFault, *])
     | (refine RunQ.call rfl rfl rfl rfl rfl ?_ (b5) ?_ ?_; (focus (simp (maxDischargeDepth := 120) [aRes, aBad, act0, Action.enc, Oxm.enc, oxm0, wideZ, uI_zero, bne, aFault, *]; done)); (focus (simp [aRes, aBad, act0, Action.enc, Oxm.enc, oxm0, wideZ, uI_zero, bne, aFault, *]; done)); refine RunQ.evalH ?_; simp [aRes, aBad, act0, Action.enc, Oxm.enc, oxm0, wideZ, uI_zero, bne, aFault, *])
     | (refine WK.ret Tryz.func149 ?_ ?_ <;> simp (maxDischargeDepth := 120) [Tryz.results149, aRes, aBad, act0, Action.enc, Oxm.enc, oxm0, wideZ, uI_zero, bne, aFault, *])
     | fail)
  rw [k1, if_pos rfl] at hn
  cases k2 : aSets o.field
  · rw [k2, if_neg Bool.false_ne_true] at hn
    repeat' (first
     | refine WK.seq ?_
     | refine WK.block ?_
     | refine WK.condT rfl ?_
     | refine WK.condF rfl ?_
     | (refine Hid.h hQ _ _ ?_; clear hQ hA)
     | (refine WK.regH Tryz.ntmps149 (by kernel_rfl) ?_; intro A hA Q hQ; simp [aRes, aBad, act0, Action.enc, Oxm.enc, oxm0, wideZ, uI_zero, bne, aFault, *])
     | (refine RunQ.gd rfl (by rw [hA.h]; rfl) ?_; simp [aRes, aBad, act0, Action.enc, Oxm.enc, oxm0, wideZ, uI_zero, bne, aFault, *])
     | (refine RunQ.call rfl rfl rfl rfl rfl ?_ (hd) ?_ ?_; (focus (simp (maxDischargeDepth := 120) [aRes, aBad, act0, Action.enc, Oxm.enc, oxm0, wideZ, uI_zero, bne, aFault, *]; done)); (focus (simp [aRes, aBad, act0, Action.enc, Oxm.enc, oxm0, wideZ, uI_zero, bne, aFault, *]; done)); refine RunQ.evalH ?_; simp [aRes, aBad, act0, Action.enc, Oxm.enc, oxm0, wideZ, uI_zero, bne, aFault, *])
     | (refine RunQ.call rfl rfl rfl rfl rfl ?_ (he) ?_ ?_; (focus (simp (maxDischargeDepth := 120) [aRes, aBad, act0, Action.enc, Oxm.enc, oxm0, wideZ, uI_zero, bne, aFault, *]; done)); (focus (simp [aRes, aBad, act0, Action.enc, Oxm.enc, oxm0, wideZ, uI_zero, bne, aFault, *]; done)); refine RunQ.evalH ?_; simp [aRes, aBad, act0, Action.enc, Oxm.enc, oxm0, wideZ, uI_zero, bne, aFault, *])
     | (refine RunQ.call rfl rfl rfl rfl rfl ?_ (asets_c o.field) ?_ ?_; (focus (simp (maxDischargeDepth := 120) [aRes, aBad, act0, Action.enc, Oxm.enc, oxm0, wideZ, uI_zero, bne, aFault, *]; done)); (focus (simp [aRes, aBad, act0, Action.enc, Oxm.enc, oxm0, wideZ, uI_zero, bne, aFault, *]; done)); refine RunQ.evalH ?_; simp [aRes, aBad, act0, Action.enc, Oxm.enc, oxm0, wideZ, uI_zero, bne, aFault, *])
     | (refine RunQ.call rfl rfl rfl rfl rfl ?_ (b13) ?_ ?_; (focus (simp (maxDischargeDepth := 120) [aRes, aBad, act0, Action.enc, Oxm.enc, oxm0, wideZ, uI_zero, bne, aFault, *]; done)); (focus (simp [aRes, aBad, act0, Action.enc, Oxm.enc, oxm0, wideZ, uI_zero, bne, aFault, *]; done)); refine RunQ.evalH ?_; simp [aRes, aBad, act0, Action.enc, Oxm.enc, oxm0, wideZ, uI_zero, bne, aFault, *])
     | (refine WK.ret Tryz.func149 ?_ ?_ <;> simp (maxDischargeDepth := 120) [Tryz.results149, aRes, aBad, act0, Action.enc, Oxm.enc, oxm0, wideZ, uI_zero, bne, aFault, *])
     | fail)
  rw [k2, if_pos rfl] at hn
  cases k3 : o.masked
  · rw [k3, if_neg Bool.false_ne_true] at hn
    repeat' (first
     | refine WK.seq ?_
     | refine WK.block ?_
     | refine WK.inBlock ?_
     | refine WK.skip ?_
     | refine WK.condF rfl ?_
     | (refine Hid.h hQ _ _ ?_; clear hQ hA)
     | (refine WK.regH Tryz.ntmps149 (by kernel_rfl) ?_; intro A hA Q hQ; simp [aRes, aBad, act0, Action.enc, Oxm.enc, oxm0, wideZ, uI_zero, bne, aFault, *])
     | (refine RunQ.gd rfl (by rw [hA.h]; rfl) ?_; simp [aRes, aBad, act0, Action.enc, Oxm.enc, oxm0, wideZ, uI_zero, bne, aFault, *])
     | (refine RunQ.call rfl rfl rfl rfl rfl ?_ (hd) ?_ ?_; (focus (simp (maxDischargeDepth := 120) [aRes, aBad, act0, Action.enc, Oxm.enc, oxm0, wideZ, uI_zero, bne, aFault, *]; done)); (focus (simp [aRes, aBad, act0, Action.enc, Oxm.enc, oxm0, wideZ, uI_zero, bne, aFault, *]; done)); refine RunQ.evalH ?_; simp [aRes, aBad, act0, Action.enc, Oxm.enc, oxm0, wideZ, uI_zero, bne, aFault, *])
     | (refine RunQ.call rfl rfl rfl rfl rfl ?_ (he) ?_ ?_; (focus (simp (maxDischargeDepth := 120) [aRes, aBad, act0, Action.enc, Oxm.enc, oxm0, wideZ, uI_zero, bne, aFault, *]; done)); (focus (simp [aRes, aBad, act0, Action.enc, Oxm.enc, oxm0, wideZ, uI_zero, bne, aFault, *]; done)); refine RunQ.evalH ?_; simp [aRes, aBad, act0, Action.enc, Oxm.enc, oxm0, wideZ, uI_zero, bne, aFault, *])
     | (refine RunQ.call rfl rfl rfl rfl rfl ?_ (asets_c o.field) ?_ ?_; (focus (simp (maxDischargeDepth := 120) [aRes, aBad, act0, Action.enc, Oxm.enc, oxm0, wideZ, uI_zero, bne, aFault, *]; done)); (focus (simp [aRes, aBad, act0, Action.enc, Oxm.enc, oxm0, wideZ, uI_zero, bne, aFault, *]; done)); refine RunQ.evalH ?_; simp [aRes, aBad, act0, Action.enc, Oxm.enc, oxm0, wideZ, uI_zero, bne, aFault, *])
     | (refine WK.ret Tryz.func149 ?_ ?_ <;> simp (maxDischargeDepth := 120) [Tryz.results149, aRes, aBad, act0, Action.enc, Oxm.enc, oxm0, wideZ, uI_zero, bne, aFault, *])
     | fail)
  · rw [k3, if_pos rfl] at hn
    repeat' (first
     | refine WK.seq ?_
     | refine WK.block ?_
     | refine WK.condT rfl ?_
     | refine WK.condF rfl ?_
     | (refine Hid.h hQ _ _ ?_; clear hQ hA)
     | (refine WK.regH Tryz.ntmps149 (by kernel_rfl) ?_; intro A hA Q hQ; simp [aRes, aBad, act0, Action.enc, Oxm.enc, oxm0, wideZ, uI_zero, bne, aFault, *])
     | (refine RunQ.gd rfl (by rw [hA.h]; rfl) ?_; simp [aRes, aBad, act0, Action.enc, Oxm.enc, oxm0, wideZ, uI_zero, bne, aFault, *])
     | (refine RunQ.call rfl rfl rfl rfl rfl ?_ (hd) ?_ ?_; (focus (simp (maxDischargeDepth := 120) [aRes, aBad, act0, Action.enc, Oxm.enc, oxm0, wideZ, uI_zero, bne, aFault, *]; done)); (focus (simp [aRes, aBad, act0, Action.enc, Oxm.enc, oxm0, wideZ, uI_zero, bne, aFault, *]; done)); refine RunQ.evalH ?_; simp [aRes, aBad, act0, Action.enc, Oxm.enc, oxm0, wideZ, uI_zero, bne, aFault, *])
     | (refine RunQ.call rfl rfl rfl rfl rfl ?_ (he) ?_ ?_; (focus (simp (maxDischargeDepth := 120) [aRes, aBad, act0, Action.enc, Oxm.enc, oxm0, wideZ, uI_zero, bne, aFault, *]; done)); (focus (simp [aRes, aBad, act0, Action.enc, Oxm.enc, oxm0, wideZ, uI_zero, bne, aFault, *]; done)); refine RunQ.evalH ?_; simp [aRes, aBad, act0, Action.enc, Oxm.enc, oxm0, wideZ, uI_zero, bne, aFault, *])
     | (refine RunQ.call rfl rfl rfl rfl rfl ?_ (asets_c o.field) ?_ ?_; (focus (simp (maxDischargeDepth := 120) [aRes, aBad, act0, Action.enc, Oxm.enc, oxm0, wideZ, uI_zero, bne, aFault, *]; done)); (focus (simp [aRes, aBad, act0, Action.enc, Oxm.enc, oxm0, wideZ, uI_zero, bne, aFault, *]; done)); refine RunQ.evalH ?_; simp [aRes, aBad, act0, Action.enc, Oxm.enc, oxm0, wideZ, uI_zero, bne, aFault, *])
     | (refine RunQ.call rfl rfl rfl rfl rfl ?_ (b15) ?_ ?_; (focus (simp (maxDischargeDepth := 120) [aRes, aBad, act0, Action.enc, Oxm.enc, oxm0, wideZ, uI_zero, bne, aFault, *]; done)); (focus (simp [aRes, aBad, act0, Action.enc, Oxm.enc, oxm0, wideZ, uI_zero, bne, aFault, *]; done)); refine RunQ.evalH ?_; simp [aRes, aBad, act0, Action.enc, Oxm.enc, oxm0, wideZ, uI_zero, bne, aFault, *])
     | (refine WK.ret Tryz.func149 ?_ ?_ <;> simp (maxDischargeDepth := 120) [Tryz.results149, aRes, aBad, act0, Action.enc, Oxm.enc, oxm0, wideZ, uI_zero, bne, aFault, *])
     | fail)
end Go.Proofs.YtiifjagnhnchoaaGreat
end

section
set_option linter.unusedVariables false
set_option linter.unusedSimpArgs false
namespace Go.Proofs.YtiifjagnhnchoaaGreat
open Go Go.AI Go.Proofs
attribute [local irreducible] FnP FnO FnB FnT FnSeq WK RunQ RunQW RunX RunXW

set_option maxHeartbeats 4000000 in
theorem raset_c (b : List (BitVec 8)) (hb : b.length ≤ 65536) (h8 : 8 ≤ b.length) : FnP Tryz.prog 157 [byS b] (aRes (aSetD b)) := by
  have hd := rodec_c (b.drop 4) (by rw [List.length_drop]; omega)
  have hol := oLen_eq (b.drop 4)
  have hn : aSetD b = if (oDec (b.drop 4)).2.2 = 1 then aBad 14 else if (oDec (b.drop 4)).2.2 = 6 then aBad 13 else if (oDec (b.drop 4)).2.2 = 0 then
    (if b.length = (4 + oLen (b.drop 4) + 7) / 8 * 8 then (if allZ (b.drop (4 + oLen (b.drop 4))) = true then (if aSets (oDec (b.drop 4)).1.field = true then
      (if (oDec (b.drop 4)).1.masked = true then aBad 15 else (⟨25, 0, 0, 0, 0, (oDec (b.drop 4)).1⟩, (b.length : Int), none)) else aBad 13) else aBad 5) else aBad 1) else aBad 15 := rfl
  obtain ⟨x, hx⟩ : ∃ x, oLen (b.drop 4) = x := ⟨_, rfl⟩
  obtain ⟨D, hD⟩ : ∃ D, oDec (b.drop 4) = D := ⟨_, rfl⟩
  rw [hx, hD] at hol
  rw [hx, hD] at hn
  rw [hD, hol.1] at hd
  have hx9 := hol.2
  obtain ⟨o, m, c⟩ := D
  simp only at hn hd
  clear hD hx hol
  have d4 : ((byL b).drop 4).take (b.length - 4) = byL (b.drop 4) := by rw [byL_drop]; exact by_full _ _ (by rw [List.length_drop])
  have j4 : (4 : Int) ≤ b.length := by omega
  unfold byS at *
  rw [List.length_drop] at hd
  have b1 := rabad_c 1
  have b5 := rabad_c 5
  have b13 := rabad_c 13
  have b14 := rabad_c 14
  have b15 := rabad_c 15
  by_cases c1 : c = 1
  · subst c1
    have e : aSetD b = aBad 14 := by rw [hn, if_pos rfl]
    clear hn
    simp only [oFault, if_neg (show ¬ (1 : Int) = 0 by decide)] at hd
    refine FnP.intro Tryz.func157 rfl rfl fun G w => ?_
    repeat' (first
     | refine WK.seq ?_
     | refine WK.block ?_
     | refine WK.condT rfl ?_
     | (refine Hid.h hQ _ _ ?_; clear hQ hA)
     | (refine WK.regH Tryz.ntmps157 (by kernel_rfl) ?_; intro A hA Q hQ; simp [aRes, aBad, act0, Action.enc, Oxm.enc, oxm0, wideZ, uI_zero, aFault, *])
     | (refine RunQ.gd rfl (by rw [hA.h]; rfl) ?_; simp [aRes, aBad, act0, Action.enc, Oxm.enc, oxm0, wideZ, uI_zero, aFault, *])
     | (refine RunQ.call rfl rfl rfl rfl rfl ?_ (hd) ?_ ?_; (focus (simp (maxDischargeDepth := 120) [aRes, aBad, act0, Action.enc, Oxm.enc, oxm0, wideZ, uI_zero, aFault, *]; done)); (focus (simp [aRes, aBad, act0, Action.enc, Oxm.enc, oxm0, wideZ, uI_zero, aFault, *]; done)); refine RunQ.evalH ?_; simp [aRes, aBad, act0, Action.enc, Oxm.enc, oxm0, wideZ, uI_zero, aFault, *])
     | (refine RunQ.call rfl rfl rfl rfl rfl ?_ (b14) ?_ ?_; (focus (simp (maxDischargeDepth := 120) [aRes, aBad, act0, Action.enc, Oxm.enc, oxm0, wideZ, uI_zero, aFault, *]; done)); (focus (simp [aRes, aBad, act0, Action.enc, Oxm.enc, oxm0, wideZ, uI_zero, aFault, *]; done)); refine RunQ.evalH ?_; simp [aRes, aBad, act0, Action.enc, Oxm.enc, oxm0, wideZ, uI_zero, aFault, *])
     | (refine WK.ret Tryz.func157 ?_ ?_ <;> simp (maxDischargeDepth := 120) [Tryz.results157, aRes, aBad, act0, Action.enc, Oxm.enc, oxm0, wideZ, uI_zero, aFault, *])
     | fail)
  by_cases c6 : c = 6
  · subst c6
    have e : aSetD b = aBad 13 := by rw [hn, if_neg c1, if_pos rfl]
    clear hn
    simp only [oFault, if_neg (show ¬ (6 : Int) = 0 by decide)] at hd
    refine FnP.intro Tryz.func157 rfl rfl fun G w => ?_
    repeat' (first
     | refine WK.seq ?_
     | refine WK.block ?_
     | refine WK.condT rfl ?_
     | refine WK.condF rfl ?_
     | (refine Hid.h hQ _ _ ?_; clear hQ hA)
     | (refine WK.regH Tryz.ntmps157 (by kernel_rfl) ?_; intro A hA Q hQ; simp [aRes, aBad, act0, Action.enc, Oxm.enc, oxm0, wideZ, uI_zero, aFault, *])
     | (refine RunQ.gd rfl (by rw [hA.h]; rfl) ?_; simp [aRes, aBad, act0, Action.enc, Oxm.enc, oxm0, wideZ, uI_zero, aFault, *])
     | (refine RunQ.call rfl rfl rfl rfl rfl ?_ (hd) ?_ ?_; (focus (simp (maxDischargeDepth := 120) [aRes, aBad, act0, Action.enc, Oxm.enc, oxm0, wideZ, uI_zero, aFault, *]; done)); (focus (simp [aRes, aBad, act0, Action.enc, Oxm.enc, oxm0, wideZ, uI_zero, aFault, *]; done)); refine RunQ.evalH ?_; simp [aRes, aBad, act0, Action.enc, Oxm.enc, oxm0, wideZ, uI_zero, aFault, *])
     | (refine RunQ.call rfl rfl rfl rfl rfl ?_ (b13) ?_ ?_; (focus (simp (maxDischargeDepth := 120) [aRes, aBad, act0, Action.enc, Oxm.enc, oxm0, wideZ, uI_zero, aFault, *]; done)); (focus (simp [aRes, aBad, act0, Action.enc, Oxm.enc, oxm0, wideZ, uI_zero, aFault, *]; done)); refine RunQ.evalH ?_; simp [aRes, aBad, act0, Action.enc, Oxm.enc, oxm0, wideZ, uI_zero, aFault, *])
     | (refine WK.ret Tryz.func157 ?_ ?_ <;> simp (maxDischargeDepth := 120) [Tryz.results157, aRes, aBad, act0, Action.enc, Oxm.enc, oxm0, wideZ, uI_zero, aFault, *])
     | fail)
  by_cases c0 : c = 0
  case neg =>
    have e : aSetD b = aBad 15 := by rw [hn, if_neg c1, if_neg c6, if_neg c0]
    clear hn
    simp only [oFault, if_neg c0] at hd
    refine FnP.intro Tryz.func157 rfl rfl fun G w => ?_
    repeat' (first
     | refine WK.seq ?_
     | refine WK.block ?_
     | refine WK.condT rfl ?_
     | (refine Hid.h hQ _ _ ?_; clear hQ hA)
     | (refine WK.cond2 rfl (fun h => ?_) (fun h => ?_) <;> (first | (simp [*] at h; done) | (have h2 := h; simp at h2; exfalso; omega) | (have h2 := h; simp at h2; try simp only [Bool.not_eq_true', Bool.not_eq_false'] at h) | skip))
     | (refine WK.regH Tryz.ntmps157 (by kernel_rfl) ?_; intro A hA Q hQ; simp [aRes, aBad, act0, Action.enc, Oxm.enc, oxm0, wideZ, uI_zero, aFault, *])
     | (refine RunQ.gd rfl (by rw [hA.h]; rfl) ?_; simp [aRes, aBad, act0, Action.enc, Oxm.enc, oxm0, wideZ, uI_zero, aFault, *])
     | (refine RunQ.call rfl rfl rfl rfl rfl ?_ (hd) ?_ ?_; (focus (simp (maxDischargeDepth := 120) [aRes, aBad, act0, Action.enc, Oxm.enc, oxm0, wideZ, uI_zero, aFault, *]; done)); (focus (simp [aRes, aBad, act0, Action.enc, Oxm.enc, oxm0, wideZ, uI_zero, aFault, *]; done)); refine RunQ.evalH ?_; simp [aRes, aBad, act0, Action.enc, Oxm.enc, oxm0, wideZ, uI_zero, aFault, *])
     | (refine RunQ.call rfl rfl rfl rfl rfl ?_ (b15) ?_ ?_; (focus (simp (maxDischargeDepth := 120) [aRes, aBad, act0, Action.enc, Oxm.enc, oxm0, wideZ, uI_zero, aFault, *]; done)); (focus (simp [aRes, aBad, act0, Action.enc, Oxm.enc, oxm0, wideZ, uI_zero, aFault, *]; done)); refine RunQ.evalH ?_; simp [aRes, aBad, act0, Action.enc, Oxm.enc, oxm0, wideZ, uI_zero, aFault, *])
     | (refine WK.ret Tryz.func157 ?_ ?_ <;> simp (maxDischargeDepth := 120) [Tryz.results157, aRes, aBad, act0, Action.enc, Oxm.enc, oxm0, wideZ, uI_zero, aFault, *])
     | fail)
  subst c0
  rw [if_neg c1, if_neg c6, if_pos rfl] at hn
  simp only [oFault, if_pos rfl] at hd
  have w1 : IntKind.i64.wrap (4 + (x : Int)) = ((4 + x : Nat) : Int) := by rw [wrap_i64 (by omega) (by omega)]; omega
  have w2 : IntKind.i64.wrap (((4 + x : Nat) : Int) + 7) = ((4 + x + 7 : Nat) : Int) := by rw [wrap_i64 (by omega) (by omega)]; omega
  have w3 : IntKind.i64.wrap (((4 + x + 7 : Nat) : Int) / 8) = (((4 + x + 7) / 8 : Nat) : Int) := by rw [wrap_i64 (by omega) (by omega)]; omega
  have w4 : IntKind.i64.wrap ((((4 + x + 7) / 8 : Nat) : Int) * 8) = (((4 + x + 7) / 8 * 8 : Nat) : Int) := by rw [wrap_i64 (by omega) (by omega)]; omega
  have z1 : ((b.length : Int) == (((4 + x + 7) / 8 * 8 : Nat) : Int)) = (b.length == (4 + x + 7) / 8 * 8) := by rw [Bool.eq_iff_iff, beq_iff_eq, beq_iff_eq]; omega
  by_cases hl : b.length = (4 + x + 7) / 8 * 8
  case neg =>
    have hlb : (b.length == (4 + x + 7) / 8 * 8) = false := by simpa using hl
    have e : aSetD b = aBad 1 := by rw [hn, if_neg hl]
    clear hn hl
    rw [hlb] at z1
    obtain ⟨y, hy⟩ : ∃ y, (4 + x + 7) / 8 * 8 = y := ⟨_, rfl⟩
    obtain ⟨x4, hx4⟩ : ∃ x4, 4 + x = x4 := ⟨_, rfl⟩
    obtain ⟨x7, hx7⟩ : ∃ x7, 4 + x + 7 = x7 := ⟨_, rfl⟩
    rw [hx4] at hx7 w1 w2 w3 w4 z1
    rw [hx7] at w2 w3 w4 z1
    obtain ⟨q, hq⟩ : ∃ q, x7 / 8 = q := ⟨_, rfl⟩
    rw [hq] at w3 w4 z1
    obtain ⟨y, hy⟩ : ∃ y, q * 8 = y := ⟨_, rfl⟩
    rw [hy] at w4 z1
    clear hq hy hx4 hx7 hlb
    refine FnP.intro Tryz.func157 rfl rfl fun G w => ?_
    repeat' (first
     | refine WK.seq ?_
     | refine WK.block ?_
     | refine WK.condT rfl ?_
     | refine WK.condF rfl ?_
     | (refine Hid.h hQ _ _ ?_; clear hQ hA)
     | (refine WK.regH Tryz.ntmps157 (by kernel_rfl) ?_; intro A hA Q hQ; simp [aRes, aBad, act0, Action.enc, Oxm.enc, oxm0, wideZ, uI_zero, bne, aFault, *])
     | (refine RunQ.gd rfl (by rw [hA.h]; rfl) ?_; simp [aRes, aBad, act0, Action.enc, Oxm.enc, oxm0, wideZ, uI_zero, bne, aFault, *])
     | (refine RunQ.call rfl rfl rfl rfl rfl ?_ (hd) ?_ ?_; (focus (simp (maxDischargeDepth := 120) [aRes, aBad, act0, Action.enc, Oxm.enc, oxm0, wideZ, uI_zero, bne, aFault, *]; done)); (focus (simp [aRes, aBad, act0, Action.enc, Oxm.enc, oxm0, wideZ, uI_zero, bne, aFault, *]; done)); refine RunQ.evalH ?_; simp [aRes, aBad, act0, Action.enc, Oxm.enc, oxm0, wideZ, uI_zero, bne, aFault, *])
     | (refine RunQ.call rfl rfl rfl rfl rfl ?_ (b1) ?_ ?_; (focus (simp (maxDischargeDepth := 120) [aRes, aBad, act0, Action.enc, Oxm.enc, oxm0, wideZ, uI_zero, bne, aFault, *]; done)); (focus (simp [aRes, aBad, act0, Action.enc, Oxm.enc, oxm0, wideZ, uI_zero, bne, aFault, *]; done)); refine RunQ.evalH ?_; simp [aRes, aBad, act0, Action.enc, Oxm.enc, oxm0, wideZ, uI_zero, bne, aFault, *])
     | (refine WK.ret Tryz.func157 ?_ ?_ <;> simp (maxDischargeDepth := 120) [Tryz.results157, aRes, aBad, act0, Action.enc, Oxm.enc, oxm0, wideZ, uI_zero, bne, aFault, *])
     | fail)
  have hlb : (b.length == (4 + x + 7) / 8 * 8) = true := by simpa using hl
  rw [if_pos hl] at hn
  rw [hlb] at z1
  have hle : 4 + x ≤ b.length := by omega
  have hle' : ((4 + x : Nat) : Int) ≤ b.length := by omega
  have d5 : ((byL b).drop (4 + x)).take (b.length - (4 + x)) = byL (b.drop (4 + x)) := by rw [byL_drop]; exact by_full _ _ (by rw [List.length_drop])
  have he := rnoughts_c (b.drop (4 + x)) (by rw [List.length_drop]; omega)
  unfold byS at he
  rw [List.length_drop] at he
  obtain ⟨y, hy⟩ : ∃ y, (4 + x + 7) / 8 * 8 = y := ⟨_, rfl⟩
  obtain ⟨x4, hx4⟩ : ∃ x4, 4 + x = x4 := ⟨_, rfl⟩
  obtain ⟨x7, hx7⟩ : ∃ x7, 4 + x + 7 = x7 := ⟨_, rfl⟩
  rw [hx4] at hx7 w1 w2 w3 w4 z1 hle hle' d5 he hn
  rw [hx7] at w2 w3 w4 z1
  obtain ⟨q, hq⟩ : ∃ q, x7 / 8 = q := ⟨_, rfl⟩
  rw [hq] at w3 w4 z1
  obtain ⟨y, hy⟩ : ∃ y, q * 8 = y := ⟨_, rfl⟩
  rw [hy] at w4 z1
  obtain ⟨B5, hB5⟩ : ∃ B5, b.drop x4 = B5 := ⟨_, rfl⟩
  rw [hB5] at d5 he hn
  clear hq hy hx4 hx7 hlb hl hB5
  refine FnP.intro Tryz.func157 rfl rfl fun G w => ?_
  cases k1 : allZ B5
  · rw [k1, if_neg Bool.false_ne_true] at hn
    repeat' (first
     | refine WK.seq ?_
     | refine WK.block ?_
     | refine WK.condT rfl ?_
     | refine WK.condF rfl ?_
     | (refine Hid.h hQ _ _ ?_; clear hQ hA)
     | (refine WK.regH Tryz.ntmps157 (by kernel_rfl) ?_; intro A hA Q hQ; simp [aRes, aBad, act0, Action.enc, Oxm.enc, oxm0, wideZ, uI_zero, bne, aFault, *])
     | (refine RunQ.gd rfl (by rw [hA.h]; rfl) ?_; simp [aRes, aBad, act0, Action.enc, Oxm.enc, oxm0, wideZ, uI_zero, bne, aFault, *])
     | (refine RunQ.call rfl rfl rfl rfl rfl ?_ (hd) ?_ ?_; (focus (simp (maxDischargeDepth := 120) [aRes, aBad, act0, Action.enc, Oxm.enc, oxm0, wideZ, uI_zero, bne, aFault, *]; done)); (focus (simp [aRes, aBad, act0, Action.enc, Oxm.enc, oxm0, wideZ, uI_zero, bne, aFault, *]; done)); refine RunQ.evalH ?_; simp [aRes, aBad, act0, Action.enc, Oxm.enc, oxm0, wideZ, uI_zero, bne, aFault, *])
     | (refine RunQ.call rfl rfl rfl rfl rfl ?_ (he) ?_ ?_; (focus (simp (maxDischargeDepth := 120) [aRes, aBad, act0, Action.enc, Oxm.enc, oxm0, wideZ, uI_zero, bne, aFault, *]; done)); (focus (simp [aRes, aBad, act0, Action.enc, Oxm.enc, oxm0, wideZ, uI_zero, bne, aFault, *]; done)); refine RunQ.evalH ?_; simp [aRes, aBad, act0, Action.enc, Oxm.enc, oxm0, wideZ, uI_zero, bne, aFault, *])
     | (refine RunQ.call rfl rfl rfl rfl rfl ?_ (b5) ?_ ?_; (focus (simp (maxDischargeDepth := 120) [aRes, aBad, act0, Action.enc, Oxm.enc, oxm0, wideZ, uI_zero, bne, aFault, *]; done)); (focus (simp [aRes, aBad, act0, Action.enc, Oxm.enc, oxm0, wideZ, uI_zero, bne, aFault, *]; done)); refine RunQ.evalH ?_; simp [aRes, aBad, act0, Action.enc, Oxm.enc, oxm0, wideZ, uI_zero, bne, aFault, *])
     | (refine WK.ret Tryz.func157 ?_ ?_ <;> simp (maxDischargeDepth := 120) [Tryz.results157, aRes, aBad, act0, Action.enc, Oxm.enc, oxm0, wideZ, uI_zero, bne, aFault, *])
     | fail)
  rw [k1, if_pos rfl] at hn
  cases k2 : aSets o.field
  · rw [k2, if_neg Bool.false_ne_true] at hn
    repeat' (first
     | refine WK.seq ?_
     | refine WK.block ?_
     | refine WK.condT rfl ?_
     | refine WK.condF rfl ?_
     | (refine Hid.h hQ _ _ ?_; clear hQ hA)
     | (refine WK.regH Tryz.ntmps157 (by kernel_rfl) ?_; intro A hA Q hQ; simp [aRes, aBad, act0, Action.enc, Oxm.enc, oxm0, wideZ, uI_zero, bne, aFault, *])
     | (refine RunQ.gd rfl (by rw [hA.h]; rfl) ?_; simp [aRes, aBad, act0, Action.enc, Oxm.enc, oxm0, wideZ, uI_zero, bne, aFault, *])
     | (refine RunQ.call rfl rfl rfl rfl rfl ?_ (hd) ?_ ?_; (focus (simp (maxDischargeDepth := 120) [aRes, aBad, act0, Action.enc, Oxm.enc, oxm0, wideZ, uI_zero, bne, aFault, *]; done)); (focus (simp [aRes, aBad, act0, Action.enc, Oxm.enc, oxm0, wideZ, uI_zero, bne, aFault, *]; done)); refine RunQ.evalH ?_; simp [aRes, aBad, act0, Action.enc, Oxm.enc, oxm0, wideZ, uI_zero, bne, aFault, *])
     | (refine RunQ.call rfl rfl rfl rfl rfl ?_ (he) ?_ ?_; (focus (simp (maxDischargeDepth := 120) [aRes, aBad, act0, Action.enc, Oxm.enc, oxm0, wideZ, uI_zero, bne, aFault, *]; done)); (focus (simp [aRes, aBad, act0, Action.enc, Oxm.enc, oxm0, wideZ, uI_zero, bne, aFault, *]; done)); refine RunQ.evalH ?_; simp [aRes, aBad, act0, Action.enc, Oxm.enc, oxm0, wideZ, uI_zero, bne, aFault, *])
     | (refine RunQ.call rfl rfl rfl rfl rfl ?_ (rasets_c o.field) ?_ ?_; (focus (simp (maxDischargeDepth := 120) [aRes, aBad, act0, Action.enc, Oxm.enc, oxm0, wideZ, uI_zero, bne, aFault, *]; done)); (focus (simp [aRes, aBad, act0, Action.enc, Oxm.enc, oxm0, wideZ, uI_zero, bne, aFault, *]; done)); refine RunQ.evalH ?_; simp [aRes, aBad, act0, Action.enc, Oxm.enc, oxm0, wideZ, uI_zero, bne, aFault, *])
     | (refine RunQ.call rfl rfl rfl rfl rfl ?_ (b13) ?_ ?_; (focus (simp (maxDischargeDepth := 120) [aRes, aBad, act0, Action.enc, Oxm.enc, oxm0, wideZ, uI_zero, bne, aFault, *]; done)); (focus (simp [aRes, aBad, act0, Action.enc, Oxm.enc, oxm0, wideZ, uI_zero, bne, aFault, *]; done)); refine RunQ.evalH ?_; simp [aRes, aBad, act0, Action.enc, Oxm.enc, oxm0, wideZ, uI_zero, bne, aFault, *])
     | (refine WK.ret Tryz.func157 ?_ ?_ <;> simp (maxDischargeDepth := 120) [Tryz.results157, aRes, aBad, act0, Action.enc, Oxm.enc, oxm0, wideZ, uI_zero, bne, aFault, *])
     | fail)
  rw [k2, if_pos rfl] at hn
  cases k3 : o.masked
  · rw [k3, if_neg Bool.false_ne_true] at hn
    repeat' (first
     | refine WK.seq ?_
     | refine WK.block ?_
     | refine WK.inBlock ?_
     | refine WK.skip ?_
     | refine WK.condF rfl ?_
     | (refine Hid.h hQ _ _ ?_; clear hQ hA)
     | (refine WK.regH Tryz.ntmps157 (by kernel_rfl) ?_; intro A hA Q hQ; simp [aRes, aBad, act0, Action.enc, Oxm.enc, oxm0, wideZ, uI_zero, bne, aFault, *])
     | (refine RunQ.gd rfl (by rw [hA.h]; rfl) ?_; simp [aRes, aBad, act0, Action.enc, Oxm.enc, oxm0, wideZ, uI_zero, bne, aFault, *])
     | (refine RunQ.call rfl rfl rfl rfl rfl ?_ (hd) ?_ ?_; (focus (simp (maxDischargeDepth := 120) [aRes, aBad, act0, Action.enc, Oxm.enc, oxm0, wideZ, uI_zero, bne, aFault, *]; done)); (focus (simp [aRes, aBad, act0, Action.enc, Oxm.enc, oxm0, wideZ, uI_zero, bne, aFault, *]; done)); refine RunQ.evalH ?_; simp [aRes, aBad, act0, Action.enc, Oxm.enc, oxm0, wideZ, uI_zero, bne, aFault, *])
     | (refine RunQ.call rfl rfl rfl rfl rfl ?_ (he) ?_ ?_; (focus (simp (maxDischargeDepth := 120) [aRes, aBad, act0, Action.enc, Oxm.enc, oxm0, wideZ, uI_zero, bne, aFault, *]; done)); (focus (simp [aRes, aBad, act0, Action.enc, Oxm.enc, oxm0, wideZ, uI_zero, bne, aFault, *]; done)); refine RunQ.evalH ?_; simp [aRes, aBad, act0, Action.enc, Oxm.enc, oxm0, wideZ, uI_zero, bne, aFault, *])
     | (refine RunQ.call rfl rfl rfl rfl rfl ?_ (rasets_c o.field) ?_ ?_; (focus (simp (maxDischargeDepth := 120) [aRes, aBad, act0, Action.enc, Oxm.enc, oxm0, wideZ, uI_zero, bne, aFault, *]; done)); (focus (simp [aRes, aBad, act0, Action.enc, Oxm.enc, oxm0, wideZ, uI_zero, bne, aFault, *]; done)); refine RunQ.evalH ?_; simp [aRes, aBad, act0, Action.enc, Oxm.enc, oxm0, wideZ, uI_zero, bne, aFault, *])
     | (refine WK.ret Tryz.func157 ?_ ?_ <;> simp (maxDischargeDepth := 120) [Tryz.results157, aRes, aBad, act0, Action.enc, Oxm.enc, oxm0, wideZ, uI_zero, bne, aFault, *])
     | fail)
  · rw [k3, if_pos rfl] at hn
    repeat' (first
     | refine WK.seq ?_
     | refine WK.block ?_
     | refine WK.condT rfl ?_
     | refine WK.condF rfl ?_
     | (refine Hid.h hQ _ _ ?_; clear hQ hA)
     | (refine WK.regH Tryz.ntmps157 (by kernel_rfl) ?_; intro A hA Q hQ; simp [aRes, aBad, act0, Action.enc, Oxm.enc, oxm0, wideZ, uI_zero, bne, aFault, *])
     | (refine RunQ.gd rfl (by rw [hA.h]; rfl) ?_; simp [aRes, aBad, act0, Action.enc, Oxm.enc, oxm0, wideZ, uI_zero, bne, aFault, *])
     | (refine RunQ.call rfl rfl rfl rfl rfl ?_ (hd) ?_ ?_; (focus (simp (maxDischargeDepth := 120) [aRes, aBad, act0, Action.enc, Oxm.enc, oxm0, wideZ, uI_zero, bne, aFault, *]; done)); (focus (simp [aRes, aBad, act0, Action.enc, Oxm.enc, oxm0, wideZ, uI_zero, bne, aFault, *]; done)); refine RunQ.evalH ?_; simp [aRes, aBad, act0, Action.enc, Oxm.enc, oxm0, wideZ, uI_zero, bne, aFault, *])
     | (refine RunQ.call rfl rfl rfl rfl rfl ?_ (he) ?_ ?_; (focus (simp (maxDischargeDepth := 120) [aRes, aBad, act0, Action.enc, Oxm.enc, oxm0, wideZ, uI_zero, bne, aFault, *]; done)); (focus (simp [aRes, aBad, act0, Action.enc, Oxm.enc, oxm0, wideZ, uI_zero, bne, aFault, *]; done)); refine RunQ.evalH ?_; simp [aRes, aBad, act0, Action.enc, Oxm.enc, oxm0, wideZ, uI_zero, bne, aFault, *])
     | (refine RunQ.call rfl rfl rfl rfl rfl ?_ (rasets_c o.field) ?_ ?_; (focus (simp (maxDischargeDepth := 120) [aRes, aBad, act0, Action.enc, Oxm.enc, oxm0, wideZ, uI_zero, bne, aFault, *]; done)); (focus (simp [aRes, aBad, act0, Action.enc, Oxm.enc, oxm0, wideZ, uI_zero, bne, aFault, *]; done)); refine RunQ.evalH ?_; simp [aRes, aBad, act0, Action.enc, Oxm.enc, oxm0, wideZ, uI_zero, bne, aFault, *])
     | (refine RunQ.call rfl rfl rfl rfl rfl ?_ (b15) ?_ ?_; (focus (simp (maxDischargeDepth := 120) [aRes, aBad, act0, Action.enc, Oxm.enc, oxm0, wideZ, uI_zero, bne, aFault, *]; done)); (focus (simp [aRes, aBad, act0, Action.enc, Oxm.enc, oxm0, wideZ, uI_zero, bne, aFault, *]; done)); refine RunQ.evalH ?_; simp [aRes, aBad, act0, Action.enc, Oxm.enc, oxm0, wideZ, uI_zero, bne, aFault, *])
     | (refine WK.ret Tryz.func157 ?_ ?_ <;> simp (maxDischargeDepth := 120) [Tryz.results157, aRes, aBad, act0, Action.enc, Oxm.enc, oxm0, wideZ, uI_zero, bne, aFault, *])
     | fail)
end Go.Proofs.YtiifjagnhnchoaaGreat
end

section
set_option linter.unusedVariables false
set_option linter.unusedSimpArgs false
namespace Go.Proofs.YtiifjagnhnchoaaGreat
open Go Go.AI Go.Proofs
attribute [local irreducible] FnP FnO FnB FnT FnSeq WK RunQ RunQW RunX RunXW

/-- how many bytes an action says it has -/
def aN (b : List (BitVec 8)) : Nat := valN ((b.drop 2).take 2)
def aK (b : List (BitVec 8)) : Nat := valN ((b.drop 0).take 2)
theorem aN_lt (b : List (BitVec 8)) (h : 8 ≤ b.length) : aN b < 65536 := by
  have := valN_lt 2 ((b.drop 2).take 2) (by simp; omega)
  exact this
theorem aN_get (b : List (BitVec 8)) (h : 8 ≤ b.length) : getN b 2 2 = ((aN b : Int), 0) := by unfold getN aN; rw [if_pos (by omega)]
theorem aK_get (b : List (BitVec 8)) (h : 8 ≤ b.length) : getN b 0 2 = ((aK b : Int), 0) := by unfold getN aK; rw [if_pos (by omega)]
def aDec (b : List (BitVec 8)) : Action × Int × Option Int :=
  if b.length < 8 then aBad 1 else if aN b < 8 ∨ ¬ aN b % 8 = 0 ∨ b.length < aN b then aBad 1 else
  if aK b = 25 then aSetD (b.take (aN b)) else if (aLength (aK b)).1 = 0 then aBad 0 else if ¬ aN b = (aLength (aK b)).1 then aBad 1 else
  if allZ ((b.take (aN b)).drop (aLength (aK b)).2) = true then aPlain (aK b) (b.take (aN b)) else aBad 5
set_option maxHeartbeats 4000000 in
theorem adec_c (b : List (BitVec 8)) (hb : b.length ≤ 9223372036854775807) : FnP Tryz.prog 130 [byS b] (aRes (aDec b)) := by
  have b1 := abad_c 1
  have b0 := abad_c 0
  have b5 := abad_c 5
  by_cases h8 : b.length < 8
  · have e : aDec b = aBad 1 := by unfold aDec; rw [if_pos h8]
    have j8 : (b.length : Int) < 8 := by omega
    unfold byS
    refine FnP.intro Tryz.func130 rfl rfl fun G w => ?_
    repeat' (first
     | refine WK.seq ?_
     | refine WK.condT rfl ?_
     | (refine Hid.h hQ _ _ ?_; clear hQ hA)
     | (refine WK.regH Tryz.ntmps130 (by kernel_rfl) ?_; intro A hA Q hQ; simp [aRes, aBad, act0, Action.enc, oxm0, wideZ, uI_zero, aFault, *])
     | (refine RunQ.call rfl rfl rfl rfl rfl ?_ (b1) ?_ ?_; (focus (simp (maxDischargeDepth := 120) [aRes, aBad, act0, Action.enc, oxm0, wideZ, uI_zero, aFault, *]; done)); (focus (simp [aRes, aBad, act0, Action.enc, oxm0, wideZ, uI_zero, aFault, *]; done)); refine RunQ.evalH ?_; simp [aRes, aBad, act0, Action.enc, oxm0, wideZ, uI_zero, aFault, *])
     | (refine WK.ret Tryz.func130 ?_ ?_ <;> simp (maxDischargeDepth := 120) [Tryz.results130, aRes, aBad, act0, Action.enc, oxm0, wideZ, uI_zero, aFault, *])
     | fail)
  have h8' : 8 ≤ b.length := by omega
  have j8 : ¬ (b.length : Int) < 8 := by omega
  have g1 := nget_c b 0 2 Sz2 hb (by omega)
  have g2 := nget_c b 2 2 Sz2 hb (by omega)
  rw [aK_get b h8'] at g1
  rw [aN_get b h8'] at g2
  have hlt := aN_lt b h8'
  have hdef : aDec b = if aN b < 8 ∨ ¬ aN b % 8 = 0 ∨ b.length < aN b then aBad 1 else
    if aK b = 25 then aSetD (b.take (aN b)) else if (aLength (aK b)).1 = 0 then aBad 0 else if ¬ aN b = (aLength (aK b)).1 then aBad 1 else
    if allZ ((b.take (aN b)).drop (aLength (aK b)).2) = true then aPlain (aK b) (b.take (aN b)) else aBad 5 := by
    rw [aDec, if_neg h8]
  obtain ⟨n, hn⟩ : ∃ n, aN b = n := ⟨_, rfl⟩
  obtain ⟨k, hk⟩ : ∃ k, aK b = k := ⟨_, rfl⟩
  simp only [hn] at g2 hlt hdef
  simp only [hk] at g1 hdef
  clear hn hk
  have m7 := bAnd7 n hlt
  have z7 : (((n % 8 : Nat) : Int) == 0) = (n % 8 == 0) := by rw [Bool.eq_iff_iff, beq_iff_eq, beq_iff_eq]; omega
  obtain ⟨r, hr⟩ : ∃ r, n % 8 = r := ⟨_, rfl⟩
  rw [hr] at m7 z7 hdef
  by_cases c1 : n < 8
  · have e : aDec b = aBad 1 := by rw [hdef, if_pos (.inl c1)]
    have d1 : (n : Int) < 8 := by omega
    unfold byS at *
    clear hdef hr
    refine FnP.intro Tryz.func130 rfl rfl fun G w => ?_
    repeat' (first
     | refine WK.seq ?_
     | refine WK.skip ?_
     | refine WK.condT rfl ?_
     | refine WK.condF rfl ?_
     | (refine Hid.h hQ _ _ ?_; clear hQ hA)
     | (refine WK.regH Tryz.ntmps130 (by kernel_rfl) ?_; intro A hA Q hQ; simp [aRes, aBad, act0, Action.enc, oxm0, wideZ, uI_zero, aFault, *])
     | (refine RunQ.gd rfl (by rw [hA.h]; rfl) ?_; simp [aRes, aBad, act0, Action.enc, oxm0, wideZ, uI_zero, aFault, *])
     | (refine RunQ.call rfl rfl rfl rfl rfl ?_ (g1) ?_ ?_; (focus (simp (maxDischargeDepth := 120) [aRes, aBad, act0, Action.enc, oxm0, wideZ, uI_zero, aFault, *]; done)); (focus (simp [aRes, aBad, act0, Action.enc, oxm0, wideZ, uI_zero, aFault, *]; done)); refine RunQ.evalH ?_; simp [aRes, aBad, act0, Action.enc, oxm0, wideZ, uI_zero, aFault, *])
     | (refine RunQ.call rfl rfl rfl rfl rfl ?_ (g2) ?_ ?_; (focus (simp (maxDischargeDepth := 120) [aRes, aBad, act0, Action.enc, oxm0, wideZ, uI_zero, aFault, *]; done)); (focus (simp [aRes, aBad, act0, Action.enc, oxm0, wideZ, uI_zero, aFault, *]; done)); refine RunQ.evalH ?_; simp [aRes, aBad, act0, Action.enc, oxm0, wideZ, uI_zero, aFault, *])
     | (refine RunQ.call rfl rfl rfl rfl rfl ?_ (b1) ?_ ?_; (focus (simp (maxDischargeDepth := 120) [aRes, aBad, act0, Action.enc, oxm0, wideZ, uI_zero, aFault, *]; done)); (focus (simp [aRes, aBad, act0, Action.enc, oxm0, wideZ, uI_zero, aFault, *]; done)); refine RunQ.evalH ?_; simp [aRes, aBad, act0, Action.enc, oxm0, wideZ, uI_zero, aFault, *])
     | (refine WK.ret Tryz.func130 ?_ ?_ <;> simp (maxDischargeDepth := 120) [Tryz.results130, aRes, aBad, act0, Action.enc, oxm0, wideZ, uI_zero, aFault, *])
     | fail)
  have d1 : ¬ (n : Int) < 8 := by omega
  by_cases c2 : r = 0
  case neg =>
    have e : aDec b = aBad 1 := by rw [hdef, if_pos (.inr (.inl c2))]
    have d2 : (r == 0) = false := by simpa using c2
    rw [d2] at z7
    unfold byS at *
    clear hdef hr
    refine FnP.intro Tryz.func130 rfl rfl fun G w => ?_
    repeat' (first
     | refine WK.seq ?_
     | refine WK.skip ?_
     | refine WK.condT rfl ?_
     | refine WK.condF rfl ?_
     | (refine Hid.h hQ _ _ ?_; clear hQ hA)
     | (refine WK.regH Tryz.ntmps130 (by kernel_rfl) ?_; intro A hA Q hQ; simp [aRes, aBad, act0, Action.enc, oxm0, wideZ, uI_zero, aFault, bne, *])
     | (refine RunQ.gd rfl (by rw [hA.h]; rfl) ?_; simp [aRes, aBad, act0, Action.enc, oxm0, wideZ, uI_zero, aFault, bne, *])
     | (refine RunQ.call rfl rfl rfl rfl rfl ?_ (g1) ?_ ?_; (focus (simp (maxDischargeDepth := 120) [aRes, aBad, act0, Action.enc, oxm0, wideZ, uI_zero, aFault, bne, *]; done)); (focus (simp [aRes, aBad, act0, Action.enc, oxm0, wideZ, uI_zero, aFault, bne, *]; done)); refine RunQ.evalH ?_; simp [aRes, aBad, act0, Action.enc, oxm0, wideZ, uI_zero, aFault, bne, *])
     | (refine RunQ.call rfl rfl rfl rfl rfl ?_ (g2) ?_ ?_; (focus (simp (maxDischargeDepth := 120) [aRes, aBad, act0, Action.enc, oxm0, wideZ, uI_zero, aFault, bne, *]; done)); (focus (simp [aRes, aBad, act0, Action.enc, oxm0, wideZ, uI_zero, aFault, bne, *]; done)); refine RunQ.evalH ?_; simp [aRes, aBad, act0, Action.enc, oxm0, wideZ, uI_zero, aFault, bne, *])
     | (refine RunQ.call rfl rfl rfl rfl rfl ?_ (b1) ?_ ?_; (focus (simp (maxDischargeDepth := 120) [aRes, aBad, act0, Action.enc, oxm0, wideZ, uI_zero, aFault, bne, *]; done)); (focus (simp [aRes, aBad, act0, Action.enc, oxm0, wideZ, uI_zero, aFault, bne, *]; done)); refine RunQ.evalH ?_; simp [aRes, aBad, act0, Action.enc, oxm0, wideZ, uI_zero, aFault, bne, *])
     | (refine WK.ret Tryz.func130 ?_ ?_ <;> simp (maxDischargeDepth := 120) [Tryz.results130, aRes, aBad, act0, Action.enc, oxm0, wideZ, uI_zero, aFault, bne, *])
     | fail)
  have d2 : (r == 0) = true := by simpa using c2
  rw [d2] at z7
  by_cases c3 : b.length < n
  · have e : aDec b = aBad 1 := by rw [hdef, if_pos (.inr (.inr c3))]
    have d3 : (b.length : Int) < n := by omega
    unfold byS at *
    clear hdef hr c2
    refine FnP.intro Tryz.func130 rfl rfl fun G w => ?_
    repeat' (first
     | refine WK.seq ?_
     | refine WK.skip ?_
     | refine WK.condT rfl ?_
     | refine WK.condF rfl ?_
     | (refine Hid.h hQ _ _ ?_; clear hQ hA)
     | (refine WK.regH Tryz.ntmps130 (by kernel_rfl) ?_; intro A hA Q hQ; simp [aRes, aBad, act0, Action.enc, oxm0, wideZ, uI_zero, aFault, bne, *])
     | (refine RunQ.gd rfl (by rw [hA.h]; rfl) ?_; simp [aRes, aBad, act0, Action.enc, oxm0, wideZ, uI_zero, aFault, bne, *])
     | (refine RunQ.call rfl rfl rfl rfl rfl ?_ (g1) ?_ ?_; (focus (simp (maxDischargeDepth := 120) [aRes, aBad, act0, Action.enc, oxm0, wideZ, uI_zero, aFault, bne, *]; done)); (focus (simp [aRes, aBad, act0, Action.enc, oxm0, wideZ, uI_zero, aFault, bne, *]; done)); refine RunQ.evalH ?_; simp [aRes, aBad, act0, Action.enc, oxm0, wideZ, uI_zero, aFault, bne, *])
     | (refine RunQ.call rfl rfl rfl rfl rfl ?_ (g2) ?_ ?_; (focus (simp (maxDischargeDepth := 120) [aRes, aBad, act0, Action.enc, oxm0, wideZ, uI_zero, aFault, bne, *]; done)); (focus (simp [aRes, aBad, act0, Action.enc, oxm0, wideZ, uI_zero, aFault, bne, *]; done)); refine RunQ.evalH ?_; simp [aRes, aBad, act0, Action.enc, oxm0, wideZ, uI_zero, aFault, bne, *])
     | (refine RunQ.call rfl rfl rfl rfl rfl ?_ (b1) ?_ ?_; (focus (simp (maxDischargeDepth := 120) [aRes, aBad, act0, Action.enc, oxm0, wideZ, uI_zero, aFault, bne, *]; done)); (focus (simp [aRes, aBad, act0, Action.enc, oxm0, wideZ, uI_zero, aFault, bne, *]; done)); refine RunQ.evalH ?_; simp [aRes, aBad, act0, Action.enc, oxm0, wideZ, uI_zero, aFault, bne, *])
     | (refine WK.ret Tryz.func130 ?_ ?_ <;> simp (maxDischargeDepth := 120) [Tryz.results130, aRes, aBad, act0, Action.enc, oxm0, wideZ, uI_zero, aFault, bne, *])
     | fail)
  rw [if_neg (by omega)] at hdef
  have d3 : ¬ (b.length : Int) < n := by omega
  have j1 : (n : Int) ≤ b.length := by omega
  have hBl : (b.take n).length = n := by rw [List.length_take]; omega
  obtain ⟨B, hB⟩ : ∃ B, b.take n = B := ⟨_, rfl⟩
  have t1 : (byL b).take n = byL B := by rw [byL_take, hB]
  rw [hB] at hdef hBl
  have hs := aset_c B (by omega) (by omega)
  have hp := aplain_c k B (by omega)
  unfold byS at *
  rw [hBl] at hs hp
  clear hB hr c2
  by_cases k5 : k = 25
  · subst k5
    rw [if_pos rfl] at hdef
    clear hp
    obtain ⟨R, hR⟩ : ∃ R, aSetD B = R := ⟨_, rfl⟩
    rw [hR] at hs hdef
    obtain ⟨ra, rn, rf⟩ := R
    clear hR
    refine FnP.intro Tryz.func130 rfl rfl fun G w => ?_
    cases rf <;>
    · repeat' (first
       | refine WK.seq ?_
       | refine WK.skip ?_
       | refine WK.condT rfl ?_
       | refine WK.condF rfl ?_
       | (refine Hid.h hQ _ _ ?_; clear hQ hA)
       | (refine WK.regH Tryz.ntmps130 (by kernel_rfl) ?_; intro A hA Q hQ; simp [aRes, Action.enc, Oxm.enc, oxm0, wideZ, uI_zero, aFault, bne, *])
       | (refine RunQ.gd rfl (by rw [hA.h]; rfl) ?_; simp [aRes, Action.enc, Oxm.enc, oxm0, wideZ, uI_zero, aFault, bne, *])
       | (refine RunQ.call rfl rfl rfl rfl rfl ?_ (g1) ?_ ?_; (focus (simp (maxDischargeDepth := 120) [aRes, Action.enc, Oxm.enc, oxm0, wideZ, uI_zero, aFault, bne, *]; done)); (focus (simp [aRes, Action.enc, Oxm.enc, oxm0, wideZ, uI_zero, aFault, bne, *]; done)); refine RunQ.evalH ?_; simp [aRes, Action.enc, Oxm.enc, oxm0, wideZ, uI_zero, aFault, bne, *])
       | (refine RunQ.call rfl rfl rfl rfl rfl ?_ (g2) ?_ ?_; (focus (simp (maxDischargeDepth := 120) [aRes, Action.enc, Oxm.enc, oxm0, wideZ, uI_zero, aFault, bne, *]; done)); (focus (simp [aRes, Action.enc, Oxm.enc, oxm0, wideZ, uI_zero, aFault, bne, *]; done)); refine RunQ.evalH ?_; simp [aRes, Action.enc, Oxm.enc, oxm0, wideZ, uI_zero, aFault, bne, *])
       | (refine RunQ.call rfl rfl rfl rfl rfl ?_ (hs) ?_ ?_; (focus (simp (maxDischargeDepth := 120) [aRes, Action.enc, Oxm.enc, oxm0, wideZ, uI_zero, aFault, bne, *]; done)); (focus (simp [aRes, Action.enc, Oxm.enc, oxm0, wideZ, uI_zero, aFault, bne, *]; done)); refine RunQ.evalH ?_; simp [aRes, Action.enc, Oxm.enc, oxm0, wideZ, uI_zero, aFault, bne, *])
       | (refine WK.ret Tryz.func130 ?_ ?_ <;> simp (maxDischargeDepth := 120) [Tryz.results130, aRes, Action.enc, Oxm.enc, oxm0, wideZ, uI_zero, aFault, bne, *])
       | fail)
  have d5 : ((k : Int) == 25) = false := by rw [beq_eq_false_iff_ne]; omega
  have d5' : ¬ (k : Int) = 25 := by omega
  rw [if_neg k5] at hdef
  clear hs k5
  have hL := alength_c (k : Int)
  obtain ⟨L, hLe⟩ : ∃ L, aLength (k : Int) = L := ⟨_, rfl⟩
  rw [hLe] at hL hdef
  have hLb : L.2 ≤ L.1 ∧ (L.1 = 0 → L.2 = 0) := by rw [← hLe]; unfold aLength; (repeat' split) <;> simp
  obtain ⟨want, used⟩ := L
  simp only at hL hdef hLb
  clear hLe
  have z9 : ((n : Int) == (want : Int)) = (n == want) := by rw [Bool.eq_iff_iff, beq_iff_eq, beq_iff_eq]; omega
  have z8 : ((want : Int) == 0) = (want == 0) := by rw [Bool.eq_iff_iff, beq_iff_eq, beq_iff_eq]; omega
  by_cases k0 : want = 0
  · have e : aDec b = aBad 0 := by rw [hdef, if_pos k0]
    have d0 : (want == 0) = true := by simpa using k0
    rw [d0] at z8
    clear hdef hp z9 k0
    refine FnP.intro Tryz.func130 rfl rfl fun G w => ?_
    repeat' (first
     | refine WK.seq ?_
     | refine WK.block ?_
     | refine WK.skip ?_
     | refine WK.condT rfl ?_
     | refine WK.condF rfl ?_
     | (refine Hid.h hQ _ _ ?_; clear hQ hA)
     | (refine WK.regH Tryz.ntmps130 (by kernel_rfl) ?_; intro A hA Q hQ; simp [aRes, aBad, act0, Action.enc, oxm0, wideZ, uI_zero, aFault, bne, *])
     | (refine RunQ.gd rfl (by rw [hA.h]; rfl) ?_; simp [aRes, aBad, act0, Action.enc, oxm0, wideZ, uI_zero, aFault, bne, *])
     | (refine RunQ.call rfl rfl rfl rfl rfl ?_ (g1) ?_ ?_; (focus (simp (maxDischargeDepth := 120) [aRes, aBad, act0, Action.enc, oxm0, wideZ, uI_zero, aFault, bne, *]; done)); (focus (simp [aRes, aBad, act0, Action.enc, oxm0, wideZ, uI_zero, aFault, bne, *]; done)); refine RunQ.evalH ?_; simp [aRes, aBad, act0, Action.enc, oxm0, wideZ, uI_zero, aFault, bne, *])
     | (refine RunQ.call rfl rfl rfl rfl rfl ?_ (g2) ?_ ?_; (focus (simp (maxDischargeDepth := 120) [aRes, aBad, act0, Action.enc, oxm0, wideZ, uI_zero, aFault, bne, *]; done)); (focus (simp [aRes, aBad, act0, Action.enc, oxm0, wideZ, uI_zero, aFault, bne, *]; done)); refine RunQ.evalH ?_; simp [aRes, aBad, act0, Action.enc, oxm0, wideZ, uI_zero, aFault, bne, *])
     | (refine RunQ.call rfl rfl rfl rfl rfl ?_ (hL) ?_ ?_; (focus (simp (maxDischargeDepth := 120) [aRes, aBad, act0, Action.enc, oxm0, wideZ, uI_zero, aFault, bne, *]; done)); (focus (simp [aRes, aBad, act0, Action.enc, oxm0, wideZ, uI_zero, aFault, bne, *]; done)); refine RunQ.evalH ?_; simp [aRes, aBad, act0, Action.enc, oxm0, wideZ, uI_zero, aFault, bne, *])
     | (refine RunQ.call rfl rfl rfl rfl rfl ?_ (b0) ?_ ?_; (focus (simp (maxDischargeDepth := 120) [aRes, aBad, act0, Action.enc, oxm0, wideZ, uI_zero, aFault, bne, *]; done)); (focus (simp [aRes, aBad, act0, Action.enc, oxm0, wideZ, uI_zero, aFault, bne, *]; done)); refine RunQ.evalH ?_; simp [aRes, aBad, act0, Action.enc, oxm0, wideZ, uI_zero, aFault, bne, *])
     | (refine WK.ret Tryz.func130 ?_ ?_ <;> simp (maxDischargeDepth := 120) [Tryz.results130, aRes, aBad, act0, Action.enc, oxm0, wideZ, uI_zero, aFault, bne, *])
     | fail)
  rw [if_neg k0] at hdef
  have d0 : (want == 0) = false := by simpa using k0
  rw [d0] at z8
  by_cases k1 : n = want
  case neg =>
    have e : aDec b = aBad 1 := by rw [hdef, if_pos k1]
    have d9 : (n == want) = false := by simpa using k1
    rw [d9] at z9
    clear hdef hp k1
    refine FnP.intro Tryz.func130 rfl rfl fun G w => ?_
    repeat' (first
     | refine WK.seq ?_
     | refine WK.block ?_
     | refine WK.skip ?_
     | refine WK.condT rfl ?_
     | refine WK.condF rfl ?_
     | (refine Hid.h hQ _ _ ?_; clear hQ hA)
     | (refine WK.regH Tryz.ntmps130 (by kernel_rfl) ?_; intro A hA Q hQ; simp [aRes, aBad, act0, Action.enc, oxm0, wideZ, uI_zero, aFault, bne, *])
     | (refine RunQ.gd rfl (by rw [hA.h]; rfl) ?_; simp [aRes, aBad, act0, Action.enc, oxm0, wideZ, uI_zero, aFault, bne, *])
     | (refine RunQ.call rfl rfl rfl rfl rfl ?_ (g1) ?_ ?_; (focus (simp (maxDischargeDepth := 120) [aRes, aBad, act0, Action.enc, oxm0, wideZ, uI_zero, aFault, bne, *]; done)); (focus (simp [aRes, aBad, act0, Action.enc, oxm0, wideZ, uI_zero, aFault, bne, *]; done)); refine RunQ.evalH ?_; simp [aRes, aBad, act0, Action.enc, oxm0, wideZ, uI_zero, aFault, bne, *])
     | (refine RunQ.call rfl rfl rfl rfl rfl ?_ (g2) ?_ ?_; (focus (simp (maxDischargeDepth := 120) [aRes, aBad, act0, Action.enc, oxm0, wideZ, uI_zero, aFault, bne, *]; done)); (focus (simp [aRes, aBad, act0, Action.enc, oxm0, wideZ, uI_zero, aFault, bne, *]; done)); refine RunQ.evalH ?_; simp [aRes, aBad, act0, Action.enc, oxm0, wideZ, uI_zero, aFault, bne, *])
     | (refine RunQ.call rfl rfl rfl rfl rfl ?_ (hL) ?_ ?_; (focus (simp (maxDischargeDepth := 120) [aRes, aBad, act0, Action.enc, oxm0, wideZ, uI_zero, aFault, bne, *]; done)); (focus (simp [aRes, aBad, act0, Action.enc, oxm0, wideZ, uI_zero, aFault, bne, *]; done)); refine RunQ.evalH ?_; simp [aRes, aBad, act0, Action.enc, oxm0, wideZ, uI_zero, aFault, bne, *])
     | (refine RunQ.call rfl rfl rfl rfl rfl ?_ (b1) ?_ ?_; (focus (simp (maxDischargeDepth := 120) [aRes, aBad, act0, Action.enc, oxm0, wideZ, uI_zero, aFault, bne, *]; done)); (focus (simp [aRes, aBad, act0, Action.enc, oxm0, wideZ, uI_zero, aFault, bne, *]; done)); refine RunQ.evalH ?_; simp [aRes, aBad, act0, Action.enc, oxm0, wideZ, uI_zero, aFault, bne, *])
     | (refine WK.ret Tryz.func130 ?_ ?_ <;> simp (maxDischargeDepth := 120) [Tryz.results130, aRes, aBad, act0, Action.enc, oxm0, wideZ, uI_zero, aFault, bne, *])
     | fail)
  rw [if_neg (by simpa using k1)] at hdef
  have d9 : (n == want) = true := by simpa using k1
  rw [d9] at z9
  have u1 : used ≤ n := by omega
  have u2 : (used : Int) ≤ n := by omega
  have hE := aempty_c (B.drop used) (by rw [List.length_drop]; omega)
  have hdr : ((byL B).drop used).take (n - used) = byL (B.drop used) := by rw [byL_drop]; exact by_full _ _ (by rw [List.length_drop, hBl])
  unfold byS at hE
  rw [List.length_drop, hBl] at hE
  obtain ⟨E5, hE5⟩ : ∃ E5, B.drop used = E5 := ⟨_, rfl⟩
  rw [hE5] at hE hdr hdef
  clear hE5 k1 k0 hLb
  refine FnP.intro Tryz.func130 rfl rfl fun G w => ?_
  cases kz : allZ E5
  · rw [kz, if_neg Bool.false_ne_true] at hdef
    clear hp
    repeat' (first
     | refine WK.seq ?_
     | refine WK.block ?_
     | refine WK.skip ?_
     | refine WK.condT rfl ?_
     | refine WK.condF rfl ?_
     | (refine Hid.h hQ _ _ ?_; clear hQ hA)
     | (refine WK.regH Tryz.ntmps130 (by kernel_rfl) ?_; intro A hA Q hQ; simp [aRes, aBad, act0, Action.enc, oxm0, wideZ, uI_zero, aFault, bne, *])
     | (refine RunQ.gd rfl (by rw [hA.h]; rfl) ?_; simp [aRes, aBad, act0, Action.enc, oxm0, wideZ, uI_zero, aFault, bne, *])
     | (refine RunQ.call rfl rfl rfl rfl rfl ?_ (g1) ?_ ?_; (focus (simp (maxDischargeDepth := 120) [aRes, aBad, act0, Action.enc, oxm0, wideZ, uI_zero, aFault, bne, *]; done)); (focus (simp [aRes, aBad, act0, Action.enc, oxm0, wideZ, uI_zero, aFault, bne, *]; done)); refine RunQ.evalH ?_; simp [aRes, aBad, act0, Action.enc, oxm0, wideZ, uI_zero, aFault, bne, *])
     | (refine RunQ.call rfl rfl rfl rfl rfl ?_ (g2) ?_ ?_; (focus (simp (maxDischargeDepth := 120) [aRes, aBad, act0, Action.enc, oxm0, wideZ, uI_zero, aFault, bne, *]; done)); (focus (simp [aRes, aBad, act0, Action.enc, oxm0, wideZ, uI_zero, aFault, bne, *]; done)); refine RunQ.evalH ?_; simp [aRes, aBad, act0, Action.enc, oxm0, wideZ, uI_zero, aFault, bne, *])
     | (refine RunQ.call rfl rfl rfl rfl rfl ?_ (hL) ?_ ?_; (focus (simp (maxDischargeDepth := 120) [aRes, aBad, act0, Action.enc, oxm0, wideZ, uI_zero, aFault, bne, *]; done)); (focus (simp [aRes, aBad, act0, Action.enc, oxm0, wideZ, uI_zero, aFault, bne, *]; done)); refine RunQ.evalH ?_; simp [aRes, aBad, act0, Action.enc, oxm0, wideZ, uI_zero, aFault, bne, *])
     | (refine RunQ.call rfl rfl rfl rfl rfl ?_ (hE) ?_ ?_; (focus (simp (maxDischargeDepth := 120) [aRes, aBad, act0, Action.enc, oxm0, wideZ, uI_zero, aFault, bne, *]; done)); (focus (simp [aRes, aBad, act0, Action.enc, oxm0, wideZ, uI_zero, aFault, bne, *]; done)); refine RunQ.evalH ?_; simp [aRes, aBad, act0, Action.enc, oxm0, wideZ, uI_zero, aFault, bne, *])
     | (refine RunQ.call rfl rfl rfl rfl rfl ?_ (b5) ?_ ?_; (focus (simp (maxDischargeDepth := 120) [aRes, aBad, act0, Action.enc, oxm0, wideZ, uI_zero, aFault, bne, *]; done)); (focus (simp [aRes, aBad, act0, Action.enc, oxm0, wideZ, uI_zero, aFault, bne, *]; done)); refine RunQ.evalH ?_; simp [aRes, aBad, act0, Action.enc, oxm0, wideZ, uI_zero, aFault, bne, *])
     | (refine WK.ret Tryz.func130 ?_ ?_ <;> simp (maxDischargeDepth := 120) [Tryz.results130, aRes, aBad, act0, Action.enc, oxm0, wideZ, uI_zero, aFault, bne, *])
     | fail)
  · rw [kz, if_pos rfl] at hdef
    obtain ⟨R, hR⟩ : ∃ R, aPlain k B = R := ⟨_, rfl⟩
    rw [hR] at hp hdef
    obtain ⟨ra, rn, rf⟩ := R
    clear hR
    cases rf <;>
    · repeat' (first
       | refine WK.seq ?_
       | refine WK.block ?_
       | refine WK.inBlock ?_
       | refine WK.skip ?_
       | refine WK.condF rfl ?_
       | (refine Hid.h hQ _ _ ?_; clear hQ hA)
       | (refine WK.regH Tryz.ntmps130 (by kernel_rfl) ?_; intro A hA Q hQ; simp [aRes, Action.enc, Oxm.enc, oxm0, wideZ, uI_zero, aFault, bne, *])
       | (refine RunQ.gd rfl (by rw [hA.h]; rfl) ?_; simp [aRes, Action.enc, Oxm.enc, oxm0, wideZ, uI_zero, aFault, bne, *])
       | (refine RunQ.call rfl rfl rfl rfl rfl ?_ (g1) ?_ ?_; (focus (simp (maxDischargeDepth := 120) [aRes, Action.enc, Oxm.enc, oxm0, wideZ, uI_zero, aFault, bne, *]; done)); (focus (simp [aRes, Action.enc, Oxm.enc, oxm0, wideZ, uI_zero, aFault, bne, *]; done)); refine RunQ.evalH ?_; simp [aRes, Action.enc, Oxm.enc, oxm0, wideZ, uI_zero, aFault, bne, *])
       | (refine RunQ.call rfl rfl rfl rfl rfl ?_ (g2) ?_ ?_; (focus (simp (maxDischargeDepth := 120) [aRes, Action.enc, Oxm.enc, oxm0, wideZ, uI_zero, aFault, bne, *]; done)); (focus (simp [aRes, Action.enc, Oxm.enc, oxm0, wideZ, uI_zero, aFault, bne, *]; done)); refine RunQ.evalH ?_; simp [aRes, Action.enc, Oxm.enc, oxm0, wideZ, uI_zero, aFault, bne, *])
       | (refine RunQ.call rfl rfl rfl rfl rfl ?_ (hL) ?_ ?_; (focus (simp (maxDischargeDepth := 120) [aRes, Action.enc, Oxm.enc, oxm0, wideZ, uI_zero, aFault, bne, *]; done)); (focus (simp [aRes, Action.enc, Oxm.enc, oxm0, wideZ, uI_zero, aFault, bne, *]; done)); refine RunQ.evalH ?_; simp [aRes, Action.enc, Oxm.enc, oxm0, wideZ, uI_zero, aFault, bne, *])
       | (refine RunQ.call rfl rfl rfl rfl rfl ?_ (hE) ?_ ?_; (focus (simp (maxDischargeDepth := 120) [aRes, Action.enc, Oxm.enc, oxm0, wideZ, uI_zero, aFault, bne, *]; done)); (focus (simp [aRes, Action.enc, Oxm.enc, oxm0, wideZ, uI_zero, aFault, bne, *]; done)); refine RunQ.evalH ?_; simp [aRes, Action.enc, Oxm.enc, oxm0, wideZ, uI_zero, aFault, bne, *])
       | (refine RunQ.call rfl rfl rfl rfl rfl ?_ (hp) ?_ ?_; (focus (simp (maxDischargeDepth := 120) [aRes, Action.enc, Oxm.enc, oxm0, wideZ, uI_zero, aFault, bne, *]; done)); (focus (simp [aRes, Action.enc, Oxm.enc, oxm0, wideZ, uI_zero, aFault, bne, *]; done)); refine RunQ.evalH ?_; simp [aRes, Action.enc, Oxm.enc, oxm0, wideZ, uI_zero, aFault, bne, *])
       | (refine WK.ret Tryz.func130 ?_ ?_ <;> simp (maxDischargeDepth := 120) [Tryz.results130, aRes, Action.enc, Oxm.enc, oxm0, wideZ, uI_zero, aFault, bne, *])
       | fail)
end Go.Proofs.YtiifjagnhnchoaaGreat
end
