/- Matches: read by the program. -/
import Derived.Test.YtcccfbjkcahgfaaGreatWk9
import Derived.Test.YtcccfbjkcahgfaaGreatWk8
import Derived.Test.YtcccfbjkcahgfaaGreatAf
set_option linter.all false
set_option linter.unnecessarySimpa false
section
set_option linter.unusedVariables false
set_option linter.unusedSimpArgs false
namespace Go.Proofs.YtcccfbjkcahgfaaGreat
open Go Go.AI Go.Proofs
attribute [local irreducible] FnP FnO FnB FnT FnSeq WK RunQ RunQW RunX RunXW

def mVal (b : List (BitVec 8)) : Nat := valN ((b.drop 2).take 2)
def mKind (b : List (BitVec 8)) : Nat := valN ((b.drop 0).take 2)
def mHead (b : List (BitVec 8)) : Nat × Option Int :=
  if b.length < 4 then (0, some 1) else if mVal b < 4 ∨ b.length < mPad (mVal b) then (0, some 1) else if ¬ mKind b = 1 then (0, some 0) else if 1004 < mVal b then (0, some 1) else (mVal b, none)
def mBody (b : List (BitVec 8)) (n : Nat) : List Oxm × Nat × Option (Int × Int) :=
  match (rwDec oRd ((b.drop 4).take (n - 4))).2 with
  | some c => ([], 0, some c)
  | none => match mCheck (rwDec oRd ((b.drop 4).take (n - 4))).1 with
    | some c => ([], 0, some (4, c))
    | none => if allZ ((b.drop n).take (mPad n - n)) = false then ([], 0, some (4, 1)) else ((rwDec oRd ((b.drop 4).take (n - 4))).1, mPad n, none)
theorem mDec_eq (b : List (BitVec 8)) : mDec b = match (mHead b).2 with | some c => ([], 0, some (4, c)) | none => mBody b (mHead b).1 := by
  unfold mDec mHead
  by_cases h1 : b.length < 4
  · rw [if_pos h1, if_pos h1]
  rw [if_neg h1, if_neg h1]
  show (if mVal b < 4 ∨ b.length < mPad (mVal b) then _ else if ¬ mKind b = 1 then _ else if 1004 < mVal b then _ else mBody b (mVal b)) = _
  by_cases h2 : mVal b < 4 ∨ b.length < mPad (mVal b)
  · rw [if_pos h2, if_pos h2]
  rw [if_neg h2, if_neg h2]
  by_cases h3 : ¬ mKind b = 1
  · rw [if_pos h3, if_pos h3]
  rw [if_neg h3, if_neg h3]
  by_cases h4 : 1004 < mVal b
  · rw [if_pos h4, if_pos h4]
  · rw [if_neg h4, if_neg h4]
theorem mHead_bad {b : List (BitVec 8)} {c : Int} (h : (mHead b).2 = some c) : (mHead b).1 = 0 := by
  unfold mHead at *
  split
  · rfl
  split
  · rfl
  split
  · rfl
  split
  · rfl
  · rename_i h1 h2 h3 h4
    rw [if_neg h1, if_neg h2, if_neg h3, if_neg h4] at h; cases h
theorem mHead_good {b : List (BitVec 8)} (h : (mHead b).2 = none) : 4 ≤ (mHead b).1 ∧ (mHead b).1 ≤ 1004 ∧ mPad (mHead b).1 ≤ b.length := by
  unfold mHead at *
  split at h
  · cases h
  rename_i h1
  rw [if_neg h1]
  split at h
  · cases h
  rename_i h2
  rw [if_neg h2]
  split at h
  · cases h
  rename_i h3
  rw [if_neg h3]
  split at h
  · cases h
  rename_i h4
  rw [if_neg h4]
  simp only
  omega
set_option maxHeartbeats 4000000 in
theorem mhead_c (b : List (BitVec 8)) (hb : b.length ≤ 1000000) : FnP Tryz.prog 128 [byS b] (.tup [.int .i64 (mHead b).1, .agg (mF (mHead b).2)]) := by
  have g0 := nget_c b 0 2 Sz2 (by omega) (by omega)
  have g2 := nget_c b 2 2 Sz2 (by omega) (by omega)
  have b1 := mbad_c 1
  have b0 := mbad_c 0
  by_cases h1 : b.length < 4
  · have e : mHead b = (0, some 1) := by unfold mHead; rw [if_pos h1]
    have e2 : getN b 2 2 = (0, 3) := by unfold getN; rw [if_neg (by omega)]
    rw [e]
    rw [e2] at g2
    obtain ⟨q0, hq0⟩ : ∃ q, getN b 0 2 = q := ⟨_, rfl⟩
    rw [hq0] at g0
    unfold byS at *
    clear e e2 hq0 b0
    refine FnP.intro Tryz.func128 rfl rfl fun G w => ?_
    repeat' (first
     | refine WK.seq ?_
     | refine WK.block ?_
     | refine WK.condT rfl ?_
     | (refine Hid.h hQ _ _ ?_; clear hQ hA)
     | (refine WK.regH Tryz.ntmps128 (by kernel_rfl) ?_; intro A hA Q hQ; simp [mF, gFault, bne, *])
     | (refine RunQ.gd rfl (by rw [hA.h]; rfl) ?_; simp [mF, gFault, bne, *])
     | (refine RunQ.call rfl rfl rfl rfl rfl ?_ (g0) ?_ ?_; (focus (simp (maxDischargeDepth := 120) [mF, gFault, bne, *]; done)); (focus (simp [mF, gFault, bne, *]; done)); refine RunQ.evalH ?_; simp [mF, gFault, bne, *])
     | (refine RunQ.call rfl rfl rfl rfl rfl ?_ (g2) ?_ ?_; (focus (simp (maxDischargeDepth := 120) [mF, gFault, bne, *]; done)); (focus (simp [mF, gFault, bne, *]; done)); refine RunQ.evalH ?_; simp [mF, gFault, bne, *])
     | (refine RunQ.call rfl rfl rfl rfl rfl ?_ (b1) ?_ ?_; (focus (simp (maxDischargeDepth := 120) [mF, gFault, bne, *]; done)); (focus (simp [mF, gFault, bne, *]; done)); refine RunQ.evalH ?_; simp [mF, gFault, bne, *])
     | (refine WK.ret Tryz.func128 ?_ ?_ <;> simp (maxDischargeDepth := 120) [Tryz.results128, mF, gFault, bne, *])
     | fail)
  have e0 : getN b 0 2 = (((mKind b : Nat) : Int), 0) := getN_val (by omega)
  have e2 : getN b 2 2 = (((mVal b : Nat) : Int), 0) := getN_val (by omega)
  have hv : mVal b < 65536 := valN_lt 2 _ (by rw [List.length_take, List.length_drop]; omega)
  have hp := mpad_c (mVal b) (by omega)
  have hd : mHead b = if mVal b < 4 ∨ b.length < mPad (mVal b) then (0, some 1) else if ¬ mKind b = 1 then (0, some 0) else if 1004 < mVal b then (0, some 1) else (mVal b, none) := by unfold mHead; rw [if_neg h1]
  rw [e0] at g0
  rw [e2] at g2
  obtain ⟨v, hvv⟩ : ∃ v, mVal b = v := ⟨_, rfl⟩
  obtain ⟨k, hk⟩ : ∃ v, mKind b = v := ⟨_, rfl⟩
  rw [hvv] at g2 hv hp hd
  rw [hk] at g0 hd
  clear hvv hk e0 e2
  unfold byS at *
  by_cases h2 : v < 4
  · have h2' : (v : Int) < 4 := by omega
    rw [if_pos (.inl h2)] at hd
    rw [hd]
    clear hd b0 hp
    refine FnP.intro Tryz.func128 rfl rfl fun G w => ?_
    repeat' (first
     | refine WK.seq ?_
     | refine WK.block ?_
     | refine WK.condT rfl ?_
     | (refine Hid.h hQ _ _ ?_; clear hQ hA)
     | (refine WK.regH Tryz.ntmps128 (by kernel_rfl) ?_; intro A hA Q hQ; simp [mF, gFault, bne, *])
     | (refine RunQ.gd rfl (by rw [hA.h]; rfl) ?_; simp [mF, gFault, bne, *])
     | (refine RunQ.call rfl rfl rfl rfl rfl ?_ (g0) ?_ ?_; (focus (simp (maxDischargeDepth := 120) [mF, gFault, bne, *]; done)); (focus (simp [mF, gFault, bne, *]; done)); refine RunQ.evalH ?_; simp [mF, gFault, bne, *])
     | (refine RunQ.call rfl rfl rfl rfl rfl ?_ (g2) ?_ ?_; (focus (simp (maxDischargeDepth := 120) [mF, gFault, bne, *]; done)); (focus (simp [mF, gFault, bne, *]; done)); refine RunQ.evalH ?_; simp [mF, gFault, bne, *])
     | (refine RunQ.call rfl rfl rfl rfl rfl ?_ (b1) ?_ ?_; (focus (simp (maxDischargeDepth := 120) [mF, gFault, bne, *]; done)); (focus (simp [mF, gFault, bne, *]; done)); refine RunQ.evalH ?_; simp [mF, gFault, bne, *])
     | (refine WK.ret Tryz.func128 ?_ ?_ <;> simp (maxDischargeDepth := 120) [Tryz.results128, mF, gFault, bne, *])
     | fail)
  have h2' : ¬ (v : Int) < 4 := by omega
  by_cases h3 : b.length < mPad v
  · have h3' : (b.length : Int) < (mPad v : Nat) := by omega
    rw [if_pos (.inr h3)] at hd
    rw [hd]
    clear hd b0
    refine FnP.intro Tryz.func128 rfl rfl fun G w => ?_
    repeat' (first
     | refine WK.seq ?_
     | refine WK.block ?_
     | refine WK.condT rfl ?_
     | (refine Hid.h hQ _ _ ?_; clear hQ hA)
     | (refine WK.regH Tryz.ntmps128 (by kernel_rfl) ?_; intro A hA Q hQ; simp [mF, gFault, bne, *])
     | (refine RunQ.gd rfl (by rw [hA.h]; rfl) ?_; simp [mF, gFault, bne, *])
     | (refine RunQ.call rfl rfl rfl rfl rfl ?_ (g0) ?_ ?_; (focus (simp (maxDischargeDepth := 120) [mF, gFault, bne, *]; done)); (focus (simp [mF, gFault, bne, *]; done)); refine RunQ.evalH ?_; simp [mF, gFault, bne, *])
     | (refine RunQ.call rfl rfl rfl rfl rfl ?_ (g2) ?_ ?_; (focus (simp (maxDischargeDepth := 120) [mF, gFault, bne, *]; done)); (focus (simp [mF, gFault, bne, *]; done)); refine RunQ.evalH ?_; simp [mF, gFault, bne, *])
     | (refine RunQ.call rfl rfl rfl rfl rfl ?_ (b1) ?_ ?_; (focus (simp (maxDischargeDepth := 120) [mF, gFault, bne, *]; done)); (focus (simp [mF, gFault, bne, *]; done)); refine RunQ.evalH ?_; simp [mF, gFault, bne, *])
     | (refine RunQW.call rfl rfl rfl rfl ?_ (hp) ?_ ?_; (focus (simp (maxDischargeDepth := 120) [mF, gFault, bne, *]; done)); (focus (simp [mF, gFault, bne, *]; done)); refine RunQ.evalH ?_; simp [mF, gFault, bne, *])
     | (refine WK.ret Tryz.func128 ?_ ?_ <;> simp (maxDischargeDepth := 120) [Tryz.results128, mF, gFault, bne, *])
     | fail)
  have h3' : ¬ (b.length : Int) < (mPad v : Nat) := by omega
  rw [if_neg (by omega)] at hd
  by_cases h4 : k = 1
  case neg =>
    have j4 : ((k : Int) == 1) = false := by rw [beq_eq_false_iff_ne]; omega
    rw [if_pos h4] at hd
    rw [hd]
    clear hd b1
    refine FnP.intro Tryz.func128 rfl rfl fun G w => ?_
    repeat' (first
     | refine WK.seq ?_
     | refine WK.block ?_
     | refine WK.condT rfl ?_
     | refine WK.condF rfl ?_
     | (refine Hid.h hQ _ _ ?_; clear hQ hA)
     | (refine WK.regH Tryz.ntmps128 (by kernel_rfl) ?_; intro A hA Q hQ; simp [mF, gFault, bne, *])
     | (refine RunQ.gd rfl (by rw [hA.h]; rfl) ?_; simp [mF, gFault, bne, *])
     | (refine RunQ.call rfl rfl rfl rfl rfl ?_ (g0) ?_ ?_; (focus (simp (maxDischargeDepth := 120) [mF, gFault, bne, *]; done)); (focus (simp [mF, gFault, bne, *]; done)); refine RunQ.evalH ?_; simp [mF, gFault, bne, *])
     | (refine RunQ.call rfl rfl rfl rfl rfl ?_ (g2) ?_ ?_; (focus (simp (maxDischargeDepth := 120) [mF, gFault, bne, *]; done)); (focus (simp [mF, gFault, bne, *]; done)); refine RunQ.evalH ?_; simp [mF, gFault, bne, *])
     | (refine RunQ.call rfl rfl rfl rfl rfl ?_ (b0) ?_ ?_; (focus (simp (maxDischargeDepth := 120) [mF, gFault, bne, *]; done)); (focus (simp [mF, gFault, bne, *]; done)); refine RunQ.evalH ?_; simp [mF, gFault, bne, *])
     | (refine RunQW.call rfl rfl rfl rfl ?_ (hp) ?_ ?_; (focus (simp (maxDischargeDepth := 120) [mF, gFault, bne, *]; done)); (focus (simp [mF, gFault, bne, *]; done)); refine RunQ.evalH ?_; simp [mF, gFault, bne, *])
     | (refine WK.ret Tryz.func128 ?_ ?_ <;> simp (maxDischargeDepth := 120) [Tryz.results128, mF, gFault, bne, *])
     | fail)
  have j4 : ((k : Int) == 1) = true := by rw [beq_iff_eq]; omega
  rw [if_neg (by simpa using h4)] at hd
  clear h4
  by_cases h5 : 1004 < v
  · have h5' : (1004 : Int) < v := by omega
    rw [if_pos h5] at hd
    rw [hd]
    clear hd b0
    refine FnP.intro Tryz.func128 rfl rfl fun G w => ?_
    repeat' (first
     | refine WK.seq ?_
     | refine WK.block ?_
     | refine WK.condT rfl ?_
     | refine WK.condF rfl ?_
     | (refine Hid.h hQ _ _ ?_; clear hQ hA)
     | (refine WK.regH Tryz.ntmps128 (by kernel_rfl) ?_; intro A hA Q hQ; simp [mF, gFault, bne, *])
     | (refine RunQ.gd rfl (by rw [hA.h]; rfl) ?_; simp [mF, gFault, bne, *])
     | (refine RunQ.call rfl rfl rfl rfl rfl ?_ (g0) ?_ ?_; (focus (simp (maxDischargeDepth := 120) [mF, gFault, bne, *]; done)); (focus (simp [mF, gFault, bne, *]; done)); refine RunQ.evalH ?_; simp [mF, gFault, bne, *])
     | (refine RunQ.call rfl rfl rfl rfl rfl ?_ (g2) ?_ ?_; (focus (simp (maxDischargeDepth := 120) [mF, gFault, bne, *]; done)); (focus (simp [mF, gFault, bne, *]; done)); refine RunQ.evalH ?_; simp [mF, gFault, bne, *])
     | (refine RunQ.call rfl rfl rfl rfl rfl ?_ (b1) ?_ ?_; (focus (simp (maxDischargeDepth := 120) [mF, gFault, bne, *]; done)); (focus (simp [mF, gFault, bne, *]; done)); refine RunQ.evalH ?_; simp [mF, gFault, bne, *])
     | (refine RunQW.call rfl rfl rfl rfl ?_ (hp) ?_ ?_; (focus (simp (maxDischargeDepth := 120) [mF, gFault, bne, *]; done)); (focus (simp [mF, gFault, bne, *]; done)); refine RunQ.evalH ?_; simp [mF, gFault, bne, *])
     | (refine WK.ret Tryz.func128 ?_ ?_ <;> simp (maxDischargeDepth := 120) [Tryz.results128, mF, gFault, bne, *])
     | fail)
  · have h5' : ¬ (1004 : Int) < v := by omega
    rw [if_neg h5] at hd
    rw [hd]
    clear hd b0 b1
    refine FnP.intro Tryz.func128 rfl rfl fun G w => ?_
    repeat' (first
     | refine WK.seq ?_
     | refine WK.block ?_
     | refine WK.inBlock ?_
     | refine WK.skip ?_
     | refine WK.condF rfl ?_
     | (refine Hid.h hQ _ _ ?_; clear hQ hA)
     | (refine WK.regH Tryz.ntmps128 (by kernel_rfl) ?_; intro A hA Q hQ; simp [mF, gFault, bne, *])
     | (refine RunQ.gd rfl (by rw [hA.h]; rfl) ?_; simp [mF, gFault, bne, *])
     | (refine RunQ.call rfl rfl rfl rfl rfl ?_ (g0) ?_ ?_; (focus (simp (maxDischargeDepth := 120) [mF, gFault, bne, *]; done)); (focus (simp [mF, gFault, bne, *]; done)); refine RunQ.evalH ?_; simp [mF, gFault, bne, *])
     | (refine RunQ.call rfl rfl rfl rfl rfl ?_ (g2) ?_ ?_; (focus (simp (maxDischargeDepth := 120) [mF, gFault, bne, *]; done)); (focus (simp [mF, gFault, bne, *]; done)); refine RunQ.evalH ?_; simp [mF, gFault, bne, *])
     | (refine RunQW.call rfl rfl rfl rfl ?_ (hp) ?_ ?_; (focus (simp (maxDischargeDepth := 120) [mF, gFault, bne, *]; done)); (focus (simp [mF, gFault, bne, *]; done)); refine RunQ.evalH ?_; simp [mF, gFault, bne, *])
     | (refine WK.ret Tryz.func128 ?_ ?_ <;> simp (maxDischargeDepth := 120) [Tryz.results128, mF, gFault, bne, *])
     | fail)
theorem oRd_keeps : RdKeeps oRd 4 := fun b y n h => by
  obtain ⟨_, k, hk, h4, hl, _⟩ := oRd_back h
  exact ⟨k, hk, h4, hl⟩
theorem oRd_eq {b : List (BitVec 8)} {o : Oxm} {n c : Int} (h : oDec b = (o, n, c)) : oRd b = (o, n, if c = 0 then none else some (4, c)) := by unfold oRd; rw [h]
theorem decode1_c (x : BitVec 8) : FnP Tryz.prog 133 [.int .u8 (bI x)] (.bool (!(x == 0#8))) := by
  have e := bI_zero x
  refine FnP.intro Tryz.func133 rfl rfl fun G w => ?_
  repeat' (first
   | refine WK.seq ?_
   | (refine Hid.h hQ _ _ ?_; clear hQ hA)
   | (refine WK.regH Tryz.ntmps133 (by kernel_rfl) ?_; intro A hA Q hQ; simp [bne, *])
   | (refine WK.ret Tryz.func133 ?_ ?_ <;> simp (maxDischargeDepth := 120) [Tryz.results133, bne, *])
   | fail)
theorem app_oxm : AppOk Tryz.prog 23 138 6 48 := ⟨by simp, by simp, by simp, by simp, by simp, by simp, by omega, by omega⟩
theorem oxmL_snoc (l : List Oxm) (x : Oxm) : oxmL l ++ x.enc = oxmL (l ++ [x]) := by unfold oxmL; rw [List.flatMap_append]; simp
set_option maxHeartbeats 4000000 in
theorem mdec_c (b : List (BitVec 8)) (hb : b.length ≤ 1000000) : FnP Tryz.prog 105 [byS b] (.tup [oxmS (mDec b).1, .int .i64 (mDec b).2.1, .agg (gFault (mDec b).2.2)]) := by
  have hh := mhead_c b hb
  have hde := mDec_eq b
  unfold oxmS
  cases hq : (mHead b).2 with
  | some c =>
    have h0 := mHead_bad hq
    rw [hq] at hh hde
    rw [h0] at hh
    rw [hde]
    unfold byS at *
    clear hde hq h0
    refine FnP.intro Tryz.func105 rfl rfl fun G w => ?_
    repeat' (first
     | refine WK.seq ?_
     | refine WK.condT rfl ?_
     | (refine Hid.h hQ _ _ ?_; clear hQ hA)
     | (refine WK.regH Tryz.ntmps105 (by kernel_rfl) ?_; intro A hA Q hQ; simp [mF, gFault, oxmL_nil, *])
     | (refine WK.regX (by kernel_rfl) Tryz.ntmps105 (by kernel_rfl) ?_; intro A hA Q hQ; simp [mF, gFault, oxmL_nil, *])
     | (refine Hid.h hQ _ _ _ (by decide +kernel) ?_; clear hQ hA)
     | (refine RunQ.call rfl rfl rfl rfl rfl ?_ (hh) ?_ ?_; (focus (simp (maxDischargeDepth := 120) [mF, gFault, oxmL_nil, *]; done)); (focus (simp [mF, gFault, oxmL_nil, *]; done)); refine RunQ.evalH ?_; simp [mF, gFault, oxmL_nil, *])
     | (refine WK.ret Tryz.func105 ?_ ?_ <;> simp (maxDischargeDepth := 120) [Tryz.results105, mF, gFault, oxmL_nil, *])
     | fail)
  | none =>
  obtain ⟨n4, n1, np⟩ := mHead_good hq
  rw [hq] at hh hde
  obtain ⟨n, hn⟩ : ∃ n, (mHead b).1 = n := ⟨_, rfl⟩
  rw [hn] at hh hde n4 n1 np
  simp only at hde
  have hp := mPad_ge n
  unfold mBody at hde
  have hRl : ((b.drop 4).take (n - 4)).length = n - 4 := by rw [List.length_take, List.length_drop]; omega
  have hRb : ((byL b).drop 4).take (n - 4) = byL ((b.drop 4).take (n - 4)) := by rw [byL_drop, byL_take]
  obtain ⟨R, hR⟩ : ∃ R, (b.drop 4).take (n - 4) = R := ⟨_, rfl⟩
  rw [hR] at hRl hRb hde
  have hst := RwAt.start oRd 4 R
  have u4 : (4 : Int) ≤ n := by omega
  have un : (n : Int) ≤ b.length := by omega
  have un2 : n ≤ b.length := by omega
  have b1 := mbad_c 1
  unfold byS at hh
  clear hn hq hR
  unfold byS
  refine FnP.intro Tryz.func105 rfl rfl fun G w => ?_
  repeat' (first
   | refine WK.seq ?_
   | refine WK.block ?_
   | refine WK.skip ?_
   | refine WK.condF rfl ?_
   | (refine Hid.h hQ _ _ ?_; clear hQ hA)
   | (refine WK.regH Tryz.ntmps105 (by kernel_rfl) ?_; intro A hA Q hQ; simp [mF, gFault, *])
   | (refine RunQ.call rfl rfl rfl rfl rfl ?_ (hh) ?_ ?_; (focus (simp (maxDischargeDepth := 120) [mF, gFault, *]; done)); (focus (simp [mF, gFault, *]; done)); refine RunQ.evalH ?_; simp [mF, gFault, *])
   | fail)
  refine WK.ghost (Ghost.own 7 900 6 rfl rfl) ?_
  refine WK.loopI (fun n => if n = 0 then 2 else if n = 1 then 900 else n) (fun x : Nat × Nat × List Oxm => (⟨(upd (upd (upd (upd (upd J 0 (.sl false b.length (byL b))) 4 (.ptr 0 0)) 5 (.int .i64 n)) 7 (.msl 1 0 x.2.2.length)) 8 (.sl false (R.length - x.2.1) (byL (R.drop x.2.1)))), (upd (upd B0 0 (.var [.junk, .junk, .junk])) 1 (.buf 6 (oxmL x.2.2))), 0⟩ : St)) (fun x => RwAt oRd 4 R x) (fun x => R.length - x.2.1) ((R.length, 0, [])) (by repeat (first | exact TmW.nil | refine TmW.upd ?_ (by simp (maxDischargeDepth := 120) [hRl, oxmL_nil]))) (by repeat (first | exact BxW.nil | refine BxW.upd ?_ (by simp (maxDischargeDepth := 120) [hRl, oxmL_nil]))) (by first | exact InjW.id | exact InjW.nil | exact InjW.one | exact InjW.two (by simp) | exact InjW.three (by simp) (by simp) (by simp)) (hst) (fun i hi IH => ?_)
  obtain ⟨f, p, acc⟩ := i
  have hle := hi.le
  have hsm := hi.small
  simp only at hle hsm hi ⊢
  clear hh hst hRb
  by_cases h1 : p < R.length
  · have hd := odec_c (R.drop p) (by rw [List.length_drop]; omega)
    obtain ⟨o, k, c, ho⟩ : ∃ o k c, oDec (R.drop p) = (o, k, c) := ⟨_, _, _, rfl⟩
    rw [ho] at hd
    have hrd := oRd_eq ho
    unfold byS at hd
    rw [List.length_drop] at hd
    have hpos : 0 < R.length - p := by omega
    have hpos' : (0 : Int) < ((R.length - p : Nat) : Int) := by omega
    by_cases hc : c = 0
    case neg =>
      rw [if_neg hc] at hrd
      have e := RwAt.bad hi h1 hrd
      rw [e] at hde
      simp only at hde
      rw [hde]
      obtain ⟨L, hL⟩ : ∃ L, R.length - p = L := ⟨_, rfl⟩
      obtain ⟨B, hB⟩ : ∃ B, R.drop p = B := ⟨_, rfl⟩
      rw [hL] at hd hpos hpos' ⊢
      rw [hB] at hd ⊢
      have hfc : oFault c = [.bool true, .int .i64 4, .int .i64 c] := by unfold oFault; rw [if_neg hc]
      rw [hfc] at hd
      unfold Oxm.enc at hd
      clear hde hL hB ho hrd e hi hfc b1
      repeat' (first
       | refine WK.seq ?_
       | refine WK.block ?_
       | refine WK.skip ?_
       | refine WK.condT rfl ?_
       | (refine Hid.h hQ _ _ ?_; clear hQ hA)
       | (refine WK.regH Tryz.ntmps105 (by kernel_rfl) ?_; intro A hA Q hQ; simp [gFault, oxmL_nil, *])
       | (refine WK.regX (by kernel_rfl) Tryz.ntmps105 (by kernel_rfl) ?_; intro A hA Q hQ; simp [gFault, oxmL_nil, *])
       | (refine Hid.h hQ _ _ _ (by decide +kernel) ?_; clear hQ hA)
       | (refine RunQ.call rfl rfl rfl rfl rfl ?_ (hd) ?_ ?_; (focus (simp (maxDischargeDepth := 120) [gFault, oxmL_nil, *]; done)); (focus (simp [gFault, oxmL_nil, *]; done)); refine RunQ.evalH ?_; simp [gFault, oxmL_nil, *])
       | (refine WK.ret Tryz.func105 ?_ ?_ <;> simp (maxDischargeDepth := 120) [Tryz.results105, gFault, oxmL_nil, *])
       | fail)
    subst hc
    rw [if_pos rfl] at hrd
    obtain ⟨m, hm, hml, hm0, hn⟩ := RwAt.next (by omega) oRd_keeps hi h1 hrd
    simp only at hml hn
    subst hm
    have hml' : (m : Int) ≤ ((R.length - p : Nat) : Int) := by omega
    have hml2 : m ≤ R.length - p := by omega
    have hdd : ((byL (R.drop p)).drop m).take (R.length - p - m) = byL (R.drop (p + m)) := by
      rw [byL_drop, List.drop_drop]; exact by_full _ _ (by rw [List.length_drop]; omega)
    have hll : R.length - (p + m) = R.length - p - m := by omega
    have hbd : (acc.length + 1) * 48 ≤ 140737488355328 := by omega
    have hsq := oxmL_snoc acc o
    obtain ⟨L, hL⟩ : ∃ L, R.length - p = L := ⟨_, rfl⟩
    obtain ⟨B, hB⟩ : ∃ B, R.drop p = B := ⟨_, rfl⟩
    rw [hL] at hd hpos hpos' hml' hml2 hdd hll ⊢
    rw [hB] at hd hdd ⊢
    have hfc : oFault 0 = [.bool false, .int .i64 0, .int .i64 0] := rfl
    rw [hfc] at hd
    unfold Oxm.enc at hd hsq
    clear hde hL hB ho hrd hi hfc b1
    repeat' (first
     | refine WK.seq ?_
     | refine WK.block ?_
     | refine WK.inBlock ?_
     | refine WK.skip ?_
     | refine WK.condT rfl ?_
     | refine WK.condF rfl ?_
     | (refine Hid.h hQ _ _ ?_; clear hQ hA)
     | (refine WK.regH Tryz.ntmps105 (by kernel_rfl) ?_; intro A hA Q hQ; simp [*])
     | (refine WK.regX (by kernel_rfl) Tryz.ntmps105 (by kernel_rfl) ?_; intro A hA Q hQ; simp [*])
     | (refine Hid.h hQ _ _ _ (by decide +kernel) ?_; clear hQ hA)
     | (refine RunX.append 902 app_oxm rfl rfl rfl rfl rfl rfl rfl rfl ?_ ?_ ?_ ?_ ?_; (focus (first | omega | (simp [*]; done); done)); (focus (first | omega | (simp [*]; done); done)); (focus (first | omega | (simp [*]; done); done)); (focus (first | omega | (simp [*]; done); done)); refine RunX.evalY ?_; simp [*])
     | (refine RunQ.call rfl rfl rfl rfl rfl ?_ (hd) ?_ ?_; (focus (simp (maxDischargeDepth := 120) [*]; done)); (focus (simp [*]; done)); refine RunQ.evalH ?_; simp [*])
     | fail)
    refine WK.next (fun n => if n = 1 then 902 else n) (IH ((f - 1, p + m, acc ++ [o])) (hn) (by first | omega | (dsimp only; omega))) (by repeat (first | exact TmW.nil | refine TmW.upd ?_ (by simp (maxDischargeDepth := 120) [hsq, hll, hdd]))) (by repeat (first | exact BxW.nil | refine BxW.upd ?_ (by simp (maxDischargeDepth := 120) [hsq, hll, hdd]))) (by first | exact InjW.id | exact InjW.nil | exact InjW.one | exact InjW.two (by simp) | exact InjW.three (by simp) (by simp) (by simp))
  · have hstop := RwAt.stop hi h1
    simp only at hstop
    rw [hstop] at hde
    simp only at hde
    have hpos : ¬ 0 < R.length - p := by omega
    have hpos' : ¬ (0 : Int) < ((R.length - p : Nat) : Int) := by omega
    obtain ⟨L, hL⟩ : ∃ L, R.length - p = L := ⟨_, rfl⟩
    rw [hL] at hpos hpos' ⊢
    obtain ⟨B, hB⟩ : ∃ B, R.drop p = B := ⟨_, rfl⟩
    rw [hB]
    have hcl : ClL (oxmL acc) = true := oxmL_cl _
    have hT := oxmL_take acc
    have ck := mcheck_c acc (by omega)
    unfold oxmS at ck
    have hpd := mpad_c n (by omega)
    have hz := containsf_by 133 [] (fun x => !(x == 0#8)) ((b.drop n).take (mPad n - n)) rfl (by rw [List.length_take, List.length_drop]; omega) (fun x _ => decode1_c x)
    have ez : ((b.drop n).take (mPad n - n)).any (fun x => !(x == 0#8)) = !allZ ((b.drop n).take (mPad n - n)) := by unfold allZ; rw [List.any_eq_not_all_not]; simp
    rw [ez] at hz
    have hzl : ((b.drop n).take (mPad n - n)).length = mPad n - n := by rw [List.length_take, List.length_drop]; omega
    have hzb : ((byL b).drop n).take (mPad n - n) = byL ((b.drop n).take (mPad n - n)) := by rw [byL_drop, byL_take]
    obtain ⟨Z, hZ⟩ : ∃ Z, (b.drop n).take (mPad n - n) = Z := ⟨_, rfl⟩
    rw [hZ] at hz hzl hzb hde
    unfold byS at hz
    rw [hzl] at hz
    have v1 : (n : Int) ≤ (mPad n : Nat) := by omega
    have v2 : ((mPad n : Nat) : Int) ≤ b.length := by omega
    have v3 : n ≤ mPad n := by omega
    obtain ⟨q, hqq⟩ : ∃ q, mPad n = q := ⟨_, rfl⟩
    rw [hqq] at hpd hz hzb v1 v2 v3 hde np
    obtain ⟨y, hy⟩ : ∃ y, allZ Z = y := ⟨_, rfl⟩
    rw [hy] at hz hde
    clear hL hB hi hstop hRl hp hzl hZ hqq hy ez
    repeat' (first
     | refine WK.seq ?_
     | refine WK.exit rfl ?_
     | refine WK.condF rfl ?_
     | (refine Hid.h hQ _ _ ?_; clear hQ hA)
     | (refine WK.regH (id := 0) Tryz.ntmps105 (by kernel_rfl) ?_; intro A hA Q hQ; simp [*])
     | (refine WK.regH (id := 1) Tryz.ntmps105 (by kernel_rfl) ?_; intro A hA Q hQ; simp [*])
     | (refine WK.regH (id := 2) Tryz.ntmps105 (by kernel_rfl) ?_; intro A hA Q hQ; simp [*])
     | (refine WK.regH (id := 3) Tryz.ntmps105 (by kernel_rfl) ?_; intro A hA Q hQ; simp [*])
     | (refine WK.regH (id := 4) Tryz.ntmps105 (by kernel_rfl) ?_; intro A hA Q hQ; simp [*])
     | (refine WK.regH (id := 5) Tryz.ntmps105 (by kernel_rfl) ?_; intro A hA Q hQ; simp [*])
     | (refine WK.regH (id := 6) Tryz.ntmps105 (by kernel_rfl) ?_; intro A hA Q hQ; simp [*])
     | fail)
    refine WK.ghost (Ghost.frzSl 7 6 rfl rfl) ?_
    cases hck : mCheck acc with
    | some c =>
      rw [hck] at ck hde
      simp only at hde
      rw [hde]
      clear hde hck hz hpd b1
      repeat' (first
       | refine WK.seq ?_
       | refine WK.condT rfl ?_
       | (refine Hid.h hQ _ _ ?_; clear hQ hA)
       | (refine WK.regH Tryz.ntmps105 (by kernel_rfl) ?_; intro A hA Q hQ; simp [mF, gFault, oxmL_nil, *])
       | (refine WK.regX (by kernel_rfl) Tryz.ntmps105 (by kernel_rfl) ?_; intro A hA Q hQ; simp [mF, gFault, oxmL_nil, *])
       | (refine Hid.h hQ _ _ _ (by decide +kernel) ?_; clear hQ hA)
       | (refine RunQ.call rfl rfl rfl rfl rfl ?_ (ck) ?_ ?_; (focus (simp (maxDischargeDepth := 120) [mF, gFault, oxmL_nil, *]; done)); (focus (simp [mF, gFault, oxmL_nil, *]; done)); refine RunQ.evalH ?_; simp [mF, gFault, oxmL_nil, *])
       | (refine WK.ret Tryz.func105 ?_ ?_ <;> simp (maxDischargeDepth := 120) [Tryz.results105, mF, gFault, oxmL_nil, *])
       | fail)
    | none =>
      rw [hck] at ck hde
      simp only at hde
      cases y
      · rw [if_pos rfl] at hde
        rw [hde]
        clear hde hck
        repeat' (first
         | refine WK.seq ?_
         | refine WK.skip ?_
         | refine WK.condT rfl ?_
         | refine WK.condF rfl ?_
         | (refine Hid.h hQ _ _ ?_; clear hQ hA)
         | (refine WK.regH Tryz.ntmps105 (by kernel_rfl) ?_; intro A hA Q hQ; simp [mF, gFault, oxmL_nil, *])
         | (refine RunQ.call rfl rfl rfl rfl rfl ?_ (ck) ?_ ?_; (focus (simp (maxDischargeDepth := 120) [mF, gFault, oxmL_nil, *]; done)); (focus (simp [mF, gFault, oxmL_nil, *]; done)); refine RunQ.evalH ?_; simp [mF, gFault, oxmL_nil, *])
         | (refine RunQ.call rfl rfl rfl rfl rfl ?_ (hpd) ?_ ?_; (focus (simp (maxDischargeDepth := 120) [mF, gFault, oxmL_nil, *]; done)); (focus (simp [mF, gFault, oxmL_nil, *]; done)); refine RunQ.evalH ?_; simp [mF, gFault, oxmL_nil, *])
         | (refine RunQ.call rfl rfl rfl rfl rfl ?_ (hz) ?_ ?_; (focus (simp (maxDischargeDepth := 120) [mF, gFault, oxmL_nil, *]; done)); (focus (simp [mF, gFault, oxmL_nil, *]; done)); refine RunQ.evalH ?_; simp [mF, gFault, oxmL_nil, *])
         | (refine RunQ.call rfl rfl rfl rfl rfl ?_ (b1) ?_ ?_; (focus (simp (maxDischargeDepth := 120) [mF, gFault, oxmL_nil, *]; done)); (focus (simp [mF, gFault, oxmL_nil, *]; done)); refine RunQ.evalH ?_; simp [mF, gFault, oxmL_nil, *])
         | (refine WK.ret Tryz.func105 ?_ ?_ <;> simp (maxDischargeDepth := 120) [Tryz.results105, mF, gFault, oxmL_nil, *])
         | fail)
      · rw [if_neg (by simp)] at hde
        rw [hde]
        clear hde hck b1
        repeat' (first
         | refine WK.seq ?_
         | refine WK.skip ?_
         | refine WK.condF rfl ?_
         | (refine Hid.h hQ _ _ ?_; clear hQ hA)
         | (refine WK.regH Tryz.ntmps105 (by kernel_rfl) ?_; intro A hA Q hQ; simp [mF, gFault, oxmL_nil, *])
         | (refine RunQ.call rfl rfl rfl rfl rfl ?_ (ck) ?_ ?_; (focus (simp (maxDischargeDepth := 120) [mF, gFault, oxmL_nil, *]; done)); (focus (simp [mF, gFault, oxmL_nil, *]; done)); refine RunQ.evalH ?_; simp [mF, gFault, oxmL_nil, *])
         | (refine RunQ.call rfl rfl rfl rfl rfl ?_ (hpd) ?_ ?_; (focus (simp (maxDischargeDepth := 120) [mF, gFault, oxmL_nil, *]; done)); (focus (simp [mF, gFault, oxmL_nil, *]; done)); refine RunQ.evalH ?_; simp [mF, gFault, oxmL_nil, *])
         | (refine RunQ.call rfl rfl rfl rfl rfl ?_ (hz) ?_ ?_; (focus (simp (maxDischargeDepth := 120) [mF, gFault, oxmL_nil, *]; done)); (focus (simp [mF, gFault, oxmL_nil, *]; done)); refine RunQ.evalH ?_; simp [mF, gFault, oxmL_nil, *])
         | (refine WK.ret Tryz.func105 ?_ ?_ <;> simp (maxDischargeDepth := 120) [Tryz.results105, mF, gFault, oxmL_nil, *])
         | fail)
end Go.Proofs.YtcccfbjkcahgfaaGreat
end

section
set_option linter.unusedVariables false
set_option linter.unusedSimpArgs false
namespace Go.Proofs.YtcccfbjkcahgfaaGreat
open Go Go.AI Go.Proofs
attribute [local irreducible] FnP FnO FnB FnT FnSeq WK RunQ RunQW RunX RunXW

theorem u8_i64' (x : BitVec 8) : IntKind.i64.wrap (bI x) = bI x := by
  have := x.isLt
  unfold bI
  exact wrap_i64 (by omega) (by omega)
end Go.Proofs.YtcccfbjkcahgfaaGreat
end

section
set_option linter.unusedVariables false
set_option linter.unusedSimpArgs false
namespace Go.Proofs.YtcccfbjkcahgfaaGreat
open Go Go.AI Go.Proofs
attribute [local irreducible] FnP FnO FnB FnT FnSeq WK RunQ RunQW RunX RunXW

theorem inDec_small {b : List (BitVec 8)} {l : List Inst} {c : Option (Int × Int)} (h : inDec b = (l, c)) : l.length * 8 ≤ b.length ∧ ∀ x, x ∈ l → x.acts.length * 8 ≤ b.length := by
  cases c with
  | some c => rw [inDec_bad h]; simp
  | none =>
    have d := inDec_done h
    exact ⟨d.small, fun x hx => (d.right x hx).2⟩
end Go.Proofs.YtcccfbjkcahgfaaGreat
end

section
set_option linter.unusedVariables false
set_option linter.unusedSimpArgs false
namespace Go.Proofs.YtcccfbjkcahgfaaGreat
open Go Go.AI Go.Proofs
attribute [local irreducible] FnP FnO FnB FnT FnSeq WK RunQ RunQW RunX RunXW

theorem mencP_c (l : List Oxm) (hl : l.length ≤ 10000) : FnP Tryz.prog 236 [oxmS l] (.tup [byS (mEnc l).1, .int .i64 (mEnc l).2]) := by
  have h := (menc_c l hl).toP (by simp [byL_take]) (by rfl)
  rwa [Nat.mul_one, by_full _ _ rfl] at h
structure FmB (m : FlowMod) : Prop where
  mat : m.mat.length ≤ 10000
  insts : m.insts.length ≤ 100
  acts : ∀ x, x ∈ m.insts → x.acts.length ≤ 1000000
def fmSizesI : List Int := [1, 1, 2, 2, 2, 4, 4, 4, 2]
theorem fsizes_c : FnP Tryz.prog 103 [] (.agg (intL fmSizesI)) := by
  refine FnP.intro Tryz.func103 rfl rfl fun G w => ?_
  repeat' (first
   | refine WK.seq ?_
   | (refine Hid.h hQ _ _ ?_; clear hQ hA)
   | (refine WK.regH Tryz.ntmps103 (by kernel_rfl) ?_; intro A hA Q hQ; simp [*])
   | (refine WK.ret Tryz.func103 ?_ ?_ <;> simp (maxDischargeDepth := 120) [Tryz.results103, fmSizesI, intL, *])
   | fail)
theorem fnumbers_c (m : FlowMod) : FnP Tryz.prog 59 [.iptr m.enc] (.agg (intL (fmNums m))) := by
  unfold FlowMod.enc
  refine FnP.intro Tryz.func59 rfl rfl fun G w => ?_
  repeat' (first
   | refine WK.seq ?_
   | (refine Hid.h hQ _ _ ?_; clear hQ hA)
   | (refine WK.regH Tryz.ntmps59 (by kernel_rfl) ?_; intro A hA Q hQ; simp [*])
   | (refine WK.regX (by kernel_rfl) Tryz.ntmps59 (by kernel_rfl) ?_; intro A hA Q hQ; simp [*])
   | (refine Hid.h hQ _ _ _ (by decide +kernel) ?_; clear hQ hA)
   | (refine WK.ret Tryz.func59 ?_ ?_ <;> simp (maxDischargeDepth := 120) [Tryz.results59, fmNums, intL, *])
   | fail)
theorem fmakes_c (m : FlowMod) : FnP Tryz.prog 138 [.iptr m.enc] (.bool (decide (0 ≤ m.command) && decide (m.command ≤ 2))) := by
  unfold FlowMod.enc
  by_cases h1 : 0 ≤ m.command
  · refine FnP.intro Tryz.func138 rfl rfl fun G w => ?_
    repeat' (first
     | refine WK.seq ?_
     | (refine Hid.h hQ _ _ ?_; clear hQ hA)
     | (refine WK.regH Tryz.ntmps138 (by kernel_rfl) ?_; intro A hA Q hQ; simp [*])
     | (refine RunQ.gd rfl (by rw [hA.h]; rfl) ?_; simp [*])
     | (refine WK.ret Tryz.func138 ?_ ?_ <;> simp (maxDischargeDepth := 120) [Tryz.results138, *])
     | fail)
  · refine FnP.intro Tryz.func138 rfl rfl fun G w => ?_
    repeat' (first
     | refine WK.seq ?_
     | (refine Hid.h hQ _ _ ?_; clear hQ hA)
     | (refine WK.regH Tryz.ntmps138 (by kernel_rfl) ?_; intro A hA Q hQ; simp [*])
     | (refine RunQ.gd rfl (by rw [hA.h]; rfl) ?_; simp [*])
     | (refine WK.ret Tryz.func138 ?_ ?_ <;> simp (maxDischargeDepth := 120) [Tryz.results138, *])
     | fail)
def actOff (mat : List Oxm) (a : Action) : Bool := a.kind == 25 && !mMet mat a.oxm.field
theorem fmeets_c (m : FlowMod) (l : List Action) (hl : l.length ≤ 1000000) (hm : m.mat.length ≤ 1000000) : FnP Tryz.prog 139 [.iptr m.enc, actS l] (.bool (!l.any (actOff m.mat))) := by
  have mc : ∀ f, FnP Tryz.prog 164 [oxmS m.mat, .int .i64 f] (.bool (mMet m.mat f)) := fun f => met_c m.mat f hm
  unfold actS FlowMod.enc
  refine FnP.intro Tryz.func139 rfl rfl fun G w => ?_
  repeat' (first
   | refine WK.seq ?_
   | refine WK.block ?_
   | (refine Hid.h hQ _ _ ?_; clear hQ hA)
   | (refine WK.regH Tryz.ntmps139 (by kernel_rfl) ?_; intro A hA Q hQ; simp [*])
   | fail)
  refine WK.loopI (fun n => n) (fun i : Nat => (⟨(upd (upd (upd (upd J 0 (.iptr m.enc)) 7 (.sl false l.length (actL l))) 8 (.int .i64 l.length)) 9 (.int .i64 i)), B0, 0⟩ : St)) (fun i => i ≤ l.length ∧ ∀ j, j < i → actOff m.mat (nth l j) = false) (fun i => l.length - i) (0) (by repeat (first | exact TmW.nil | refine TmW.upd ?_ (by simp (maxDischargeDepth := 120) [FlowMod.enc]))) (by repeat (first | exact BxW.nil | refine BxW.upd ?_ (by simp (maxDischargeDepth := 120) [FlowMod.enc]))) (by first | exact InjW.id | exact InjW.nil | exact InjW.one | exact InjW.two (by simp) | exact InjW.three (by simp) (by simp) (by simp)) (⟨by omega, by simp⟩) (fun i hi IH => ?_)
  by_cases h1 : i < l.length
  · obtain ⟨h4, h3⟩ := act_load l i h1
    have h6 : IntKind.i64.wrap ((i : Int) + 1) = i + 1 := wrap_i64 (by omega) (by omega)
    have c := mc (nth l i).oxm.field
    have hF : actOff m.mat (nth l i) = true → l.any (actOff m.mat) = true := fun h => any_true' h1 h
    have hN : actOff m.mat (nth l i) = false → ∀ j, j < i + 1 → actOff m.mat (nth l j) = false := fun h j hj => by
      by_cases h7 : j = i
      · subst h7; exact h
      · exact hi.2 j (by omega)
    obtain ⟨a, ha⟩ : ∃ a, nth l i = a := ⟨_, rfl⟩
    rw [ha] at h4 c hF hN
    have e : actOff m.mat a = (a.kind == 25 && !mMet m.mat a.oxm.field) := rfl
    unfold Action.enc at h4
    unfold FlowMod.enc oxmS at *
    clear ha hi mc
    cases k1 : a.kind == 25
    · rw [k1] at e
      have hn := hN e
      clear hF hN e c
      repeat' (first
       | refine WK.seq ?_
       | refine WK.block ?_
       | refine WK.inBlock ?_
       | refine WK.skip ?_
       | refine WK.condT rfl ?_
       | refine WK.condF rfl ?_
       | (refine Hid.h hQ _ _ ?_; clear hQ hA)
       | (refine WK.regH Tryz.ntmps139 (by kernel_rfl) ?_; intro A hA Q hQ; simp [*])
       | (refine WK.regX (by kernel_rfl) Tryz.ntmps139 (by kernel_rfl) ?_; intro A hA Q hQ; simp [*])
       | (refine Hid.h hQ _ _ _ (by decide +kernel) ?_; clear hQ hA)
       | (refine RunX.gd rfl (by rw [hA.h]; rfl) ?_; simp [*])
       | fail)
      refine WK.next (fun n => n) (IH (i + 1) (⟨by omega, hn⟩) (by first | omega | (dsimp only; omega))) (by repeat (first | exact TmW.nil | refine TmW.upd ?_ (by simp (maxDischargeDepth := 120)))) (by repeat (first | exact BxW.nil | refine BxW.upd ?_ (by simp (maxDischargeDepth := 120)))) (by first | exact InjW.id | exact InjW.nil | exact InjW.one | exact InjW.two (by simp) | exact InjW.three (by simp) (by simp) (by simp))
    cases k2 : mMet m.mat a.oxm.field
    · rw [k1, k2] at e
      rw [k2] at c
      have hf := hF e
      clear hF hN e
      repeat' (first
       | refine WK.seq ?_
       | refine WK.block ?_
       | refine WK.skip ?_
       | refine WK.condT rfl ?_
       | (refine Hid.h hQ _ _ ?_; clear hQ hA)
       | (refine WK.regH Tryz.ntmps139 (by kernel_rfl) ?_; intro A hA Q hQ; simp [*])
       | (refine WK.regX (by kernel_rfl) Tryz.ntmps139 (by kernel_rfl) ?_; intro A hA Q hQ; simp [*])
       | (refine Hid.h hQ _ _ _ (by decide +kernel) ?_; clear hQ hA)
       | (refine RunX.gd rfl (by rw [hA.h]; rfl) ?_; simp [*])
       | (refine RunXW.call rfl rfl rfl ?_ (c) ?_ ?_; (focus (simp (maxDischargeDepth := 120) [*]; done)); (focus (simp [*]; done)); refine RunX.evalY ?_; simp [*])
       | (refine WK.ret Tryz.func139 ?_ ?_ <;> simp (maxDischargeDepth := 120) [Tryz.results139, *])
       | fail)
    · rw [k1, k2] at e
      rw [k2] at c
      have hn := hN e
      clear hF hN e
      repeat' (first
       | refine WK.seq ?_
       | refine WK.block ?_
       | refine WK.inBlock ?_
       | refine WK.skip ?_
       | refine WK.condT rfl ?_
       | refine WK.condF rfl ?_
       | (refine Hid.h hQ _ _ ?_; clear hQ hA)
       | (refine WK.regH Tryz.ntmps139 (by kernel_rfl) ?_; intro A hA Q hQ; simp [*])
       | (refine WK.regX (by kernel_rfl) Tryz.ntmps139 (by kernel_rfl) ?_; intro A hA Q hQ; simp [*])
       | (refine Hid.h hQ _ _ _ (by decide +kernel) ?_; clear hQ hA)
       | (refine RunX.gd rfl (by rw [hA.h]; rfl) ?_; simp [*])
       | (refine RunXW.call rfl rfl rfl ?_ (c) ?_ ?_; (focus (simp (maxDischargeDepth := 120) [*]; done)); (focus (simp [*]; done)); refine RunX.evalY ?_; simp [*])
       | fail)
      refine WK.next (fun n => n) (IH (i + 1) (⟨by omega, hn⟩) (by first | omega | (dsimp only; omega))) (by repeat (first | exact TmW.nil | refine TmW.upd ?_ (by simp (maxDischargeDepth := 120)))) (by repeat (first | exact BxW.nil | refine BxW.upd ?_ (by simp (maxDischargeDepth := 120)))) (by first | exact InjW.id | exact InjW.nil | exact InjW.one | exact InjW.two (by simp) | exact InjW.three (by simp) (by simp) (by simp))
  · have e := any_false' (p := actOff m.mat) (l := l) fun j hj => hi.2 j (by omega)
    unfold FlowMod.enc
    repeat' (first
     | refine WK.seq ?_
     | refine WK.exit rfl ?_
     | refine WK.condF rfl ?_
     | (refine Hid.h hQ _ _ ?_; clear hQ hA)
     | (refine WK.regH Tryz.ntmps139 (by kernel_rfl) ?_; intro A hA Q hQ; simp [*])
     | (refine WK.ret Tryz.func139 ?_ ?_ <;> simp (maxDischargeDepth := 120) [Tryz.results139, *])
     | fail)
theorem fmbad_c (k n : Int) : FnP Tryz.prog 101 [.int .i64 k, .int .i64 n] (.agg (gFault (some (k, n)))) := by
  refine FnP.intro Tryz.func101 rfl rfl fun G w => ?_
  repeat' (first
   | refine WK.seq ?_
   | (refine Hid.h hQ _ _ ?_; clear hQ hA)
   | (refine WK.regH Tryz.ntmps101 (by kernel_rfl) ?_; intro A hA Q hQ; simp [*])
   | (refine WK.ret Tryz.func101 ?_ ?_ <;> simp (maxDischargeDepth := 120) [Tryz.results101, gFault, *])
   | fail)
theorem fmWrong_eq (m : FlowMod) : fmWrong m = m.insts.any fun i => i.acts.any (actOff m.mat) := rfl
set_option maxHeartbeats 4000000 in
theorem fmcheck_c (m : FlowMod) (hm : FmB m) : FnP Tryz.prog 107 [.agg m.enc] (.agg (gFault (fmCheck m))) := by
  have b6 := fmbad_c 5 6
  have b7 := fmbad_c 5 7
  have b10 := fmbad_c 2 10
  have mk := fmakes_c m
  have me : ∀ l : List Action, l.length ≤ 1000000 → FnP Tryz.prog 139 [.iptr m.enc, actS l] (.bool (!l.any (actOff m.mat))) := fun l hl => fmeets_c m l hl (by have := hm.mat; omega)
  have e : fmCheck m = if m.command < 0 ∨ 4 < m.command then some (5, 6) else if 31 < m.flags then some (5, 7) else if 2 < m.command then none else if fmWrong m = true then some (2, 10) else none := rfl
  have hl := hm.insts
  unfold FlowMod.enc at *
  refine FnP.intro Tryz.func107 rfl rfl fun G w => ?_
  repeat' (first
   | refine WK.seq ?_
   | refine WK.block ?_
   | (refine Hid.h hQ _ _ ?_; clear hQ hA)
   | (refine WK.regH (id := 0) Tryz.ntmps107 (by kernel_rfl) ?_; intro A hA Q hQ; simp [*])
   | (refine WK.regH (id := 1) Tryz.ntmps107 (by kernel_rfl) ?_; intro A hA Q hQ; simp [*])
   | fail)
  refine WK.ghost (Ghost.frzVar 3 rfl rfl) ?_
  by_cases c1 : m.command < 0
  · rw [if_pos (.inl c1)] at e
    rw [e]
    clear e b7 b10 mk me
    repeat' (first
     | refine WK.seq ?_
     | refine WK.condT rfl ?_
     | (refine Hid.h hQ _ _ ?_; clear hQ hA)
     | (refine WK.regH Tryz.ntmps107 (by kernel_rfl) ?_; intro A hA Q hQ; simp [gFault, *])
     | (refine RunQ.gd rfl (by rw [hA.h]; rfl) ?_; simp [gFault, *])
     | (refine RunQ.call rfl rfl rfl rfl rfl ?_ (b6) ?_ ?_; (focus (simp (maxDischargeDepth := 120) [gFault, *]; done)); (focus (simp [gFault, *]; done)); refine RunQ.evalH ?_; simp [gFault, *])
     | (refine WK.ret Tryz.func107 ?_ ?_ <;> simp (maxDischargeDepth := 120) [Tryz.results107, gFault, *])
     | fail)
  by_cases c2 : 4 < m.command
  · rw [if_pos (.inr c2)] at e
    rw [e]
    clear e b7 b10 mk me
    repeat' (first
     | refine WK.seq ?_
     | refine WK.condT rfl ?_
     | (refine Hid.h hQ _ _ ?_; clear hQ hA)
     | (refine WK.regH Tryz.ntmps107 (by kernel_rfl) ?_; intro A hA Q hQ; simp [gFault, *])
     | (refine RunQ.gd rfl (by rw [hA.h]; rfl) ?_; simp [gFault, *])
     | (refine RunQ.call rfl rfl rfl rfl rfl ?_ (b6) ?_ ?_; (focus (simp (maxDischargeDepth := 120) [gFault, *]; done)); (focus (simp [gFault, *]; done)); refine RunQ.evalH ?_; simp [gFault, *])
     | (refine WK.ret Tryz.func107 ?_ ?_ <;> simp (maxDischargeDepth := 120) [Tryz.results107, gFault, *])
     | fail)
  rw [if_neg (by omega)] at e
  by_cases c3 : 31 < m.flags
  · rw [if_pos c3] at e
    rw [e]
    clear e b6 b10 mk me
    repeat' (first
     | refine WK.seq ?_
     | refine WK.condT rfl ?_
     | refine WK.condF rfl ?_
     | (refine Hid.h hQ _ _ ?_; clear hQ hA)
     | (refine WK.regH Tryz.ntmps107 (by kernel_rfl) ?_; intro A hA Q hQ; simp [gFault, *])
     | (refine RunQ.gd rfl (by rw [hA.h]; rfl) ?_; simp [gFault, *])
     | (refine RunQ.call rfl rfl rfl rfl rfl ?_ (b7) ?_ ?_; (focus (simp (maxDischargeDepth := 120) [gFault, *]; done)); (focus (simp [gFault, *]; done)); refine RunQ.evalH ?_; simp [gFault, *])
     | (refine WK.ret Tryz.func107 ?_ ?_ <;> simp (maxDischargeDepth := 120) [Tryz.results107, gFault, *])
     | fail)
  rw [if_neg c3] at e
  by_cases c4 : 2 < m.command
  · rw [if_pos c4] at e
    rw [e]
    have d : (decide (0 ≤ m.command) && decide (m.command ≤ 2)) = false := by rw [Bool.and_eq_false_iff, decide_eq_false_iff_not, decide_eq_false_iff_not]; omega
    rw [d] at mk
    clear e b6 b7 b10 me d
    repeat' (first
     | refine WK.seq ?_
     | refine WK.condT rfl ?_
     | refine WK.condF rfl ?_
     | (refine Hid.h hQ _ _ ?_; clear hQ hA)
     | (refine WK.regH Tryz.ntmps107 (by kernel_rfl) ?_; intro A hA Q hQ; simp [gFault, *])
     | (refine RunQ.gd rfl (by rw [hA.h]; rfl) ?_; simp [gFault, *])
     | (refine RunQ.call rfl rfl rfl rfl rfl ?_ (mk) ?_ ?_; (focus (simp (maxDischargeDepth := 120) [gFault, *]; done)); (focus (simp [gFault, *]; done)); refine RunQ.evalH ?_; simp [gFault, *])
     | (refine WK.ret Tryz.func107 ?_ ?_ <;> simp (maxDischargeDepth := 120) [Tryz.results107, gFault, *])
     | fail)
  rw [if_neg c4] at e
  have d : (decide (0 ≤ m.command) && decide (m.command ≤ 2)) = true := by rw [Bool.and_eq_true, decide_eq_true_eq, decide_eq_true_eq]; omega
  rw [d] at mk
  rw [fmWrong_eq] at e
  clear b6 b7 d
  repeat' (first
   | refine WK.seq ?_
   | refine WK.block ?_
   | refine WK.inBlock ?_
   | refine WK.skip ?_
   | refine WK.condF rfl ?_
   | (refine Hid.h hQ _ _ ?_; clear hQ hA)
   | (refine WK.regH Tryz.ntmps107 (by kernel_rfl) ?_; intro A hA Q hQ; simp [*])
   | (refine RunQ.gd rfl (by rw [hA.h]; rfl) ?_; simp [*])
   | (refine RunQ.call rfl rfl rfl rfl rfl ?_ (mk) ?_ ?_; (focus (simp (maxDischargeDepth := 120) [*]; done)); (focus (simp [*]; done)); refine RunQ.evalH ?_; simp [*])
   | fail)
  refine WK.loopI (fun n => if n = 0 then 1 else n) (fun i : Nat => (⟨(upd (upd (upd (upd (upd J 2 (.ptr 0 0)) 3 (.iptr m.enc)) 42 (.sl false m.insts.length (instL m.insts))) 43 (.int .i64 m.insts.length)) 44 (.int .i64 i)), (upd B0 0 (.var [.junk, .junk, .junk])), 0⟩ : St)) (fun i => i ≤ m.insts.length ∧ ∀ j, j < i → (nth m.insts j).acts.any (actOff m.mat) = false) (fun i => m.insts.length - i) (0) (by repeat (first | exact TmW.nil | refine TmW.upd ?_ (by simp (maxDischargeDepth := 120) [FlowMod.enc]))) (by repeat (first | exact BxW.nil | refine BxW.upd ?_ (by simp (maxDischargeDepth := 120) [FlowMod.enc]))) (by first | exact InjW.id | exact InjW.nil | exact InjW.one | exact InjW.two (by simp) | exact InjW.three (by simp) (by simp) (by simp)) (⟨by omega, by simp⟩) (fun i hi IH => ?_)
  clear mk c1 c2 c3 c4
  by_cases h1 : i < m.insts.length
  · have h4 := inst_sub m.insts i h1
    have h3 : 7 ≤ m.insts.length * 7 - i * 7 := by omega
    have h6 : IntKind.i64.wrap ((i : Int) + 1) = i + 1 := wrap_i64 (by omega) (by omega)
    have c := me (nth m.insts i).acts (hm.acts _ (nth_mem h1))
    have hF : (nth m.insts i).acts.any (actOff m.mat) = true → (m.insts.any fun i => i.acts.any (actOff m.mat)) = true := fun h => any_true' (p := fun i : Inst => i.acts.any (actOff m.mat)) h1 h
    have hN : (nth m.insts i).acts.any (actOff m.mat) = false → ∀ j, j < i + 1 → (nth m.insts j).acts.any (actOff m.mat) = false := fun h j hj => by
      by_cases h7 : j = i
      · subst h7; exact h
      · exact hi.2 j (by omega)
    obtain ⟨a, ha⟩ : ∃ a, nth m.insts i = a := ⟨_, rfl⟩
    rw [ha] at h4 c hF hN
    obtain ⟨z, hz⟩ : ∃ z, a.acts.any (actOff m.mat) = z := ⟨_, rfl⟩
    rw [hz] at c hF hN
    unfold Inst.enc at h4
    unfold actS at c
    unfold FlowMod.enc at *
    clear ha hi me hz hm
    cases z
    · have hn := hN rfl
      clear hF hN e b10
      repeat' (first
       | refine WK.seq ?_
       | refine WK.block ?_
       | refine WK.inBlock ?_
       | refine WK.skip ?_
       | refine WK.condT rfl ?_
       | refine WK.condF rfl ?_
       | (refine Hid.h hQ _ _ ?_; clear hQ hA)
       | (refine WK.regH Tryz.ntmps107 (by kernel_rfl) ?_; intro A hA Q hQ; simp [*])
       | (refine RunQ.call rfl rfl rfl rfl rfl ?_ (c) ?_ ?_; (focus (simp (maxDischargeDepth := 120) [*]; done)); (focus (simp [*]; done)); refine RunQ.evalH ?_; simp [*])
       | fail)
      refine WK.next (fun n => n) (IH (i + 1) (⟨by omega, hn⟩) (by first | omega | (dsimp only; omega))) (by repeat (first | exact TmW.nil | refine TmW.upd ?_ (by simp (maxDischargeDepth := 120)))) (by repeat (first | exact BxW.nil | refine BxW.upd ?_ (by simp (maxDischargeDepth := 120)))) (by first | exact InjW.id | exact InjW.nil | exact InjW.one | exact InjW.two (by simp) | exact InjW.three (by simp) (by simp) (by simp))
    · rw [if_pos (hF rfl)] at e
      rw [e]
      clear hF hN e
      repeat' (first
       | refine WK.seq ?_
       | refine WK.block ?_
       | refine WK.skip ?_
       | refine WK.condT rfl ?_
       | (refine Hid.h hQ _ _ ?_; clear hQ hA)
       | (refine WK.regH Tryz.ntmps107 (by kernel_rfl) ?_; intro A hA Q hQ; simp [gFault, *])
       | (refine RunQ.call rfl rfl rfl rfl rfl ?_ (c) ?_ ?_; (focus (simp (maxDischargeDepth := 120) [gFault, *]; done)); (focus (simp [gFault, *]; done)); refine RunQ.evalH ?_; simp [gFault, *])
       | (refine RunQ.call rfl rfl rfl rfl rfl ?_ (b10) ?_ ?_; (focus (simp (maxDischargeDepth := 120) [gFault, *]; done)); (focus (simp [gFault, *]; done)); refine RunQ.evalH ?_; simp [gFault, *])
       | (refine WK.ret Tryz.func107 ?_ ?_ <;> simp (maxDischargeDepth := 120) [Tryz.results107, gFault, *])
       | fail)
  · have ef := any_false' (p := fun i : Inst => i.acts.any (actOff m.mat)) (l := m.insts) fun j hj => hi.2 j (by omega)
    rw [if_neg (by rw [ef]; simp)] at e
    rw [e]
    clear e me b10 ef
    unfold FlowMod.enc at *
    repeat' (first
     | refine WK.seq ?_
     | refine WK.exit rfl ?_
     | refine WK.condF rfl ?_
     | (refine Hid.h hQ _ _ ?_; clear hQ hA)
     | (refine WK.regH Tryz.ntmps107 (by kernel_rfl) ?_; intro A hA Q hQ; simp [gFault, *])
     | (refine WK.ret Tryz.func107 ?_ ?_ <;> simp (maxDischargeDepth := 120) [Tryz.results107, gFault, *])
     | fail)
theorem fmNums_len (m : FlowMod) : (fmNums m).length = 9 := rfl
theorem fmSize_at : ∀ i : Nat, i < 9 → nth fmSizesI i = ((nth fmSizes i : Nat) : Int) ∧ Sz (nth fmSizes i) ∧ nth fmSizes i ≤ 4 := by
  intro i hi
  have : i = 0 ∨ i = 1 ∨ i = 2 ∨ i = 3 ∨ i = 4 ∨ i = 5 ∨ i = 6 ∨ i = 7 ∨ i = 8 := by omega
  rcases this with rfl | rfl | rfl | rfl | rfl | rfl | rfl | rfl | rfl <;> refine ⟨by rfl, ?_, by decide⟩ <;> unfold Sz <;> decide
theorem nth_zip {α β : Type} [Inhabited α] [Inhabited β] {l : List α} {k : List β} {i : Nat} (h1 : i < l.length) (h2 : i < k.length) : nth (l.zip k) i = (nth l i, nth k i) := by
  rw [nth_eq (l := l.zip k) (i := i) (by rw [List.length_zip]; omega), List.getElem_zip, nth_eq h1, nth_eq h2]
theorem fmZip_at (m : FlowMod) {i : Nat} (h : i < 9) : nth (fmZip m) i = (nth (fmNums m) i, nth fmSizes i) := nth_zip (by rw [fmNums_len]; exact h) h
theorem fmAll_false {m : FlowMod} {i : Nat} (h : i < 9) (hp : numOk (nth (fmNums m) i) (nth fmSizes i) = false) : fmRight m = false := by
  have : (fmZip m).all (fun x => numOk x.1 x.2) = false := all_false (i := i) h (by rw [fmZip_at m h]; exact hp)
  unfold fmRight
  rw [this]; rfl
theorem fmAll_true {m : FlowMod} (h : ∀ j, j < 9 → numOk (nth (fmNums m) j) (nth fmSizes j) = true) : fmRight m = ((mEnc m.mat).2 == 0 && ((inEnc m.insts).2 == 0 && (fmCheck m).isNone)) := by
  have : (fmZip m).all (fun x => numOk x.1 x.2) = true := all_true fun j hj => by rw [fmZip_at m hj]; exact h j hj
  unfold fmRight
  rw [this]; rfl
set_option maxHeartbeats 4000000 in
theorem fmright_c (m : FlowMod) (hm : FmB m) : FnP Tryz.prog 234 [.agg m.enc] (.bool (fmRight m)) := by
  have sz := fsizes_c
  have nm := fnumbers_c m
  have me := mencP_c m.mat hm.mat
  have ie := iencP_c m.insts hm.insts hm.acts
  have ck := fmcheck_c m hm
  have hF : ∀ i, i < 9 → numOk (nth (fmNums m) i) (nth fmSizes i) = false → fmRight m = false := fun i h hp => fmAll_false h hp
  have hT : (∀ j, j < 9 → numOk (nth (fmNums m) j) (nth fmSizes j) = true) → fmRight m = ((mEnc m.mat).2 == 0 && ((inEnc m.insts).2 == 0 && (fmCheck m).isNone)) := fmAll_true
  obtain ⟨N, hN⟩ : ∃ N, fmNums m = N := ⟨_, rfl⟩
  have hNl : N.length = 9 := by rw [← hN]; rfl
  rw [hN] at nm hF hT
  obtain ⟨M, hM⟩ : ∃ M, mEnc m.mat = M := ⟨_, rfl⟩
  obtain ⟨I, hI⟩ : ∃ I, inEnc m.insts = I := ⟨_, rfl⟩
  obtain ⟨C, hC⟩ : ∃ C, fmCheck m = C := ⟨_, rfl⟩
  rw [hM] at me hT
  rw [hI] at ie hT
  rw [hC] at ck hT
  simp only [byS, oxmS, instS] at me ie
  have hnl : (intL N).length = 9 := by rw [intL_len, hNl]
  have hsl : (intL fmSizesI).length = 9 := rfl
  clear hN hM hI hC hm
  unfold FlowMod.enc at *
  refine FnP.intro Tryz.func234 rfl rfl fun G w => ?_
  repeat' (first
   | refine WK.seq ?_
   | (refine Hid.h hQ _ _ ?_; clear hQ hA)
   | (refine WK.regH (id := 0) Tryz.ntmps234 (by kernel_rfl) ?_; intro A hA Q hQ; simp [*])
   | (refine WK.regH (id := 1) Tryz.ntmps234 (by kernel_rfl) ?_; intro A hA Q hQ; simp [*])
   | fail)
  refine WK.ghost (Ghost.frzVar 3 rfl rfl) ?_
  repeat' (first
   | refine WK.seq ?_
   | refine WK.block ?_
   | (refine Hid.h hQ _ _ ?_; clear hQ hA)
   | (refine WK.regH Tryz.ntmps234 (by kernel_rfl) ?_; intro A hA Q hQ; simp [*])
   | (refine RunQ.call rfl rfl rfl rfl rfl ?_ (sz) ?_ ?_; (focus (simp (maxDischargeDepth := 120) [*]; done)); (focus (simp [*]; done)); refine RunQ.evalH ?_; simp [*])
   | (refine RunQ.call rfl rfl rfl rfl rfl ?_ (nm) ?_ ?_; (focus (simp (maxDischargeDepth := 120) [*]; done)); (focus (simp [*]; done)); refine RunQ.evalH ?_; simp [*])
   | fail)
  refine WK.loopI (fun n => if n = 1 then 201 else n) (fun i : Nat => (⟨(upd (upd (upd (upd (upd J 1 (.ptr 0 0)) 3 (.iptr m.enc)) 4 (.ptr 1 0)) 16 (.agg (intL N))) 17 (.int .i64 i)), (upd (upd B0 0 (.var m.enc)) 1 (.var (intL fmSizesI))), 0⟩ : St)) (fun i => i ≤ 9 ∧ ∀ j, j < i → numOk (nth N j) (nth fmSizes j) = true) (fun i => 9 - i) (0) (by repeat (first | exact TmW.nil | refine TmW.upd ?_ (by simp (maxDischargeDepth := 120) [FlowMod.enc]))) (by repeat (first | exact BxW.nil | refine BxW.upd ?_ (by simp (maxDischargeDepth := 120) [FlowMod.enc]))) (by first | exact InjW.id | exact InjW.nil | exact InjW.one | exact InjW.two (by simp) | exact InjW.three (by simp) (by simp) (by simp)) (⟨by omega, by simp⟩) (fun i hi IH => ?_)
  clear sz nm
  unfold FlowMod.enc
  by_cases h1 : i < 9
  · obtain ⟨s1, s2, s3⟩ := fmSize_at i h1
    have h1' : (i : Int) < 9 := by omega
    have h6 : IntKind.i64.wrap ((i : Int) + 1) = i + 1 := wrap_i64 (by omega) (by omega)
    have c := nright_c (nth N i) (nth fmSizes i) s2
    have g1 := intL_get' N i (by omega)
    have g2 := intL_get' fmSizesI i h1
    rw [s1] at g2
    have hFi := hF i h1
    have hNi : numOk (nth N i) (nth fmSizes i) = true → ∀ j, j < i + 1 → numOk (nth N j) (nth fmSizes j) = true := fun h j hj => by
      by_cases h7 : j = i
      · subst h7; exact h
      · exact hi.2 j (by omega)
    obtain ⟨x, hx⟩ : ∃ x, nth N i = x := ⟨_, rfl⟩
    obtain ⟨s, hs⟩ : ∃ x, nth fmSizes i = x := ⟨_, rfl⟩
    rw [hx, hs] at c hFi hNi
    rw [hx] at g1
    rw [hs] at g2
    obtain ⟨z, hz⟩ : ∃ z, numOk x s = z := ⟨_, rfl⟩
    rw [hz] at c hFi hNi
    clear hx hs hz hi hF hT me ie ck s1 s2 s3
    cases z
    · have e := hFi rfl
      clear hNi hFi
      repeat' (first
       | refine WK.seq ?_
       | refine WK.block ?_
       | refine WK.skip ?_
       | refine WK.condT rfl ?_
       | (refine Hid.h hQ _ _ ?_; clear hQ hA)
       | (refine WK.regH Tryz.ntmps234 (by kernel_rfl) ?_; intro A hA Q hQ; simp [*])
       | (refine RunQ.call rfl rfl rfl rfl rfl ?_ (c) ?_ ?_; (focus (simp (maxDischargeDepth := 120) [*]; done)); (focus (simp [*]; done)); refine RunQ.evalH ?_; simp [*])
       | (refine WK.ret Tryz.func234 ?_ ?_ <;> simp (maxDischargeDepth := 120) [Tryz.results234, *])
       | fail)
    · have hn := hNi rfl
      clear hNi hFi
      repeat' (first
       | refine WK.seq ?_
       | refine WK.block ?_
       | refine WK.inBlock ?_
       | refine WK.skip ?_
       | refine WK.condT rfl ?_
       | refine WK.condF rfl ?_
       | (refine Hid.h hQ _ _ ?_; clear hQ hA)
       | (refine WK.regH Tryz.ntmps234 (by kernel_rfl) ?_; intro A hA Q hQ; simp [*])
       | (refine RunQ.call rfl rfl rfl rfl rfl ?_ (c) ?_ ?_; (focus (simp (maxDischargeDepth := 120) [*]; done)); (focus (simp [*]; done)); refine RunQ.evalH ?_; simp [*])
       | fail)
      refine WK.next (fun n => n) (IH (i + 1) (⟨by omega, hn⟩) (by first | omega | (dsimp only; omega))) (by repeat (first | exact TmW.nil | refine TmW.upd ?_ (by simp (maxDischargeDepth := 120) [FlowMod.enc]))) (by repeat (first | exact BxW.nil | refine BxW.upd ?_ (by simp (maxDischargeDepth := 120) [FlowMod.enc]))) (by first | exact InjW.id | exact InjW.nil | exact InjW.one | exact InjW.two (by simp) | exact InjW.three (by simp) (by simp) (by simp))
  · have e := hT fun j hj => hi.2 j (by omega)
    have h1' : ¬ (i : Int) < 9 := by omega
    clear hF hT hi
    obtain ⟨M1, M2⟩ := M
    obtain ⟨I1, I2⟩ := I
    simp only at me ie e
    cases k1 : M2 == 0
    · rw [k1] at e
      repeat' (first
       | refine WK.seq ?_
       | refine WK.exit rfl ?_
       | refine WK.condF rfl ?_
       | (refine Hid.h hQ _ _ ?_; clear hQ hA)
       | (refine WK.regH Tryz.ntmps234 (by kernel_rfl) ?_; intro A hA Q hQ; simp [*])
       | (refine RunQ.gd rfl (by rw [hA.h]; rfl) ?_; simp [*])
       | (refine RunQ.call rfl rfl rfl rfl rfl ?_ (me) ?_ ?_; (focus (simp (maxDischargeDepth := 120) [*]; done)); (focus (simp [*]; done)); refine RunQ.evalH ?_; simp [*])
       | (refine RunQ.call rfl rfl rfl rfl rfl ?_ (ie) ?_ ?_; (focus (simp (maxDischargeDepth := 120) [*]; done)); (focus (simp [*]; done)); refine RunQ.evalH ?_; simp [*])
       | (refine WK.ret Tryz.func234 ?_ ?_ <;> simp (maxDischargeDepth := 120) [Tryz.results234, *])
       | fail)
    cases k2 : I2 == 0
    · rw [k1, k2] at e
      repeat' (first
       | refine WK.seq ?_
       | refine WK.exit rfl ?_
       | refine WK.condF rfl ?_
       | (refine Hid.h hQ _ _ ?_; clear hQ hA)
       | (refine WK.regH Tryz.ntmps234 (by kernel_rfl) ?_; intro A hA Q hQ; simp [*])
       | (refine RunQ.gd rfl (by rw [hA.h]; rfl) ?_; simp [*])
       | (refine RunQ.call rfl rfl rfl rfl rfl ?_ (me) ?_ ?_; (focus (simp (maxDischargeDepth := 120) [*]; done)); (focus (simp [*]; done)); refine RunQ.evalH ?_; simp [*])
       | (refine RunQ.call rfl rfl rfl rfl rfl ?_ (ie) ?_ ?_; (focus (simp (maxDischargeDepth := 120) [*]; done)); (focus (simp [*]; done)); refine RunQ.evalH ?_; simp [*])
       | (refine WK.ret Tryz.func234 ?_ ?_ <;> simp (maxDischargeDepth := 120) [Tryz.results234, *])
       | fail)
    rw [k1, k2] at e
    cases C <;>
    · repeat' (first
       | refine WK.seq ?_
       | refine WK.exit rfl ?_
       | refine WK.condF rfl ?_
       | (refine Hid.h hQ _ _ ?_; clear hQ hA)
       | (refine WK.regH Tryz.ntmps234 (by kernel_rfl) ?_; intro A hA Q hQ; simp [gFault, *])
       | (refine RunQ.gd rfl (by rw [hA.h]; rfl) ?_; simp [gFault, *])
       | (refine RunQ.call rfl rfl rfl rfl rfl ?_ (me) ?_ ?_; (focus (simp (maxDischargeDepth := 120) [gFault, *]; done)); (focus (simp [gFault, *]; done)); refine RunQ.evalH ?_; simp [gFault, *])
       | (refine RunQ.call rfl rfl rfl rfl rfl ?_ (ie) ?_ ?_; (focus (simp (maxDischargeDepth := 120) [gFault, *]; done)); (focus (simp [gFault, *]; done)); refine RunQ.evalH ?_; simp [gFault, *])
       | (refine RunQW.call rfl rfl rfl rfl ?_ (ck) ?_ ?_; (focus (simp (maxDischargeDepth := 120) [gFault, *]; done)); (focus (simp [gFault, *]; done)); refine RunQ.evalH ?_; simp [gFault, *])
       | (refine WK.ret Tryz.func234 ?_ ?_ <;> simp (maxDischargeDepth := 120) [Tryz.results234, gFault, *])
       | fail)
theorem fmNums_eq (a b : FlowMod) : (fmNums a == fmNums b) = (a.table == b.table && (a.command == b.command && (a.idle == b.idle && (a.hard == b.hard && (a.prio == b.prio && (a.buffer == b.buffer && (a.outPort == b.outPort && (a.outGroup == b.outGroup && a.flags == b.flags)))))))) := by
  unfold fmNums
  rw [Bool.eq_iff_iff]
  simp only [beq_iff_eq, Bool.and_eq_true, List.cons.injEq, and_true]
theorem fmsame_c (a b : FlowMod) (ha : FmB a) : FnP Tryz.prog 32 [.agg a.enc, .agg b.enc] (.bool (FlowMod.same a b)) := by
  have na := fnumbers_c a
  have nb := fnumbers_c b
  have ms := msame_c a.mat b.mat (by have := ha.mat; omega)
  have is := insame_c a.insts b.insts (by have := ha.insts; omega) ha.acts
  have e : FlowMod.same a b = ((fmNums a == fmNums b) && (a.cookie == b.cookie && (a.cookieMask == b.cookieMask && (eqBy (fun x y : Oxm => x == y) a.mat b.mat && eqBy Inst.same a.insts b.insts)))) := rfl
  obtain ⟨z1, hz1⟩ : ∃ z, eqBy (fun x y : Oxm => x == y) a.mat b.mat = z := ⟨_, rfl⟩
  obtain ⟨z2, hz2⟩ : ∃ z, eqBy Inst.same a.insts b.insts = z := ⟨_, rfl⟩
  rw [hz1] at ms e
  rw [hz2] at is e
  rw [fmNums_eq] at e
  simp only [fmNums, intL, List.map_cons, List.map_nil] at na nb
  unfold oxmS instS at *
  unfold FlowMod.enc at *
  clear hz1 hz2
  refine FnP.intro Tryz.func32 rfl rfl fun G w => ?_
  repeat' (first
   | refine WK.seq ?_
   | (refine Hid.h hQ _ _ ?_; clear hQ hA)
   | (refine WK.regH (id := 0) Tryz.ntmps32 (by kernel_rfl) ?_; intro A hA Q hQ; simp [*])
   | (refine WK.regH (id := 1) Tryz.ntmps32 (by kernel_rfl) ?_; intro A hA Q hQ; simp [*])
   | (refine WK.regX (id := 0) (by kernel_rfl) Tryz.ntmps32 (by kernel_rfl) ?_; intro A hA Q hQ; simp [*])
   | (refine WK.regX (id := 1) (by kernel_rfl) Tryz.ntmps32 (by kernel_rfl) ?_; intro A hA Q hQ; simp [*])
   | (refine Hid.h hQ _ _ _ (by decide +kernel) ?_; clear hQ hA)
   | fail)
  refine WK.ghost (Ghost.frzVar 5 rfl rfl) ?_
  refine WK.ghost (Ghost.frzVar 6 rfl rfl) ?_
  repeat' (first
   | (refine Hid.h hQ _ _ ?_; clear hQ hA)
   | (refine Fork.mk (fun h => ?_) (fun h => ?_) <;> (first | (simp [*] at h; done) | (have h2 := h; simp at h2; exfalso; omega) | (have h2 := h; simp at h2; try simp only [Bool.not_eq_true', Bool.not_eq_false'] at h) | skip))
   | (refine WK.regH Tryz.ntmps32 (by kernel_rfl) ?_; intro A hA Q hQ; simp [*])
   | (refine RunQ.gd rfl (by rw [hA.h]; rfl) ?_; simp [*])
   | (refine RunQ.call rfl rfl rfl rfl rfl ?_ (na) ?_ ?_; (focus (simp (maxDischargeDepth := 120) [*]; done)); (focus (simp [*]; done)); refine RunQ.evalH ?_; simp [*])
   | (refine RunQ.call rfl rfl rfl rfl rfl ?_ (nb) ?_ ?_; (focus (simp (maxDischargeDepth := 120) [*]; done)); (focus (simp [*]; done)); refine RunQ.evalH ?_; simp [*])
   | (refine RunQW.call rfl rfl rfl rfl ?_ (ms) ?_ ?_; (focus (simp (maxDischargeDepth := 120) [*]; done)); (focus (simp [*]; done)); refine RunQ.evalH ?_; simp [*])
   | (refine RunQW.call rfl rfl rfl rfl ?_ (is) ?_ ?_; (focus (simp (maxDischargeDepth := 120) [*]; done)); (focus (simp [*]; done)); refine RunQ.evalH ?_; simp [*])
   | (refine WK.ret Tryz.func32 ?_ ?_ <;> simp (maxDischargeDepth := 120) [Tryz.results32, *])
   | fail)
end Go.Proofs.YtcccfbjkcahgfaaGreat
end

section
set_option linter.unusedVariables false
set_option linter.unusedSimpArgs false
namespace Go.Proofs.YtcccfbjkcahgfaaGreat
open Go Go.AI Go.Proofs
attribute [local irreducible] FnP FnO FnB FnT FnSeq WK RunQ RunQW RunX RunXW

theorem wN_lo (x : BitVec 64) : (wN ⟨0#64, x⟩ : Nat) = x.toNat := by unfold wN; simp
theorem nsEnc_succ {l : List (Int × Nat)} {i : Nat} (h : i < l.length) : nsEnc (l.take (i + 1)) = nsEnc (l.take i) ++ beN (nth l i).1 (nth l i).2 := by
  unfold nsEnc; rw [take_nth h, List.flatMap_append]; simp
def fmFront (m : FlowMod) : List (BitVec 8) := beN m.cookie.toNat 8 ++ beN m.cookieMask.toNat 8
def fmAcc (m : FlowMod) (i : Nat) : List (BitVec 8) := fmFront m ++ nsEnc ((fmZip m).take i)
theorem fmAcc_succ (m : FlowMod) {i : Nat} (h : i < 9) : fmAcc m (i + 1) = fmAcc m i ++ beN (nth (fmNums m) i) (nth fmSizes i) := by
  unfold fmAcc; rw [nsEnc_succ h, List.append_assoc, fmZip_at m h]
theorem fmAcc_len (m : FlowMod) (i : Nat) : (fmAcc m i).length ≤ 16 + i * 4 := by
  induction i with
  | zero => unfold fmAcc fmFront nsEnc; simp [beN_len]
  | succ i ih =>
    by_cases h : i < 9
    · rw [fmAcc_succ m h, List.length_append, beN_len]
      have := (fmSize_at i h).2.2
      omega
    · have e : fmAcc m (i + 1) = fmAcc m i := by
        unfold fmAcc
        rw [List.take_of_length_le (by show 9 ≤ i + 1; omega), List.take_of_length_le (by show 9 ≤ i; omega)]
      rw [e]; omega
theorem fmAcc_all (m : FlowMod) : fmAcc m 9 ++ [0#8, 0#8] = fmHead m ∧ (fmAcc m 9).length = 38 := by
  have e : fmAcc m 9 ++ [0#8, 0#8] = fmHead m := by
    unfold fmAcc fmFront fmHead
    rw [List.take_of_length_le (by show 9 ≤ 9; omega)]
    simp only [List.append_assoc]; rfl
  refine ⟨e, ?_⟩
  have h := fmHead_len m
  rw [← e, List.length_append] at h
  simp only [List.length_cons, List.length_nil] at h
  omega
theorem z2L : byL [0#8, 0#8] = [.int .u8 0, .int .u8 0] := rfl
set_option maxHeartbeats 4000000 in
theorem fmenc_c (m : FlowMod) (hm : FmB m) : FnT Tryz.prog 233 [.agg m.enc] (fmEnc m).1.length 1 (byL (fmEnc m).1) [.int .i64 (fmEnc m).2] := by
  have r := fmright_c m hm
  cases hr : fmRight m
  · have e := fmEnc_bad hr
    rw [hr] at r
    rw [e]
    unfold FlowMod.enc at *
    clear e hr
    refine FnT.intro Tryz.func233 rfl rfl fun G w => ?_
    repeat' (first
     | refine WK.seq ?_
     | refine WK.condT rfl ?_
     | (refine Hid.h hQ _ _ ?_; clear hQ hA)
     | (refine WK.regH Tryz.ntmps233 (by kernel_rfl) ?_; intro A hA Q hQ; simp [*])
     | (refine RunQ.call rfl rfl rfl rfl rfl ?_ (r) ?_ ?_; (focus (simp (maxDischargeDepth := 120) [*]; done)); (focus (simp [*]; done)); refine RunQ.evalH ?_; simp [*])
     | fail)
    refine WK.ghost (Ghost.own 2 900 1 rfl rfl) ?_
    refine WK.retT2 Tryz.func233 ?_ ?_ ?_ <;> simp (maxDischargeDepth := 120) [Tryz.results233, byL_nil]
  obtain ⟨hn, hM, hI, _⟩ := fmRight_facts hr
  have e : (fmEnc m) = (fmHead m ++ ((mEnc m.mat).1 ++ (inEnc m.insts).1), 0) := by unfold fmEnc; rw [if_pos hr]
  rw [hr] at r
  have sz := fsizes_c
  have nm := fnumbers_c m
  have me := mencP_c m.mat hm.mat
  have ie := iencP_c m.insts hm.insts hm.acts
  have hMl := mEnc_len m.mat
  have hIl := inEnc_len m.insts
  rw [hM] at me
  rw [hI] at ie
  have w1 := wput_c [] ⟨0#64, m.cookie⟩ 8 (by omega) (by simp)
  rw [wPut_beN _ _ _ (by omega), wN_lo, List.nil_append] at w1
  have w2 := wput_c (beN m.cookie.toNat 8) ⟨0#64, m.cookieMask⟩ 8 (by omega) (by simp [beN_len])
  rw [wPut_beN _ _ _ (by omega), wN_lo] at w2
  have hA0 : fmAcc m 0 = beN m.cookie.toNat 8 ++ beN m.cookieMask.toNat 8 := by unfold fmAcc fmFront nsEnc; simp
  rw [← hA0] at w2
  have h0l : (fmAcc m 0).length = 16 := by rw [hA0, List.length_append, beN_len, beN_len]
  have hcl : (beN m.cookie.toNat 8).length = 8 := beN_len _ _
  have hok : ∀ i, i < 9 → numOk (nth (fmNums m) i) (nth fmSizes i) = true := fun i hi => by
    have := hn _ (nth_mem (l := fmZip m) (i := i) hi)
    rw [fmZip_at m hi] at this; exact this
  have hsuc : ∀ i, i < 9 → fmAcc m (i + 1) = fmAcc m i ++ beN (nth (fmNums m) i) (nth fmSizes i) := fun i hi => fmAcc_succ m hi
  have hlen : ∀ i, (fmAcc m i).length ≤ 16 + i * 4 := fmAcc_len m
  obtain ⟨hAll, hAl⟩ := fmAcc_all m
  obtain ⟨N, hN⟩ : ∃ N, fmNums m = N := ⟨_, rfl⟩
  have hNl : N.length = 9 := by rw [← hN]; rfl
  rw [hN] at nm hok hsuc
  obtain ⟨C8, hC8⟩ : ∃ C, beN m.cookie.toNat 8 = C := ⟨_, rfl⟩
  rw [hC8] at w1 w2 hcl
  have hcf : (byL C8).take 8 = byL C8 := by_full _ _ hcl.symm
  simp only [byS, oxmS, instS, Wide.enc, uI_zero, hcl, h0l, byL_nil, List.length_nil] at w1 w2 me ie
  obtain ⟨M, hMM⟩ : ∃ M, (mEnc m.mat).1 = M := ⟨_, rfl⟩
  obtain ⟨I, hII⟩ : ∃ I, (inEnc m.insts).1 = I := ⟨_, rfl⟩
  rw [hMM] at me e hMl
  rw [hII] at ie e hIl
  rw [← hAll] at e
  have hsl : (intL fmSizesI).length = 9 := rfl
  clear hN hm hr hn hM hI hA0 hC8 hAll hMM hII
  unfold FlowMod.enc at *
  refine FnT.intro Tryz.func233 rfl rfl fun G w => ?_
  repeat' (first
   | refine WK.seq ?_
   | refine WK.skip ?_
   | refine WK.condF rfl ?_
   | (refine Hid.h hQ _ _ ?_; clear hQ hA)
   | (refine WK.regH (id := 0) Tryz.ntmps233 (by kernel_rfl) ?_; intro A hA Q hQ; simp [*])
   | (refine WK.regH (id := 1) Tryz.ntmps233 (by kernel_rfl) ?_; intro A hA Q hQ; simp [*])
   | (refine WK.regH (id := 2) Tryz.ntmps233 (by kernel_rfl) ?_; intro A hA Q hQ; simp [*])
   | (refine WK.regH (id := 3) Tryz.ntmps233 (by kernel_rfl) ?_; intro A hA Q hQ; simp [*])
   | (refine RunQ.call rfl rfl rfl rfl rfl ?_ (r) ?_ ?_; (focus (simp (maxDischargeDepth := 120) [*]; done)); (focus (simp [*]; done)); refine RunQ.evalH ?_; simp [*])
   | fail)
  refine WK.ghost (Ghost.frzVar 4 rfl rfl) ?_
  repeat' (first
   | refine WK.seq ?_
   | refine WK.block ?_
   | (refine Hid.h hQ _ _ ?_; clear hQ hA)
   | (refine WK.regH Tryz.ntmps233 (by kernel_rfl) ?_; intro A hA Q hQ; simp [*])
   | (refine WK.regX (by kernel_rfl) Tryz.ntmps233 (by kernel_rfl) ?_; intro A hA Q hQ; simp [*])
   | (refine Hid.h hQ _ _ _ (by decide +kernel) ?_; clear hQ hA)
   | (refine RunX.callO 900 rfl rfl rfl rfl ?_ (w1) ?_ ?_ ?_ ?_; (focus (simp (maxDischargeDepth := 120) [*]; done)); (focus (simp [*]; done)); (focus (simp [*]; done)); (focus (simp [*]; done)); refine RunX.evalY ?_; simp [*])
   | (refine RunX.callOz 901 25 1 rfl rfl rfl rfl rfl rfl ?_ (w2) ?_ ?_ (by simp) (by decide) ?_; (focus (simp (maxDischargeDepth := 120) [*]; done)); (focus (simp [*]; done)); (focus (simp [*]; done)); refine RunX.evalY ?_; simp [*])
   | (refine RunQ.call rfl rfl rfl rfl rfl ?_ (sz) ?_ ?_; (focus (simp (maxDischargeDepth := 120) [*]; done)); (focus (simp [*]; done)); refine RunQ.evalH ?_; simp [*])
   | (refine RunQ.call rfl rfl rfl rfl rfl ?_ (nm) ?_ ?_; (focus (simp (maxDischargeDepth := 120) [*]; done)); (focus (simp [*]; done)); refine RunQ.evalH ?_; simp [*])
   | fail)
  refine WK.loopI (fun n => if n = 1 then 901 else if n = 2 then 401 else n) (fun i : Nat => (⟨(upd (upd (upd (upd (upd J 4 (.iptr m.enc)) 5 (.msl 1 0 (fmAcc m i).length)) 6 (.ptr 2 0)) 35 (.agg (intL N))) 36 (.int .i64 i)), (upd (upd B0 1 (.buf 1 (byL (fmAcc m i)))) 2 (.var (intL fmSizesI))), 0⟩ : St)) (fun i => i ≤ 9) (fun i => 9 - i) (0) (by repeat (first | exact TmW.nil | refine TmW.upd ?_ (by simp (maxDischargeDepth := 120) [FlowMod.enc, h0l]))) (by repeat (first | exact BxW.nil | refine BxW.upd ?_ (by simp (maxDischargeDepth := 120) [FlowMod.enc, h0l]))) (by first | exact InjW.id | exact InjW.nil | exact InjW.one | exact InjW.two (by simp) | exact InjW.three (by simp) (by simp) (by simp)) (Nat.zero_le _) (fun i hi IH => ?_)
  clear r sz nm w1 w2
  unfold FlowMod.enc
  by_cases h1 : i < 9
  · obtain ⟨s1, s2, s3⟩ := fmSize_at i h1
    have h1' : (i : Int) < 9 := by omega
    have h6 : IntKind.i64.wrap ((i : Int) + 1) = i + 1 := wrap_i64 (by omega) (by omega)
    have hl := hlen i
    have c := nput_c (fmAcc m i) (nth N i) (nth fmSizes i) s2 (by omega)
    rw [putN_beN (hok i h1), ← hsuc i h1] at c
    have g1 := intL_get' N i (by omega)
    have g2 := intL_get' fmSizesI i h1
    rw [s1] at g2
    obtain ⟨x, hx⟩ : ∃ x, nth N i = x := ⟨_, rfl⟩
    obtain ⟨s, hs⟩ : ∃ x, nth fmSizes i = x := ⟨_, rfl⟩
    rw [hx, hs] at c
    rw [hx] at g1
    rw [hs] at g2
    obtain ⟨F, hF⟩ : ∃ F, fmAcc m i = F := ⟨_, rfl⟩
    rw [hF] at c ⊢
    have hfu := by_full F F.length rfl
    have hnl : (intL N).length = 9 := by rw [intL_len, hNl]
    unfold byS at c
    clear hx hs hF hok hsuc hlen s1 s2 s3 me ie e hAl
    repeat' (first
     | refine WK.seq ?_
     | refine WK.block ?_
     | refine WK.inBlock ?_
     | refine WK.skip ?_
     | refine WK.condT rfl ?_
     | (refine Hid.h hQ _ _ ?_; clear hQ hA)
     | (refine WK.regH Tryz.ntmps233 (by kernel_rfl) ?_; intro A hA Q hQ; simp [*])
     | (refine RunQ.callOz 902 40 1 rfl rfl rfl rfl rfl rfl rfl ?_ (c) ?_ ?_ (by simp) (by decide) ?_; (focus (simp (maxDischargeDepth := 120) [*]; done)); (focus (simp [*]; done)); (focus (simp [*]; done)); refine RunQ.evalH ?_; simp [*])
     | fail)
    refine WK.next (fun n => if n = 1 then 902 else n) (IH (i + 1) (by omega) (by first | omega | (dsimp only; omega))) (by repeat (first | exact TmW.nil | refine TmW.upd ?_ (by simp (maxDischargeDepth := 120) [FlowMod.enc]))) (by repeat (first | exact BxW.nil | refine BxW.upd ?_ (by simp (maxDischargeDepth := 120) [FlowMod.enc]))) (by first | exact InjW.id | exact InjW.nil | exact InjW.one | exact InjW.two (by simp) | exact InjW.three (by simp) (by simp) (by simp))
  · have hi9 : i = 9 := by omega
    subst hi9
    rw [e]
    obtain ⟨F, hF⟩ : ∃ F, fmAcc m 9 = F := ⟨_, rfl⟩
    rw [hF] at hAl ⊢
    have hA2 : byL F ++ [AV.int .u8 0, AV.int .u8 0] = byL (F ++ [0#8, 0#8]) := by rw [byL_app, z2L]
    have hA2l : (F ++ [0#8, 0#8]).length = 40 := by rw [List.length_append, hAl]; rfl
    obtain ⟨H, hH⟩ : ∃ H, F ++ [0#8, 0#8] = H := ⟨_, rfl⟩
    rw [hH] at hA2 hA2l ⊢
    have hA3 : byL H ++ byL M = byL (H ++ M) := (byL_app _ _).symm
    have hA3l : (H ++ M).length = 40 + M.length := by rw [List.length_append, hA2l]
    have hE : H ++ (M ++ I) = (H ++ M) ++ I := (List.append_assoc _ _ _).symm
    rw [hE]
    obtain ⟨K, hK⟩ : ∃ K, H ++ M = K := ⟨_, rfl⟩
    rw [hK] at hA3 hA3l ⊢
    have hA4 : byL K ++ byL I = byL (K ++ I) := (byL_app _ _).symm
    have hA4l : (K ++ I).length = 40 + M.length + I.length := by rw [List.length_append, hA3l]
    obtain ⟨E, hEE⟩ : ∃ E, K ++ I = E := ⟨_, rfl⟩
    rw [hEE] at hA4 hA4l ⊢
    have hfM := by_full M M.length rfl
    have hfI := by_full I I.length rfl
    have hb1 : 40 + M.length ≤ 140737488355328 := by omega
    have hb2 : 40 + M.length + I.length ≤ 140737488355328 := by omega
    rw [hAl]
    simp only
    rw [hA4l]
    clear hok hsuc hlen e hF hH hE hK hEE hMl hIl hA4l h1 h0l hcl hcf hNl hsl
    repeat' (first
     | refine WK.seq ?_
     | refine WK.exit rfl ?_
     | refine WK.condF rfl ?_
     | (refine Hid.h hQ _ _ ?_; clear hQ hA)
     | (refine WK.regH Tryz.ntmps233 (by kernel_rfl) ?_; intro A hA Q hQ; simp [*])
     | (refine RunQ.append 903 appByte rfl rfl rfl rfl rfl rfl rfl rfl rfl ?_ ?_ ?_ ?_ ?_; (focus (first | omega | (simp [*]; done); done)); (focus (first | omega | (simp [*]; done); done)); (focus (first | omega | (simp [*]; done); done)); (focus (first | omega | (simp [*]; done); done)); refine RunQ.evalH ?_; simp [*])
     | (refine RunQ.append 904 appByte rfl rfl rfl rfl rfl rfl rfl rfl rfl ?_ ?_ ?_ ?_ ?_; (focus (first | omega | (simp [*]; done); done)); (focus (first | omega | (simp [*]; done); done)); (focus (first | omega | (simp [*]; done); done)); (focus (first | omega | (simp [*]; done); done)); refine RunQ.evalH ?_; simp [*])
     | (refine RunQ.append 905 appByte rfl rfl rfl rfl rfl rfl rfl rfl rfl ?_ ?_ ?_ ?_ ?_; (focus (first | omega | (simp [*]; done); done)); (focus (first | omega | (simp [*]; done); done)); (focus (first | omega | (simp [*]; done); done)); (focus (first | omega | (simp [*]; done); done)); refine RunQ.evalH ?_; simp [*])
     | (refine RunQ.call rfl rfl rfl rfl rfl ?_ (me) ?_ ?_; (focus (simp (maxDischargeDepth := 120) [*]; done)); (focus (simp [*]; done)); refine RunQ.evalH ?_; simp [*])
     | (refine RunQ.call rfl rfl rfl rfl rfl ?_ (ie) ?_ ?_; (focus (simp (maxDischargeDepth := 120) [*]; done)); (focus (simp [*]; done)); refine RunQ.evalH ?_; simp [*])
     | (refine WK.retT2 Tryz.func233 ?_ ?_ ?_ <;> simp (maxDischargeDepth := 120) [Tryz.results233, *])
     | fail)
theorem fmencP_c (m : FlowMod) (hm : FmB m) : FnP Tryz.prog 233 [.agg m.enc] (.tup [byS (fmEnc m).1, .int .i64 (fmEnc m).2]) := by
  have h := (fmenc_c m hm).toP (by simp [byL_take]) (by rfl)
  rwa [Nat.mul_one, by_full _ _ rfl] at h
end Go.Proofs.YtcccfbjkcahgfaaGreat
end
