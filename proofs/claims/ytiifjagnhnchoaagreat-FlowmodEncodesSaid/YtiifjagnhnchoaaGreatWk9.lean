/- Matches: their bytes, by both sides. -/
import Derived.Test.YtiifjagnhnchoaaGreatWk8
import Derived.Test.YtiifjagnhnchoaaGreatWk7
import Derived.Test.YtiifjagnhnchoaaGreatAf
set_option linter.all false
set_option linter.unnecessarySimpa false
section
set_option linter.unusedVariables false
set_option linter.unusedSimpArgs false
namespace Go.Proofs.YtiifjagnhnchoaaGreat
open Go Go.AI Go.Proofs
attribute [local irreducible] FnP FnO FnB FnT FnSeq WK RunQ RunQW RunX RunXW

theorem mpad_c (n : Nat) (h : n < 1000000000) : FnP Tryz.prog 53 [.int .i64 n] (.int .i64 (mPad n : Nat)) := by
  have e := mPad_bit n h
  have w : IntKind.i64.wrap ((n : Int) + 7) = n + 7 := wrap_i64 (by omega) (by omega)
  rw [w] at e
  refine FnP.intro Tryz.func53 rfl rfl fun G w => ?_
  repeat' (first
   | refine WK.seq ?_
   | (refine Hid.h hQ _ _ ?_; clear hQ hA)
   | (refine WK.regH Tryz.ntmps53 (by kernel_rfl) ?_; intro A hA Q hQ; simp [*])
   | (refine WK.ret Tryz.func53 ?_ ?_ <;> simp (maxDischargeDepth := 120) [Tryz.results53, *])
   | fail)
def mHd : List (BitVec 8) := [0#8, 1#8, 0#8, 0#8]
def mAcc (l : List Oxm) : List (BitVec 8) := mHd ++ rwFlat oBytes l
theorem mAcc_succ {l : List Oxm} {i : Nat} (h : i < l.length) : mAcc (l.take (i + 1)) = mAcc (l.take i) ++ oBytes (nth l i) := by
  unfold mAcc rwFlat; rw [take_nth h, List.flatMap_append, List.append_assoc]; simp
theorem oFlat_len (l : List Oxm) : (rwFlat oBytes l).length ≤ l.length * 36 := by
  induction l with
  | nil => simp [rwFlat]
  | cons x l ih =>
    have h1 : (oBytes x).length ≤ 36 := oEnc_len x
    have e : rwFlat oBytes (x :: l) = oBytes x ++ rwFlat oBytes l := rfl
    rw [e, List.length_append, List.length_cons]; omega
theorem oBytes_of {o : Oxm} (h : Oxm.right o = true) : oEnc o = (oBytes o, 0) := by unfold oBytes oEnc; rw [if_pos h]
theorem oEnc_wrong {o : Oxm} (h : Oxm.right o = false) : oEnc o = ([], 1) := by unfold oEnc; rw [if_neg (by rw [h]; simp)]
theorem mFit_of {l : List Oxm} (hc : mCheck l = none) (h : ∀ j, j < l.length → Oxm.right (nth l j) = true) : mFit l = true := by
  unfold mFit
  rw [hc, Bool.and_eq_true, List.all_eq_true]
  refine ⟨rfl, fun x hx => ?_⟩
  obtain ⟨j, hj, rfl⟩ := mem_nth hx
  exact h j hj
theorem mEnc_wrong {l : List Oxm} {i : Nat} (h : i < l.length) (hr : Oxm.right (nth l i) = false) : mEnc l = ([], 1) := mEnc_bad1 fun hh => by
  have := (mFit_facts hh.1).2 _ (nth_mem h)
  rw [hr] at this; cases this
theorem mEnc_check {l : List Oxm} {c : Int} (h : mCheck l = some c) : mEnc l = ([], 1) := mEnc_bad1 fun hh => by
  have := (mFit_facts hh.1).1
  rw [h] at this; cases this
/-- the bytes of a match that may be: its head, its length, its parts, noughts -/
theorem mEnc_fit {l : List Oxm} (h : mFit l = true) : mEnc l = if (rwFlat oBytes l).length ≤ 1000 then (mWhole l, 0) else ([], 1) := by
  unfold mEnc
  by_cases hh : (rwFlat oBytes l).length ≤ 1000
  · rw [if_pos hh, if_pos ⟨h, hh⟩]
  · rw [if_neg hh, if_neg fun x => hh x.2]
theorem splice_len (F : List (BitVec 8)) (n : Int) : splice (byL (mHd ++ F)) 2 (byL (beN n 2)) = byL (beN 1 2 ++ (beN n 2 ++ F)) := by
  have e : byL (mHd ++ F) = byL (beN 1 2) ++ (byL [0#8, 0#8] ++ byL F) := by rw [← byL_app, ← byL_app]; rfl
  unfold splice
  rw [e, byL_len, beN_len, List.take_left' (by simp [beN_len]), ← List.append_assoc (byL (beN 1 2)), List.drop_left' (by simp [beN_len]), byL_app, byL_app, List.append_assoc]
theorem mEnc_len1 (l : List Oxm) : (mAcc l).length = 4 + (rwFlat oBytes l).length := by unfold mAcc mHd; simp; omega
set_option maxHeartbeats 4000000 in
theorem menc_c (l : List Oxm) (hl : l.length ≤ 10000) : FnT Tryz.prog 35 [oxmS l] (mEnc l).1.length 1 (byL (mEnc l).1) [.int .i64 (mEnc l).2] := by
  have ck := mcheck_c l (by omega)
  unfold oxmS at *
  cases hc : mCheck l with
  | some c =>
    have e := mEnc_check hc
    rw [hc] at ck
    rw [e]
    clear e hc
    refine FnT.intro Tryz.func35 rfl rfl fun G w => ?_
    repeat' (first
     | refine WK.seq ?_
     | refine WK.condT rfl ?_
     | (refine Hid.h hQ _ _ ?_; clear hQ hA)
     | (refine WK.regH Tryz.ntmps35 (by kernel_rfl) ?_; intro A hA Q hQ; simp [mF, gFault, *])
     | (refine RunQ.call rfl rfl rfl rfl rfl ?_ (ck) ?_ ?_; (focus (simp (maxDischargeDepth := 120) [mF, gFault, *]; done)); (focus (simp [mF, gFault, *]; done)); refine RunQ.evalH ?_; simp [mF, gFault, *])
     | fail)
    refine WK.ghost (Ghost.own 2 900 1 rfl rfl) ?_
    refine WK.retT2 Tryz.func35 ?_ ?_ ?_ <;> simp (maxDischargeDepth := 120) [Tryz.results35, byL_nil]
  | none =>
  rw [hc] at ck
  have c1 := nput_c [] 1 2 Sz2 (by simp)
  have c2 := nput_c [0#8, 1#8] 0 2 Sz2 (by simp)
  rw [show putN [] 1 2 = [0#8, 1#8] from rfl] at c1
  rw [show putN [0#8, 1#8] 0 2 = mHd from rfl] at c2
  unfold byS at c1 c2
  rw [byL_nil] at c1
  simp only [List.length_cons, List.length_nil, Nat.zero_add, Nat.reduceAdd, show mHd.length = 4 from rfl] at c1 c2
  have hB2 : (byL [0#8, 1#8]).take 2 = byL [0#8, 1#8] := rfl
  have hA0 : mAcc [] = mHd := by unfold mAcc; simp [rwFlat]
  have hA4 : mHd.length = 4 := rfl
  refine FnT.intro Tryz.func35 rfl rfl fun G w => ?_
  repeat' (first
   | refine WK.seq ?_
   | refine WK.block ?_
   | refine WK.skip ?_
   | refine WK.condF rfl ?_
   | (refine Hid.h hQ _ _ ?_; clear hQ hA)
   | (refine WK.regH Tryz.ntmps35 (by kernel_rfl) ?_; intro A hA Q hQ; simp [mF, gFault, *])
   | (refine RunQ.callO 900 rfl rfl rfl rfl rfl ?_ (c1) ?_ ?_ ?_ ?_; (focus (simp (maxDischargeDepth := 120) [mF, gFault, *]; done)); (focus (simp [mF, gFault, *]; done)); (focus (simp [mF, gFault, *]; done)); (focus (simp [mF, gFault, *]; done)); refine RunQ.evalH ?_; simp [mF, gFault, *])
   | (refine RunQ.callOz 901 12 1 rfl rfl rfl rfl rfl rfl rfl ?_ (c2) ?_ ?_ (by simp) (by decide) ?_; (focus (simp (maxDischargeDepth := 120) [mF, gFault, *]; done)); (focus (simp [mF, gFault, *]; done)); (focus (simp [mF, gFault, *]; done)); refine RunQ.evalH ?_; simp [mF, gFault, *])
   | (refine RunQ.call rfl rfl rfl rfl rfl ?_ (ck) ?_ ?_; (focus (simp (maxDischargeDepth := 120) [mF, gFault, *]; done)); (focus (simp [mF, gFault, *]; done)); refine RunQ.evalH ?_; simp [mF, gFault, *])
   | fail)
  refine WK.loopI (fun n => if n = 1 then 901 else n) (fun i : Nat => (⟨(upd (upd (upd (upd J 4 (.msl 1 0 (mAcc (l.take i)).length)) 14 (.sl false l.length (oxmL l))) 15 (.int .i64 l.length)) 16 (.int .i64 i)), (upd B0 1 (.buf 1 (byL (mAcc (l.take i))))), 0⟩ : St)) (fun i => i ≤ l.length ∧ ∀ j, j < i → Oxm.right (nth l j) = true) (fun i => l.length - i) (0) (by repeat (first | exact TmW.nil | refine TmW.upd ?_ (by simp (maxDischargeDepth := 120) [hA0, hA4]))) (by repeat (first | exact BxW.nil | refine BxW.upd ?_ (by simp (maxDischargeDepth := 120) [hA0, hA4]))) (by first | exact InjW.id | exact InjW.nil | exact InjW.one | exact InjW.two (by simp) | exact InjW.three (by simp) (by simp) (by simp)) (⟨by omega, by simp⟩) (fun i hi IH => ?_)
  clear c1 c2 hB2 hA0 hA4 ck
  have hal := mEnc_len1 (l.take i)
  have hfl := oFlat_len (l.take i)
  have htl : (l.take i).length ≤ i := by rw [List.length_take]; omega
  have hil := hi.1
  by_cases h1 : i < l.length
  · have g4 := oxm_sub l i h1
    have g3 : 6 ≤ l.length * 6 - i * 6 := by omega
    have g6 : IntKind.i64.wrap ((i : Int) + 1) = i + 1 := wrap_i64 (by omega) (by omega)
    have p := oenc_c (nth l i)
    have hs := mAcc_succ h1
    have hw : Oxm.right (nth l i) = false → mEnc l = ([], 1) := mEnc_wrong h1
    have hr : Oxm.right (nth l i) = true → ∀ j, j < i + 1 → Oxm.right (nth l j) = true := fun hr j hj => by
      by_cases h7 : j = i
      · subst h7; exact hr
      · exact hi.2 j (by omega)
    have hol : (oBytes (nth l i)).length ≤ 36 := oEnc_len _
    have hoe : Oxm.right (nth l i) = true → oEnc (nth l i) = (oBytes (nth l i), 0) := oBytes_of
    have hob : Oxm.right (nth l i) = false → oEnc (nth l i) = ([], 1) := oEnc_wrong
    obtain ⟨o, ho⟩ : ∃ o, nth l i = o := ⟨_, rfl⟩
    rw [ho] at g4 p hs hw hr hol hoe hob
    obtain ⟨F, hF⟩ : ∃ F, mAcc (l.take i) = F := ⟨_, rfl⟩
    rw [hF] at hal hs ⊢
    unfold Oxm.enc at g4 p
    clear ho hF hi
    cases hrt : Oxm.right o
    · rw [hw hrt]
      rw [hob hrt] at p
      unfold byS at p
      clear hw hr hoe hob hs hrt
      repeat' (first
       | refine WK.seq ?_
       | refine WK.block ?_
       | refine WK.skip ?_
       | refine WK.condT rfl ?_
       | (refine Hid.h hQ _ _ ?_; clear hQ hA)
       | (refine WK.regH Tryz.ntmps35 (by kernel_rfl) ?_; intro A hA Q hQ; simp [bne, *])
       | (refine RunQ.call rfl rfl rfl rfl rfl ?_ (p) ?_ ?_; (focus (simp (maxDischargeDepth := 120) [bne, *]; done)); (focus (simp [bne, *]; done)); refine RunQ.evalH ?_; simp [bne, *])
       | fail)
      refine WK.ghost (Ghost.own 2 902 1 rfl rfl) ?_
      refine WK.retT2 Tryz.func35 ?_ ?_ ?_ <;> simp (maxDischargeDepth := 120) [Tryz.results35, byL_nil]
    · rw [hoe hrt] at p
      have hr2 := hr hrt
      obtain ⟨B, hB⟩ : ∃ B, oBytes o = B := ⟨_, rfl⟩
      rw [hB] at p hs hol
      have hs3 : byL F ++ byL B = byL (mAcc (l.take (i + 1))) := by rw [hs, byL_app]
      have hs4 : (mAcc (l.take (i + 1))).length = F.length + B.length := by rw [hs, List.length_append]
      have hbd : F.length + B.length ≤ 140737488355328 := by omega
      have hfu := by_full B B.length rfl
      unfold byS at p
      clear hw hr hoe hob hs hrt hB hal hfl
      repeat' (first
       | refine WK.seq ?_
       | refine WK.block ?_
       | refine WK.inBlock ?_
       | refine WK.skip ?_
       | refine WK.condT rfl ?_
       | refine WK.condF rfl ?_
       | (refine Hid.h hQ _ _ ?_; clear hQ hA)
       | (refine WK.regH Tryz.ntmps35 (by kernel_rfl) ?_; intro A hA Q hQ; simp [bne, *])
       | (refine RunQ.append 902 appByte rfl rfl rfl rfl rfl rfl rfl rfl rfl ?_ ?_ ?_ ?_ ?_; (focus (first | omega | (simp [bne, *]; done); done)); (focus (first | omega | (simp [bne, *]; done); done)); (focus (first | omega | (simp [bne, *]; done); done)); (focus (first | omega | (simp [bne, *]; done); done)); refine RunQ.evalH ?_; simp [bne, *])
       | (refine RunQ.call rfl rfl rfl rfl rfl ?_ (p) ?_ ?_; (focus (simp (maxDischargeDepth := 120) [bne, *]; done)); (focus (simp [bne, *]; done)); refine RunQ.evalH ?_; simp [bne, *])
       | fail)
      refine WK.next (fun n => if n = 1 then 902 else n) (IH (i + 1) (⟨by omega, hr2⟩) (by first | omega | (dsimp only; omega))) (by repeat (first | exact TmW.nil | refine TmW.upd ?_ (by simp (maxDischargeDepth := 120) [hs3, hs4]))) (by repeat (first | exact BxW.nil | refine BxW.upd ?_ (by simp (maxDischargeDepth := 120) [hs3, hs4]))) (by first | exact InjW.id | exact InjW.nil | exact InjW.one | exact InjW.two (by simp) | exact InjW.three (by simp) (by simp) (by simp))
  · have hT : l.take i = l := List.take_of_length_le (by omega)
    have hfit := mFit_of hc (fun j hj => hi.2 j (by omega))
    have hdef := mEnc_fit hfit
    have hwl := mWhole_len l
    rw [hT] at hal hfl ⊢
    have hX : mAcc l = mHd ++ rwFlat oBytes l := rfl
    have hW : mWhole l = beN 1 2 ++ (beN (4 + (rwFlat oBytes l).length : Nat) 2 ++ (rwFlat oBytes l ++ List.replicate (mPad (4 + (rwFlat oBytes l).length) - (4 + (rwFlat oBytes l).length)) 0#8)) := rfl
    obtain ⟨F, hF⟩ : ∃ F, rwFlat oBytes l = F := ⟨_, rfl⟩
    rw [hF] at hdef hal hfl hX hwl hW
    by_cases h6 : F.length ≤ 1000
    · rw [if_pos h6] at hdef
      have hp := mPad_ge (4 + F.length)
      have hm := mpad_c (4 + F.length) (by omega)
      have q := nputP_c [] ((4 + F.length : Nat) : Int) 2 Sz2 (by simp)
      rw [putN_beN (numOk2 (by omega)), List.nil_append] at q
      have hsp := splice_len F ((4 + F.length : Nat) : Int)
      rw [← hX] at hsp
      have hYl : (beN 1 2 ++ (beN ((4 + F.length : Nat) : Int) 2 ++ F)).length = 4 + F.length := by simp [beN_len]; omega
      have hWY : mWhole l = (beN 1 2 ++ (beN ((4 + F.length : Nat) : Int) 2 ++ F)) ++ List.replicate (mPad (4 + F.length) - (4 + F.length)) 0#8 := by rw [hW]; simp only [List.append_assoc]
      have hlast : byL (beN 1 2 ++ (beN ((4 + F.length : Nat) : Int) 2 ++ F)) ++ List.replicate (mPad (4 + F.length) - (4 + F.length)) (AV.int .u8 0) = byL (mWhole l) := by rw [hWY, byL_rep, ← byL_app]
      obtain ⟨Y, hY⟩ : ∃ Y, beN 1 2 ++ (beN ((4 + F.length : Nat) : Int) 2 ++ F) = Y := ⟨_, rfl⟩
      obtain ⟨B, hB⟩ : ∃ B, beN ((4 + F.length : Nat) : Int) 2 = B := ⟨_, rfl⟩
      have hBl : B.length = 2 := by rw [← hB, beN_len]
      rw [hY] at hsp hYl hlast
      rw [hB] at q hsp
      obtain ⟨Z, hZ⟩ : ∃ Z, mWhole l = Z := ⟨_, rfl⟩
      rw [hZ] at hlast hdef hwl
      obtain ⟨A, hA⟩ : ∃ A, mAcc l = A := ⟨_, rfl⟩
      rw [hA] at hal hsp ⊢
      obtain ⟨m, hmm⟩ : ∃ m, 4 + F.length = m := ⟨_, rfl⟩
      rw [hmm] at hal hp hm q hwl hYl hlast
      rw [hdef]
      simp only
      rw [hal, hwl]
      unfold byS at q
      rw [hBl, byL_nil] at q
      have hm4 : m ≤ 1004 := by omega
      have hm2 : 2 ≤ m := by omega
      have hm2' : (2 : Int) ≤ m := by omega
      have hm3 : ¬ (1004 : Int) < m := by omega
      have hm5 : 2 < m := by omega
      have hm8 : 2 ≤ m - 2 := by omega
      have hAb : (byL A).length = m := by rw [byL_len, hal]
      have hBb : (byL B).length = 2 := by rw [byL_len, hBl]
      unfold splice at hsp
      rw [hBb, List.append_assoc] at hsp
      simp only [Nat.reduceAdd] at hsp
      have w1 : IntKind.i64.wrap ((mPad m : Int) - m) = ((mPad m - m : Nat) : Int) := by rw [wrap_i64 (by omega) (by omega)]; omega
      have hm6 : m + (mPad m - m) = mPad m := by omega
      have hm7 : mPad m ≤ 140737488355328 := by omega
      clear hdef hW hX hWY hF hY hB hZ hA hmm hi hc hfit hT hfl hil
      repeat' (first
       | refine WK.seq ?_
       | refine WK.skip ?_
       | refine WK.exit rfl ?_
       | refine WK.condF rfl ?_
       | (refine Hid.h hQ _ _ ?_; clear hQ hA)
       | (refine WK.regH (id := 0) Tryz.ntmps35 (by kernel_rfl) ?_; intro A hA Q hQ; simp [*])
       | (refine WK.regH (id := 1) Tryz.ntmps35 (by kernel_rfl) ?_; intro A hA Q hQ; simp [*])
       | (refine WK.regH (id := 2) Tryz.ntmps35 (by kernel_rfl) ?_; intro A hA Q hQ; simp [*])
       | (refine WK.regH (id := 3) Tryz.ntmps35 (by kernel_rfl) ?_; intro A hA Q hQ; simp [*])
       | (refine WK.regH (id := 4) Tryz.ntmps35 (by kernel_rfl) ?_; intro A hA Q hQ; simp [*])
       | (refine WK.regH (id := 5) Tryz.ntmps35 (by kernel_rfl) ?_; intro A hA Q hQ; simp [*])
       | (refine WK.regH (id := 6) Tryz.ntmps35 (by kernel_rfl) ?_; intro A hA Q hQ; simp [*])
       | (refine WK.regH (id := 7) Tryz.ntmps35 (by kernel_rfl) ?_; intro A hA Q hQ; simp [*])
       | (refine WK.regH (id := 8) Tryz.ntmps35 (by kernel_rfl) ?_; intro A hA Q hQ; simp [*])
       | (refine WK.regH (id := 9) Tryz.ntmps35 (by kernel_rfl) ?_; intro A hA Q hQ; simp [*])
       | (refine WK.regH (id := 10) Tryz.ntmps35 (by kernel_rfl) ?_; intro A hA Q hQ; simp [*])
       | (refine WK.regH (id := 11) Tryz.ntmps35 (by kernel_rfl) ?_; intro A hA Q hQ; simp [*])
       | (refine WK.regH (id := 12) Tryz.ntmps35 (by kernel_rfl) ?_; intro A hA Q hQ; simp [*])
       | (refine WK.regH (id := 13) Tryz.ntmps35 (by kernel_rfl) ?_; intro A hA Q hQ; simp [*])
       | fail)
      repeat' (first
       | refine WK.seq ?_
       | (refine Hid.h hQ _ _ ?_; clear hQ hA)
       | (refine WK.regH Tryz.ntmps35 (by kernel_rfl) ?_; intro A hA Q hQ; simp [*])
       | (refine WK.regX (by kernel_rfl) Tryz.ntmps35 (by kernel_rfl) ?_; intro A hA Q hQ; simp [*])
       | (refine Hid.h hQ _ _ _ (by decide +kernel) ?_; clear hQ hA)
       | (refine RunX.slOwn (a := 2) (b := m) appByte rfl rfl rfl rfl ?_ ?_ ?_; (focus (simp [boundsA, intA, *]; done)); (focus (first | exact .inr rfl | (left; omega); done)); refine RunX.evalY ?_; simp [*])
       | (refine RunX.copy appByte rfl rfl rfl rfl rfl rfl rfl rfl ?_ ?_ ?_ ?_ ?_; (focus (first | omega | (simp [*]; done); done)); (focus (first | omega | (simp [*]; done); done)); (focus (first | omega | (simp [*]; done); done)); (focus (first | omega | (simp [*]; done); done)); refine RunX.evalY ?_; simp [*])
       | (refine RunQ.appendZ (m := (mPad m - m)) (kk := .i64) (zv := .int .u8 0) 905 appByte rfl rfl rfl rfl (by simp) (by simp) rfl ?_ rfl rfl rfl ?_ ?_ ?_ ?_; (focus (simp (maxDischargeDepth := 120) [*]; done)); (focus (first | omega | (simp [*]; done); done)); (focus (first | omega | (simp [*]; done); done)); (focus (simp [*]; done)); refine RunQ.evalH ?_; simp [*])
       | (refine RunQ.call rfl rfl rfl rfl rfl ?_ (hm) ?_ ?_; (focus (simp (maxDischargeDepth := 120) [*]; done)); (focus (simp [*]; done)); refine RunQ.evalH ?_; simp [*])
       | (refine RunX.call rfl rfl rfl rfl ?_ (q) ?_ ?_; (focus (simp (maxDischargeDepth := 120) [*]; done)); (focus (simp [*]; done)); refine RunX.evalY ?_; simp [*])
       | (refine WK.retT2 Tryz.func35 ?_ ?_ ?_ <;> simp (maxDischargeDepth := 120) [Tryz.results35, *])
       | fail)
    · rw [if_neg h6] at hdef
      rw [hdef]
      have hm3 : (1004 : Int) < (mAcc l).length := by omega
      obtain ⟨A, hA⟩ : ∃ A, mAcc l = A := ⟨_, rfl⟩
      rw [hA] at hm3 ⊢
      clear hdef hW hX hF hi hc hfit hT hfl hil hal hA
      repeat' (first
       | refine WK.seq ?_
       | refine WK.exit rfl ?_
       | refine WK.condT rfl ?_
       | refine WK.condF rfl ?_
       | (refine Hid.h hQ _ _ ?_; clear hQ hA)
       | (refine WK.regH Tryz.ntmps35 (by kernel_rfl) ?_; intro A hA Q hQ; simp [*])
       | fail)
      refine WK.ghost (Ghost.own 2 902 1 rfl rfl) ?_
      refine WK.retT2 Tryz.func35 ?_ ?_ ?_ <;> simp (maxDischargeDepth := 120) [Tryz.results35, byL_nil]
end Go.Proofs.YtiifjagnhnchoaaGreat
end

section
set_option linter.unusedVariables false
set_option linter.unusedSimpArgs false
namespace Go.Proofs.YtiifjagnhnchoaaGreat
open Go Go.AI Go.Proofs
attribute [local irreducible] FnP FnO FnB FnT FnSeq WK RunQ RunQW RunX RunXW

def mVal (b : List (BitVec 8)) : Nat := valN ((b.drop 2).take 2)
def mKind (b : List (BitVec 8)) : Nat := valN ((b.drop 0).take 2)
def mHead (b : List (BitVec 8)) : Nat × Option Int :=
  if b.length < 4 then (0, some 1) else if mVal b < 4 ∨ b.length < mPad (mVal b) then (0, some 1) else if ¬ mKind b = 1 then (0, some 0) else if 1004 < mVal b then (0, some 1) else (mVal b, none)
def mBody (b : List (BitVec 8)) (n : Nat) : List Oxm × Nat × Option (Int × Int) :=
  match (rwDec oRd ((b.drop 4).take (n - 4))).2 with
  | some c => ([], 0, some c)
  | none => match mCheck (rwDec oRd ((b.drop 4).take (n - 4))).1 with
    | some c => ([], 0, some (4, c))
    | none => if allZ ((b.drop n).take (mPad n - n)) = false then ([], 0, some (4, 1)) else ((rwDec oRd ((b.drop 4).take (n - 4))).1, mPad n, none)
theorem mDec_eq (b : List (BitVec 8)) : mDec b = match (mHead b).2 with | some c => ([], 0, some (4, c)) | none => mBody b (mHead b).1 := by
  unfold mDec mHead
  by_cases h1 : b.length < 4
  · rw [if_pos h1, if_pos h1]
  rw [if_neg h1, if_neg h1]
  show (if mVal b < 4 ∨ b.length < mPad (mVal b) then _ else if ¬ mKind b = 1 then _ else if 1004 < mVal b then _ else mBody b (mVal b)) = _
  by_cases h2 : mVal b < 4 ∨ b.length < mPad (mVal b)
  · rw [if_pos h2, if_pos h2]
  rw [if_neg h2, if_neg h2]
  by_cases h3 : ¬ mKind b = 1
  · rw [if_pos h3, if_pos h3]
  rw [if_neg h3, if_neg h3]
  by_cases h4 : 1004 < mVal b
  · rw [if_pos h4, if_pos h4]
  · rw [if_neg h4, if_neg h4]
theorem mHead_bad {b : List (BitVec 8)} {c : Int} (h : (mHead b).2 = some c) : (mHead b).1 = 0 := by
  unfold mHead at *
  split
  · rfl
  split
  · rfl
  split
  · rfl
  split
  · rfl
  · rename_i h1 h2 h3 h4
    rw [if_neg h1, if_neg h2, if_neg h3, if_neg h4] at h; cases h
theorem mHead_good {b : List (BitVec 8)} (h : (mHead b).2 = none) : 4 ≤ (mHead b).1 ∧ (mHead b).1 ≤ 1004 ∧ mPad (mHead b).1 ≤ b.length := by
  unfold mHead at *
  split at h
  · cases h
  rename_i h1
  rw [if_neg h1]
  split at h
  · cases h
  rename_i h2
  rw [if_neg h2]
  split at h
  · cases h
  rename_i h3
  rw [if_neg h3]
  split at h
  · cases h
  rename_i h4
  rw [if_neg h4]
  simp only
  omega
set_option maxHeartbeats 4000000 in
theorem mhead_c (b : List (BitVec 8)) (hb : b.length ≤ 1000000) : FnP Tryz.prog 49 [byS b] (.tup [.int .i64 (mHead b).1, .agg (mF (mHead b).2)]) := by
  have g0 := nget_c b 0 2 Sz2 (by omega) (by omega)
  have g2 := nget_c b 2 2 Sz2 (by omega) (by omega)
  have b1 := mbad_c 1
  have b0 := mbad_c 0
  by_cases h1 : b.length < 4
  · have e : mHead b = (0, some 1) := by unfold mHead; rw [if_pos h1]
    have e2 : getN b 2 2 = (0, 3) := by unfold getN; rw [if_neg (by omega)]
    rw [e]
    rw [e2] at g2
    obtain ⟨q0, hq0⟩ : ∃ q, getN b 0 2 = q := ⟨_, rfl⟩
    rw [hq0] at g0
    unfold byS at *
    clear e e2 hq0 b0
    refine FnP.intro Tryz.func49 rfl rfl fun G w => ?_
    repeat' (first
     | refine WK.seq ?_
     | refine WK.block ?_
     | refine WK.condT rfl ?_
     | (refine Hid.h hQ _ _ ?_; clear hQ hA)
     | (refine WK.regH Tryz.ntmps49 (by kernel_rfl) ?_; intro A hA Q hQ; simp [mF, gFault, bne, *])
     | (refine RunQ.gd rfl (by rw [hA.h]; rfl) ?_; simp [mF, gFault, bne, *])
     | (refine RunQ.call rfl rfl rfl rfl rfl ?_ (g0) ?_ ?_; (focus (simp (maxDischargeDepth := 120) [mF, gFault, bne, *]; done)); (focus (simp [mF, gFault, bne, *]; done)); refine RunQ.evalH ?_; simp [mF, gFault, bne, *])
     | (refine RunQ.call rfl rfl rfl rfl rfl ?_ (g2) ?_ ?_; (focus (simp (maxDischargeDepth := 120) [mF, gFault, bne, *]; done)); (focus (simp [mF, gFault, bne, *]; done)); refine RunQ.evalH ?_; simp [mF, gFault, bne, *])
     | (refine RunQ.call rfl rfl rfl rfl rfl ?_ (b1) ?_ ?_; (focus (simp (maxDischargeDepth := 120) [mF, gFault, bne, *]; done)); (focus (simp [mF, gFault, bne, *]; done)); refine RunQ.evalH ?_; simp [mF, gFault, bne, *])
     | (refine WK.ret Tryz.func49 ?_ ?_ <;> simp (maxDischargeDepth := 120) [Tryz.results49, mF, gFault, bne, *])
     | fail)
  have e0 : getN b 0 2 = (((mKind b : Nat) : Int), 0) := getN_val (by omega)
  have e2 : getN b 2 2 = (((mVal b : Nat) : Int), 0) := getN_val (by omega)
  have hv : mVal b < 65536 := valN_lt 2 _ (by rw [List.length_take, List.length_drop]; omega)
  have hp := mpad_c (mVal b) (by omega)
  have hd : mHead b = if mVal b < 4 ∨ b.length < mPad (mVal b) then (0, some 1) else if ¬ mKind b = 1 then (0, some 0) else if 1004 < mVal b then (0, some 1) else (mVal b, none) := by unfold mHead; rw [if_neg h1]
  rw [e0] at g0
  rw [e2] at g2
  obtain ⟨v, hvv⟩ : ∃ v, mVal b = v := ⟨_, rfl⟩
  obtain ⟨k, hk⟩ : ∃ v, mKind b = v := ⟨_, rfl⟩
  rw [hvv] at g2 hv hp hd
  rw [hk] at g0 hd
  clear hvv hk e0 e2
  unfold byS at *
  by_cases h2 : v < 4
  · have h2' : (v : Int) < 4 := by omega
    rw [if_pos (.inl h2)] at hd
    rw [hd]
    clear hd b0 hp
    refine FnP.intro Tryz.func49 rfl rfl fun G w => ?_
    repeat' (first
     | refine WK.seq ?_
     | refine WK.block ?_
     | refine WK.condT rfl ?_
     | (refine Hid.h hQ _ _ ?_; clear hQ hA)
     | (refine WK.regH Tryz.ntmps49 (by kernel_rfl) ?_; intro A hA Q hQ; simp [mF, gFault, bne, *])
     | (refine RunQ.gd rfl (by rw [hA.h]; rfl) ?_; simp [mF, gFault, bne, *])
     | (refine RunQ.call rfl rfl rfl rfl rfl ?_ (g0) ?_ ?_; (focus (simp (maxDischargeDepth := 120) [mF, gFault, bne, *]; done)); (focus (simp [mF, gFault, bne, *]; done)); refine RunQ.evalH ?_; simp [mF, gFault, bne, *])
     | (refine RunQ.call rfl rfl rfl rfl rfl ?_ (g2) ?_ ?_; (focus (simp (maxDischargeDepth := 120) [mF, gFault, bne, *]; done)); (focus (simp [mF, gFault, bne, *]; done)); refine RunQ.evalH ?_; simp [mF, gFault, bne, *])
     | (refine RunQ.call rfl rfl rfl rfl rfl ?_ (b1) ?_ ?_; (focus (simp (maxDischargeDepth := 120) [mF, gFault, bne, *]; done)); (focus (simp [mF, gFault, bne, *]; done)); refine RunQ.evalH ?_; simp [mF, gFault, bne, *])
     | (refine WK.ret Tryz.func49 ?_ ?_ <;> simp (maxDischargeDepth := 120) [Tryz.results49, mF, gFault, bne, *])
     | fail)
  have h2' : ¬ (v : Int) < 4 := by omega
  by_cases h3 : b.length < mPad v
  · have h3' : (b.length : Int) < (mPad v : Nat) := by omega
    rw [if_pos (.inr h3)] at hd
    rw [hd]
    clear hd b0
    refine FnP.intro Tryz.func49 rfl rfl fun G w => ?_
    repeat' (first
     | refine WK.seq ?_
     | refine WK.block ?_
     | refine WK.condT rfl ?_
     | (refine Hid.h hQ _ _ ?_; clear hQ hA)
     | (refine WK.regH Tryz.ntmps49 (by kernel_rfl) ?_; intro A hA Q hQ; simp [mF, gFault, bne, *])
     | (refine RunQ.gd rfl (by rw [hA.h]; rfl) ?_; simp [mF, gFault, bne, *])
     | (refine RunQ.call rfl rfl rfl rfl rfl ?_ (g0) ?_ ?_; (focus (simp (maxDischargeDepth := 120) [mF, gFault, bne, *]; done)); (focus (simp [mF, gFault, bne, *]; done)); refine RunQ.evalH ?_; simp [mF, gFault, bne, *])
     | (refine RunQ.call rfl rfl rfl rfl rfl ?_ (g2) ?_ ?_; (focus (simp (maxDischargeDepth := 120) [mF, gFault, bne, *]; done)); (focus (simp [mF, gFault, bne, *]; done)); refine RunQ.evalH ?_; simp [mF, gFault, bne, *])
     | (refine RunQ.call rfl rfl rfl rfl rfl ?_ (b1) ?_ ?_; (focus (simp (maxDischargeDepth := 120) [mF, gFault, bne, *]; done)); (focus (simp [mF, gFault, bne, *]; done)); refine RunQ.evalH ?_; simp [mF, gFault, bne, *])
     | (refine RunQW.call rfl rfl rfl rfl ?_ (hp) ?_ ?_; (focus (simp (maxDischargeDepth := 120) [mF, gFault, bne, *]; done)); (focus (simp [mF, gFault, bne, *]; done)); refine RunQ.evalH ?_; simp [mF, gFault, bne, *])
     | (refine WK.ret Tryz.func49 ?_ ?_ <;> simp (maxDischargeDepth := 120) [Tryz.results49, mF, gFault, bne, *])
     | fail)
  have h3' : ¬ (b.length : Int) < (mPad v : Nat) := by omega
  rw [if_neg (by omega)] at hd
  by_cases h4 : k = 1
  case neg =>
    have j4 : ((k : Int) == 1) = false := by rw [beq_eq_false_iff_ne]; omega
    rw [if_pos h4] at hd
    rw [hd]
    clear hd b1
    refine FnP.intro Tryz.func49 rfl rfl fun G w => ?_
    repeat' (first
     | refine WK.seq ?_
     | refine WK.block ?_
     | refine WK.condT rfl ?_
     | refine WK.condF rfl ?_
     | (refine Hid.h hQ _ _ ?_; clear hQ hA)
     | (refine WK.regH Tryz.ntmps49 (by kernel_rfl) ?_; intro A hA Q hQ; simp [mF, gFault, bne, *])
     | (refine RunQ.gd rfl (by rw [hA.h]; rfl) ?_; simp [mF, gFault, bne, *])
     | (refine RunQ.call rfl rfl rfl rfl rfl ?_ (g0) ?_ ?_; (focus (simp (maxDischargeDepth := 120) [mF, gFault, bne, *]; done)); (focus (simp [mF, gFault, bne, *]; done)); refine RunQ.evalH ?_; simp [mF, gFault, bne, *])
     | (refine RunQ.call rfl rfl rfl rfl rfl ?_ (g2) ?_ ?_; (focus (simp (maxDischargeDepth := 120) [mF, gFault, bne, *]; done)); (focus (simp [mF, gFault, bne, *]; done)); refine RunQ.evalH ?_; simp [mF, gFault, bne, *])
     | (refine RunQ.call rfl rfl rfl rfl rfl ?_ (b0) ?_ ?_; (focus (simp (maxDischargeDepth := 120) [mF, gFault, bne, *]; done)); (focus (simp [mF, gFault, bne, *]; done)); refine RunQ.evalH ?_; simp [mF, gFault, bne, *])
     | (refine RunQW.call rfl rfl rfl rfl ?_ (hp) ?_ ?_; (focus (simp (maxDischargeDepth := 120) [mF, gFault, bne, *]; done)); (focus (simp [mF, gFault, bne, *]; done)); refine RunQ.evalH ?_; simp [mF, gFault, bne, *])
     | (refine WK.ret Tryz.func49 ?_ ?_ <;> simp (maxDischargeDepth := 120) [Tryz.results49, mF, gFault, bne, *])
     | fail)
  have j4 : ((k : Int) == 1) = true := by rw [beq_iff_eq]; omega
  rw [if_neg (by simpa using h4)] at hd
  clear h4
  by_cases h5 : 1004 < v
  · have h5' : (1004 : Int) < v := by omega
    rw [if_pos h5] at hd
    rw [hd]
    clear hd b0
    refine FnP.intro Tryz.func49 rfl rfl fun G w => ?_
    repeat' (first
     | refine WK.seq ?_
     | refine WK.block ?_
     | refine WK.condT rfl ?_
     | refine WK.condF rfl ?_
     | (refine Hid.h hQ _ _ ?_; clear hQ hA)
     | (refine WK.regH Tryz.ntmps49 (by kernel_rfl) ?_; intro A hA Q hQ; simp [mF, gFault, bne, *])
     | (refine RunQ.gd rfl (by rw [hA.h]; rfl) ?_; simp [mF, gFault, bne, *])
     | (refine RunQ.call rfl rfl rfl rfl rfl ?_ (g0) ?_ ?_; (focus (simp (maxDischargeDepth := 120) [mF, gFault, bne, *]; done)); (focus (simp [mF, gFault, bne, *]; done)); refine RunQ.evalH ?_; simp [mF, gFault, bne, *])
     | (refine RunQ.call rfl rfl rfl rfl rfl ?_ (g2) ?_ ?_; (focus (simp (maxDischargeDepth := 120) [mF, gFault, bne, *]; done)); (focus (simp [mF, gFault, bne, *]; done)); refine RunQ.evalH ?_; simp [mF, gFault, bne, *])
     | (refine RunQ.call rfl rfl rfl rfl rfl ?_ (b1) ?_ ?_; (focus (simp (maxDischargeDepth := 120) [mF, gFault, bne, *]; done)); (focus (simp [mF, gFault, bne, *]; done)); refine RunQ.evalH ?_; simp [mF, gFault, bne, *])
     | (refine RunQW.call rfl rfl rfl rfl ?_ (hp) ?_ ?_; (focus (simp (maxDischargeDepth := 120) [mF, gFault, bne, *]; done)); (focus (simp [mF, gFault, bne, *]; done)); refine RunQ.evalH ?_; simp [mF, gFault, bne, *])
     | (refine WK.ret Tryz.func49 ?_ ?_ <;> simp (maxDischargeDepth := 120) [Tryz.results49, mF, gFault, bne, *])
     | fail)
  · have h5' : ¬ (1004 : Int) < v := by omega
    rw [if_neg h5] at hd
    rw [hd]
    clear hd b0 b1
    refine FnP.intro Tryz.func49 rfl rfl fun G w => ?_
    repeat' (first
     | refine WK.seq ?_
     | refine WK.block ?_
     | refine WK.inBlock ?_
     | refine WK.skip ?_
     | refine WK.condF rfl ?_
     | (refine Hid.h hQ _ _ ?_; clear hQ hA)
     | (refine WK.regH Tryz.ntmps49 (by kernel_rfl) ?_; intro A hA Q hQ; simp [mF, gFault, bne, *])
     | (refine RunQ.gd rfl (by rw [hA.h]; rfl) ?_; simp [mF, gFault, bne, *])
     | (refine RunQ.call rfl rfl rfl rfl rfl ?_ (g0) ?_ ?_; (focus (simp (maxDischargeDepth := 120) [mF, gFault, bne, *]; done)); (focus (simp [mF, gFault, bne, *]; done)); refine RunQ.evalH ?_; simp [mF, gFault, bne, *])
     | (refine RunQ.call rfl rfl rfl rfl rfl ?_ (g2) ?_ ?_; (focus (simp (maxDischargeDepth := 120) [mF, gFault, bne, *]; done)); (focus (simp [mF, gFault, bne, *]; done)); refine RunQ.evalH ?_; simp [mF, gFault, bne, *])
     | (refine RunQW.call rfl rfl rfl rfl ?_ (hp) ?_ ?_; (focus (simp (maxDischargeDepth := 120) [mF, gFault, bne, *]; done)); (focus (simp [mF, gFault, bne, *]; done)); refine RunQ.evalH ?_; simp [mF, gFault, bne, *])
     | (refine WK.ret Tryz.func49 ?_ ?_ <;> simp (maxDischargeDepth := 120) [Tryz.results49, mF, gFault, bne, *])
     | fail)
theorem oRd_keeps : RdKeeps oRd 4 := fun b y n h => by
  obtain ⟨_, k, hk, h4, hl, _⟩ := oRd_back h
  exact ⟨k, hk, h4, hl⟩
theorem oRd_eq {b : List (BitVec 8)} {o : Oxm} {n c : Int} (h : oDec b = (o, n, c)) : oRd b = (o, n, if c = 0 then none else some (4, c)) := by unfold oRd; rw [h]
theorem decode1_c (x : BitVec 8) : FnP Tryz.prog 54 [.int .u8 (bI x)] (.bool (!(x == 0#8))) := by
  have e := bI_zero x
  refine FnP.intro Tryz.func54 rfl rfl fun G w => ?_
  repeat' (first
   | refine WK.seq ?_
   | (refine Hid.h hQ _ _ ?_; clear hQ hA)
   | (refine WK.regH Tryz.ntmps54 (by kernel_rfl) ?_; intro A hA Q hQ; simp [bne, *])
   | (refine WK.ret Tryz.func54 ?_ ?_ <;> simp (maxDischargeDepth := 120) [Tryz.results54, bne, *])
   | fail)
theorem app_oxm : AppOk Tryz.prog 25 44 6 48 := ⟨by simp, by simp, by simp, by simp, by simp, by simp, by omega, by omega⟩
theorem oxmL_snoc (l : List Oxm) (x : Oxm) : oxmL l ++ x.enc = oxmL (l ++ [x]) := by unfold oxmL; rw [List.flatMap_append]; simp
set_option maxHeartbeats 4000000 in
theorem mdec_c (b : List (BitVec 8)) (hb : b.length ≤ 1000000) : FnP Tryz.prog 23 [byS b] (.tup [oxmS (mDec b).1, .int .i64 (mDec b).2.1, .agg (gFault (mDec b).2.2)]) := by
  have hh := mhead_c b hb
  have hde := mDec_eq b
  unfold oxmS
  cases hq : (mHead b).2 with
  | some c =>
    have h0 := mHead_bad hq
    rw [hq] at hh hde
    rw [h0] at hh
    rw [hde]
    unfold byS at *
    clear hde hq h0
    refine FnP.intro Tryz.func23 rfl rfl fun G w => ?_
    repeat' (first
     | refine WK.seq ?_
     | refine WK.condT rfl ?_
     | (refine Hid.h hQ _ _ ?_; clear hQ hA)
     | (refine WK.regH Tryz.ntmps23 (by kernel_rfl) ?_; intro A hA Q hQ; simp [mF, gFault, oxmL_nil, *])
     | (refine WK.regX (by kernel_rfl) Tryz.ntmps23 (by kernel_rfl) ?_; intro A hA Q hQ; simp [mF, gFault, oxmL_nil, *])
     | (refine Hid.h hQ _ _ _ (by decide +kernel) ?_; clear hQ hA)
     | (refine RunQ.call rfl rfl rfl rfl rfl ?_ (hh) ?_ ?_; (focus (simp (maxDischargeDepth := 120) [mF, gFault, oxmL_nil, *]; done)); (focus (simp [mF, gFault, oxmL_nil, *]; done)); refine RunQ.evalH ?_; simp [mF, gFault, oxmL_nil, *])
     | (refine WK.ret Tryz.func23 ?_ ?_ <;> simp (maxDischargeDepth := 120) [Tryz.results23, mF, gFault, oxmL_nil, *])
     | fail)
  | none =>
  obtain ⟨n4, n1, np⟩ := mHead_good hq
  rw [hq] at hh hde
  obtain ⟨n, hn⟩ : ∃ n, (mHead b).1 = n := ⟨_, rfl⟩
  rw [hn] at hh hde n4 n1 np
  simp only at hde
  have hp := mPad_ge n
  unfold mBody at hde
  have hRl : ((b.drop 4).take (n - 4)).length = n - 4 := by rw [List.length_take, List.length_drop]; omega
  have hRb : ((byL b).drop 4).take (n - 4) = byL ((b.drop 4).take (n - 4)) := by rw [byL_drop, byL_take]
  obtain ⟨R, hR⟩ : ∃ R, (b.drop 4).take (n - 4) = R := ⟨_, rfl⟩
  rw [hR] at hRl hRb hde
  have hst := RwAt.start oRd 4 R
  have u4 : (4 : Int) ≤ n := by omega
  have un : (n : Int) ≤ b.length := by omega
  have un2 : n ≤ b.length := by omega
  have b1 := mbad_c 1
  unfold byS at hh
  clear hn hq hR
  unfold byS
  refine FnP.intro Tryz.func23 rfl rfl fun G w => ?_
  repeat' (first
   | refine WK.seq ?_
   | refine WK.block ?_
   | refine WK.skip ?_
   | refine WK.condF rfl ?_
   | (refine Hid.h hQ _ _ ?_; clear hQ hA)
   | (refine WK.regH Tryz.ntmps23 (by kernel_rfl) ?_; intro A hA Q hQ; simp [mF, gFault, *])
   | (refine RunQ.call rfl rfl rfl rfl rfl ?_ (hh) ?_ ?_; (focus (simp (maxDischargeDepth := 120) [mF, gFault, *]; done)); (focus (simp [mF, gFault, *]; done)); refine RunQ.evalH ?_; simp [mF, gFault, *])
   | fail)
  refine WK.ghost (Ghost.own 7 900 6 rfl rfl) ?_
  refine WK.loopI (fun n => if n = 0 then 2 else if n = 1 then 900 else n) (fun x : Nat × Nat × List Oxm => (⟨(upd (upd (upd (upd (upd J 0 (.sl false b.length (byL b))) 4 (.ptr 0 0)) 5 (.int .i64 n)) 7 (.msl 1 0 x.2.2.length)) 8 (.sl false (R.length - x.2.1) (byL (R.drop x.2.1)))), (upd (upd B0 0 (.var [.junk, .junk, .junk])) 1 (.buf 6 (oxmL x.2.2))), 0⟩ : St)) (fun x => RwAt oRd 4 R x) (fun x => R.length - x.2.1) ((R.length, 0, [])) (by repeat (first | exact TmW.nil | refine TmW.upd ?_ (by simp (maxDischargeDepth := 120) [hRl, oxmL_nil]))) (by repeat (first | exact BxW.nil | refine BxW.upd ?_ (by simp (maxDischargeDepth := 120) [hRl, oxmL_nil]))) (by first | exact InjW.id | exact InjW.nil | exact InjW.one | exact InjW.two (by simp) | exact InjW.three (by simp) (by simp) (by simp)) (hst) (fun i hi IH => ?_)
  obtain ⟨f, p, acc⟩ := i
  have hle := hi.le
  have hsm := hi.small
  simp only at hle hsm hi ⊢
  clear hh hst hRb
  by_cases h1 : p < R.length
  · have hd := odec_c (R.drop p) (by rw [List.length_drop]; omega)
    obtain ⟨o, k, c, ho⟩ : ∃ o k c, oDec (R.drop p) = (o, k, c) := ⟨_, _, _, rfl⟩
    rw [ho] at hd
    have hrd := oRd_eq ho
    unfold byS at hd
    rw [List.length_drop] at hd
    have hpos : 0 < R.length - p := by omega
    have hpos' : (0 : Int) < ((R.length - p : Nat) : Int) := by omega
    by_cases hc : c = 0
    case neg =>
      rw [if_neg hc] at hrd
      have e := RwAt.bad hi h1 hrd
      rw [e] at hde
      simp only at hde
      rw [hde]
      obtain ⟨L, hL⟩ : ∃ L, R.length - p = L := ⟨_, rfl⟩
      obtain ⟨B, hB⟩ : ∃ B, R.drop p = B := ⟨_, rfl⟩
      rw [hL] at hd hpos hpos' ⊢
      rw [hB] at hd ⊢
      have hfc : oFault c = [.bool true, .int .i64 4, .int .i64 c] := by unfold oFault; rw [if_neg hc]
      rw [hfc] at hd
      unfold Oxm.enc at hd
      clear hde hL hB ho hrd e hi hfc b1
      repeat' (first
       | refine WK.seq ?_
       | refine WK.block ?_
       | refine WK.skip ?_
       | refine WK.condT rfl ?_
       | (refine Hid.h hQ _ _ ?_; clear hQ hA)
       | (refine WK.regH Tryz.ntmps23 (by kernel_rfl) ?_; intro A hA Q hQ; simp [gFault, oxmL_nil, *])
       | (refine WK.regX (by kernel_rfl) Tryz.ntmps23 (by kernel_rfl) ?_; intro A hA Q hQ; simp [gFault, oxmL_nil, *])
       | (refine Hid.h hQ _ _ _ (by decide +kernel) ?_; clear hQ hA)
       | (refine RunQ.call rfl rfl rfl rfl rfl ?_ (hd) ?_ ?_; (focus (simp (maxDischargeDepth := 120) [gFault, oxmL_nil, *]; done)); (focus (simp [gFault, oxmL_nil, *]; done)); refine RunQ.evalH ?_; simp [gFault, oxmL_nil, *])
       | (refine WK.ret Tryz.func23 ?_ ?_ <;> simp (maxDischargeDepth := 120) [Tryz.results23, gFault, oxmL_nil, *])
       | fail)
    subst hc
    rw [if_pos rfl] at hrd
    obtain ⟨m, hm, hml, hm0, hn⟩ := RwAt.next (by omega) oRd_keeps hi h1 hrd
    simp only at hml hn
    subst hm
    have hml' : (m : Int) ≤ ((R.length - p : Nat) : Int) := by omega
    have hml2 : m ≤ R.length - p := by omega
    have hdd : ((byL (R.drop p)).drop m).take (R.length - p - m) = byL (R.drop (p + m)) := by
      rw [byL_drop, List.drop_drop]; exact by_full _ _ (by rw [List.length_drop]; omega)
    have hll : R.length - (p + m) = R.length - p - m := by omega
    have hbd : (acc.length + 1) * 48 ≤ 140737488355328 := by omega
    have hsq := oxmL_snoc acc o
    obtain ⟨L, hL⟩ : ∃ L, R.length - p = L := ⟨_, rfl⟩
    obtain ⟨B, hB⟩ : ∃ B, R.drop p = B := ⟨_, rfl⟩
    rw [hL] at hd hpos hpos' hml' hml2 hdd hll ⊢
    rw [hB] at hd hdd ⊢
    have hfc : oFault 0 = [.bool false, .int .i64 0, .int .i64 0] := rfl
    rw [hfc] at hd
    unfold Oxm.enc at hd hsq
    clear hde hL hB ho hrd hi hfc b1
    repeat' (first
     | refine WK.seq ?_
     | refine WK.block ?_
     | refine WK.inBlock ?_
     | refine WK.skip ?_
     | refine WK.condT rfl ?_
     | refine WK.condF rfl ?_
     | (refine Hid.h hQ _ _ ?_; clear hQ hA)
     | (refine WK.regH Tryz.ntmps23 (by kernel_rfl) ?_; intro A hA Q hQ; simp [*])
     | (refine WK.regX (by kernel_rfl) Tryz.ntmps23 (by kernel_rfl) ?_; intro A hA Q hQ; simp [*])
     | (refine Hid.h hQ _ _ _ (by decide +kernel) ?_; clear hQ hA)
     | (refine RunX.append 902 app_oxm rfl rfl rfl rfl rfl rfl rfl rfl ?_ ?_ ?_ ?_ ?_; (focus (first | omega | (simp [*]; done); done)); (focus (first | omega | (simp [*]; done); done)); (focus (first | omega | (simp [*]; done); done)); (focus (first | omega | (simp [*]; done); done)); refine RunX.evalY ?_; simp [*])
     | (refine RunQ.call rfl rfl rfl rfl rfl ?_ (hd) ?_ ?_; (focus (simp (maxDischargeDepth := 120) [*]; done)); (focus (simp [*]; done)); refine RunQ.evalH ?_; simp [*])
     | fail)
    refine WK.next (fun n => if n = 1 then 902 else n) (IH ((f - 1, p + m, acc ++ [o])) (hn) (by first | omega | (dsimp only; omega))) (by repeat (first | exact TmW.nil | refine TmW.upd ?_ (by simp (maxDischargeDepth := 120) [hsq, hll, hdd]))) (by repeat (first | exact BxW.nil | refine BxW.upd ?_ (by simp (maxDischargeDepth := 120) [hsq, hll, hdd]))) (by first | exact InjW.id | exact InjW.nil | exact InjW.one | exact InjW.two (by simp) | exact InjW.three (by simp) (by simp) (by simp))
  · have hstop := RwAt.stop hi h1
    simp only at hstop
    rw [hstop] at hde
    simp only at hde
    have hpos : ¬ 0 < R.length - p := by omega
    have hpos' : ¬ (0 : Int) < ((R.length - p : Nat) : Int) := by omega
    obtain ⟨L, hL⟩ : ∃ L, R.length - p = L := ⟨_, rfl⟩
    rw [hL] at hpos hpos' ⊢
    obtain ⟨B, hB⟩ : ∃ B, R.drop p = B := ⟨_, rfl⟩
    rw [hB]
    have hcl : ClL (oxmL acc) = true := oxmL_cl _
    have hT := oxmL_take acc
    have ck := mcheck_c acc (by omega)
    unfold oxmS at ck
    have hpd := mpad_c n (by omega)
    have hz := containsf_by 54 [] (fun x => !(x == 0#8)) ((b.drop n).take (mPad n - n)) rfl (by rw [List.length_take, List.length_drop]; omega) (fun x _ => decode1_c x)
    have ez : ((b.drop n).take (mPad n - n)).any (fun x => !(x == 0#8)) = !allZ ((b.drop n).take (mPad n - n)) := by unfold allZ; rw [List.any_eq_not_all_not]; simp
    rw [ez] at hz
    have hzl : ((b.drop n).take (mPad n - n)).length = mPad n - n := by rw [List.length_take, List.length_drop]; omega
    have hzb : ((byL b).drop n).take (mPad n - n) = byL ((b.drop n).take (mPad n - n)) := by rw [byL_drop, byL_take]
    obtain ⟨Z, hZ⟩ : ∃ Z, (b.drop n).take (mPad n - n) = Z := ⟨_, rfl⟩
    rw [hZ] at hz hzl hzb hde
    unfold byS at hz
    rw [hzl] at hz
    have v1 : (n : Int) ≤ (mPad n : Nat) := by omega
    have v2 : ((mPad n : Nat) : Int) ≤ b.length := by omega
    have v3 : n ≤ mPad n := by omega
    obtain ⟨q, hqq⟩ : ∃ q, mPad n = q := ⟨_, rfl⟩
    rw [hqq] at hpd hz hzb v1 v2 v3 hde np
    obtain ⟨y, hy⟩ : ∃ y, allZ Z = y := ⟨_, rfl⟩
    rw [hy] at hz hde
    clear hL hB hi hstop hRl hp hzl hZ hqq hy ez
    repeat' (first
     | refine WK.seq ?_
     | refine WK.exit rfl ?_
     | refine WK.condF rfl ?_
     | (refine Hid.h hQ _ _ ?_; clear hQ hA)
     | (refine WK.regH (id := 0) Tryz.ntmps23 (by kernel_rfl) ?_; intro A hA Q hQ; simp [*])
     | (refine WK.regH (id := 1) Tryz.ntmps23 (by kernel_rfl) ?_; intro A hA Q hQ; simp [*])
     | (refine WK.regH (id := 2) Tryz.ntmps23 (by kernel_rfl) ?_; intro A hA Q hQ; simp [*])
     | (refine WK.regH (id := 3) Tryz.ntmps23 (by kernel_rfl) ?_; intro A hA Q hQ; simp [*])
     | (refine WK.regH (id := 4) Tryz.ntmps23 (by kernel_rfl) ?_; intro A hA Q hQ; simp [*])
     | (refine WK.regH (id := 5) Tryz.ntmps23 (by kernel_rfl) ?_; intro A hA Q hQ; simp [*])
     | (refine WK.regH (id := 6) Tryz.ntmps23 (by kernel_rfl) ?_; intro A hA Q hQ; simp [*])
     | fail)
    refine WK.ghost (Ghost.frzSl 7 6 rfl rfl) ?_
    cases hck : mCheck acc with
    | some c =>
      rw [hck] at ck hde
      simp only at hde
      rw [hde]
      clear hde hck hz hpd b1
      repeat' (first
       | refine WK.seq ?_
       | refine WK.condT rfl ?_
       | (refine Hid.h hQ _ _ ?_; clear hQ hA)
       | (refine WK.regH Tryz.ntmps23 (by kernel_rfl) ?_; intro A hA Q hQ; simp [mF, gFault, oxmL_nil, *])
       | (refine WK.regX (by kernel_rfl) Tryz.ntmps23 (by kernel_rfl) ?_; intro A hA Q hQ; simp [mF, gFault, oxmL_nil, *])
       | (refine Hid.h hQ _ _ _ (by decide +kernel) ?_; clear hQ hA)
       | (refine RunQ.call rfl rfl rfl rfl rfl ?_ (ck) ?_ ?_; (focus (simp (maxDischargeDepth := 120) [mF, gFault, oxmL_nil, *]; done)); (focus (simp [mF, gFault, oxmL_nil, *]; done)); refine RunQ.evalH ?_; simp [mF, gFault, oxmL_nil, *])
       | (refine WK.ret Tryz.func23 ?_ ?_ <;> simp (maxDischargeDepth := 120) [Tryz.results23, mF, gFault, oxmL_nil, *])
       | fail)
    | none =>
      rw [hck] at ck hde
      simp only at hde
      cases y
      · rw [if_pos rfl] at hde
        rw [hde]
        clear hde hck
        repeat' (first
         | refine WK.seq ?_
         | refine WK.skip ?_
         | refine WK.condT rfl ?_
         | refine WK.condF rfl ?_
         | (refine Hid.h hQ _ _ ?_; clear hQ hA)
         | (refine WK.regH Tryz.ntmps23 (by kernel_rfl) ?_; intro A hA Q hQ; simp [mF, gFault, oxmL_nil, *])
         | (refine RunQ.call rfl rfl rfl rfl rfl ?_ (ck) ?_ ?_; (focus (simp (maxDischargeDepth := 120) [mF, gFault, oxmL_nil, *]; done)); (focus (simp [mF, gFault, oxmL_nil, *]; done)); refine RunQ.evalH ?_; simp [mF, gFault, oxmL_nil, *])
         | (refine RunQ.call rfl rfl rfl rfl rfl ?_ (hpd) ?_ ?_; (focus (simp (maxDischargeDepth := 120) [mF, gFault, oxmL_nil, *]; done)); (focus (simp [mF, gFault, oxmL_nil, *]; done)); refine RunQ.evalH ?_; simp [mF, gFault, oxmL_nil, *])
         | (refine RunQ.call rfl rfl rfl rfl rfl ?_ (hz) ?_ ?_; (focus (simp (maxDischargeDepth := 120) [mF, gFault, oxmL_nil, *]; done)); (focus (simp [mF, gFault, oxmL_nil, *]; done)); refine RunQ.evalH ?_; simp [mF, gFault, oxmL_nil, *])
         | (refine RunQ.call rfl rfl rfl rfl rfl ?_ (b1) ?_ ?_; (focus (simp (maxDischargeDepth := 120) [mF, gFault, oxmL_nil, *]; done)); (focus (simp [mF, gFault, oxmL_nil, *]; done)); refine RunQ.evalH ?_; simp [mF, gFault, oxmL_nil, *])
         | (refine WK.ret Tryz.func23 ?_ ?_ <;> simp (maxDischargeDepth := 120) [Tryz.results23, mF, gFault, oxmL_nil, *])
         | fail)
      · rw [if_neg (by simp)] at hde
        rw [hde]
        clear hde hck b1
        repeat' (first
         | refine WK.seq ?_
         | refine WK.skip ?_
         | refine WK.condF rfl ?_
         | (refine Hid.h hQ _ _ ?_; clear hQ hA)
         | (refine WK.regH Tryz.ntmps23 (by kernel_rfl) ?_; intro A hA Q hQ; simp [mF, gFault, oxmL_nil, *])
         | (refine RunQ.call rfl rfl rfl rfl rfl ?_ (ck) ?_ ?_; (focus (simp (maxDischargeDepth := 120) [mF, gFault, oxmL_nil, *]; done)); (focus (simp [mF, gFault, oxmL_nil, *]; done)); refine RunQ.evalH ?_; simp [mF, gFault, oxmL_nil, *])
         | (refine RunQ.call rfl rfl rfl rfl rfl ?_ (hpd) ?_ ?_; (focus (simp (maxDischargeDepth := 120) [mF, gFault, oxmL_nil, *]; done)); (focus (simp [mF, gFault, oxmL_nil, *]; done)); refine RunQ.evalH ?_; simp [mF, gFault, oxmL_nil, *])
         | (refine RunQ.call rfl rfl rfl rfl rfl ?_ (hz) ?_ ?_; (focus (simp (maxDischargeDepth := 120) [mF, gFault, oxmL_nil, *]; done)); (focus (simp [mF, gFault, oxmL_nil, *]; done)); refine RunQ.evalH ?_; simp [mF, gFault, oxmL_nil, *])
         | (refine WK.ret Tryz.func23 ?_ ?_ <;> simp (maxDischargeDepth := 120) [Tryz.results23, mF, gFault, oxmL_nil, *])
         | fail)
end Go.Proofs.YtiifjagnhnchoaaGreat
end

section
set_option linter.unusedVariables false
set_option linter.unusedSimpArgs false
namespace Go.Proofs.YtiifjagnhnchoaaGreat
open Go Go.AI Go.Proofs
attribute [local irreducible] FnP FnO FnB FnT FnSeq WK RunQ RunQW RunX RunXW

theorem oFlat_succ {l : List Oxm} {i : Nat} (h : i < l.length) : rwFlat oBytes (l.take (i + 1)) = rwFlat oBytes (l.take i) ++ oBytes (nth l i) := by
  unfold rwFlat; rw [take_nth h, List.flatMap_append]; simp
theorem mPad_stop {m k : Nat} (h1 : m ≤ k) (h2 : k ≤ mPad m) : (k % 8 = 0 ↔ k = mPad m) := by unfold mPad at *; omega
theorem byL_zero (Y : List (BitVec 8)) (m k : Nat) (h : m ≤ k) : byL (Y ++ List.replicate (k - m) 0#8) ++ [AV.int .u8 0] = byL (Y ++ List.replicate (k + 1 - m) 0#8) := by
  rw [show k + 1 - m = (k - m) + 1 by omega, List.replicate_succ', ← List.append_assoc, byL_app (Y ++ List.replicate (k - m) 0#8)]; rfl
set_option maxHeartbeats 4000000 in
theorem rmenc_c (l : List Oxm) (hl : l.length ≤ 10000) : FnT Tryz.prog 39 [oxmS l] (mEnc l).1.length 1 (byL (mEnc l).1) [.int .i64 (mEnc l).2] := by
  have ck := rmcheck_c l (by omega)
  unfold oxmS at *
  cases hc : mCheck l with
  | some c =>
    have e := mEnc_check hc
    rw [hc] at ck
    rw [e]
    clear e hc
    refine FnT.intro Tryz.func39 rfl rfl fun G w => ?_
    repeat' (first
     | refine WK.seq ?_
     | refine WK.condT rfl ?_
     | (refine Hid.h hQ _ _ ?_; clear hQ hA)
     | (refine WK.regH Tryz.ntmps39 (by kernel_rfl) ?_; intro A hA Q hQ; simp [mF, gFault, *])
     | (refine RunQ.call rfl rfl rfl rfl rfl ?_ (ck) ?_ ?_; (focus (simp (maxDischargeDepth := 120) [mF, gFault, *]; done)); (focus (simp [mF, gFault, *]; done)); refine RunQ.evalH ?_; simp [mF, gFault, *])
     | fail)
    refine WK.ghost (Ghost.own 2 900 1 rfl rfl) ?_
    refine WK.retT2 Tryz.func39 ?_ ?_ ?_ <;> simp (maxDischargeDepth := 120) [Tryz.results39, byL_nil]
  | none =>
  rw [hc] at ck
  refine FnT.intro Tryz.func39 rfl rfl fun G w => ?_
  repeat' (first
   | refine WK.seq ?_
   | refine WK.block ?_
   | refine WK.skip ?_
   | refine WK.condF rfl ?_
   | (refine Hid.h hQ _ _ ?_; clear hQ hA)
   | (refine WK.regH Tryz.ntmps39 (by kernel_rfl) ?_; intro A hA Q hQ; simp [mF, gFault, *])
   | (refine RunQ.call rfl rfl rfl rfl rfl ?_ (ck) ?_ ?_; (focus (simp (maxDischargeDepth := 120) [mF, gFault, *]; done)); (focus (simp [mF, gFault, *]; done)); refine RunQ.evalH ?_; simp [mF, gFault, *])
   | fail)
  refine WK.ghost (Ghost.own 4 901 1 rfl rfl) ?_
  refine WK.loopI (fun n => if n = 1 then 901 else n) (fun i : Nat => (⟨(upd (upd (upd J 0 (.sl false l.length (oxmL l))) 4 (.msl 1 0 (rwFlat oBytes (l.take i)).length)) 5 (.int .i64 i)), (upd B0 1 (.buf 1 (byL (rwFlat oBytes (l.take i))))), 0⟩ : St)) (fun i => i ≤ l.length ∧ ∀ j, j < i → Oxm.right (nth l j) = true) (fun i => l.length - i) (0) (by repeat (first | exact TmW.nil | refine TmW.upd ?_ (by simp (maxDischargeDepth := 120) [rwFlat, byL_nil]))) (by repeat (first | exact BxW.nil | refine BxW.upd ?_ (by simp (maxDischargeDepth := 120) [rwFlat, byL_nil]))) (by first | exact InjW.id | exact InjW.nil | exact InjW.one | exact InjW.two (by simp) | exact InjW.three (by simp) (by simp) (by simp)) (⟨by omega, by simp⟩) (fun i hi IH => ?_)
  clear ck
  have hfl := oFlat_len (l.take i)
  have htl : (l.take i).length ≤ i := by rw [List.length_take]; omega
  have hil := hi.1
  by_cases h1 : i < l.length
  · have g4 := oxm_sub l i h1
    have g3 : 6 ≤ l.length * 6 - i * 6 := by omega
    have g6 : IntKind.i64.wrap ((i : Int) + 1) = i + 1 := wrap_i64 (by omega) (by omega)
    have p := roenc_c (nth l i)
    have hs := oFlat_succ h1
    have hw : Oxm.right (nth l i) = false → mEnc l = ([], 1) := mEnc_wrong h1
    have hr : Oxm.right (nth l i) = true → ∀ j, j < i + 1 → Oxm.right (nth l j) = true := fun hr j hj => by
      by_cases h7 : j = i
      · subst h7; exact hr
      · exact hi.2 j (by omega)
    have hol : (oBytes (nth l i)).length ≤ 36 := oEnc_len _
    have hoe : Oxm.right (nth l i) = true → oEnc (nth l i) = (oBytes (nth l i), 0) := oBytes_of
    have hob : Oxm.right (nth l i) = false → oEnc (nth l i) = ([], 1) := oEnc_wrong
    obtain ⟨o, ho⟩ : ∃ o, nth l i = o := ⟨_, rfl⟩
    rw [ho] at g4 p hs hw hr hol hoe hob
    obtain ⟨F, hF⟩ : ∃ F, rwFlat oBytes (l.take i) = F := ⟨_, rfl⟩
    rw [hF] at hfl hs ⊢
    unfold Oxm.enc at g4 p
    clear ho hF hi
    cases hrt : Oxm.right o
    · rw [hw hrt]
      rw [hob hrt] at p
      unfold byS at p
      clear hw hr hoe hob hs hrt
      repeat' (first
       | refine WK.seq ?_
       | refine WK.block ?_
       | refine WK.skip ?_
       | refine WK.condT rfl ?_
       | (refine Hid.h hQ _ _ ?_; clear hQ hA)
       | (refine WK.regH Tryz.ntmps39 (by kernel_rfl) ?_; intro A hA Q hQ; simp [bne, *])
       | (refine RunQ.call rfl rfl rfl rfl rfl ?_ (p) ?_ ?_; (focus (simp (maxDischargeDepth := 120) [bne, *]; done)); (focus (simp [bne, *]; done)); refine RunQ.evalH ?_; simp [bne, *])
       | fail)
      refine WK.ghost (Ghost.own 2 902 1 rfl rfl) ?_
      refine WK.retT2 Tryz.func39 ?_ ?_ ?_ <;> simp (maxDischargeDepth := 120) [Tryz.results39, byL_nil]
    · rw [hoe hrt] at p
      have hr2 := hr hrt
      obtain ⟨B, hB⟩ : ∃ B, oBytes o = B := ⟨_, rfl⟩
      rw [hB] at p hs hol
      have hs3 : byL F ++ byL B = byL (rwFlat oBytes (l.take (i + 1))) := by rw [hs, byL_app]
      have hs4 : (rwFlat oBytes (l.take (i + 1))).length = F.length + B.length := by rw [hs, List.length_append]
      have hbd : F.length + B.length ≤ 140737488355328 := by omega
      have hfu := by_full B B.length rfl
      unfold byS at p
      clear hw hr hoe hob hs hrt hB
      repeat' (first
       | refine WK.seq ?_
       | refine WK.block ?_
       | refine WK.inBlock ?_
       | refine WK.skip ?_
       | refine WK.condT rfl ?_
       | refine WK.condF rfl ?_
       | (refine Hid.h hQ _ _ ?_; clear hQ hA)
       | (refine WK.regH Tryz.ntmps39 (by kernel_rfl) ?_; intro A hA Q hQ; simp [bne, *])
       | (refine RunQ.append 902 appByte rfl rfl rfl rfl rfl rfl rfl rfl rfl ?_ ?_ ?_ ?_ ?_; (focus (first | omega | (simp [bne, *]; done); done)); (focus (first | omega | (simp [bne, *]; done); done)); (focus (first | omega | (simp [bne, *]; done); done)); (focus (first | omega | (simp [bne, *]; done); done)); refine RunQ.evalH ?_; simp [bne, *])
       | (refine RunQ.call rfl rfl rfl rfl rfl ?_ (p) ?_ ?_; (focus (simp (maxDischargeDepth := 120) [bne, *]; done)); (focus (simp [bne, *]; done)); refine RunQ.evalH ?_; simp [bne, *])
       | fail)
      refine WK.next (fun n => if n = 1 then 902 else n) (IH (i + 1) (⟨by omega, hr2⟩) (by first | omega | (dsimp only; omega))) (by repeat (first | exact TmW.nil | refine TmW.upd ?_ (by simp (maxDischargeDepth := 120) [hs3, hs4]))) (by repeat (first | exact BxW.nil | refine BxW.upd ?_ (by simp (maxDischargeDepth := 120) [hs3, hs4]))) (by first | exact InjW.id | exact InjW.nil | exact InjW.one | exact InjW.two (by simp) | exact InjW.three (by simp) (by simp) (by simp))
  · have hT : l.take i = l := List.take_of_length_le (by omega)
    have hfit := mFit_of hc (fun j hj => hi.2 j (by omega))
    have hdef := mEnc_fit hfit
    have hwl := mWhole_len l
    rw [hT] at hfl ⊢
    have hW : mWhole l = beN 1 2 ++ (beN (4 + (rwFlat oBytes l).length : Nat) 2 ++ (rwFlat oBytes l ++ List.replicate (mPad (4 + (rwFlat oBytes l).length) - (4 + (rwFlat oBytes l).length)) 0#8)) := rfl
    obtain ⟨F, hF⟩ : ∃ F, rwFlat oBytes l = F := ⟨_, rfl⟩
    rw [hF] at hdef hfl hwl hW ⊢
    by_cases h6 : F.length ≤ 1000
    case neg =>
      rw [if_neg h6] at hdef
      rw [hdef]
      have hm3 : (1000 : Int) < F.length := by omega
      clear hdef hW hF hi hc hfit hT hfl hil
      repeat' (first
       | refine WK.seq ?_
       | refine WK.exit rfl ?_
       | refine WK.condT rfl ?_
       | refine WK.condF rfl ?_
       | (refine Hid.h hQ _ _ ?_; clear hQ hA)
       | (refine WK.regH Tryz.ntmps39 (by kernel_rfl) ?_; intro A hA Q hQ; simp [*])
       | fail)
      refine WK.ghost (Ghost.own 2 902 1 rfl rfl) ?_
      refine WK.retT2 Tryz.func39 ?_ ?_ ?_ <;> simp (maxDischargeDepth := 120) [Tryz.results39, byL_nil]
    rw [if_pos h6] at hdef
    have hp := mPad_ge (4 + F.length)
    have c1 := rput_c [] 1 2 Sz2 (by simp)
    rw [show putN [] 1 2 = [0#8, 1#8] from rfl] at c1
    have c2 := rput_c [0#8, 1#8] ((4 + F.length : Nat) : Int) 2 Sz2 (by simp)
    rw [putN_beN (numOk2 (by omega))] at c2
    have hHl : ([0#8, 1#8] ++ beN ((4 + F.length : Nat) : Int) 2).length = 4 := by simp [beN_len]
    have hWY : mWhole l = (([0#8, 1#8] ++ beN ((4 + F.length : Nat) : Int) 2) ++ F) ++ List.replicate (mPad (4 + F.length) - (4 + F.length)) 0#8 := by rw [hW]; simp only [List.append_assoc]; rfl
    have hB2 : (byL [0#8, 1#8]).take 2 = byL [0#8, 1#8] := rfl
    obtain ⟨H, hH⟩ : ∃ H, [0#8, 1#8] ++ beN ((4 + F.length : Nat) : Int) 2 = H := ⟨_, rfl⟩
    rw [hH] at c2 hHl hWY
    have hYY : byL H ++ byL F = byL (H ++ F) := (byL_app H F).symm
    have hYl : (H ++ F).length = 4 + F.length := by rw [List.length_append, hHl]
    obtain ⟨Y, hY⟩ : ∃ Y, H ++ F = Y := ⟨_, rfl⟩
    rw [hY] at hYY hWY hYl
    have hfu := by_full F F.length rfl
    have w4 : IntKind.i64.wrap (4 + (F.length : Int)) = 4 + (F.length : Int) := wrap_i64 (by omega) (by omega)
    have hm3 : ¬ (1000 : Int) < F.length := by omega
    have hbd : 4 + F.length ≤ 140737488355328 := by omega
    unfold byS at c1 c2
    simp only [hHl, byL_nil, List.length_cons, List.length_nil, Nat.zero_add, Nat.reduceAdd, Int.natCast_add, Int.cast_ofNat_Int] at c1 c2
    clear hW hF hi hc hfit hT hfl hil hH hY
    repeat' (first
     | refine WK.seq ?_
     | refine WK.block ?_
     | refine WK.skip ?_
     | refine WK.exit rfl ?_
     | refine WK.condF rfl ?_
     | (refine Hid.h hQ _ _ ?_; clear hQ hA)
     | (refine WK.regH Tryz.ntmps39 (by kernel_rfl) ?_; intro A hA Q hQ; simp [*])
     | (refine RunQ.callO 902 rfl rfl rfl rfl rfl ?_ (c1) ?_ ?_ ?_ ?_; (focus (simp (maxDischargeDepth := 120) [*]; done)); (focus (simp [*]; done)); (focus (simp [*]; done)); (focus (simp [*]; done)); refine RunQ.evalH ?_; simp [*])
     | (refine RunQ.callOz 903 35 1 rfl rfl rfl rfl rfl rfl rfl ?_ (c2) ?_ ?_ (by simp) (by decide) ?_; (focus (simp (maxDischargeDepth := 120) [*]; done)); (focus (simp [*]; done)); (focus (simp [*]; done)); refine RunQ.evalH ?_; simp [*])
     | (refine RunQ.appendFz 904 appByte rfl rfl rfl rfl rfl rfl rfl rfl rfl rfl ?_ ?_ ?_ ?_ ?_ ?_; (focus (first | omega | (simp [*]; done); done)); (focus (first | omega | (simp [*]; done); done)); (focus (first | omega | (simp [*]; done); done)); (focus (simp [*]; done)); (focus (simp [*]; done)); refine RunQ.evalH ?_; simp [*])
     | fail)
    refine WK.loopI (fun n => if n = 1 then 904 else n) (fun k : Nat => (⟨(upd J 8 (.msl 1 0 k)), (upd B0 1 (.buf 1 (byL (Y ++ List.replicate (k - (4 + F.length)) 0#8)))), 0⟩ : St)) (fun k => 4 + F.length ≤ k ∧ k ≤ mPad (4 + F.length)) (fun k => mPad (4 + F.length) - k) (4 + F.length) (by repeat (first | exact TmW.nil | refine TmW.upd ?_ (by simp (maxDischargeDepth := 120) [hYY]))) (by repeat (first | exact BxW.nil | refine BxW.upd ?_ (by simp (maxDischargeDepth := 120) [hYY]))) (by first | exact InjW.id | exact InjW.nil | exact InjW.one | exact InjW.two (by simp) | exact InjW.three (by simp) (by simp) (by simp)) (⟨by omega, hp.1⟩) (fun k hk IHk => ?_)
    have hst := mPad_stop hk.1 hk.2
    have z7 : ((k : Int).tmod 8 == 0) = (k % 8 == 0) := by rw [Int.tmod_eq_emod_of_nonneg (by omega), Bool.eq_iff_iff, beq_iff_eq, beq_iff_eq]; omega
    have hkl : (Y ++ List.replicate (k - (4 + F.length)) 0#8).length = k := by rw [List.length_append, List.length_replicate, hYl]; omega
    by_cases g1 : k % 8 = 0
    · have e := hst.1 g1
      have d2 : (k % 8 == 0) = true := by simpa using g1
      have w : IntKind.i64.wrap ((k : Int).tmod 8) = (k : Int).tmod 8 := by rw [Int.tmod_eq_emod_of_nonneg (by omega)]; exact wrap_i64 (by omega) (by omega)
      rw [e] at hkl ⊢
      rw [hdef]
      simp only
      rw [hwl, hWY]
      rw [d2, e] at z7
      rw [e] at w
      clear hdef hwl hWY g1 hk hst d2 e c1 c2 hB2 hYY hp
      repeat' (first
       | refine WK.seq ?_
       | refine WK.exit rfl ?_
       | refine WK.condF rfl ?_
       | (refine Hid.h hQ _ _ ?_; clear hQ hA)
       | (refine WK.regH Tryz.ntmps39 (by kernel_rfl) ?_; intro A hA Q hQ; simp [bne, *])
       | (refine WK.retT2 Tryz.func39 ?_ ?_ ?_ <;> simp (maxDischargeDepth := 120) [Tryz.results39, bne, *])
       | fail)
    · have hlt : k < mPad (4 + F.length) := by
        rcases Nat.lt_or_ge k (mPad (4 + F.length)) with h | h
        · exact h
        · exact absurd (hst.2 (by omega)) g1
      have d2 : (k % 8 == 0) = false := by simpa using g1
      have w : IntKind.i64.wrap ((k : Int).tmod 8) = (k : Int).tmod 8 := by rw [Int.tmod_eq_emod_of_nonneg (by omega)]; exact wrap_i64 (by omega) (by omega)
      rw [d2] at z7
      have hz := byL_zero Y (4 + F.length) k hk.1
      have hb2 : k + 1 ≤ 140737488355328 := by omega
      have hbk : (byL (Y ++ List.replicate (k - (4 + F.length)) 0#8)).length = k := by rw [byL_len, hkl]
      obtain ⟨Z, hZ⟩ : ∃ Z, byL (Y ++ List.replicate (k - (4 + F.length)) 0#8) = Z := ⟨_, rfl⟩
      rw [hZ] at hz hbk ⊢
      clear hdef hwl hWY g1 hst d2 c1 c2 hB2 hYY hp hkl hZ
      repeat' (first
       | refine WK.seq ?_
       | refine WK.block ?_
       | refine WK.inBlock ?_
       | refine WK.skip ?_
       | refine WK.condT rfl ?_
       | (refine Hid.h hQ _ _ ?_; clear hQ hA)
       | (refine WK.regH Tryz.ntmps39 (by kernel_rfl) ?_; intro A hA Q hQ; simp [bne, *])
       | (refine RunQ.append 905 appByte rfl rfl rfl rfl rfl rfl rfl rfl rfl ?_ ?_ ?_ ?_ ?_; (focus (first | omega | (simp [bne, *]; done); done)); (focus (first | omega | (simp [bne, *]; done); done)); (focus (first | omega | (simp [bne, *]; done); done)); (focus (first | omega | (simp [bne, *]; done); done)); refine RunQ.evalH ?_; simp [bne, *])
       | fail)
      refine WK.next (fun n => if n = 1 then 905 else n) (IHk (k + 1) (⟨by omega, by omega⟩) (by first | omega | (dsimp only; omega))) (by repeat (first | exact TmW.nil | refine TmW.upd ?_ (by simp (maxDischargeDepth := 120) [hz]))) (by repeat (first | exact BxW.nil | refine BxW.upd ?_ (by simp (maxDischargeDepth := 120) [hz]))) (by first | exact InjW.id | exact InjW.nil | exact InjW.one | exact InjW.two (by simp) | exact InjW.three (by simp) (by simp) (by simp))
end Go.Proofs.YtiifjagnhnchoaaGreat
end

section
set_option linter.unusedVariables false
set_option linter.unusedSimpArgs false
namespace Go.Proofs.YtiifjagnhnchoaaGreat
open Go Go.AI Go.Proofs
attribute [local irreducible] FnP FnO FnB FnT FnSeq WK RunQ RunQW RunX RunXW

def GroupMod.same (a b : GroupMod) : Bool := (a.command == b.command && (a.kind == b.kind && a.id == b.id)) && eqBy Bucket.same a.buckets b.buckets
end Go.Proofs.YtiifjagnhnchoaaGreat
end

section
set_option linter.unusedVariables false
set_option linter.unusedSimpArgs false
namespace Go.Proofs.YtiifjagnhnchoaaGreat
open Go Go.AI Go.Proofs
attribute [local irreducible] FnP FnO FnB FnT FnSeq WK RunQ RunQW RunX RunXW

theorem ibad_c (c : Int) : FnP Tryz.prog 57 [.int .i64 c] (.agg (gFault (some (3, c)))) := by
  refine FnP.intro Tryz.func57 rfl rfl fun G w => ?_
  repeat' (first
   | refine WK.seq ?_
   | (refine Hid.h hQ _ _ ?_; clear hQ hA)
   | (refine WK.regH Tryz.ntmps57 (by kernel_rfl) ?_; intro A hA Q hQ; simp [*])
   | (refine WK.ret Tryz.func57 ?_ ?_ <;> simp (maxDischargeDepth := 120) [Tryz.results57, gFault, *])
   | fail)
theorem or_zero64 (x y : BitVec 64) : ((x ||| y) == 0#64) = (x == 0#64 && y == 0#64) := by
  rw [Bool.eq_iff_iff, Bool.and_eq_true, beq_iff_eq, beq_iff_eq, beq_iff_eq]
  exact BitVec.or_eq_zero_iff
theorem imeta_c (i : Inst) : FnP Tryz.prog 94 [.agg i.enc] (.bool (inMeta i.value i.mask)) := by
  have l := less_c i.value i.mask
  have z := zero_c (i.value.less i.mask)
  have e : inMeta i.value i.mask = ((i.value.hi ||| i.mask.hi) == 0#64 && (i.value.less i.mask).zero) := by
    unfold inMeta; rw [or_zero64, Bool.and_assoc]
  obtain ⟨r, hr⟩ : ∃ r, (i.value.less i.mask).zero = r := ⟨_, rfl⟩
  rw [hr] at z e
  obtain ⟨q, hq⟩ : ∃ q, ((i.value.hi ||| i.mask.hi) == 0#64) = q := ⟨_, rfl⟩
  rw [hq] at e
  unfold Wide.enc at l z
  refine FnP.intro Tryz.func94 rfl rfl fun G w => ?_
  repeat' (first
   | refine WK.seq ?_
   | (refine Hid.h hQ _ _ ?_; clear hQ hA)
   | (refine Fork.mk (fun h => ?_) (fun h => ?_) <;> (first | (simp [*] at h; done) | (have h2 := h; simp at h2; exfalso; omega) | (have h2 := h; simp at h2; try simp only [Bool.not_eq_true', Bool.not_eq_false'] at h) | skip))
   | (refine WK.regH Tryz.ntmps94 (by kernel_rfl) ?_; intro A hA Q hQ; simp [Inst.enc, *])
   | (refine RunQ.gd rfl (by rw [hA.h]; rfl) ?_; simp [Inst.enc, *])
   | (refine RunQW.call rfl rfl rfl rfl ?_ (l) ?_ ?_; (focus (simp (maxDischargeDepth := 120) [Inst.enc, *]; done)); (focus (simp [Inst.enc, *]; done)); refine RunQ.evalH ?_; simp [Inst.enc, *])
   | (refine RunQW.call rfl rfl rfl rfl ?_ (z) ?_ ?_; (focus (simp (maxDischargeDepth := 120) [Inst.enc, *]; done)); (focus (simp [Inst.enc, *]; done)); refine RunQ.evalH ?_; simp [Inst.enc, *])
   | (refine WK.ret Tryz.func94 ?_ ?_ <;> simp (maxDischargeDepth := 120) [Tryz.results94, Inst.enc, *])
   | fail)
theorem iempty1_c (x : BitVec 8) : FnP Tryz.prog 147 [.int .u8 (bI x)] (.bool (!(x == 0#8))) := by
  have e := bI_zero x
  refine FnP.intro Tryz.func147 rfl rfl fun G w => ?_
  repeat' (first
   | refine WK.seq ?_
   | (refine Hid.h hQ _ _ ?_; clear hQ hA)
   | (refine WK.regH Tryz.ntmps147 (by kernel_rfl) ?_; intro A hA Q hQ; simp [bne, *])
   | (refine WK.ret Tryz.func147 ?_ ?_ <;> simp (maxDischargeDepth := 120) [Tryz.results147, bne, *])
   | fail)
theorem iempty_c (b : List (BitVec 8)) (hb : b.length ≤ 9223372036854775807) : FnP Tryz.prog 129 [byS b] (.bool (allZ b)) := by
  have hco := containsf_by 147 [] (fun x => !(x == 0#8)) b rfl hb (fun x _ => iempty1_c x)
  have e : allZ b = !(b.any fun x => !(x == 0#8)) := by rw [any_allZ]; simp
  rw [e]
  refine FnP.intro Tryz.func129 rfl rfl fun G w => ?_
  repeat' (first
   | refine WK.seq ?_
   | (refine Hid.h hQ _ _ ?_; clear hQ hA)
   | (refine WK.regH Tryz.ntmps129 (by kernel_rfl) ?_; intro A hA Q hQ; simp [*])
   | (refine RunQ.call rfl rfl rfl rfl rfl ?_ (hco) ?_ ?_; (focus (simp (maxDischargeDepth := 120) [*]; done)); (focus (simp [*]; done)); refine RunQ.evalH ?_; simp [*])
   | (refine WK.ret Tryz.func129 ?_ ?_ <;> simp (maxDischargeDepth := 120) [Tryz.results129, *])
   | fail)
theorem ilaid_c (k : Int) (b : List (BitVec 8)) (hb : b.length ≤ 1000000) (h8 : 8 ≤ b.length) : FnP Tryz.prog 93 [.int .i64 k, byS b] (.bool (inLaid k b)) := by
  have p5 := iempty_c (b.drop 5) (by rw [List.length_drop]; omega)
  have p4 := iempty_c (b.drop 4) (by rw [List.length_drop]; omega)
  have p44 := iempty_c ((b.drop 4).take 4) (by rw [List.length_take, List.length_drop]; omega)
  have s5 : ((byL b).drop 5).take (b.length - 5) = byL (b.drop 5) := by rw [byL_drop]; exact by_full _ _ (by rw [List.length_drop])
  have s4 : ((byL b).drop 4).take (b.length - 4) = byL (b.drop 4) := by rw [byL_drop]; exact by_full _ _ (by rw [List.length_drop])
  have s44 : ((byL b).drop 4).take 4 = byL ((b.drop 4).take 4) := by rw [byL_drop, byL_take]
  have l44 : ((b.drop 4).take 4).length = 4 := by rw [List.length_take, List.length_drop]; omega
  have u5 : (5 : Int) ≤ b.length := by omega
  have u4 : (4 : Int) ≤ b.length := by omega
  have u8 : (8 : Int) ≤ b.length := by omega
  have z8 : ((b.length : Int) == 8) = (b.length == 8) := by rw [Bool.eq_iff_iff, beq_iff_eq, beq_iff_eq]; omega
  have z24 : ((b.length : Int) == 24) = (b.length == 24) := by rw [Bool.eq_iff_iff, beq_iff_eq, beq_iff_eq]; omega
  obtain ⟨q8, hq8⟩ : ∃ q, (b.length == 8) = q := ⟨_, rfl⟩
  obtain ⟨q24, hq24⟩ : ∃ q, (b.length == 24) = q := ⟨_, rfl⟩
  have hdef : inLaid k b = if k = 1 then q8 && allZ (b.drop 5) else if k = 2 then q24 && allZ ((b.drop 4).take 4) else if k = 5 then q8 && allZ (b.drop 4) else allZ ((b.drop 4).take 4) := by
    unfold inLaid; rw [hq8, hq24]
  rw [hq8] at z8
  rw [hq24] at z24
  simp only [byS, List.length_drop, l44] at p5 p4 p44 ⊢
  obtain ⟨a5, ha5⟩ : ∃ q, allZ (b.drop 5) = q := ⟨_, rfl⟩
  obtain ⟨a4, ha4⟩ : ∃ q, allZ (b.drop 4) = q := ⟨_, rfl⟩
  obtain ⟨a44, ha44⟩ : ∃ q, allZ ((b.drop 4).take 4) = q := ⟨_, rfl⟩
  rw [ha5] at p5 hdef
  rw [ha4] at p4 hdef
  rw [ha44] at p44 hdef
  obtain ⟨B5, hB5⟩ : ∃ q, b.drop 5 = q := ⟨_, rfl⟩
  obtain ⟨B44, hB44⟩ : ∃ q, (b.drop 4).take 4 = q := ⟨_, rfl⟩
  rw [hB44] at p44 s44
  obtain ⟨B4, hB4⟩ : ∃ q, b.drop 4 = q := ⟨_, rfl⟩
  rw [hB5] at p5 s5
  rw [hB4] at p4 s4
  rw [hdef]
  clear ha5 ha4 ha44 hdef l44 hq8 hq24 hB5 hB4 hB44
  refine FnP.intro Tryz.func93 rfl rfl fun G w => ?_
  by_cases k1 : k = 1
  · subst k1
    repeat' (first
     | refine WK.seq ?_
     | refine WK.block ?_
     | refine WK.condT rfl ?_
     | (refine Hid.h hQ _ _ ?_; clear hQ hA)
     | (refine Fork.mk (fun h => ?_) (fun h => ?_) <;> (first | (simp [*] at h; done) | (have h2 := h; simp at h2; exfalso; omega) | (have h2 := h; simp at h2; try simp only [Bool.not_eq_true', Bool.not_eq_false'] at h) | skip))
     | (refine WK.regH Tryz.ntmps93 (by kernel_rfl) ?_; intro A hA Q hQ; simp [*])
     | (refine RunQ.gd rfl (by rw [hA.h]; rfl) ?_; simp [*])
     | (refine RunQW.call rfl rfl rfl rfl ?_ (p5) ?_ ?_; (focus (simp (maxDischargeDepth := 120) [*]; done)); (focus (simp [*]; done)); refine RunQ.evalH ?_; simp [*])
     | (refine WK.ret Tryz.func93 ?_ ?_ <;> simp (maxDischargeDepth := 120) [Tryz.results93, *])
     | fail)
  have j1 : (k == 1) = false := by simpa using k1
  by_cases k2 : k = 2
  · subst k2
    repeat' (first
     | refine WK.seq ?_
     | refine WK.block ?_
     | refine WK.condT rfl ?_
     | refine WK.condF rfl ?_
     | (refine Hid.h hQ _ _ ?_; clear hQ hA)
     | (refine Fork.mk (fun h => ?_) (fun h => ?_) <;> (first | (simp [*] at h; done) | (have h2 := h; simp at h2; exfalso; omega) | (have h2 := h; simp at h2; try simp only [Bool.not_eq_true', Bool.not_eq_false'] at h) | skip))
     | (refine WK.regH Tryz.ntmps93 (by kernel_rfl) ?_; intro A hA Q hQ; simp [*])
     | (refine RunQ.gd rfl (by rw [hA.h]; rfl) ?_; simp [*])
     | (refine RunQW.call rfl rfl rfl rfl ?_ (p44) ?_ ?_; (focus (simp (maxDischargeDepth := 120) [*]; done)); (focus (simp [*]; done)); refine RunQ.evalH ?_; simp [*])
     | (refine WK.ret Tryz.func93 ?_ ?_ <;> simp (maxDischargeDepth := 120) [Tryz.results93, *])
     | fail)
  have j2 : (k == 2) = false := by simpa using k2
  by_cases k5 : k = 5
  · subst k5
    repeat' (first
     | refine WK.seq ?_
     | refine WK.block ?_
     | refine WK.condT rfl ?_
     | refine WK.condF rfl ?_
     | (refine Hid.h hQ _ _ ?_; clear hQ hA)
     | (refine Fork.mk (fun h => ?_) (fun h => ?_) <;> (first | (simp [*] at h; done) | (have h2 := h; simp at h2; exfalso; omega) | (have h2 := h; simp at h2; try simp only [Bool.not_eq_true', Bool.not_eq_false'] at h) | skip))
     | (refine WK.regH Tryz.ntmps93 (by kernel_rfl) ?_; intro A hA Q hQ; simp [*])
     | (refine RunQ.gd rfl (by rw [hA.h]; rfl) ?_; simp [*])
     | (refine RunQW.call rfl rfl rfl rfl ?_ (p4) ?_ ?_; (focus (simp (maxDischargeDepth := 120) [*]; done)); (focus (simp [*]; done)); refine RunQ.evalH ?_; simp [*])
     | (refine WK.ret Tryz.func93 ?_ ?_ <;> simp (maxDischargeDepth := 120) [Tryz.results93, *])
     | fail)
  have j5 : (k == 5) = false := by simpa using k5
  repeat' (first
   | refine WK.seq ?_
   | refine WK.block ?_
   | refine WK.inBlock ?_
   | refine WK.skip ?_
   | refine WK.condF rfl ?_
   | (refine Hid.h hQ _ _ ?_; clear hQ hA)
   | (refine WK.regH Tryz.ntmps93 (by kernel_rfl) ?_; intro A hA Q hQ; simp [*])
   | (refine RunQ.call rfl rfl rfl rfl rfl ?_ (p44) ?_ ?_; (focus (simp (maxDischargeDepth := 120) [*]; done)); (focus (simp [*]; done)); refine RunQ.evalH ?_; simp [*])
   | (refine WK.ret Tryz.func93 ?_ ?_ <;> simp (maxDischargeDepth := 120) [Tryz.results93, *])
   | fail)
set_option maxHeartbeats 4000000 in
theorem icut_c (b : List (BitVec 8)) (hb : b.length ≤ 1000000) : FnP Tryz.prog 56 [byS b] (.tup [.int .i64 (inCut b).1, byS (b.take (inCut b).2.1), .agg (gFault (inCut b).2.2)]) := by
  have b7 := ibad_c 7
  have b1 := ibad_c 1
  have b0 := ibad_c 0
  have g0 := nget_c b 0 2 Sz2 (by omega) (by omega)
  have g1 := nget_c b 2 2 Sz2 (by omega) (by omega)
  by_cases c0 : b.length < 8
  · have e : inCut b = (0, 0, some (3, 7)) := by unfold inCut; rw [if_pos c0]
    have c0' : (b.length : Int) < 8 := by omega
    obtain ⟨q0, hq0⟩ : ∃ q, getN b 0 2 = q := ⟨_, rfl⟩
    obtain ⟨q1, hq1⟩ : ∃ q, getN b 2 2 = q := ⟨_, rfl⟩
    rw [hq0] at g0
    rw [hq1] at g1
    rw [e]
    simp only [byS, List.take_zero, List.length_nil, byL_nil] at *
    clear b1 b0 hq0 hq1
    refine FnP.intro Tryz.func56 rfl rfl fun G w => ?_
    repeat' (first
     | refine WK.seq ?_
     | refine WK.block ?_
     | refine WK.condT rfl ?_
     | (refine Hid.h hQ _ _ ?_; clear hQ hA)
     | (refine WK.regH Tryz.ntmps56 (by kernel_rfl) ?_; intro A hA Q hQ; simp [gFault, *])
     | (refine RunQ.gd rfl (by rw [hA.h]; rfl) ?_; simp [gFault, *])
     | (refine RunQ.call rfl rfl rfl rfl rfl ?_ (g0) ?_ ?_; (focus (simp (maxDischargeDepth := 120) [gFault, *]; done)); (focus (simp [gFault, *]; done)); refine RunQ.evalH ?_; simp [gFault, *])
     | (refine RunQ.call rfl rfl rfl rfl rfl ?_ (g1) ?_ ?_; (focus (simp (maxDischargeDepth := 120) [gFault, *]; done)); (focus (simp [gFault, *]; done)); refine RunQ.evalH ?_; simp [gFault, *])
     | (refine RunQ.call rfl rfl rfl rfl rfl ?_ (b7) ?_ ?_; (focus (simp (maxDischargeDepth := 120) [gFault, *]; done)); (focus (simp [gFault, *]; done)); refine RunQ.evalH ?_; simp [gFault, *])
     | (refine WK.ret Tryz.func56 ?_ ?_ <;> simp (maxDischargeDepth := 120) [Tryz.results56, gFault, *])
     | fail)
  have c0' : ¬ (b.length : Int) < 8 := by omega
  have hlt : valN ((b.drop 2).take 2) < 65536 := valN_lt 2 _ (by simp; omega)
  have hlk : valN ((b.drop 0).take 2) < 65536 := valN_lt 2 _ (by simp; omega)
  have hdef : inCut b = if valN ((b.drop 2).take 2) < 8 ∨ ¬ valN ((b.drop 2).take 2) % 8 = 0 ∨ b.length < valN ((b.drop 2).take 2) then (0, 0, some (3, 7))
    else if valN ((b.drop 0).take 2) = 6 then (0, 0, some (3, 1))
    else if valN ((b.drop 0).take 2) < 1 ∨ 5 < valN ((b.drop 0).take 2) then (0, 0, some (3, 0))
    else if inLaid (valN ((b.drop 0).take 2)) (b.take (valN ((b.drop 2).take 2))) = false then (0, 0, some (3, 7))
    else ((valN ((b.drop 0).take 2) : Int), valN ((b.drop 2).take 2), none) := by unfold inCut; rw [if_neg c0]
  rw [getN_val (by omega)] at g0 g1
  obtain ⟨n, hn⟩ : ∃ n, valN ((b.drop 2).take 2) = n := ⟨_, rfl⟩
  obtain ⟨k, hk⟩ : ∃ k, valN ((b.drop 0).take 2) = k := ⟨_, rfl⟩
  rw [hn] at g1 hdef hlt
  rw [hk] at g0 hdef hlk
  clear hn hk
  have m7 := bAnd7 n hlt
  have z7 : (((n % 8 : Nat) : Int) == 0) = (n % 8 == 0) := by rw [Bool.eq_iff_iff, beq_iff_eq, beq_iff_eq]; omega
  by_cases c1 : n < 8
  · have e : inCut b = (0, 0, some (3, 7)) := by rw [hdef, if_pos (.inl (by omega))]
    have d1 : (n : Int) < 8 := by omega
    rw [e]
    simp only [byS, List.take_zero, List.length_nil, byL_nil] at *
    clear hdef b1 b0
    refine FnP.intro Tryz.func56 rfl rfl fun G w => ?_
    repeat' (first
     | refine WK.seq ?_
     | refine WK.block ?_
     | refine WK.condT rfl ?_
     | (refine Hid.h hQ _ _ ?_; clear hQ hA)
     | (refine WK.regH Tryz.ntmps56 (by kernel_rfl) ?_; intro A hA Q hQ; simp [gFault, *])
     | (refine RunQ.gd rfl (by rw [hA.h]; rfl) ?_; simp [gFault, *])
     | (refine RunQ.call rfl rfl rfl rfl rfl ?_ (g0) ?_ ?_; (focus (simp (maxDischargeDepth := 120) [gFault, *]; done)); (focus (simp [gFault, *]; done)); refine RunQ.evalH ?_; simp [gFault, *])
     | (refine RunQ.call rfl rfl rfl rfl rfl ?_ (g1) ?_ ?_; (focus (simp (maxDischargeDepth := 120) [gFault, *]; done)); (focus (simp [gFault, *]; done)); refine RunQ.evalH ?_; simp [gFault, *])
     | (refine RunQ.call rfl rfl rfl rfl rfl ?_ (b7) ?_ ?_; (focus (simp (maxDischargeDepth := 120) [gFault, *]; done)); (focus (simp [gFault, *]; done)); refine RunQ.evalH ?_; simp [gFault, *])
     | (refine WK.ret Tryz.func56 ?_ ?_ <;> simp (maxDischargeDepth := 120) [Tryz.results56, gFault, *])
     | fail)
  have d1 : ¬ (n : Int) < 8 := by omega
  by_cases c2 : n % 8 = 0
  case neg =>
    have e : inCut b = (0, 0, some (3, 7)) := by rw [hdef, if_pos (.inr (.inl (by omega)))]
    have d2 : (n % 8 == 0) = false := by simpa using c2
    rw [d2] at z7
    rw [e]
    simp only [byS, List.take_zero, List.length_nil, byL_nil] at *
    obtain ⟨r, hr⟩ : ∃ r, n % 8 = r := ⟨_, rfl⟩
    rw [hr] at m7 z7
    clear hdef hr c2 d2 b1 b0
    refine FnP.intro Tryz.func56 rfl rfl fun G w => ?_
    repeat' (first
     | refine WK.seq ?_
     | refine WK.block ?_
     | refine WK.condT rfl ?_
     | (refine Hid.h hQ _ _ ?_; clear hQ hA)
     | (refine WK.regH Tryz.ntmps56 (by kernel_rfl) ?_; intro A hA Q hQ; simp [gFault, bne, *])
     | (refine RunQ.gd rfl (by rw [hA.h]; rfl) ?_; simp [gFault, bne, *])
     | (refine RunQ.call rfl rfl rfl rfl rfl ?_ (g0) ?_ ?_; (focus (simp (maxDischargeDepth := 120) [gFault, bne, *]; done)); (focus (simp [gFault, bne, *]; done)); refine RunQ.evalH ?_; simp [gFault, bne, *])
     | (refine RunQ.call rfl rfl rfl rfl rfl ?_ (g1) ?_ ?_; (focus (simp (maxDischargeDepth := 120) [gFault, bne, *]; done)); (focus (simp [gFault, bne, *]; done)); refine RunQ.evalH ?_; simp [gFault, bne, *])
     | (refine RunQ.call rfl rfl rfl rfl rfl ?_ (b7) ?_ ?_; (focus (simp (maxDischargeDepth := 120) [gFault, bne, *]; done)); (focus (simp [gFault, bne, *]; done)); refine RunQ.evalH ?_; simp [gFault, bne, *])
     | (refine WK.ret Tryz.func56 ?_ ?_ <;> simp (maxDischargeDepth := 120) [Tryz.results56, gFault, bne, *])
     | fail)
  have d2 : (n % 8 == 0) = true := by simpa using c2
  rw [d2] at z7
  by_cases c3 : b.length < n
  · have e : inCut b = (0, 0, some (3, 7)) := by rw [hdef, if_pos (.inr (.inr (by omega)))]
    have d3 : (b.length : Int) < n := by omega
    rw [e]
    simp only [byS, List.take_zero, List.length_nil, byL_nil] at *
    obtain ⟨r, hr⟩ : ∃ r, n % 8 = r := ⟨_, rfl⟩
    rw [hr] at m7 z7
    clear hdef hr c2 d2 b1 b0
    refine FnP.intro Tryz.func56 rfl rfl fun G w => ?_
    repeat' (first
     | refine WK.seq ?_
     | refine WK.block ?_
     | refine WK.condT rfl ?_
     | (refine Hid.h hQ _ _ ?_; clear hQ hA)
     | (refine WK.regH Tryz.ntmps56 (by kernel_rfl) ?_; intro A hA Q hQ; simp [gFault, bne, *])
     | (refine RunQ.gd rfl (by rw [hA.h]; rfl) ?_; simp [gFault, bne, *])
     | (refine RunQ.call rfl rfl rfl rfl rfl ?_ (g0) ?_ ?_; (focus (simp (maxDischargeDepth := 120) [gFault, bne, *]; done)); (focus (simp [gFault, bne, *]; done)); refine RunQ.evalH ?_; simp [gFault, bne, *])
     | (refine RunQ.call rfl rfl rfl rfl rfl ?_ (g1) ?_ ?_; (focus (simp (maxDischargeDepth := 120) [gFault, bne, *]; done)); (focus (simp [gFault, bne, *]; done)); refine RunQ.evalH ?_; simp [gFault, bne, *])
     | (refine RunQ.call rfl rfl rfl rfl rfl ?_ (b7) ?_ ?_; (focus (simp (maxDischargeDepth := 120) [gFault, bne, *]; done)); (focus (simp [gFault, bne, *]; done)); refine RunQ.evalH ?_; simp [gFault, bne, *])
     | (refine WK.ret Tryz.func56 ?_ ?_ <;> simp (maxDischargeDepth := 120) [Tryz.results56, gFault, bne, *])
     | fail)
  have d3 : ¬ (b.length : Int) < n := by omega
  rw [if_neg (by rintro (h | h | h); omega; exact h c2; omega)] at hdef
  obtain ⟨r, hr⟩ : ∃ r, n % 8 = r := ⟨_, rfl⟩
  rw [hr] at m7 z7
  clear hr c2 d2
  by_cases k6 : k = 6
  · subst k6
    rw [if_pos rfl] at hdef
    rw [hdef]
    simp only [byS, List.take_zero, List.length_nil, byL_nil] at *
    clear hdef b0 b7
    refine FnP.intro Tryz.func56 rfl rfl fun G w => ?_
    repeat' (first
     | refine WK.seq ?_
     | refine WK.block ?_
     | refine WK.condT rfl ?_
     | refine WK.condF rfl ?_
     | (refine Hid.h hQ _ _ ?_; clear hQ hA)
     | (refine WK.regH Tryz.ntmps56 (by kernel_rfl) ?_; intro A hA Q hQ; simp [gFault, bne, *])
     | (refine RunQ.gd rfl (by rw [hA.h]; rfl) ?_; simp [gFault, bne, *])
     | (refine RunQ.call rfl rfl rfl rfl rfl ?_ (g0) ?_ ?_; (focus (simp (maxDischargeDepth := 120) [gFault, bne, *]; done)); (focus (simp [gFault, bne, *]; done)); refine RunQ.evalH ?_; simp [gFault, bne, *])
     | (refine RunQ.call rfl rfl rfl rfl rfl ?_ (g1) ?_ ?_; (focus (simp (maxDischargeDepth := 120) [gFault, bne, *]; done)); (focus (simp [gFault, bne, *]; done)); refine RunQ.evalH ?_; simp [gFault, bne, *])
     | (refine RunQ.call rfl rfl rfl rfl rfl ?_ (b1) ?_ ?_; (focus (simp (maxDischargeDepth := 120) [gFault, bne, *]; done)); (focus (simp [gFault, bne, *]; done)); refine RunQ.evalH ?_; simp [gFault, bne, *])
     | (refine WK.ret Tryz.func56 ?_ ?_ <;> simp (maxDischargeDepth := 120) [Tryz.results56, gFault, bne, *])
     | fail)
  have j6 : ((k : Int) == 6) = false := by rw [beq_eq_false_iff_ne]; omega
  rw [if_neg k6] at hdef
  by_cases k0 : k < 1
  · rw [if_pos (.inl k0)] at hdef
    have j0 : (k : Int) < 1 := by omega
    rw [hdef]
    simp only [byS, List.take_zero, List.length_nil, byL_nil] at *
    clear hdef b1 b7 k6
    refine FnP.intro Tryz.func56 rfl rfl fun G w => ?_
    repeat' (first
     | refine WK.seq ?_
     | refine WK.block ?_
     | refine WK.condT rfl ?_
     | refine WK.condF rfl ?_
     | (refine Hid.h hQ _ _ ?_; clear hQ hA)
     | (refine WK.regH Tryz.ntmps56 (by kernel_rfl) ?_; intro A hA Q hQ; simp [gFault, bne, *])
     | (refine RunQ.gd rfl (by rw [hA.h]; rfl) ?_; simp [gFault, bne, *])
     | (refine RunQ.call rfl rfl rfl rfl rfl ?_ (g0) ?_ ?_; (focus (simp (maxDischargeDepth := 120) [gFault, bne, *]; done)); (focus (simp [gFault, bne, *]; done)); refine RunQ.evalH ?_; simp [gFault, bne, *])
     | (refine RunQ.call rfl rfl rfl rfl rfl ?_ (g1) ?_ ?_; (focus (simp (maxDischargeDepth := 120) [gFault, bne, *]; done)); (focus (simp [gFault, bne, *]; done)); refine RunQ.evalH ?_; simp [gFault, bne, *])
     | (refine RunQ.call rfl rfl rfl rfl rfl ?_ (b0) ?_ ?_; (focus (simp (maxDischargeDepth := 120) [gFault, bne, *]; done)); (focus (simp [gFault, bne, *]; done)); refine RunQ.evalH ?_; simp [gFault, bne, *])
     | (refine WK.ret Tryz.func56 ?_ ?_ <;> simp (maxDischargeDepth := 120) [Tryz.results56, gFault, bne, *])
     | fail)
  have j0 : ¬ (k : Int) < 1 := by omega
  by_cases k5 : 5 < k
  · rw [if_pos (.inr k5)] at hdef
    have j5 : (5 : Int) < k := by omega
    rw [hdef]
    simp only [byS, List.take_zero, List.length_nil, byL_nil] at *
    clear hdef b1 b7 k6
    refine FnP.intro Tryz.func56 rfl rfl fun G w => ?_
    repeat' (first
     | refine WK.seq ?_
     | refine WK.block ?_
     | refine WK.condT rfl ?_
     | refine WK.condF rfl ?_
     | (refine Hid.h hQ _ _ ?_; clear hQ hA)
     | (refine WK.regH Tryz.ntmps56 (by kernel_rfl) ?_; intro A hA Q hQ; simp [gFault, bne, *])
     | (refine RunQ.gd rfl (by rw [hA.h]; rfl) ?_; simp [gFault, bne, *])
     | (refine RunQ.call rfl rfl rfl rfl rfl ?_ (g0) ?_ ?_; (focus (simp (maxDischargeDepth := 120) [gFault, bne, *]; done)); (focus (simp [gFault, bne, *]; done)); refine RunQ.evalH ?_; simp [gFault, bne, *])
     | (refine RunQ.call rfl rfl rfl rfl rfl ?_ (g1) ?_ ?_; (focus (simp (maxDischargeDepth := 120) [gFault, bne, *]; done)); (focus (simp [gFault, bne, *]; done)); refine RunQ.evalH ?_; simp [gFault, bne, *])
     | (refine RunQ.call rfl rfl rfl rfl rfl ?_ (b0) ?_ ?_; (focus (simp (maxDischargeDepth := 120) [gFault, bne, *]; done)); (focus (simp [gFault, bne, *]; done)); refine RunQ.evalH ?_; simp [gFault, bne, *])
     | (refine WK.ret Tryz.func56 ?_ ?_ <;> simp (maxDischargeDepth := 120) [Tryz.results56, gFault, bne, *])
     | fail)
  have j5 : ¬ (5 : Int) < k := by omega
  rw [if_neg (by omega)] at hdef
  have hl := ilaid_c k (b.take n) (by rw [List.length_take]; omega) (by rw [List.length_take]; omega)
  have hs : (byL b).take n = byL (b.take n) := byL_take _ _
  have hsl : (b.take n).length = n := by rw [List.length_take]; omega
  obtain ⟨q, hq⟩ : ∃ q, inLaid k (b.take n) = q := ⟨_, rfl⟩
  rw [hq] at hl hdef
  have d4 : (n : Int) ≤ b.length := by omega
  cases q
  · rw [if_pos rfl] at hdef
    rw [hdef]
    simp only [byS, List.take_zero, List.length_nil, byL_nil, hsl] at *
    clear hdef b1 b0 k6 hq k0 k5
    refine FnP.intro Tryz.func56 rfl rfl fun G w => ?_
    repeat' (first
     | refine WK.seq ?_
     | refine WK.block ?_
     | refine WK.condT rfl ?_
     | refine WK.condF rfl ?_
     | (refine Hid.h hQ _ _ ?_; clear hQ hA)
     | (refine WK.regH Tryz.ntmps56 (by kernel_rfl) ?_; intro A hA Q hQ; simp [gFault, bne, *])
     | (refine RunQ.gd rfl (by rw [hA.h]; rfl) ?_; simp [gFault, bne, *])
     | (refine RunQ.call rfl rfl rfl rfl rfl ?_ (g0) ?_ ?_; (focus (simp (maxDischargeDepth := 120) [gFault, bne, *]; done)); (focus (simp [gFault, bne, *]; done)); refine RunQ.evalH ?_; simp [gFault, bne, *])
     | (refine RunQ.call rfl rfl rfl rfl rfl ?_ (g1) ?_ ?_; (focus (simp (maxDischargeDepth := 120) [gFault, bne, *]; done)); (focus (simp [gFault, bne, *]; done)); refine RunQ.evalH ?_; simp [gFault, bne, *])
     | (refine RunQ.call rfl rfl rfl rfl rfl ?_ (hl) ?_ ?_; (focus (simp (maxDischargeDepth := 120) [gFault, bne, *]; done)); (focus (simp [gFault, bne, *]; done)); refine RunQ.evalH ?_; simp [gFault, bne, *])
     | (refine RunQ.call rfl rfl rfl rfl rfl ?_ (b7) ?_ ?_; (focus (simp (maxDischargeDepth := 120) [gFault, bne, *]; done)); (focus (simp [gFault, bne, *]; done)); refine RunQ.evalH ?_; simp [gFault, bne, *])
     | (refine WK.ret Tryz.func56 ?_ ?_ <;> simp (maxDischargeDepth := 120) [Tryz.results56, gFault, bne, *])
     | fail)
  · rw [if_neg (by simp)] at hdef
    rw [hdef]
    simp only [byS, hsl] at *
    clear hdef b1 b0 k6 hq k0 k5 b7
    refine FnP.intro Tryz.func56 rfl rfl fun G w => ?_
    repeat' (first
     | refine WK.seq ?_
     | refine WK.block ?_
     | refine WK.inBlock ?_
     | refine WK.skip ?_
     | refine WK.condF rfl ?_
     | (refine Hid.h hQ _ _ ?_; clear hQ hA)
     | (refine WK.regH Tryz.ntmps56 (by kernel_rfl) ?_; intro A hA Q hQ; simp [gFault, bne, *])
     | (refine WK.regX (by kernel_rfl) Tryz.ntmps56 (by kernel_rfl) ?_; intro A hA Q hQ; simp [gFault, bne, *])
     | (refine Hid.h hQ _ _ _ (by decide +kernel) ?_; clear hQ hA)
     | (refine RunQ.gd rfl (by rw [hA.h]; rfl) ?_; simp [gFault, bne, *])
     | (refine RunQ.call rfl rfl rfl rfl rfl ?_ (g0) ?_ ?_; (focus (simp (maxDischargeDepth := 120) [gFault, bne, *]; done)); (focus (simp [gFault, bne, *]; done)); refine RunQ.evalH ?_; simp [gFault, bne, *])
     | (refine RunQ.call rfl rfl rfl rfl rfl ?_ (g1) ?_ ?_; (focus (simp (maxDischargeDepth := 120) [gFault, bne, *]; done)); (focus (simp [gFault, bne, *]; done)); refine RunQ.evalH ?_; simp [gFault, bne, *])
     | (refine RunQ.call rfl rfl rfl rfl rfl ?_ (hl) ?_ ?_; (focus (simp (maxDischargeDepth := 120) [gFault, bne, *]; done)); (focus (simp [gFault, bne, *]; done)); refine RunQ.evalH ?_; simp [gFault, bne, *])
     | (refine WK.ret Tryz.func56 ?_ ?_ <;> simp (maxDischargeDepth := 120) [Tryz.results56, gFault, bne, *])
     | fail)
end Go.Proofs.YtiifjagnhnchoaaGreat
end
